/-
  The abstract code of some functions, written by a program · The abstract code of some functions, written by a program · .
  Conditions: none beyond those of its parts.
-/
import Derived.Test.YtepckdbdfhpggaaGreatProg
import Derived.Test.YtepckdbdfhpggaaGreatB5
import Derived.KernelRfl

set_option maxRecDepth 20000
set_option linter.all false
namespace Go.AM
open Go.Proofs
def c55:Ke Tryz.prog Tryz.f55 [[2,3],[4]]:=by
 constructor;conv=>lhs;reduce;simp only[seval]
theorem a55:AOf Tryz.prog 55 c55.1 [.t 4]:=mkB
def c89:Kc Tryz.prog Tryz.f89 [] [(3,1)] [[1,2,3],[1,2,3,4],[4],[]]:=by
 constructor;conv=>lhs;reduce;simp only[seval]
theorem a89:AOf Tryz.prog 89 c89.1 []:=mkB
def c90:Kc Tryz.prog Tryz.f90 [(6,9),(700004,600000)] [(2,3),(6,10)] [[0,1,2,3,4],[0,2,3,4,11],[6],[0,4,16,17],[0,4,16,17,18],[0,4,7,16,17],[0,4,16,17,32],[6],[0,4,16,17],[6]]:=by
 constructor;conv=>lhs;reduce;simp only[seval]
theorem a90:AOf Tryz.prog 90 c90.1 [.t 6]:=mkB
def c54:Ke Tryz.prog Tryz.f54 [[2,3],[3,5],[3,5,9],[4],[4]]:=by
 constructor;conv=>lhs;reduce;simp only[seval]
theorem a54:AOf Tryz.prog 54 c54.1 [.t 4]:=mkB
def c60:Kc Tryz.prog Tryz.f60 [] [(6,5),(6,6)] [[1,2],[1,2,5],[1,2,5,9],[4,5],[1,2,16],[4,5],[4,5]]:=by
 constructor;conv=>lhs;reduce;simp only[seval]
theorem a60:AOf Tryz.prog 60 c60.1 [.t 4,.t 5]:=mkB
def c179:Ke Tryz.prog Tryz.f179 [[1,2],[1,2,10,11,12],[1,2,10,11,12,13],[1,2,5,6,10,11,12],[1,2,6,10,11,12,21,22,23],[1,2,6,10,11,12,21,22,23,24],[1,2,6,8,10,11,12,21,22,23],[1,2,6,10,11,12,21,22,23,38],[4],[1,2,6,10,11,12,21,22,23],[1,2,10,11,12],[4]]:=by
 constructor;conv=>lhs;reduce;simp only[seval]
theorem a179:AOf Tryz.prog 179 c179.1 [.t 4]:=mkB
def c181:Ke Tryz.prog Tryz.f181 [[1,2,3,4],[1,2,3,4,8,9,10],[1,2,3,4,8,9,10,11],[1,2,3,4,6,8,9,10],[1,2,3,4,8,9,10],[1,2,3,4,6,8,9,10,16],[1,2,3,4,8,9,10],[1,2,3,4,8,9,10,21],[1,2,3,4,8,9,10],[1,2,3,4,8,9,10],[2,3,4]]:=by
 constructor;conv=>lhs;reduce;simp only[seval]
theorem a181:AOf Tryz.prog 181 c181.1 [.t 2,.t 3,.t 4]:=mkB
def c131:Ke Tryz.prog Tryz.f131 [[1],[2]]:=by
 constructor;conv=>lhs;reduce;simp only[seval]
theorem a131:AOf Tryz.prog 131 c131.1 [.t 2]:=mkB
def c180:Ke Tryz.prog Tryz.f180 [[0,1],[4]]:=by
 constructor;conv=>lhs;reduce;simp only[seval]
theorem a180:AOf Tryz.prog 180 c180.1 [.t 4]:=mkB
def c132:Ke Tryz.prog Tryz.f132 [[1],[3,5],[2]]:=by
 constructor;conv=>lhs;reduce;simp only[seval]
theorem a132:AOf Tryz.prog 132 c132.1 [.t 2]:=mkB
def c133:Ke Tryz.prog Tryz.f133 [[1],[2]]:=by
 constructor;conv=>lhs;reduce;simp only[seval]
theorem a133:AOf Tryz.prog 133 c133.1 [.t 2]:=mkB
def c182:Ke Tryz.prog Tryz.f182 [[0,1,2],[2,6],[5]]:=by
 constructor;conv=>lhs;reduce;simp only[seval]
theorem a182:AOf Tryz.prog 182 c182.1 [.t 5]:=mkB
def c134:Ke Tryz.prog Tryz.f134 [[1],[2]]:=by
 constructor;conv=>lhs;reduce;simp only[seval]
theorem a134:AOf Tryz.prog 134 c134.1 [.t 2]:=mkB
def c183:Ke Tryz.prog Tryz.f183 [[0,1,2],[5]]:=by
 constructor;conv=>lhs;reduce;simp only[seval]
theorem a183:AOf Tryz.prog 183 c183.1 [.t 5]:=mkB
def c135:Ke Tryz.prog Tryz.f135 [[],[2]]:=by
 constructor;conv=>lhs;reduce;simp only[seval]
theorem a135:AOf Tryz.prog 135 c135.1 [.t 2]:=mkB
def c136:Ke Tryz.prog Tryz.f136 [[1],[1,3,4],[2]]:=by
 constructor;conv=>lhs;reduce;simp only[seval]
theorem a136:AOf Tryz.prog 136 c136.1 [.t 2]:=mkB
def c91:Ke Tryz.prog Tryz.f91 [[2,3,4,5],[2,3,4,5,9],[2,3,5,9,10],[2,3,5,9,10,21,22,23],[2,3,5,9,10,21,22,23,24],[2,3,5,9,10,12,21,22,23],[2,3,5,9,10,21,22,23],[2,3,5,9,10,21,22,23],[2,5,9,10,38,39,40],[2,5,9,10,38,39,40,41],[2,5,9,10,14,38,39,40],[2,5,9,10,38,39,40],[2,5,9,10,38,39,40],[8]]:=by
 constructor;conv=>lhs;reduce;simp only[seval]
theorem a91:AOf Tryz.prog 91 c91.1 [.t 8]:=mkB
def c137:Ke Tryz.prog Tryz.f137 [[0,1],[3]]:=by
 constructor;conv=>lhs;reduce;simp only[seval]
theorem a137:AOf Tryz.prog 137 c137.1 [.t 3]:=mkB
def c107:Ke Tryz.prog Tryz.f107 [[1,2,3,6],[1,2,3,6,7],[6]]:=by
 constructor;conv=>lhs;reduce;simp only[u8n,UInt8.reduceOfNat,Int.reduceOfNat]
theorem a107:AOf Tryz.prog 107 c107.1 [.c 6 8 true]:=mkB
def c72:Ke Tryz.prog Tryz.f72 [[2,3,4,5],[2,3,4,5,9],[2,3,4,5,9,16],[8,9],[2,3,4,5,10],[2,3,4,5,10,39],[8,9],[2,3,4,5,10,40,41,42],[2,3,4,5,10,40,41,42,43],[2,3,4,5,10,11,12,40,41,42],[2,3,4,5,10,40,41,42,60],[8,9],[2,3,4,5,10,40,41,42],[2,3,4,5,64],[8,9],[2,3,4,5,9],[2,3,4,5,9,73],[8,9],[8,9]]:=by
 constructor;conv=>lhs;reduce;simp only[seval]
theorem a72:AOf Tryz.prog 72 c72.1 [.t 8,.t 9]:=mkB
def c106:Ke Tryz.prog Tryz.f106 [[0,1],[3]]:=by
 constructor;conv=>lhs;reduce;simp only[seval]
theorem a106:AOf Tryz.prog 106 c106.1 [.t 3]:=mkB
def c103:Ke Tryz.prog Tryz.f103 [[0,1],[4]]:=by
 constructor;conv=>lhs;reduce;simp only[seval]
theorem a103:AOf Tryz.prog 103 c103.1 [.t 4]:=mkB
def c154:Ke Tryz.prog Tryz.f154 [[0,1],[0,1,7,8],[0,1,7,8,9],[0,1,5,7,8],[0,1,5,7,8,16],[4],[0,1,7,8],[4]]:=by
 constructor;conv=>lhs;reduce;simp only[seval]
theorem a154:AOf Tryz.prog 154 c154.1 [.t 4]:=mkB
def c73:Ke Tryz.prog Tryz.f73 [[0,1],[4]]:=by
 constructor;conv=>lhs;reduce;simp only[seval]
theorem a73:AOf Tryz.prog 73 c73.1 [.t 4]:=mkB
def c92:Ke Tryz.prog Tryz.f92 [[0,1,4],[0,1,4,14,15,16],[0,1,4,14,15,16,17],[0,1,4,7,14,15,16],[0,1,4,7,14,15,16,23],[0,4,25,26,27],[0,4,25,26,27,28],[0,4,9,25,26,27],[0,4,25,26,27],[0,4,25,26,27],[4,5],[0,1,4,14,15,16],[4,5]]:=by
 constructor;conv=>lhs;reduce;simp only[seval]
theorem l92:AZ Tryz.prog 92:=mkL Tryz.f92
theorem a92:AOf Tryz.prog 92 c92.1 [.t 4,.t 5]:=mkB
def c57:Ke Tryz.prog Tryz.f57 [[0,1,2],[0,1,2,7],[0,1,2,7,30],[6],[0,1,2,7,33],[6],[0,2,8],[2,8,9],[6]]:=by
 constructor;conv=>lhs;reduce;simp only[seval]
theorem l57:AZ Tryz.prog 57:=mkL Tryz.f57
theorem a57:AOf Tryz.prog 57 c57.1 [.t 6]:=mkB
def c58:Kc Tryz.prog Tryz.f58 [] [(17,1),(19,2)] [[0,1],[0,1,15],[4],[0,1,5],[0,1,5],[0,1,5,31],[4],[0,1,5,31,32],[4],[0,1,5,39],[0,1,5,58],[4],[0,1,5,6,7],[0,1,5,6,7,72,73],[0,1,5,6,7,72,73,74],[0,1,5,6,7,8,72,73],[0,1,5,6,7,8,72,73,82],[0,1,5,6,7,8,9,72,73],[0,1,5,6,7,9,72,73],[0,1,5,6,7,72,73,93],[4],[0,1,5,6,7,72,73],[4]]:=by
 constructor;conv=>lhs;reduce;simp only[seval]
theorem a58:AOf Tryz.prog 58 c58.1 [.t 4]:=mkB
noncomputable def Iy:Code:=((rfs (Tryz.f27.body.getD .skip))[0]?.getD (#[],.skip,.skip)).2.1
noncomputable def Iz:Code:=((rfs (Tryz.f27.body.getD .skip))[0]?.getD (#[],.skip,.skip)).2.2
def Wi (r:Nat):List Nat:=match r with
 |7=>[3,4,5,6,7,8,9,31]
 |8=>[]
 |9=>[3,4,5,6,7,8,9,10]
 |10=>[3,4,5,6,7,8,9,10]
 |11=>[6,7,8,10,11]
 |12=>[6,7,8,67]
 |13=>[]
 |14=>[]
 |_=>[]
def NT:ACode:=
 (.block 1
  (.seq
  (.seq
   (.reg 0 [
    ⟨some 27,none,.v (.ld 1 false (.t 8))⟩,
    ⟨some 28,none,.v (.fa 0 (.t 5))⟩,
    ⟨some 29,none,.v (.ld 1 false (.t 28))⟩,
    ⟨some 30,none,.v (.len (.t 29))⟩,
    ⟨some 31,none,.v (.icmp .eql .i64 (.t 27) (.t 30))⟩] [3,4,5,6,7,8,9,31])
   (.cond (.t 31)
   (.seq
    (.reg 0 [
     ⟨none,none,.st 1 (.t 6) (.c (.bool false))⟩,
     ⟨none,none,.st 1 (.t 7) (.c (.int .i64 0))⟩] [])
    .ret)
   .skip))
  (.seq
   (.reg 6 [
    ⟨some 32,none,.ext (.bsm 0 1 4 (.int .i64 0) [0,1,2,3]) [(.c (.int .i64 (-1))),(.c (.int .i64 (-1))),(.c (.int .i64 (-1))),(.c (.int .i64 (-1)))]⟩,
    ⟨some 33,none,.v (.fa 2 (.t 4))⟩,
    ⟨some 34,none,.v (.ld 1 false (.t 33))⟩,
    ⟨some 35,none,.v (.len (.t 34))⟩,
    ⟨some 36,none,.v (.sl 1 (.t 32) none (some (.t 35)) none)⟩,
    ⟨some 10,none,.v (.mv (.t 36))⟩] [3,4,5,6,7,8,9,10])
   (.seq
   (.reg 0 [
    ⟨some 37,none,.v (.mv (.t 10))⟩,
    ⟨some 38,none,.v (.fa 6 (.t 4))⟩,
    ⟨some 39,none,.v (.ld 1 false (.t 38))⟩,
    ⟨some 40,none,.v (.mv (.t 9))⟩,
    ⟨some 41,none,.v (.fa 7 (.t 4))⟩,
    ⟨some 42,none,.v (.ld 1 false (.t 41))⟩,
    ⟨some 43,none,.v (.ia 1 (.t 40) (.t 42))⟩,
    ⟨some 44,none,.v (.ld 1 false (.t 43))⟩,
    ⟨some 45,none,.v (.ia 1 (.t 37) (.t 39))⟩,
    ⟨none,none,.st 1 (.t 45) (.t 44)⟩] [3,4,5,6,7,8,9,10])
   (.seq
    (.reg 11 [
     ⟨some 46,none,.v (.ld 17 true (.t 3))⟩,
     ⟨some 47,none,.v (.ld 8 true (.t 4))⟩,
     ⟨some 48,none,.v (.mv (.t 9))⟩,
     ⟨some 49,none,.v (.fa 0 (.t 5))⟩,
     ⟨some 50,none,.v (.ld 1 false (.t 49))⟩,
     ⟨some 51,none,.v (.ld 1 false (.t 8))⟩,
     ⟨some 52,none,.v (.ia 1 (.t 50) (.t 51))⟩,
     ⟨some 53,none,.v (.ld 1 false (.t 52))⟩,
     ⟨some 54,none,.v (.build [(.str []),(.int .i64 0),(.int .i64 0),(.int .i64 0),(.int .i64 0),(.sl .nil []),(.sl .nil []),(.sl .nil []),(.sl .nil []),(.sl .nil []),(.int .i64 0),(.int .i64 0),(.int .i64 0),(.sl .nil []),(.sl .nil []),(.sl .nil []),(.sl .nil []),(.str []),(.int .i64 0),(.sl .nil []),(.sl .nil []),(.sl .nil []),(.sl .nil []),(.int .i64 0),(.int .i64 0),(.sl .nil []),(.sl .nil [])] [(0,17,(.t 46)),(17,8,(.t 47)),(25,1,(.t 48)),(26,1,(.t 53))])⟩,
     ⟨some 55,none,.box 9 27 (.t 54)⟩,
     ⟨some 11,none,.v (.mv (.t 55))⟩] [6,7,8,10,11])
    (.seq
    (.seq
     (.reg 0 [
      ⟨some 56,none,.v (.mv (.t 11))⟩,
      ⟨some 57,none,.v (.mv (.t 10))⟩,
      ⟨some 58,none,.call false (.c (.fn (.func 58) [] [])) [(.t 56),(.t 57)]⟩,
      ⟨some 59,none,.v (.not (.t 58))⟩,
      ⟨some 60,none,.v (.mv (.t 59))⟩,
      ⟨some 61,some (60,false),.v (.mv (.t 11))⟩,
      ⟨some 62,some (60,false),.v (.nilc (.t 61))⟩,
      ⟨some 63,some (60,false),.v (.fa 26 (.t 62))⟩,
      ⟨some 64,some (60,false),.v (.ld 1 false (.t 63))⟩,
      ⟨some 65,some (60,false),.v (.len (.t 64))⟩,
      ⟨some 66,some (60,false),.v (.icmp .gtr .i64 (.t 65) (.c (.int .i64 0)))⟩,
      ⟨some 67,none,.pick (.t 60) (.c (.bool true)) (.t 66)⟩] [6,7,8,67])
     (.cond (.t 67)
     (.seq
      (.reg 0 [
       ⟨none,none,.st 1 (.t 6) (.c (.bool false))⟩,
       ⟨none,none,.st 1 (.t 7) (.c (.int .i64 0))⟩] [])
      .ret)
     .skip))
    (.reg 0 [
     ⟨some 68,none,.v (.ld 1 false (.t 8))⟩,
     ⟨some 69,none,.v (.arith .add .i64 (.t 68) (.c (.int .i64 1)))⟩,
     ⟨none,none,.st 1 (.t 8) (.t 69)⟩] [])))))))
def Wj (r:Nat):List Nat:=match r with
 |6=>[3,4,5,6,7,8,9]
 |_=>[]
def RK:ACode:=
 (.reg 0 [
  ⟨some 9,none,.v (.mv (.t 26))⟩] [3,4,5,6,7,8,9])
theorem y27_0 {l id:Nat} {st:LoopState} {pend:Option Code} {env:List (Nat×Bool×AVal)} {args:List AVal} {H:AB} {n:Nat} {R:Bool->AB->Nat->Prop} (ho:hget H id=some (.lp ⟨l,st,pend,75,env, #[26],Iy,Iz⟩)) (hps:args.length=1) (h:awp Tryz.prog RK (GD Tryz.prog id NT R) ⟨renv [26] args env,H,n⟩):BU Tryz.prog l args H n R:=
 BO (aa:=RK) (ab:=NT) (fz:=[(9,0),(700007,300013),(700006,300012)]) (im:=[(12,2),(5,7)]) (fz2:=[(9,0),(700007,300013),(700006,300012)]) (im2:=[(12,2),(5,7)]) (kp:=Wj) (kp2:=Wi) ho rfl hps rfl (by kernel_rfl) (by kernel_rfl) rfl rfl h
def kp27 (r:Nat):List Nat:=match r with
 |0=>[3,4,5,6,7]
 |1=>[3,4,5,6,7]
 |2=>[3,4,5,6,7,16]
 |3=>[6,7]
 |4=>[3,4,5,6,7,8]
 |5=>[3,4,5,6,7,8,25]
 |15=>[6,7]
 |_=>[]
noncomputable def c27:ACode:=
(sq (.reg 5 [⟨some 3,none,.box 0 17 (tm 0)⟩,⟨some 4,none,.box 1 8 (tm 1)⟩,⟨some 5,none,.box 2 1 (tm 2)⟩,⟨some 6,none,.alloc 3 [zb]⟩,⟨some
 7,none,.alloc 4 [z0]⟩] [3,4,5,6,7]) (sq (sq (rg [ov 12 (.ld 17 true (tm 3)),ov 13 (.ld 8 true (tm 4)),oc 14 54 [(tm 12),(tm 13)],⟨none,
 none,.st 1 (tm 7) (tm 14)⟩] [3,4,5,6,7]) (sq (rg [ol 15 7,ov 16 (.icmp .neq .i64 (tm 15) (ci 0))] [3,4,5,6,7,16]) (.cond (tm 16) (sq
 (.regx 0 [(300016,ol 17 7),(300015,⟨none,none,.st 1 (tm 6) cF⟩),(300016,⟨none,none,.st 1 (tm 7) (tm 17)⟩)] [6,7]) .ret) .skip))) (sq (.reg
 2 [⟨some 8,none,.alloc 0 [z0]⟩,⟨none,none,.st 1 (tm 8) (ci 0)⟩] [3,4,5,6,7,8]) (sq (sq (rg [of 18 0 3,of 19 6 18,ol 20 19,on 21 20,of
 22 3 4,ol 23 22,on 24 23,oe 25 55 [(tm 21),(tm 24)]] [3,4,5,6,7,8,25]) (.block 0 (.rfun (tm 25) #[26] 75 Iy Iz))) (sq (rg [ol 70 8,
 of 71 0 5,ol 72 71,on 73 72,ov 74 (.icmp .eql .i64 (tm 70) (tm 73)),⟨none,none,.st 1 (tm 6) (tm 74)⟩,⟨none,none,.st 1 (tm 7) (ci 0)⟩] [6,7])
 .ret)))))
theorem a27:AOf Tryz.prog 27 c27 [.c 6 1 false,.c 7 1 false]:=mkA (fn:=Tryz.f27) (c:=Tryz.f27.body.getD .skip) (fz:=[(9,0),(700007,300013),(700006,300012)]) (im:=[(12,2),(5,7)]) kp27 (by kernel_rfl) (by kernel_rfl) (by kernel_rfl) (by kernel_rfl) (by kernel_rfl)
noncomputable def ra26_0:Code:=((rfs (Tryz.f26.body.getD .skip))[0]?.getD (#[],.skip,.skip)).2.1
noncomputable def rb26_0:Code:=((rfs (Tryz.f26.body.getD .skip))[0]?.getD (#[],.skip,.skip)).2.2
def c99:Kc Tryz.prog Tryz.f99 [] [(1,1)] [[0],[2]]:=by
 constructor;conv=>lhs;reduce;simp only[seval]
theorem a99:AOf Tryz.prog 99 c99.1 [.t 2]:=mkB
noncomputable def EM:Code:=((rfs (Tryz.f152.body.getD .skip))[0]?.getD (#[],.skip,.skip)).2.1
noncomputable def EN:Code:=((rfs (Tryz.f152.body.getD .skip))[0]?.getD (#[],.skip,.skip)).2.2
def TY (r:Nat):List Nat:=match r with
 |3=>[]
 |_=>[]
def MH:ACode:=
 (.block 1
  (.reg 5 [
   ⟨some 8,none,.v (.ld 1 false (.t 2))⟩,
   ⟨some 9,none,.v (.mv (.t 5))⟩,
   ⟨some 10,none,.v (.bs 1 1 (.sl .nil []) [(0,(.t 9))])⟩,
   ⟨some 11,none,.app 3 1 24 (.t 8) (.t 10) false⟩,
   ⟨none,none,.st 1 (.t 2) (.t 11)⟩] []))
def TZ (r:Nat):List Nat:=match r with
 |2=>[2,5]
 |_=>[]
def MI:ACode:=
 (.reg 0 [
  ⟨some 5,none,.v (.mv (.t 7))⟩] [2,5])
theorem y152_0 {l id:Nat} {st:LoopState} {pend:Option Code} {env:List (Nat×Bool×AVal)} {args:List AVal} {H:AB} {n:Nat} {R:Bool->AB->Nat->Prop} (ho:hget H id=some (.lp ⟨l,st,pend,13,env, #[7],EM,EN⟩)) (hps:args.length=1) (h:awp Tryz.prog MI (GD Tryz.prog id MH R) ⟨renv [7] args env,H,n⟩):BU Tryz.prog l args H n R:=
 BO (aa:=MI) (ab:=MH) (fz:=[]) (im:=[]) (fz2:=[]) (im2:=[]) (kp:=TZ) (kp2:=TY) ho rfl hps rfl (by kernel_rfl) (by kernel_rfl) rfl rfl h
def kp152 (r:Nat):List Nat:=match r with
 |0=>[1,2,4]
 |1=>[2,4,6]
 |4=>[4]
 |_=>[]
noncomputable def c152:ACode:=
(sq (.reg 2 [⟨some 2,none,.box 0 1 (tm 0)⟩,ov 4 (.mv (.c zs))] [1,2,4]) (sq (sq (rg [om 6 1] [2,4,6]) (.block 0 (.rfun (tm 6) #[7] 13 EM
 EN))) (sq (rg [ol 12 2,om 4 12] [4]) .ret)))
theorem a152:AOf Tryz.prog 152 c152 [.t 4]:=mkA (fn:=Tryz.f152) (c:=Tryz.f152.body.getD .skip) (fz:=[]) (im:=[]) kp152 (by kernel_rfl) (by kernel_rfl) (by kernel_rfl) (by kernel_rfl) (by kernel_rfl)
end Go.AM
namespace Go.AM
open Go.Proofs
def c30:Ke Tryz.prog Tryz.f30 [[2,3],[2,3,5],[2,3,5,9],[4,5],[2,3,5],[2,3,5,14],[4,5],[4,5]]:=by
 constructor;conv=>lhs;reduce;simp only[seval]
theorem a30:AOf Tryz.prog 30 c30.1 [.t 4,.t 5]:=mkB
def c64:Ke Tryz.prog Tryz.f64 [[2,3,4],[2,4,5],[2,4,5,16,17],[2,4,5,16,17,18],[2,4,5,6,16,17],[2,4,5,6,16,17,32],[2,4,5,16,17],[2,4,5,16,17],[4]]:=by
 constructor;conv=>lhs;reduce;simp only[seval]
theorem a64:AOf Tryz.prog 64 c64.1 [.t 4]:=mkB
def c102:Ke Tryz.prog Tryz.f102 [[1,2],[3]]:=by
 constructor;conv=>lhs;reduce;simp only[seval]
theorem a102:AOf Tryz.prog 102 c102.1 [.t 3]:=mkB
def c104:Ke Tryz.prog Tryz.f104 [[0,1,2],[4]]:=by
 constructor;conv=>lhs;reduce;simp only[seval]
theorem a104:AOf Tryz.prog 104 c104.1 [.t 4]:=mkB
def c38:Ke Tryz.prog Tryz.f38 [[1,2],[1,2,14,15,16],[1,2,14,15,16,17],[1,2,5,6,14,15,16],[1,2,5,7,14,15,16],[1,2,5,14,15,16,31],[4],[1,2,14,15,16],[1,2,36,37,38],[1,2,36,37,38,39],[1,2,9,10,36,37,38],[1,2,9,10,11,36,37,38],[1,2,9,36,37,38,58],[4],[1,2,36,37,38],[4]]:=by
 constructor;conv=>lhs;reduce;simp only[seval]
theorem a38:AOf Tryz.prog 38 c38.1 [.t 4]:=mkB
def c61:Kc Tryz.prog Tryz.f61 [] [(1,5)] [[1],[1,3],[3],[2]]:=by
 constructor;conv=>lhs;reduce;simp only[seval]
theorem a61:AOf Tryz.prog 61 c61.1 [.t 2]:=mkB
def c100:Ke Tryz.prog Tryz.f100 [[0,1],[0,1,10],[0,1],[0,5,6],[0,6,26],[0,6],[0,7],[7,8],[7,8,37],[7,8],[4]]:=by
 constructor;conv=>lhs;reduce;simp only[u8n,UInt8.reduceOfNat,Int.reduceOfNat]
theorem a100:AOf Tryz.prog 100 c100.1 [.t 4]:=mkB
def c153:Ke Tryz.prog Tryz.f153 [[0,1],[6,7],[4,5],[8,9],[4,5]]:=by
 constructor;conv=>lhs;reduce;simp only[seval]
theorem a153:AOf Tryz.prog 153 c153.1 [.t 4,.t 5]:=mkB
def c198:Ke Tryz.prog Tryz.f198 [[0,1],[0,1,6],[0,1,6,7],[0,1,6,7,8],[0,1,6,7,8,9],[0,1,6,7,8,9,10],[0,1,6,7,9,11],[0,1,6,7,9,11,12],[0,1,6,7,9,12,13],[0,1,7,9,12,13],[0,1,4],[4,5]]:=by
 constructor;conv=>lhs;reduce;simp only[seval]
theorem a198:AOf Tryz.prog 198 c198.1 [.t 4,.t 5]:=mkB
def c31:Kc Tryz.prog Tryz.f31 [] [(1,1),(4,1)] [[2,3],[2,3,5],[2,3,5,6],[6],[4]]:=by
 constructor;conv=>lhs;reduce;simp only[seval]
theorem a31:AOf Tryz.prog 31 c31.1 [.t 4]:=mkB
def c62:Kc Tryz.prog Tryz.f62 [] [(3,3),(8,3),(13,1)] [[0,1,2,3],[0,1,2,3,5],[0,1,2,3,5,13],[],[4],[0,1,2,3,6],[0,1,2,3,6,21],[4],[0,1,3,6],[1,3,6,28,29,30],[1,3,6,28,29,30,31],[1,3,6,8,28,29,30],[1,3,6,28,29,30],[1,3,6,28,29,30,40],[4],[1,3,6,28,29,30],[],[4]]:=by
 constructor;conv=>lhs;reduce;simp only[seval]
theorem a62:AOf Tryz.prog 62 c62.1 [.t 4]:=mkB
def c37:Ke Tryz.prog Tryz.f37 [[1],[2]]:=by
 constructor;conv=>lhs;reduce;simp only[seval]
theorem a37:AOf Tryz.prog 37 c37.1 [.t 2]:=mkB
def c70:Kc Tryz.prog Tryz.f70 [] [(4,1)] [[1,2],[1,2,3],[1,2,3,4],[4],[]]:=by
 constructor;conv=>lhs;reduce;simp only[seval]
theorem a70:AOf Tryz.prog 70 c70.1 []:=mkB
def c71:Kc Tryz.prog Tryz.f71 [] [(2,2),(8,3)] [[0,1,2,3,4],[0,1,2,3,4,11],[6],[0,1,3,4,19,20],[0,1,3,4,19,20,21],[0,1,3,4,7,19,20],[0,1,3,4,7,19,20,38],[0,1,3,4,19,20],[0,1,3,4,19,20,47],[6],[0,1,3,4,19,20],[6]]:=by
 constructor;conv=>lhs;reduce;simp only[seval]
theorem a71:AOf Tryz.prog 71 c71.1 [.t 6]:=mkB
def c12:Kc Tryz.prog Tryz.f12 [] [(9,5)] [[2,3,4],[2,3,4,5,6],[2,3,4,5,6,19],[4,5],[2,3,4,6,7],[2,3,4,7,22,23,24],[2,3,4,7,22,23,24,25],[2,3,4,7,9,22,23,24],[2,3,4,7,9,10,22,23,24],[2,3,4,7,10,11,22,23,24],[2,3,4,7,10,22,23,24,35],[4,5],[2,3,4,7,22,23,24],[2,3,4,7,22,23,24],[4,45],[4,5],[4,5]]:=by
 constructor;conv=>lhs;reduce;simp only[seval]
theorem a12:AOf Tryz.prog 12 c12.1 [.c 4 1 true,.t 5]:=mkB
def c32:Ke Tryz.prog Tryz.f32 [[1,2,3],[1,2,3],[2,3,7],[]]:=by
 constructor;conv=>lhs;reduce;simp only[seval]
theorem a32:AOf Tryz.prog 32 c32.1 []:=mkB
noncomputable def HW:Code:=((rfs (Tryz.f14.body.getD .skip))[0]?.getD (#[],.skip,.skip)).2.1
noncomputable def HX:Code:=((rfs (Tryz.f14.body.getD .skip))[0]?.getD (#[],.skip,.skip)).2.2
def Wl (r:Nat):List Nat:=match r with
 |10=>[4,5,6,10,12,38]
 |11=>[]
 |_=>[]
def NU:ACode:=
 (.block 3
  (.seq
  (.reg 0 [
   ⟨some 35,none,.v (.ld 26 true (.t 11))⟩,
   ⟨some 36,none,.v (.mv (.t 12))⟩,
   ⟨some 37,none,.call true (.c (.fn (.func 38) [] [])) [(.t 35),(.t 36)]⟩,
   ⟨some 38,none,.v (.icmp .lss .i64 (.t 37) (.c (.int .i64 0)))⟩] [4,5,6,10,12,38])
  (.cond (.t 38)
   (.seq
   (.reg 0 [
    ⟨some 39,none,.v (.ld 1 false (.t 10))⟩,
    ⟨some 40,none,.v (.mv (.t 12))⟩,
    ⟨some 41,none,.call true (.c (.fn (.func 39) [] [])) [(.t 40)]⟩,
    ⟨none,none,.st 1 (.t 4) (.t 39)⟩,
    ⟨none,none,.st 1 (.t 5) (.t 41)⟩,
    ⟨none,none,.st 1 (.t 6) (.c (.bool true))⟩] [])
   (.exit 0))
   .skip)))
def Wm (r:Nat):List Nat:=match r with
 |9=>[4,5,6,10,11,12]
 |_=>[]
def RL:ACode:=
 (.reg 0 [
  ⟨some 12,none,.v (.mv (.t 34))⟩] [4,5,6,10,11,12])
theorem y14_0 {l id:Nat} {st:LoopState} {pend:Option Code} {env:List (Nat×Bool×AVal)} {args:List AVal} {H:AB} {n:Nat} {R:Bool->AB->Nat->Prop} (ho:hget H id=some (.lp ⟨l,st,pend,46,env, #[34],HW,HX⟩)) (hps:args.length=1) (h:awp Tryz.prog RL (GD Tryz.prog id NU R) ⟨renv [34] args env,H,n⟩):BU Tryz.prog l args H n R:=
 BO (aa:=RL) (ab:=NU) (fz:=[(700004,1004),(700005,1006),(700006,1008)]) (im:=[(8,1)]) (fz2:=[(700004,1004),(700005,1006),(700006,1008)]) (im2:=[(8,1)]) (kp:=Wm) (kp2:=Wl) ho rfl hps rfl (by kernel_rfl) (by kernel_rfl) rfl rfl h
def kp14 (r:Nat):List Nat:=match r with
 |0=>[2,3,4,5,6]
 |1=>[2,3,4,5,6,7,8]
 |2=>[2,3,4,5,6,7,8,20]
 |3=>[4,5,6,7]
 |4=>[2,3,4,5,6,7,22,23,24]
 |5=>[2,3,4,5,6,7,22,23,24,25]
 |6=>[2,3,4,5,6,7,10,22,23,24]
 |7=>[2,3,4,5,6,7,10,11,22,23,24]
 |8=>[2,3,4,5,6,7,10,11,22,23,24,33]
 |12=>[2,3,4,5,6,7,22,23,24]
 |13=>[4,5,6,7]
 |_=>[]
noncomputable def c14:ACode:=
(sq (.reg 6 [⟨some 2,none,.box 0 17 (tm 0)⟩,⟨some 3,none,.box 1 8 (tm 1)⟩,⟨some 4,none,.alloc 2 [zs]⟩,⟨some 5,none,.alloc 3 [zs]⟩,⟨some 6,
 none,.alloc 4 [zb]⟩,oi 7 0] [2,3,4,5,6]) (sq (rg [ov 14 (.ld 17 true (tm 2)),ov 15 (.ld 8 true (tm 3)),oc 16 30 [(tm 14),(tm 15)],om 13 16,
 ox 17 0 13,ox 18 1 13,om 8 17,om 7 18] [2,3,4,5,6,7,8]) (sq (sq (rg [om 19 7,ov 20 (.icmp .neq .i64 (tm 19) (ci 0))] [2,3,4,5,6,7,8,
 20]) (.cond (tm 20) (sq (rg [om 21 7,⟨none,none,.st 1 (tm 4) (.c zs)⟩,⟨none,none,.st 1 (tm 5) (.c zs)⟩,⟨none,none,.st 1 (tm 6) cF⟩,om 7 21]
 [4,5,6,7]) .ret) .skip)) (sq .skip (sq (sq (rg [om 22 8,on 23 22,oi 24 0] [2,3,4,5,6,7,22,23,24]) (.block 0 (.loop (sq (rg [ov 25
 (.icmp .lss .i64 (tm 24) (tm 23))] [2,3,4,5,6,7,22,23,24,25]) (sq (.cond (tm 25) .skip (.exit 0)) (sq (.block 1 (sq (.reg 4 [oa 26 1 22 24,
 ol 27 26,⟨some 10,none,.alloc 2 [zs]⟩,⟨none,none,.st 1 (tm 10) (tm 27)⟩] [2,3,4,5,6,7,10,22,23,24]) (sq (.reg 6 [ov 28 (.ld 17 true
 (tm 2)),ov 29 (.ld 8 true (tm 3)),ol 30 10,ov 31 (.build [zr,z0,z0,z0,z0,zs,zs,zs,zs,zs,z0,z0,z0,zs,zs,zs,zs,zr,z0,zs,zs,zs,
 zs,z0,z0,zs] [(0,17,(tm 28)),(17,8,(tm 29)),(25,1,(tm 30))]),⟨some 11,none,.alloc 4 [zr,z0,z0,z0,z0,zs,zs,zs,zs,zs,z0,z0,z0,
 zs,zs,zs,zs,zr,z0,zs,zs,zs,zs,z0,z0,zs]⟩,⟨none,none,.st 26 (tm 11) (tm 31)⟩] [2,3,4,5,6,7,10,11,22,23,24]) (sq (rg [ov 32
 (.ld 26 true (tm 11)),oe 33 37 [(tm 32)]] [2,3,4,5,6,7,10,11,22,23,24,33]) (.block 2 (.rfun (tm 33) #[34] 46 HW HX)))))) (rg [ov
 42 (.arith .add .i64 (tm 24) (ci 1)),om 24 42] [2,3,4,5,6,7,22,23,24]))))))) (sq (.regx 0 [(1007,ol 43 4),(1009,ol 44 5),(1011,ol 45
 6),(1007,⟨none,none,.st 1 (tm 4) (tm 43)⟩),(1009,⟨none,none,.st 1 (tm 5) (tm 44)⟩),(1011,⟨none,none,.st 1 (tm 6) (tm 45)⟩),(0,oi 7 0)]
 [4,5,6,7]) .ret))))))
theorem a14:AOf Tryz.prog 14 c14 [.c 4 1 false,.c 5 1 false,.c 6 1 false,.t 7]:=mkA (fn:=Tryz.f14) (c:=Tryz.f14.body.getD .skip) (fz:=[(700004,1004),(700005,1006),(700006,1008)]) (im:=[(8,1)]) kp14 (by kernel_rfl) (by kernel_rfl) (by kernel_rfl) (by kernel_rfl) (by kernel_rfl)
def c44:Ke Tryz.prog Tryz.f44 [[3,4,5],[7,8],[6]]:=by
 constructor;conv=>lhs;reduce;simp only[seval]
theorem a44:AOf Tryz.prog 44 c44.1 [.t 6]:=mkB
def c43:Ke Tryz.prog Tryz.f43 [[0,3],[4]]:=by
 constructor;conv=>lhs;reduce;simp only[seval]
theorem a43:AOf Tryz.prog 43 c43.1 [.t 4]:=mkB
def c79:Ke Tryz.prog Tryz.f79 [[1,2],[3]]:=by
 constructor;conv=>lhs;reduce;simp only[seval]
theorem a79:AOf Tryz.prog 79 c79.1 [.t 3]:=mkB
def c20:Ke Tryz.prog Tryz.f20 [[4,5,6,7,8],[4,5,6,7,8,9],[4,5,6,7,8,9,14],[8,9],[4,5,6,7,8,9],[4,5,6,7,8,9,20],[8,9],[4,5,6,7,8,23],[8,9],[4,5,6,7,8,29],[8,9],[5,6,7,8,36],[8,9],[8,9]]:=by
 constructor;conv=>lhs;reduce;simp only[seval]
theorem a20:AOf Tryz.prog 20 c20.1 [.c 8 2 true,.t 9]:=mkB
def c23:Ke Tryz.prog Tryz.f23 [[2,3],[2,3,4],[2,3,4,10],[4],[2,3,15],[4],[2,3,22],[4],[2,3,24,25,26],[2,3,24,25,26,27],[2,3,5,6,24,25,26],[2,3,4,5,6,24,25,26],[2,3,4,5,6,24,25,26,34],[4],[2,3,5,6,24,25,26,42],[4],[2,3,24,25,26,51],[4],[2,3,24,25,26],[4]]:=by
 constructor;conv=>lhs;reduce;simp only[seval]
theorem a23:AOf Tryz.prog 23 c23.1 [.t 4]:=mkB
def c45:Ke Tryz.prog Tryz.f45 [[0],[2]]:=by
 constructor;conv=>lhs;reduce;simp only[seval]
theorem a45:AOf Tryz.prog 45 c45.1 [.t 2]:=mkB
def c46:Ke Tryz.prog Tryz.f46 [[0],[2]]:=by
 constructor;conv=>lhs;reduce;simp only[seval]
theorem a46:AOf Tryz.prog 46 c46.1 [.t 2]:=mkB
def c101:Ke Tryz.prog Tryz.f101 [[0,1],[0,1,7,8],[0,1,7,8,9],[0,1,5,7,8],[0,1,5,7,8,16],[4],[0,1,7,8],[4]]:=by
 constructor;conv=>lhs;reduce;simp only[seval]
theorem a101:AOf Tryz.prog 101 c101.1 [.t 4]:=mkB
def c78:Ke Tryz.prog Tryz.f78 [[0,1],[4]]:=by
 constructor;conv=>lhs;reduce;simp only[seval]
theorem a78:AOf Tryz.prog 78 c78.1 [.t 4]:=mkB
def c110:Ke Tryz.prog Tryz.f110 [[0,1],[0,1,7,8],[0,1,7,8,9],[0,1,5,7,8],[0,1,5,7,8,16],[4],[0,1,7,8],[4]]:=by
 constructor;conv=>lhs;reduce;simp only[seval]
theorem a110:AOf Tryz.prog 110 c110.1 [.t 4]:=mkB
end Go.AM
namespace Go.AM
open Go.Proofs
def c96:Ke Tryz.prog Tryz.f96 [[1],[1,10],[2,3],[1,4],[1,4,5],[1,4,5,15],[1,4,5],[1,4,5,6],[1,4,5,6,7],[1,4,5,6,7,22],[1,4,5,6,7],[1,4,5,6,7,28],[1,4,5,6,7],[1,4,5],[2,3]]:=by
 constructor;conv=>lhs;reduce;simp only[seval]
theorem a96:AOf Tryz.prog 96 c96.1 [.t 2,.t 3]:=mkB
def c97:Ke Tryz.prog Tryz.f97 [[1,2],[1,2,6,7],[1,2,6,7,20],[4,5],[1,2,6,27],[4,5],[1,2,6,8],[1,2,6,8,9],[1,2,6,8,9,10],[1,2,6,8,9,10,32],[1,2,6,8,9,10],[1,2,6,8,9,10],[1,2,6,8,9,10,39],[1,2,6,8,9,10,39,40],[1,2,6,8,9,10],[1,2,6,8,9,10,39,47],[1,2,6,8,9,10,11],[1,2,6,8,9,10,11,12],[1,2,6,8,9,10,11,12,53],[1,2,6,8,9,10,11,12],[1,2,6,8,9,10,11,12,66],[1,2,6,8,9,10,11,12],[1,2,6,8,9,10],[1,2,6,8,9,10,75],[1,2,6,8,9,10,13],[1,2,6,8,9,10,13,83],[1,2,6,8,9,10,13],[1,2,6,8,9,10,13,94],[1,2,6,8,9,10,13],[1,2,6,8,9,107],[1,2,6,8,9,107,108],[1,2,6,8,9,107,108],[8],[1,2,6,8,9,107,114],[1,2,118],[8],[8],[6,8,9,107,124],[8],[8,9,127],[8],[4,5]]:=by
 constructor;conv=>lhs;reduce;simp only[seval]
theorem a97:AOf Tryz.prog 97 c97.1 [.t 4,.t 5]:=mkB
def c148:Ke Tryz.prog Tryz.f148 [[1,2,3],[1,2,3,7],[1,2,3,7,8],[1,2,3,7,8,26],[6],[8,9],[6]]:=by
 constructor;conv=>lhs;reduce;simp only[seval]
theorem a148:AOf Tryz.prog 148 c148.1 [.t 6]:=mkB
def c149:Ke Tryz.prog Tryz.f149 [[1,2],[1,2,5],[1,2,5,6],[1,2,5,6,10],[1,2,5,6],[1,2,5,6,7],[1,2,5,6,7,8],[1,2,5,6,7,8,17],[1,2,5,6,7,8],[1,2,5,6,7,8,25],[1,2,5,6,7,8],[1,2,5,6,7,32],[1,2,5,6],[4]]:=by
 constructor;conv=>lhs;reduce;simp only[seval]
theorem a149:AOf Tryz.prog 149 c149.1 [.t 4]:=mkB
def c150:Ke Tryz.prog Tryz.f150 [[1],[1,3],[1,3,4],[1,3,4,17],[1,3,4],[1,3,4,5],[1,3,4,5,6],[1,3,4,5,6,24],[1,3,4,5,6],[1,3,4,5,6,7],[1,3,4,5,6,7,8],[1,3,4,5,6,52],[1,3,4,5,6],[1,3,4,5,72],[1,3,4],[2]]:=by
 constructor;conv=>lhs;reduce;simp only[seval]
theorem a150:AOf Tryz.prog 150 c150.1 [.t 2]:=mkB
def c193:Ke Tryz.prog Tryz.f193 [[1,2],[4]]:=by
 constructor;conv=>lhs;reduce;simp only[seval]
theorem a193:AOf Tryz.prog 193 c193.1 [.t 4]:=mkB
def c194:Ke Tryz.prog Tryz.f194 [[1,2],[4]]:=by
 constructor;conv=>lhs;reduce;simp only[seval]
theorem a194:AOf Tryz.prog 194 c194.1 [.t 4]:=mkB
def c195:Ke Tryz.prog Tryz.f195 [[1,2],[1,2,5],[4]]:=by
 constructor;conv=>lhs;reduce;simp only[seval]
theorem a195:AOf Tryz.prog 195 c195.1 [.t 4]:=mkB
def c196:Ke Tryz.prog Tryz.f196 [[1,2,3],[1,2,3,8],[6],[1,2,3,14],[6],[2,3,19],[6],[6]]:=by
 constructor;conv=>lhs;reduce;simp only[seval]
theorem a196:AOf Tryz.prog 196 c196.1 [.t 6]:=mkB
def c59:Ke Tryz.prog Tryz.f59 [[1,2],[2,4,5],[2,4,5,19],[2,3],[2,4,5],[2,4,5,25],[2,3],[2,4,6],[2,4,5,6],[2,4,5,6,44],[2,3],[2,4,6],[2,4,6,7],[2,4,6,7,55],[2,4,6,7],[2,4,6,7,8],[2,4,6,7],[2,4,6,10],[2,4,6,10,75],[2,4,6,10],[2,4,6,10,11],[2,4,6,10],[2,3]]:=by
 constructor;conv=>lhs;reduce;simp only[seval]
theorem a59:AOf Tryz.prog 59 c59.1 [.c 2 17 true,.t 3]:=mkB
def c41:Ke Tryz.prog Tryz.f41 [[0,1],[0,1,10],[4],[0,1,5],[0,1,5,14],[0,1,5],[0,1,5,25],[4],[4]]:=by
 constructor;conv=>lhs;reduce;simp only[seval]
theorem a41:AOf Tryz.prog 41 c41.1 [.t 4]:=mkB
def c10:Ke Tryz.prog Tryz.f10 [[1],[1,63],[2],[1,3],[1,3,68],[1,3],[1,3,77],[2],[1,4],[1,4,83],[1,4],[1,4,94],[2],[2]]:=by
 constructor;conv=>lhs;reduce;simp only[seval]
theorem a10:AOf Tryz.prog 10 c10.1 [.t 2]:=mkB
end Go.AM
namespace Go.AM
open Go.Proofs
end Go.AM
namespace Go.AM
open Go.Proofs
def c11:Ke Tryz.prog Tryz.f11 [[1],[1,38],[2],[1,3],[1,3,43],[1,3],[1,3,63],[2],[1,4],[1,4,68],[1,4],[1,4,78],[2],[2]]:=by
 constructor;conv=>lhs;reduce;simp only[seval]
theorem a11:AOf Tryz.prog 11 c11.1 [.t 2]:=mkB
def kp16 (r:Nat):List Nat:=match r with
 |0=>[2,3]
 |1=>[2,3,13]
 |2=>[4]
 |3=>[2,3,5]
 |4=>[2,3,5,18]
 |6=>[2,3,5,33]
 |7=>[4]
 |8=>[2,3,5,6]
 |9=>[2,3,5,6,41]
 |11=>[2,3,5,6,60]
 |12=>[4]
 |10=>[2,3,5,6]
 |5=>[2,3,5]
 |13=>[4]
 |_=>[]
def c16:ACode:=
(sq (.reg 3 [⟨some 2,none,.box 0 1 (tm 0)⟩,⟨some 3,none,.box 1 1 (tm 1)⟩,ob 4 false] [2,3]) (sq (sq (rg [of 7 0 2,ol 8 7,on 9 8,of 10 0 3,
 ol 11 10,on 12 11,ov 13 (.icmp .neq .i64 (tm 9) (tm 12))] [2,3,13]) (.cond (tm 13) (sq (rg [ob 4 false] [4]) .ret) .skip)) (sq (sq (rg [oi 5 0]
 [2,3,5]) (.block 0 (.loop (sq (sq (rg [om 14 5,of 15 0 2,ol 16 15,on 17 16,ov 18 (.icmp .lss .i64 (tm 14) (tm 17))] [2,3,5,18]) (.cond (tm
 18) .skip (.exit 0))) (sq (.block 1 (sq (sq (rg [of 21 0 2,ol 22 21,om 23 5,oa 24 1 22 23,ol 25 24,on 26 25,of 27 0 3,ol 28 27,om 29 5,oa 30
 1 28 29,ol 31 30,on 32 31,ov 33 (.icmp .neq .i64 (tm 26) (tm 32))] [2,3,5,33]) (.cond (tm 33) (sq (rg [ob 4 false] [4]) .ret) .skip)) (sq (rg [
 oi 6 0] [2,3,5,6]) (.block 2 (.loop (sq (sq (rg [om 34 6,of 35 0 2,ol 36 35,om 37 5,oa 38 1 36 37,ol 39 38,on 40 39,ov 41 (.icmp .lss .i64
 (tm 34) (tm 40))] [2,3,5,6,41]) (.cond (tm 41) .skip (.exit 2))) (sq (.block 3 (sq (rg [of 44 0 2,ol 45 44,om 46 5,oa 47 1 45 46,ol 48 47,om
 49 6,oa 50 2 48 49,ov 51 (.ld 2 true (tm 50)),of 52 0 3,ol 53 52,om 54 5,oa 55 1 53 54,ol 56 55,om 57 6,oa 58 2 56 57,ov 59 (.ld 2 true (tm
 58)),ov 60 (.aeq true [0,0] (tm 51) (tm 59))] [2,3,5,6,60]) (.cond (tm 60) (sq (rg [ob 4 false] [4]) .ret) .skip))) (rg [om 42 6,ov 43
 (.arith .add .i64 (tm 42) (ci 1)),om 6 43] [2,3,5,6])))))))) (rg [om 19 5,ov 20 (.arith .add .i64 (tm 19) (ci 1)),om 5 20] [2,3,5])))))) (sq
 (rg [ob 4 true] [4]) .ret))))
theorem a16:AOf Tryz.prog 16 c16 [.t 4]:=mkA (fn:=Tryz.f16) (c:=Tryz.f16.body.getD .skip) (fz:=[]) (im:=[]) kp16 (by kernel_rfl) (by kernel_rfl) (by kernel_rfl) (by kernel_rfl) (by kernel_rfl)
def c17:Ke Tryz.prog Tryz.f17 [[0,1],[4]]:=by
 constructor;conv=>lhs;reduce;simp only[seval]
theorem a17:AOf Tryz.prog 17 c17.1 [.t 4]:=mkB
def c18:Ke Tryz.prog Tryz.f18 [[1],[1,14],[2],[1,3],[1,3,19],[1,3],[1,3,28],[2],[1,4],[1,4,33],[1,4],[1,4,42],[2],[2]]:=by
 constructor;conv=>lhs;reduce;simp only[seval]
theorem a18:AOf Tryz.prog 18 c18.1 [.t 2]:=mkB
def c19:Ke Tryz.prog Tryz.f19 [[1],[1,7],[2],[1,3],[1,3,12],[1,3],[1,3,21],[2],[2]]:=by
 constructor;conv=>lhs;reduce;simp only[seval]
theorem a19:AOf Tryz.prog 19 c19.1 [.t 2]:=mkB
end Go.AM
namespace Go.AM
open Go.Proofs
def c7:Kc Tryz.prog Tryz.f7 [(15,3)] [] [[3,4,5,6],[3,4,5,6,17],[8],[3,4,5,6,30],[8],[3,4,5,6,9,10],[3,4,5,6,9,38],[8],[3,4,5,6,9,11,12],[3,4,5,6,9,11,12,48],[8],[3,4,5,6,9,91],[8],[3,4,5,6,9,109],[8],[3,4,5,6,9,13],[4,5,6,13],[15],[8]]:=by
 constructor;conv=>lhs;reduce;simp only[seval]
theorem a7:AOf Tryz.prog 7 c7.1 [.t 8]:=mkB
def c9:Ke Tryz.prog Tryz.f9 [[],[1],[1,2],[1,2,3,4],[1,2,3,4,7,8],[1,2,3,4,7,8,9],[1,2,3,4,7,8,9],[1,2,3,4,7,8,9],[1,2,3,4,7,8,9,10,11,12,13],[1,2,3,4,7,8,9,10,11,12,13,15],[1,2,3,4,7,8,10,11,12,13,15,16],[1,2,3,4,7,8,10,11,12,13,15,16],[1,2,3,4,7,8,10,11,12,13,15,17,18],[1,2,3,4,7,8,10,11,12,13,15,17,18,19,20],[1,2,3,4,7,8,10,11,12,13,15,17,18,19,20,22],[1,3,4,7,8,10,11,12,13,15,17,18,19,20,22,23],[1,3,4,7,8,10,11,12,13,15,17,18,19,20,22,23],[1,3,4,7,8,10,11,12,13,15,17,18,19,20,22,25],[3,7,10,11,12,17,19,144],[0],[3,7,10,11,12,17,19,26],[0]]:=by
 constructor;conv=>lhs;reduce;simp only[u8n,UInt8.reduceOfNat,Int.reduceOfNat]
theorem a9:AOf Tryz.prog 9 c9.1 [.t 0]:=mkB
def c28:Ke Tryz.prog Tryz.f28 [[0],[0,1],[0]]:=by
 constructor;conv=>lhs;reduce;simp only[u8n,UInt8.reduceOfNat,Int.reduceOfNat]
theorem a28:AOf Tryz.prog 28 c28.1 [.c 0 17 true]:=mkB
def c29:Ke Tryz.prog Tryz.f29 [[0],[0]]:=by
 constructor;conv=>lhs;reduce;simp only[u8n,UInt8.reduceOfNat,Int.reduceOfNat]
theorem a29:AOf Tryz.prog 29 c29.1 [.c 0 8 true]:=mkB
end Go.AM
namespace Go.AM
open Go.Proofs
def c233:Ke Tryz.prog Tryz.f233 [[1],[2]]:=by
 constructor;conv=>lhs;reduce;simp only[seval]
theorem a233:AOf Tryz.prog 233 c233.1 [.t 2]:=mkB
def c256:Kc Tryz.prog Tryz.f256 [] [(6,5)] [[0,1,8,9,10],[0,1,8,9,10,11],[0,1,3,4,8,9,10],[0,1,3,5,6,8,9,10],[0,1,3,5,6,8,9,10,25],[0,1,3,5,6,8,9,10],[0,1,8,9,10,36],[0,1,8,9,10]]:=by
 constructor;conv=>lhs;reduce;simp only[seval]
theorem a256:AOf Tryz.prog 256 c256.1 []:=mkB
noncomputable def Jm:Code:=((rfs (Tryz.f164.body.getD .skip))[0]?.getD (#[],.skip,.skip)).2.1
noncomputable def Jn:Code:=((rfs (Tryz.f164.body.getD .skip))[0]?.getD (#[],.skip,.skip)).2.2
def Ta (r:Nat):List Nat:=match r with
 |11=>[]
 |_=>[]
def MJ:ACode:=
 (.block 1
  (.reg 0 [
   ⟨some 33,none,.v (.ld 1 false (.t 6))⟩,
   ⟨some 34,none,.v (.ld 2 true (.t 8))⟩,
   ⟨some 35,none,.v (.mv (.t 7))⟩,
   ⟨none,none,.ext (.mput (.arr 2 .i64)) [(.t 33),(.t 34),(.t 35)]⟩] []))
def Tb (r:Nat):List Nat:=match r with
 |9=>[6,7,32]
 |10=>[6,7,8]
 |_=>[]
def MK:ACode:=
 (.seq
  (.reg 0 [
   ⟨some 7,none,.v (.mv (.t 31))⟩] [6,7,32])
  (.reg 2 [
   ⟨some 8,none,.alloc 0 [(.int .i64 0),(.int .i64 0)]⟩,
   ⟨none,none,.st 2 (.t 8) (.t 32)⟩] [6,7,8]))
theorem y164_0 {l id:Nat} {st:LoopState} {pend:Option Code} {env:List (Nat×Bool×AVal)} {args:List AVal} {H:AB} {n:Nat} {R:Bool->AB->Nat->Prop} (ho:hget H id=some (.lp ⟨l,st,pend,85,env, #[31,32],Jm,Jn⟩)) (hps:args.length=2) (h:awp Tryz.prog MK (GD Tryz.prog id MJ R) ⟨renv [31,32] args env,H,n⟩):BU Tryz.prog l args H n R:=
 BO (aa:=MK) (ab:=MJ) (fz:=[(21,8),(700002,600000)]) (im:=[(23,4),(8,1),(13,1)]) (fz2:=[(21,8),(700002,600000)]) (im2:=[(23,4),(8,1),(13,1)]) (kp:=Tb) (kp2:=Ta) ho rfl hps rfl (by kernel_rfl) (by kernel_rfl) rfl rfl h
noncomputable def HY:Code:=((rfs (Tryz.f164.body.getD .skip))[1]?.getD (#[],.skip,.skip)).2.1
noncomputable def HZ:Code:=((rfs (Tryz.f164.body.getD .skip))[1]?.getD (#[],.skip,.skip)).2.2
def Tc (r:Nat):List Nat:=match r with
 |16=>[2,6,9,10,45,46,47]
 |17=>[2,6,9,10,45,46,47,48]
 |18=>[2,6,9,10,12,45,46,47]
 |19=>[2,6,9,10,13,14,45,46,47]
 |20=>[2,6,9,10,13,45,46,47,67]
 |21=>[2,6,9,10,45,46,47]
 |22=>[2,6,9,10,45,46,47]
 |23=>[]
 |_=>[]
def ML:ACode:=
 (.block 3
  (.seq
  (.seq
   (.reg 0 [
    ⟨some 44,none,.v (.ld 1 false (.t 5))⟩,
    ⟨some 45,none,.ext (.slx 6 2 false true) [(.t 4),(.t 44)]⟩,
    ⟨some 46,none,.v (.len (.t 45))⟩,
    ⟨some 47,none,.v (.mv (.c (.int .i64 0)))⟩] [2,6,9,10,45,46,47])
   (.block 4
   (.loop
    (.seq
    (.reg 0 [
     ⟨some 48,none,.v (.icmp .lss .i64 (.t 47) (.t 46))⟩] [2,6,9,10,45,46,47,48])
    (.seq
     (.cond (.t 48)
     .skip
     (.exit 4))
     (.seq
     (.block 5
      (.seq
      (.reg 4 [
       ⟨some 49,none,.v (.ia 2 (.t 45) (.t 47))⟩,
       ⟨some 50,none,.v (.ld 2 true (.t 49))⟩,
       ⟨some 12,none,.alloc 2 [(.int .i64 0),(.int .i64 0)]⟩,
       ⟨none,none,.st 2 (.t 12) (.t 50)⟩] [2,6,9,10,12,45,46,47])
      (.seq
       (.reg 0 [
        ⟨some 52,none,.v (.ld 1 false (.t 6))⟩,
        ⟨some 53,none,.v (.iaA 2 1 (.t 10) (.c (.int .i64 0)))⟩,
        ⟨some 54,none,.v (.ld 1 false (.t 53))⟩,
        ⟨some 55,none,.v (.iaA 2 1 (.t 12) (.c (.int .i64 0)))⟩,
        ⟨some 56,none,.v (.ld 1 false (.t 55))⟩,
        ⟨some 57,none,.v (.arith .add .i64 (.t 54) (.t 56))⟩,
        ⟨some 58,none,.v (.iaA 2 1 (.t 10) (.c (.int .i64 1)))⟩,
        ⟨some 59,none,.v (.ld 1 false (.t 58))⟩,
        ⟨some 60,none,.v (.iaA 2 1 (.t 12) (.c (.int .i64 1)))⟩,
        ⟨some 61,none,.v (.ld 1 false (.t 60))⟩,
        ⟨some 62,none,.v (.arith .add .i64 (.t 59) (.t 61))⟩,
        ⟨some 63,none,.v (.build [(.int .i64 0),(.int .i64 0)] [(0,1,(.t 57)),(1,1,(.t 62))])⟩,
        ⟨some 64,none,.ext (.look (.arr 2 .i64) (.int .i64 0) true) [(.t 52),(.t 63)]⟩,
        ⟨some 51,none,.v (.mv (.t 64))⟩,
        ⟨some 65,none,.v (.ext 0 (.t 51))⟩,
        ⟨some 66,none,.v (.ext 1 (.t 51))⟩,
        ⟨some 13,none,.v (.mv (.t 65))⟩,
        ⟨some 14,none,.v (.mv (.t 66))⟩] [2,6,9,10,13,14,45,46,47])
       (.seq
       (.reg 0 [
        ⟨some 67,none,.v (.mv (.t 14))⟩] [2,6,9,10,13,45,46,47,67])
       (.cond (.t 67)
        (.regx 11 [
         (2,⟨some 68,none,.v (.ld 1 false (.t 2))⟩),
         (0,⟨some 69,none,.v (.mv (.t 9))⟩),
         (2,⟨some 70,none,.v (.ld 1 false (.t 2))⟩),
         (0,⟨some 71,none,.v (.mv (.t 9))⟩),
         (0,⟨some 72,none,.v (.ia 1 (.t 70) (.t 71))⟩),
         (1,⟨some 73,none,.v (.ld 1 false (.t 72))⟩),
         (0,⟨some 74,none,.v (.mv (.t 13))⟩),
         (0,⟨some 75,none,.v (.bs 1 1 (.int .i64 0) [(0,(.t 74))])⟩),
         (2,⟨some 76,none,.appR 8 1 8 (.int .i64 0) (.t 73) (.t 75) false⟩),
         (0,⟨some 77,none,.v (.ia 1 (.t 68) (.t 69))⟩),
         (0,⟨none,none,.st 1 (.t 77) (.t 76)⟩)] [2,6,9,10,45,46,47])
        .skip)))))
     (.reg 0 [
      ⟨some 78,none,.v (.arith .add .i64 (.t 47) (.c (.int .i64 1)))⟩,
      ⟨some 47,none,.v (.mv (.t 78))⟩] [2,6,9,10,45,46,47])))))))
  (.reg 0 [
   ⟨some 79,none,.v (.ld 1 false (.t 2))⟩,
   ⟨some 80,none,.v (.mv (.t 9))⟩,
   ⟨some 81,none,.v (.ia 1 (.t 79) (.t 80))⟩,
   ⟨some 82,none,.v (.ld 1 false (.t 81))⟩,
   ⟨some 83,none,.call false (.c (.fn (.func 234) [] [])) [(.t 82)]⟩] [])))
def Td (r:Nat):List Nat:=match r with
 |14=>[2,4,5,6,9,43]
 |15=>[2,4,5,6,9,10]
 |_=>[]
def MM:ACode:=
 (.seq
  (.reg 0 [
   ⟨some 9,none,.v (.mv (.t 42))⟩] [2,4,5,6,9,43])
  (.reg 2 [
   ⟨some 10,none,.alloc 0 [(.int .i64 0),(.int .i64 0)]⟩,
   ⟨none,none,.st 2 (.t 10) (.t 43)⟩] [2,4,5,6,9,10]))
theorem y164_1 {l id:Nat} {st:LoopState} {pend:Option Code} {env:List (Nat×Bool×AVal)} {args:List AVal} {H:AB} {n:Nat} {R:Bool->AB->Nat->Prop} (ho:hget H id=some (.lp ⟨l,st,pend,85,env, #[42,43],HY,HZ⟩)) (hps:args.length=2) (h:awp Tryz.prog MM (GD Tryz.prog id ML R) ⟨renv [42,43] args env,H,n⟩):BU Tryz.prog l args H n R:=
 BO (aa:=MM) (ab:=ML) (fz:=[(21,8),(700002,600000)]) (im:=[(23,4),(8,1),(13,1)]) (fz2:=[(21,8),(700002,600000)]) (im2:=[(23,4),(8,1),(13,1)]) (kp:=Td) (kp2:=Tc) ho rfl hps rfl (by kernel_rfl) (by kernel_rfl) rfl rfl h
def kp164 (r:Nat):List Nat:=match r with
 |0=>[1,2,3]
 |1=>[1,2,3,17]
 |2=>[2,3]
 |3=>[1,2,3,4]
 |4=>[1,2,3,4,5]
 |5=>[1,2,3,4,5,27]
 |6=>[1,2,3,4,5]
 |7=>[1,2,3,4,5,6]
 |8=>[1,2,3,4,5,6,30]
 |12=>[1,2,3,4,5,6]
 |13=>[2,3,4,5,6,41]
 |24=>[2,3]
 |_=>[]
noncomputable def c164:ACode:=
(sq (.reg 3 [⟨some 1,none,.box 0 5 (tm 0)⟩,⟨some 2,none,.alloc 1 [zs]⟩,oi 3 0] [1,2,3]) (sq (sq (rg [ov 15 (.ld 5 true (tm 1)),oc 16 232
 [(tm 15)],ov 17 (.icmp .neq .i64 (tm 16) (ci 0))] [1,2,3,17]) (.cond (tm 17) (sq (rg [⟨none,none,.st 1 (tm 2) (.c zs)⟩,oi 3 130] [2,3]) .ret)
 .skip)) (sq (.reg 9 [ov 18 (.build [z0,z0] [(0,1,(ci 1)),(1,1,(ci 0))]),ov 19 (.build [z0,z0] [(0,1,(ci (-1))),(1,1,(ci 0))]),ov 20
 (.build [z0,z0] [(0,1,(ci 0)),(1,1,(ci 1))]),ov 21 (.build [z0,z0] [(0,1,(ci 0)),(1,1,(ci (-1)))]),ov 22 (.build [z0,z0] [(0,1,(ci
 1)),(1,1,(ci (-1)))]),ov 23 (.build [z0,z0] [(0,1,(ci (-1))),(1,1,(ci 1))]),ov 24 (.build [z0,z0,z0,z0,z0,z0,z0,z0,z0,z0,z0,z0]
 [(0,2,(tm 18)),(2,2,(tm 19)),(4,2,(tm 20)),(6,2,(tm 21)),(8,2,(tm 22)),(10,2,(tm 23))]),⟨some 4,none,.alloc 7 [z0,z0,z0,z0,z0,
 z0,z0,z0,z0,z0,z0,z0]⟩,⟨none,none,.st 12 (tm 4) (tm 24)⟩] [1,2,3,4]) (sq (.reg 2 [⟨some 5,none,.alloc 0 [z0]⟩,⟨none,none,.st 1 (tm
 5) (ci 6)⟩] [1,2,3,4,5]) (sq (sq (rg [of 25 0 1,ol 26 25,ov 27 (.icmp .eql .i64 (tm 26) (ci 1))] [1,2,3,4,5,27]) (.cond (tm 27) (rg [
 ⟨none,none,.st 1 (tm 5) (ci 4)⟩] [1,2,3,4,5]) .skip)) (sq (.reg 3 [⟨some 28,none,.ext (.mkm 0) []⟩,⟨some 6,none,.alloc 1 [.nilmp]⟩,⟨none,
 none,.st 1 (tm 6) (tm 28)⟩] [1,2,3,4,5,6]) (sq (sq (rg [ov 29 (.ld 5 true (tm 1)),oe 30 233 [(tm 29)]] [1,2,3,4,5,6,30]) (.block 0
 (.rfun (tm 30) #[31,32] 85 Jm Jn))) (sq (.reg 5 [of 36 4 1,ol 37 36,on 38 37,⟨some 39,none,.mks 3 1 24 zs (tm 38)⟩,⟨none,none,.st
 1 (tm 2) (tm 39)⟩] [1,2,3,4,5,6]) (sq (sq (rg [ov 40 (.ld 5 true (tm 1)),oe 41 233 [(tm 40)]] [2,3,4,5,6,41]) (.block 2 (.rfun (tm 41)
 #[42,43] 85 HY HZ))) (sq (rg [ol 84 2,⟨none,none,.st 1 (tm 2) (tm 84)⟩,oi 3 0] [2,3]) .ret))))))))))
theorem a164:AOf Tryz.prog 164 c164 [.c 2 1 false,.t 3]:=mkA (fn:=Tryz.f164) (c:=Tryz.f164.body.getD .skip) (fz:=[(21,8),(700002,600000)]) (im:=[(23,4),(8,1),(13,1)]) kp164 (by kernel_rfl) (by kernel_rfl) (by kernel_rfl) (by kernel_rfl) (by kernel_rfl)
noncomputable def FA:Code:=((rfs (Tryz.f235.body.getD .skip))[0]?.getD (#[],.skip,.skip)).2.1
noncomputable def FB:Code:=((rfs (Tryz.f235.body.getD .skip))[0]?.getD (#[],.skip,.skip)).2.2
def Te (r:Nat):List Nat:=match r with
 |5=>[5,6,8,9]
 |6=>[5,6,8,23]
 |7=>[]
 |_=>[]
def Hc:ACode:=
 (.block 1
  (.seq
  (.reg 0 [
   ⟨some 18,none,.v (.ld 1 false (.t 3))⟩,
   ⟨some 19,none,.v (.ld 2 true (.t 7))⟩,
   ⟨some 20,none,.call true (.t 18) [(.t 19)]⟩,
   ⟨some 17,none,.v (.mv (.t 20))⟩,
   ⟨some 21,none,.v (.ext 0 (.t 17))⟩,
   ⟨some 22,none,.v (.ext 1 (.t 17))⟩,
   ⟨some 8,none,.v (.mv (.t 21))⟩,
   ⟨some 9,none,.v (.mv (.t 22))⟩] [5,6,8,9])
  (.seq
   (.reg 0 [
    ⟨some 23,none,.v (.mv (.t 9))⟩] [5,6,8,23])
   (.cond (.t 23)
   (.reg 9 [
    ⟨some 24,none,.v (.ld 1 false (.t 5))⟩,
    ⟨some 25,none,.v (.mv (.t 8))⟩,
    ⟨some 26,none,.v (.ld 1 false (.t 5))⟩,
    ⟨some 27,none,.v (.mv (.t 8))⟩,
    ⟨some 28,none,.ext (.look (.int .i64) (.sl .nil []) false) [(.t 26),(.t 27)]⟩,
    ⟨some 29,none,.v (.mv (.t 6))⟩,
    ⟨some 30,none,.v (.bs 1 1 (.int .i64 0) [(0,(.t 29))])⟩,
    ⟨some 31,none,.app 7 1 8 (.t 28) (.t 30) false⟩,
    ⟨none,none,.ext (.mput (.int .i64)) [(.t 24),(.t 25),(.t 31)]⟩] [])
   .skip))))
def Tf (r:Nat):List Nat:=match r with
 |3=>[3,5,6,16]
 |4=>[3,5,6,7]
 |_=>[]
def MN:ACode:=
 (.seq
  (.reg 0 [
   ⟨some 6,none,.v (.mv (.t 15))⟩] [3,5,6,16])
  (.reg 2 [
   ⟨some 7,none,.alloc 0 [(.int .i64 0),(.int .i64 0)]⟩,
   ⟨none,none,.st 2 (.t 7) (.t 16)⟩] [3,5,6,7]))
theorem y235_0 {l id:Nat} {st:LoopState} {pend:Option Code} {env:List (Nat×Bool×AVal)} {args:List AVal} {H:AB} {n:Nat} {R:Bool->AB->Nat->Prop} (ho:hget H id=some (.lp ⟨l,st,pend,48,env, #[15,16],FA,FB⟩)) (hps:args.length=2) (h:awp Tryz.prog MN (GD Tryz.prog id Hc R) ⟨renv [15,16] args env,H,n⟩):BU Tryz.prog l args H n R:=
 BO (aa:=MN) (ab:=Hc) (fz:=[]) (im:=[(2,1),(8,1),(8,2)]) (fz2:=[]) (im2:=[(2,1),(8,1),(8,2)]) (kp:=Tf) (kp2:=Te) ho rfl hps rfl (by kernel_rfl) (by kernel_rfl) rfl rfl h
def kp235 (r:Nat):List Nat:=match r with
 |0=>[2,3,4]
 |1=>[2,3,4,5]
 |2=>[3,4,5,14]
 |8=>[4,5,34,35,36]
 |9=>[4,5,34,35,36,37]
 |10=>[4,5,11,34,35,36]
 |11=>[4,5,34,35,36]
 |12=>[4,5,34,35,36]
 |13=>[4]
 |_=>[]
noncomputable def c235:ACode:=
(sq (.reg 3 [⟨some 2,none,.box 0 5 (tm 0)⟩,⟨some 3,none,.box 1 1 (tm 1)⟩,ov 4 (.mv (.c zs))] [2,3,4]) (sq (.reg 3 [⟨some 12,none,.ext (.mkm
 0) []⟩,⟨some 5,none,.alloc 1 [.nilmp]⟩,⟨none,none,.st 1 (tm 5) (tm 12)⟩] [2,3,4,5]) (sq (sq (rg [ov 13 (.ld 5 true (tm 2)),oe 14 233 [(tm
 13)]] [3,4,5,14]) (.block 0 (.rfun (tm 14) #[15,16] 48 FA FB))) (sq (sq (rg [ol 32 5,oe 33 259 [(tm 32)],oe 34 247 [(tm 33)],on 35
 34,oi 36 0] [4,5,34,35,36]) (.block 2 (.loop (sq (rg [ov 37 (.icmp .lss .i64 (tm 36) (tm 35))] [4,5,34,35,36,37]) (sq (.cond (tm 37) .skip
 (.exit 2)) (sq (.block 3 (sq (rg [oa 38 1 34 36,ol 39 38,om 11 39] [4,5,11,34,35,36]) (.reg 7 [om 40 4,ol 41 5,om 42 11,⟨some 43,none,
 .ext (.look (.int .i64) zs false) [(tm 41),(tm 42)]⟩,ov 44 (.bs 1 1 zs [(0,(tm 43))]),⟨some 45,none,.app 5 1 24 (tm 40) (tm 44) false⟩,om 4 45]
 [4,5,34,35,36]))) (rg [ov 46 (.arith .add .i64 (tm 36) (ci 1)),om 36 46] [4,5,34,35,36]))))))) (sq (rg [om 47 4,om 4 47] [4]) .ret)))))
theorem l235:AZ Tryz.prog 235:=mkL Tryz.f235
theorem a235:AOf Tryz.prog 235 c235 [.t 4]:=mkA (fn:=Tryz.f235) (c:=Tryz.f235.body.getD .skip) (fz:=[]) (im:=[(2,1),(8,1),(8,2)]) kp235 (by kernel_rfl) (by kernel_rfl) (by kernel_rfl) (by kernel_rfl) (by kernel_rfl)
def c236:Ke Tryz.prog Tryz.f236 [[1],[2,3]]:=by
 constructor;conv=>lhs;reduce;simp only[seval]
theorem a236:AOf Tryz.prog 236 c236.1 [.t 2,.t 3]:=mkB
def c237:Ke Tryz.prog Tryz.f237 [[1],[2,3]]:=by
 constructor;conv=>lhs;reduce;simp only[seval]
theorem a237:AOf Tryz.prog 237 c237.1 [.t 2,.t 3]:=mkB
def c238:Kc Tryz.prog Tryz.f238 [] [(5,1)] [[1],[1,8],[2],[1,15],[2],[1,3],[3,20,21,22],[3,20,21,22,23],[3,5,20,21,22],[3,5,20,21,22,36],[3,20,21,22],[3,20,21,22],[2]]:=by
 constructor;conv=>lhs;reduce;simp only[seval]
theorem a238:AOf Tryz.prog 238 c238.1 [.t 2]:=mkB
def c260:Ke Tryz.prog Tryz.f260 [[1],[2,3]]:=by
 constructor;conv=>lhs;reduce;simp only[seval]
theorem a260:AOf Tryz.prog 260 c260.1 [.t 2,.t 3]:=mkB
def c261:Ke Tryz.prog Tryz.f261 [[1],[2,3]]:=by
 constructor;conv=>lhs;reduce;simp only[seval]
theorem a261:AOf Tryz.prog 261 c261.1 [.t 2,.t 3]:=mkB
def c262:Ke Tryz.prog Tryz.f262 [[1,2],[3,4]]:=by
 constructor;conv=>lhs;reduce;simp only[seval]
theorem a262:AOf Tryz.prog 262 c262.1 [.t 3,.t 4]:=mkB
def c165:Kc Tryz.prog Tryz.f165 [(24,4),(25,1010)] [(24,1),(25,1)] [[1,2,4],[1,2,4,5,6],[1,2,4,5,6,23],[4,5],[2,4,6,25],[4,5],[2,4,6,25,26],[4,30,31],[4,30,31,32],[4,7,30,31],[4,30,31],[4,30,31],[2,4,6,25,40],[4],[2,4,6,25,44],[4],[2,4,6,25,48],[4],[2,4,6,25,52],[4],[2,4,6,25,55],[4,57,58,59],[4,57,58,59,60],[4,8,9,57,58,59],[4,10,57,58,59],[4,10,57,58,59],[4,57,58,59],[4,57,58,59],[2,4,6,25,76],[4,78,79,80],[4,78,79,80,81],[4,11,12,78,79,80],[4,11,78,79,80,85,86,87],[4,11,78,79,80,85,86,87,88],[4,11,14,78,79,80,85,86,87],[4,11,14,78,79,80,85,86,87,93],[4,11,78,79,80,85,86,87],[4,11,78,79,80,85,86,87],[4,78,79,80],[2,102],[2,15],[15,106,107],[15,106,107,108],[15,16,106,107],[15,106,107],[15,106,107],[4],[4,5]]:=by
 constructor;conv=>lhs;reduce;simp only[seval]
theorem a165:AOf Tryz.prog 165 c165.1 [.t 4,.t 5]:=mkB
def c259:Ke Tryz.prog Tryz.f259 [[1],[2]]:=by
 constructor;conv=>lhs;reduce;simp only[seval]
theorem a259:AOf Tryz.prog 259 c259.1 [.t 2]:=mkB
def c279:Kc Tryz.prog Tryz.f279 [] [(3,2)] [[0,5],[0,5,7],[0,3,5],[0,5,13]]:=by
 constructor;conv=>lhs;reduce;simp only[seval]
theorem a279:AOf Tryz.prog 279 c279.1 []:=mkB
def c123:Ke Tryz.prog Tryz.f123 [[0,1],[4]]:=by
 constructor;conv=>lhs;reduce;simp only[seval]
theorem a123:AOf Tryz.prog 123 c123.1 [.t 4]:=mkB
def c124:Ke Tryz.prog Tryz.f124 [[0,1,2],[0,1,2,14],[6],[1,2,15,16,17],[1,2,15,16,17,18],[1,2,7,8,15,16,17],[1,2,8,9,15,16,17],[1,2,15,16,17,30],[6],[1,2,15,16,17],[6]]:=by
 constructor;conv=>lhs;reduce;simp only[seval]
theorem a124:AOf Tryz.prog 124 c124.1 [.t 6]:=mkB
def c86:Ke Tryz.prog Tryz.f86 [[2,3],[2,3,5],[4]]:=by
 constructor;conv=>lhs;reduce;simp only[seval]
theorem a86:AOf Tryz.prog 86 c86.1 [.t 4]:=mkB
def c117:Ke Tryz.prog Tryz.f117 [[0],[2],[2]]:=by
 constructor;conv=>lhs;reduce;simp only[seval]
theorem a117:AOf Tryz.prog 117 c117.1 [.t 2]:=mkB
def c118:Ke Tryz.prog Tryz.f118 [[0],[2]]:=by
 constructor;conv=>lhs;reduce;simp only[seval]
theorem a118:AOf Tryz.prog 118 c118.1 [.t 2]:=mkB
def c119:Ke Tryz.prog Tryz.f119 [[0],[0,2],[0,2,36],[2],[2]]:=by
 constructor;conv=>lhs;reduce;simp only[seval]
theorem a119:AOf Tryz.prog 119 c119.1 [.t 2]:=mkB
def c120:Ke Tryz.prog Tryz.f120 [[0],[0,10],[0,10,11],[0,3,10],[0,4,5,10],[0,4,5,10,24],[2],[0,10],[0,10],[0,44,45,46],[0,44,45,46,47],[0,7,44,45,46],[0,8,9,44,45,46],[0,8,9,44,45,46,62],[2],[0,44,45,46],[0,44,45,46],[2]]:=by
 constructor;conv=>lhs;reduce;simp only[seval]
theorem a120:AOf Tryz.prog 120 c120.1 [.t 2]:=mkB
def c85:Kc Tryz.prog Tryz.f85 [] [(6,1)] [[1,2],[1,2,4],[2,4],[2,4,15,16,17],[2,4,15,16,17,18],[2,4,6,15,16,17],[2,4,7,15,16,17],[2,4,7,15,16,17,24],[2,3],[2,4,15,16,17],[2,3]]:=by
 constructor;conv=>lhs;reduce;simp only[seval]
theorem a85:AOf Tryz.prog 85 c85.1 [.c 2 17 true,.t 3]:=mkB
def c50:Ke Tryz.prog Tryz.f50 [[1],[1,3,4],[18],[2],[2]]:=by
 constructor;conv=>lhs;reduce;simp only[seval]
theorem a50:AOf Tryz.prog 50 c50.1 [.t 2]:=mkB
end Go.AM
namespace Go.AM
open Go.Proofs
def cm39:Kc Tryz.prog Tryz.f39 [(3,2)] [] [[0],[0,4],[2],[2]]:=by
 constructor;conv=>lhs;reduce;simp only[seval]
theorem am39:AOf Tryz.prog 39 cm39.1 [.t 2]:=mkB
end Go.AM
