/-
  Parts of the proof. Conditions: none.
-/
import Derived.Test.YtncahiacfdihpaaGreatDoorProg
import Derived.Test.YtncahiacfdihpaaGreatDoorB5
set_option maxRecDepth 20000
set_option linter.all false
namespace Go.AM
open Go.Proofs Go.Proofs.Tryz
def c34:Kg prog 34 f34 [[2,3],[4]] [.t 4]:={}
def c60:Kf prog 60 f60 [] [(3,1)] [[1,2,3],[1,2,3,4],[4],[]] []:={}
def c61:Kf prog 61 f61 [(6,9),(700004,600000)] [(2,3),(6,10)] [[0,1,2,3,4],[0,2,3,4,11],[6],[0,4,16,17],[0,4,16,17,18],[0,4,7,16,17],[0,4,16,17,32],[6],[0,4,16,17],[6]] [.t 6]:={}
def c45:Kg prog 45 f45 [[2,3],[3,5],[3,5,9],[4],[4]] [.t 4]:={}
def c11:Kf prog 11 f11 [] [(6,5),(6,6)] [[1,2],[1,2,5],[1,2,5,9],[4,5],[1,2,16],[4,5],[4,5]] [.t 4,.t 5]:={}
def c109:Kg prog 109 f109 [[1,2],[1,2,10,11,12],[1,2,10,11,12,13],[1,2,5,6,10,11,12],[1,2,6,10,11,12,21,22,23],[1,2,6,10,11,12,21,22,23,24],[1,2,6,8,10,11,12,21,22,23],[1,2,6,10,11,12,21,22,23,38],[4],[1,2,6,10,11,12,21,22,23],[1,2,10,11,12],[4]] [.t 4]:={}
def c111:Kg prog 111 f111 [[1,2,3,4],[1,2,3,4,8,9,10],[1,2,3,4,8,9,10,11],[1,2,3,4,6,8,9,10],[1,2,3,4,8,9,10],[1,2,3,4,6,8,9,10,16],[1,2,3,4,8,9,10],[1,2,3,4,8,9,10,21],[1,2,3,4,8,9,10],[1,2,3,4,8,9,10],[2,3,4]] [.t 2,.t 3,.t 4]:={}
def c70:Kg prog 70 f70 [[1],[2]] [.t 2]:={}
def c110:Kg prog 110 f110 [[0,1],[4]] [.t 4]:={}
def c71:Kg prog 71 f71 [[1],[3,5],[2]] [.t 2]:={}
def c72:Kg prog 72 f72 [[1],[2]] [.t 2]:={}
def c112:Kg prog 112 f112 [[0,1,2],[2,6],[5]] [.t 5]:={}
def c73:Kg prog 73 f73 [[1],[2]] [.t 2]:={}
def c113:Kg prog 113 f113 [[0,1,2],[5]] [.t 5]:={}
def c74:Kg prog 74 f74 [[],[2]] [.t 2]:={}
def c75:Kg prog 75 f75 [[1],[1,3,4],[2]] [.t 2]:={}
def c41:Kg prog 41 f41 [[2,3,4,5],[2,3,4,5,9],[2,3,5,9,10],[2,3,5,9,10,21,22,23],[2,3,5,9,10,21,22,23,24],[2,3,5,9,10,12,21,22,23],[2,3,5,9,10,21,22,23],[2,3,5,9,10,21,22,23],[2,5,9,10,38,39,40],[2,5,9,10,38,39,40,41],[2,5,9,10,14,38,39,40],[2,5,9,10,38,39,40],[2,5,9,10,38,39,40],[8]] [.t 8]:={}
def c76:Kg prog 76 f76 [[0,1],[3]] [.t 3]:={}
def c40:Kg prog 40 f40 [[1,2,3,6],[1,2,3,6,7],[6]] [.c 6 8 true]:={c:=by constructor;conv=>lhs;reduce;simp only[u8n,UInt8.reduceOfNat,Int.reduceOfNat]}
def c13:Kg prog 13 f13 [[2,3,4,5],[2,3,4,5,9],[2,3,4,5,9,16],[8,9],[2,3,4,5,10],[2,3,4,5,10,39],[8,9],[2,3,4,5,10,40,41,42],[2,3,4,5,10,40,41,42,43],[2,3,4,5,10,11,12,40,41,42],[2,3,4,5,10,40,41,42,60],[8,9],[2,3,4,5,10,40,41,42],[2,3,4,5,64],[8,9],[2,3,4,5,9],[2,3,4,5,9,73],[8,9],[8,9]] [.t 8,.t 9]:={}
def c38:Kg prog 38 f38 [[0,1],[3]] [.t 3]:={}
def c37:Kg prog 37 f37 [[0,1],[4]] [.t 4]:={}
def c65:Kg prog 65 f65 [[0,1],[0,1,7,8],[0,1,7,8,9],[0,1,5,7,8],[0,1,5,7,8,16],[4],[0,1,7,8],[4]] [.t 4]:={}
def c36:Kg prog 36 f36 [[0,1],[4]] [.t 4]:={}
def c81:Kg prog 81 f81 [[0,1,4],[0,1,4,14,15,16],[0,1,4,14,15,16,17],[0,1,4,7,14,15,16],[0,1,4,7,14,15,16,23],[0,4,25,26,27],[0,4,25,26,27,28],[0,4,9,25,26,27],[0,4,25,26,27],[0,4,25,26,27],[4,5],[0,1,4,14,15,16],[4,5]] [.t 4,.t 5]:={}
def c50:Kg prog 50 f50 [[0,1,2],[0,1,2,7],[0,1,2,7,30],[6],[0,1,2,7,33],[6],[0,2,8],[2,8,9],[6]] [.t 6]:={}
def c46:Kf prog 46 f46 [] [(17,1),(19,2)] [[0,1],[0,1,15],[4],[0,1,5],[0,1,5],[0,1,5,31],[4],[0,1,5,31,32],[4],[0,1,5,39],[0,1,5,58],[4],[0,1,5,6,7],[0,1,5,6,7,72,73],[0,1,5,6,7,72,73,74],[0,1,5,6,7,8,72,73],[0,1,5,6,7,8,72,73,82],[0,1,5,6,7,8,9,72,73],[0,1,5,6,7,9,72,73],[0,1,5,6,7,72,73,93],[4],[0,1,5,6,7,72,73],[4]] [.t 4]:={}
noncomputable def Im:Code:=((rfs (f18.body.getD .skip))[0]?.getD (#[],.skip,.skip)).2.1
noncomputable def Iq:Code:=((rfs (f18.body.getD .skip))[0]?.getD (#[],.skip,.skip)).2.2
def WC(r:Nat):List Nat:=match r with
 |7=>[3,4,5,6,7,8,9,31]
 |8=>[]
 |9=>[3,4,5,6,7,8,9,10]
 |10=>[3,4,5,6,7,8,9,10]
 |11=>[6,7,8,10,11]
 |12=>[6,7,8,67]
 |13=>[]
 |14=>[]
 |_=>[]
def NH:Zd:=
 (.block 1
  (.seq
  (.seq
   (.reg 0 [
    ⟨some 27,none,.v (.ld 1 false (.t 8))⟩,
    ⟨some 28,none,.v (.fa 0 (.t 5))⟩,
    ⟨some 29,none,.v (.ld 1 false (.t 28))⟩,
    ⟨some 30,none,.v (.len (.t 29))⟩,
    ⟨some 31,none,.v (.icmp .eql .i64 (.t 27) (.t 30))⟩] [3,4,5,6,7,8,9,31])
   (.cond (.t 31)
   (.seq
    (.reg 0 [
     ⟨none,none,.st 1 (.t 6) (.c (.bool false))⟩,
     ⟨none,none,.st 1 (.t 7) (.c (.int .i64 0))⟩] [])
    .ret)
   .skip))
  (.seq
   (.reg 6 [
    ⟨some 32,none,.ext (.bsm 0 1 4 (.int .i64 0) [0,1,2,3]) [(.c (.int .i64 (-1))),(.c (.int .i64 (-1))),(.c (.int .i64 (-1))),(.c (.int .i64 (-1)))]⟩,
    ⟨some 33,none,.v (.fa 2 (.t 4))⟩,
    ⟨some 34,none,.v (.ld 1 false (.t 33))⟩,
    ⟨some 35,none,.v (.len (.t 34))⟩,
    ⟨some 36,none,.v (.sl 1 (.t 32) none (some (.t 35)) none)⟩,
    ⟨some 10,none,.v (.mv (.t 36))⟩] [3,4,5,6,7,8,9,10])
   (.seq
   (.reg 0 [
    ⟨some 37,none,.v (.mv (.t 10))⟩,
    ⟨some 38,none,.v (.fa 6 (.t 4))⟩,
    ⟨some 39,none,.v (.ld 1 false (.t 38))⟩,
    ⟨some 40,none,.v (.mv (.t 9))⟩,
    ⟨some 41,none,.v (.fa 7 (.t 4))⟩,
    ⟨some 42,none,.v (.ld 1 false (.t 41))⟩,
    ⟨some 43,none,.v (.ia 1 (.t 40) (.t 42))⟩,
    ⟨some 44,none,.v (.ld 1 false (.t 43))⟩,
    ⟨some 45,none,.v (.ia 1 (.t 37) (.t 39))⟩,
    ⟨none,none,.st 1 (.t 45) (.t 44)⟩] [3,4,5,6,7,8,9,10])
   (.seq
    (.reg 11 [
     ⟨some 46,none,.v (.ld 17 true (.t 3))⟩,
     ⟨some 47,none,.v (.ld 8 true (.t 4))⟩,
     ⟨some 48,none,.v (.mv (.t 9))⟩,
     ⟨some 49,none,.v (.fa 0 (.t 5))⟩,
     ⟨some 50,none,.v (.ld 1 false (.t 49))⟩,
     ⟨some 51,none,.v (.ld 1 false (.t 8))⟩,
     ⟨some 52,none,.v (.ia 1 (.t 50) (.t 51))⟩,
     ⟨some 53,none,.v (.ld 1 false (.t 52))⟩,
     ⟨some 54,none,.v (.build [(.str []),(.int .i64 0),(.int .i64 0),(.int .i64 0),(.int .i64 0),(.sl .nil []),(.sl .nil []),(.sl .nil []),(.sl .nil []),(.sl .nil []),(.int .i64 0),(.int .i64 0),(.int .i64 0),(.sl .nil []),(.sl .nil []),(.sl .nil []),(.sl .nil []),(.str []),(.int .i64 0),(.sl .nil []),(.sl .nil []),(.sl .nil []),(.sl .nil []),(.int .i64 0),(.int .i64 0),(.sl .nil []),(.sl .nil [])] [(0,17,(.t 46)),(17,8,(.t 47)),(25,1,(.t 48)),(26,1,(.t 53))])⟩,
     ⟨some 55,none,.box 9 27 (.t 54)⟩,
     ⟨some 11,none,.v (.mv (.t 55))⟩] [6,7,8,10,11])
    (.seq
    (.seq
     (.reg 0 [
      ⟨some 56,none,.v (.mv (.t 11))⟩,
      ⟨some 57,none,.v (.mv (.t 10))⟩,
      ⟨some 58,none,.call false (.c (.fn (.func 46) [] [])) [(.t 56),(.t 57)]⟩,
      ⟨some 59,none,.v (.not (.t 58))⟩,
      ⟨some 60,none,.v (.mv (.t 59))⟩,
      ⟨some 61,some (60,false),.v (.mv (.t 11))⟩,
      ⟨some 62,some (60,false),.v (.nilc (.t 61))⟩,
      ⟨some 63,some (60,false),.v (.fa 26 (.t 62))⟩,
      ⟨some 64,some (60,false),.v (.ld 1 false (.t 63))⟩,
      ⟨some 65,some (60,false),.v (.len (.t 64))⟩,
      ⟨some 66,some (60,false),.v (.icmp .gtr .i64 (.t 65) (.c (.int .i64 0)))⟩,
      ⟨some 67,none,.pick (.t 60) (.c (.bool true)) (.t 66)⟩] [6,7,8,67])
     (.cond (.t 67)
     (.seq
      (.reg 0 [
       ⟨none,none,.st 1 (.t 6) (.c (.bool false))⟩,
       ⟨none,none,.st 1 (.t 7) (.c (.int .i64 0))⟩] [])
      .ret)
     .skip))
    (.reg 0 [
     ⟨some 68,none,.v (.ld 1 false (.t 8))⟩,
     ⟨some 69,none,.v (.arith .add .i64 (.t 68) (.c (.int .i64 1)))⟩,
     ⟨none,none,.st 1 (.t 8) (.t 69)⟩] [])))))))
def WD(r:Nat):List Nat:=match r with
 |6=>[3,4,5,6,7,8,9]
 |_=>[]
def RA:Zd:=
 (.reg 0 [
  ⟨some 9,none,.v (.mv (.t 26))⟩] [3,4,5,6,7,8,9])
def y18_0{l id:Nat}{st:LoopState}{pend:Option Code}{env:List (Nat×Bool×Fs)}{args:List Fs}{H:AC}{n:Nat}{R:Bool->AC->Nat->Prop}(ho:hget H id=some (.lp ⟨l,st,pend,75,env, #[26],Im,Iq⟩))(hps:args.length=1)(h:awp prog RA (GJ prog id NH R) ⟨renv [26] args env,H,n⟩):Bw prog l args H n R:=
 Bj (aa:=RA) (ab:=NH) (fz:=[(9,0),(700007,300013),(700006,300012)]) (im:=[(12,2),(5,7)]) (fz2:=[(9,0),(700007,300013),(700006,300012)]) (im2:=[(12,2),(5,7)]) (kp:=WD) (kp2:=WC) ho rfl hps rfl (by kernel_rfl) (by kernel_rfl) rfl rfl h
def kp18(r:Nat):List Nat:=match r with
 |0=>[3,4,5,6,7]
 |1=>[3,4,5,6,7]
 |2=>[3,4,5,6,7,16]
 |3=>[6,7]
 |4=>[3,4,5,6,7,8]
 |5=>[3,4,5,6,7,8,25]
 |15=>[6,7]
 |_=>[]
noncomputable def c18:Zd:=
(sq (.reg 5 [⟨some 3,none,.box 0 17 (tm 0)⟩,⟨some 4,none,.box 1 8 (tm 1)⟩,⟨some 5,none,.box 2 1 (tm 2)⟩,⟨some 6,none,.alloc 3 [zb]⟩,⟨some
 7,none,.alloc 4 [z0]⟩] [3,4,5,6,7]) (sq (sq (rg [ov 12 (.ld 17 true (tm 3)),ov 13 (.ld 8 true (tm 4)),oc 14 45 [(tm 12),(tm 13)],⟨none,
 none,.st 1 (tm 7) (tm 14)⟩] [3,4,5,6,7]) (sq (rg [ol 15 7,ov 16 (.icmp .neq .i64 (tm 15) (ci 0))] [3,4,5,6,7,16]) (.cond (tm 16) (sq
 (.regx 0 [(300016,ol 17 7),(300015,⟨none,none,.st 1 (tm 6) cF⟩),(300016,⟨none,none,.st 1 (tm 7) (tm 17)⟩)] [6,7]) .ret) .skip))) (sq (.reg
 2 [⟨some 8,none,.alloc 0 [z0]⟩,⟨none,none,.st 1 (tm 8) (ci 0)⟩] [3,4,5,6,7,8]) (sq (sq (rg [of 18 0 3,of 19 6 18,ol 20 19,on 21 20,of
 22 3 4,ol 23 22,on 24 23,oe 25 34 [(tm 21),(tm 24)]] [3,4,5,6,7,8,25]) (.block 0 (.rfun (tm 25) #[26] 75 Im Iq))) (sq (rg [ol 70 8,
 of 71 0 5,ol 72 71,on 73 72,ov 74 (.icmp .eql .i64 (tm 70) (tm 73)),⟨none,none,.st 1 (tm 6) (tm 74)⟩,⟨none,none,.st 1 (tm 7) (ci 0)⟩] [6,7])
 .ret)))))
def a18:AOf prog 18 c18 [.c 6 1 false,.c 7 1 false]:=mkA (fn:=f18) (c:=f18.body.getD .skip) (fz:=[(9,0),(700007,300013),(700006,300012)]) (im:=[(12,2),(5,7)]) kp18
noncomputable def Kt:Code:=((rfs (f20.body.getD .skip))[0]?.getD (#[],.skip,.skip)).2.1
noncomputable def Ku:Code:=((rfs (f20.body.getD .skip))[0]?.getD (#[],.skip,.skip)).2.2
def WE(r:Nat):List Nat:=match r with
 |6=>[2,3,4,5,6,7]
 |7=>[2,3,4,5,6,7,8]
 |8=>[2,3,4,5,7,8]
 |9=>[2,3,4,5,7,8,9]
 |10=>[4,5,9]
 |11=>[4,5,46]
 |12=>[]
 |_=>[]
def RB:Zd:=
 (.block 1
  (.seq
  (.reg 7 [
   ⟨some 25,none,.v (.ld 17 true (.t 2))⟩,
   ⟨some 26,none,.v (.ld 8 true (.t 3))⟩,
   ⟨some 27,none,.v (.mv (.t 6))⟩,
   ⟨some 28,none,.v (.build [(.str []),(.int .i64 0),(.int .i64 0),(.int .i64 0),(.int .i64 0),(.sl .nil []),(.sl .nil []),(.sl .nil []),(.sl .nil []),(.sl .nil []),(.int .i64 0),(.int .i64 0),(.int .i64 0),(.sl .nil []),(.sl .nil []),(.sl .nil []),(.sl .nil []),(.str []),(.int .i64 0),(.sl .nil []),(.sl .nil []),(.sl .nil []),(.sl .nil []),(.int .i64 0),(.int .i64 0),(.sl .nil []),(.sl .nil [])] [(0,17,(.t 25)),(17,8,(.t 26)),(25,1,(.t 27))])⟩,
   ⟨some 29,none,.box 4 27 (.t 28)⟩,
   ⟨some 7,none,.alloc 5 [.nilp]⟩,
   ⟨none,none,.st 1 (.t 7) (.t 29)⟩] [2,3,4,5,6,7])
  (.seq
   (.reg 7 [
    ⟨some 30,none,.ext (.bsm 0 1 4 (.int .i64 0) [0,1,2,3]) [(.c (.int .i64 (-1))),(.c (.int .i64 (-1))),(.c (.int .i64 (-1))),(.c (.int .i64 (-1)))]⟩,
    ⟨some 31,none,.v (.fa 2 (.t 3))⟩,
    ⟨some 32,none,.v (.ld 1 false (.t 31))⟩,
    ⟨some 33,none,.v (.len (.t 32))⟩,
    ⟨some 34,none,.v (.sl 1 (.t 30) none (some (.t 33)) none)⟩,
    ⟨some 8,none,.alloc 5 [(.sl .nil [])]⟩,
    ⟨none,none,.st 1 (.t 8) (.t 34)⟩] [2,3,4,5,6,7,8])
   (.seq
   (.reg 0 [
    ⟨some 35,none,.v (.ld 1 false (.t 8))⟩,
    ⟨some 36,none,.v (.fa 6 (.t 3))⟩,
    ⟨some 37,none,.v (.ld 1 false (.t 36))⟩,
    ⟨some 38,none,.v (.mv (.t 6))⟩,
    ⟨some 39,none,.v (.fa 7 (.t 3))⟩,
    ⟨some 40,none,.v (.ld 1 false (.t 39))⟩,
    ⟨some 41,none,.v (.ia 1 (.t 38) (.t 40))⟩,
    ⟨some 42,none,.v (.ld 1 false (.t 41))⟩,
    ⟨some 43,none,.v (.ia 1 (.t 35) (.t 37))⟩,
    ⟨none,none,.st 1 (.t 43) (.t 42)⟩] [2,3,4,5,7,8])
   (.seq
    (.reg 1 [
     ⟨some 9,none,.alloc 0 [.nilfn]⟩] [2,3,4,5,7,8,9])
    (.seq
    (.reg 0 [
     ⟨some 44,none,.v (.fn (.func 49) [] [(.t 3),(.t 7),(.t 8),(.t 9),(.t 2)])⟩,
     ⟨none,none,.st 1 (.t 9) (.t 44)⟩] [4,5,9])
    (.seq
     (.reg 0 [
      ⟨some 45,none,.v (.ld 1 false (.t 9))⟩,
      ⟨some 46,none,.call false (.t 45) [(.c (.int .i64 0))]⟩] [4,5,46])
     (.cond (.t 46)
     (.seq
      (.reg 0 [
       ⟨none,none,.st 1 (.t 4) (.c (.bool false))⟩,
       ⟨none,none,.st 1 (.t 5) (.c (.int .i64 0))⟩] [])
      .ret)
     .skip))))))))
def WF(r:Nat):List Nat:=match r with
 |5=>[2,3,4,5,6]
 |_=>[]
def RD:Zd:=
 (.reg 0 [
  ⟨some 6,none,.v (.mv (.t 24))⟩] [2,3,4,5,6])
def y20_0{l id:Nat}{st:LoopState}{pend:Option Code}{env:List (Nat×Bool×Fs)}{args:List Fs}{H:AC}{n:Nat}{R:Bool->AC->Nat->Prop}(ho:hget H id=some (.lp ⟨l,st,pend,47,env, #[24],Kt,Ku⟩))(hps:args.length=1)(h:awp prog RD (GJ prog id RB R) ⟨renv [24] args env,H,n⟩):Bw prog l args H n R:=
 Bj (aa:=RD) (ab:=RB) (fz:=[(7,0),(700005,300009),(700004,300008)]) (im:=[(11,1),(4,7)]) (fz2:=[(7,0),(700005,300009),(700004,300008)]) (im2:=[(11,1),(4,7)]) (kp:=WF) (kp2:=WE) ho rfl hps rfl (by kernel_rfl) (by kernel_rfl) rfl rfl h
def kp20(r:Nat):List Nat:=match r with
 |0=>[2,3,4,5]
 |1=>[2,3,4,5]
 |2=>[2,3,4,5,14]
 |3=>[4,5]
 |4=>[2,3,4,5,23]
 |13=>[4,5]
 |_=>[]
noncomputable def c20:Zd:=
(sq (.reg 4 [⟨some 2,none,.box 0 17 (tm 0)⟩,⟨some 3,none,.box 1 8 (tm 1)⟩,⟨some 4,none,.alloc 2 [zb]⟩,⟨some 5,none,.alloc 3 [z0]⟩] [2,3,
 4,5]) (sq (sq (rg [ov 10 (.ld 17 true (tm 2)),ov 11 (.ld 8 true (tm 3)),oc 12 45 [(tm 10),(tm 11)],⟨none,none,.st 1 (tm 5) (tm 12)⟩] [2,3,4,
 5]) (sq (rg [ol 13 5,ov 14 (.icmp .neq .i64 (tm 13) (ci 0))] [2,3,4,5,14]) (.cond (tm 14) (sq (.regx 0 [(300012,ol 15 5),(300011,⟨none,
 none,.st 1 (tm 4) cF⟩),(300012,⟨none,none,.st 1 (tm 5) (tm 15)⟩)] [4,5]) .ret) .skip))) (sq (sq (rg [of 16 0 2,of 17 6 16,ol 18 17,on 19 18,
 of 20 3 3,ol 21 20,on 22 21,oe 23 34 [(tm 19),(tm 22)]] [2,3,4,5,23]) (.block 0 (.rfun (tm 23) #[24] 47 Kt Ku))) (sq (rg [⟨none,
 none,.st 1 (tm 4) cT⟩,⟨none,none,.st 1 (tm 5) (ci 0)⟩] [4,5]) .ret))))
def a20:AOf prog 20 c20 [.c 4 1 false,.c 5 1 false]:=mkA (fn:=f20) (c:=f20.body.getD .skip) (fz:=[(7,0),(700005,300009),(700004,300008)]) (im:=[(11,1),(4,7)]) kp20
def c49:Kf prog 49 f49 [] [(10,3),(15,3)] [[0,1,2,3,4,5],[0,1,2,3,4,5,16,17],[0,1,2,3,4,5,16,17,18],[0,1,2,3,4,5,8,16,17],[0,1,2,3,4,5,16,17,23],[7],[0,1,2,3,4,5,16,17],[0,1,3,4,5,28],[7],[0,3,4,5,32],[7],[0,3,4,40,41],[0,3,4,40,41,42],[0,3,4,9,40,41],[0,3,4,40,41],[0,3,4,40,41,51],[7],[0,3,4,40,41],[],[7]] [.t 7]:={}
def c33:Kf prog 33 f33 [] [(1,1)] [[0],[2]] [.t 2]:={}
noncomputable def GL:Code:=((rfs (f59.body.getD .skip))[0]?.getD (#[],.skip,.skip)).2.1
noncomputable def GM:Code:=((rfs (f59.body.getD .skip))[0]?.getD (#[],.skip,.skip)).2.2
def WG(r:Nat):List Nat:=match r with
 |3=>[]
 |_=>[]
def RE:Zd:=
 (.block 1
  (.reg 5 [
   ⟨some 8,none,.v (.ld 1 false (.t 2))⟩,
   ⟨some 9,none,.v (.mv (.t 5))⟩,
   ⟨some 10,none,.v (.bs 1 1 (.sl .nil []) [(0,(.t 9))])⟩,
   ⟨some 11,none,.app 3 1 24 (.t 8) (.t 10) false⟩,
   ⟨none,none,.st 1 (.t 2) (.t 11)⟩] []))
def WH(r:Nat):List Nat:=match r with
 |2=>[2,5]
 |_=>[]
def RF:Zd:=
 (.reg 0 [
  ⟨some 5,none,.v (.mv (.t 7))⟩] [2,5])
def y59_0{l id:Nat}{st:LoopState}{pend:Option Code}{env:List (Nat×Bool×Fs)}{args:List Fs}{H:AC}{n:Nat}{R:Bool->AC->Nat->Prop}(ho:hget H id=some (.lp ⟨l,st,pend,13,env, #[7],GL,GM⟩))(hps:args.length=1)(h:awp prog RF (GJ prog id RE R) ⟨renv [7] args env,H,n⟩):Bw prog l args H n R:=
 Bj (aa:=RF) (ab:=RE) (fz:=[]) (im:=[]) (fz2:=[]) (im2:=[]) (kp:=WH) (kp2:=WG) ho rfl hps rfl (by kernel_rfl) (by kernel_rfl) rfl rfl h
def kp59(r:Nat):List Nat:=match r with
 |0=>[1,2,4]
 |1=>[2,4,6]
 |4=>[4]
 |_=>[]
noncomputable def c59:Zd:=
(sq (.reg 2 [⟨some 2,none,.box 0 1 (tm 0)⟩,ov 4 (.mv (.c zs))] [1,2,4]) (sq (sq (rg [om 6 1] [2,4,6]) (.block 0 (.rfun (tm 6) #[7] 13 GL
 GM))) (sq (rg [ol 12 2,om 4 12] [4]) .ret)))
def a59:AOf prog 59 c59 [.t 4]:=mkA (fn:=f59) (c:=f59.body.getD .skip) (fz:=[]) (im:=[]) kp59
def c88:Kg prog 88 f88 [[1],[1,10],[2,3],[1,4],[1,4,5],[1,4,5,15],[1,4,5],[1,4,5,6],[1,4,5,6,7],[1,4,5,6,7,22],[1,4,5,6,7],[1,4,5,6,7,28],[1,4,5,6,7],[1,4,5],[2,3]] [.t 2,.t 3]:={}
def c89:Kg prog 89 f89 [[1,2],[1,2,6,7],[1,2,6,7,20],[4,5],[1,2,6,27],[4,5],[1,2,6,8],[1,2,6,8,9],[1,2,6,8,9,10],[1,2,6,8,9,10,32],[1,2,6,8,9,10],[1,2,6,8,9,10],[1,2,6,8,9,10,39],[1,2,6,8,9,10,39,40],[1,2,6,8,9,10],[1,2,6,8,9,10,39,47],[1,2,6,8,9,10,11],[1,2,6,8,9,10,11,12],[1,2,6,8,9,10,11,12,53],[1,2,6,8,9,10,11,12],[1,2,6,8,9,10,11,12,66],[1,2,6,8,9,10,11,12],[1,2,6,8,9,10],[1,2,6,8,9,10,75],[1,2,6,8,9,10,13],[1,2,6,8,9,10,13,83],[1,2,6,8,9,10,13],[1,2,6,8,9,10,13,94],[1,2,6,8,9,10,13],[1,2,6,8,9,107],[1,2,6,8,9,107,108],[1,2,6,8,9,107,108],[8],[1,2,6,8,9,107,114],[1,2,118],[8],[8],[6,8,9,107,124],[8],[8,9,127],[8],[4,5]] [.t 4,.t 5]:={}
def c91:Kg prog 91 f91 [[0,1],[0,1,10],[4],[0,1,5],[0,1,5,14],[0,1,5],[0,1,5,26],[4],[4]] [.t 4]:={}
def c93:Kg prog 93 f93 [[2,3],[4]] [.t 4]:={}
def c126:Kg prog 126 f126 [[1,2,3],[1,2,3,7],[1,2,3,7,8],[1,2,3,7,8,26],[6],[8,9],[6]] [.t 6]:={}
def c127:Kg prog 127 f127 [[1,2],[1,2,5],[1,2,5,6],[1,2,5,6,10],[1,2,5,6],[1,2,5,6,7],[1,2,5,6,7,8],[1,2,5,6,7,8,17],[1,2,5,6,7,8],[1,2,5,6,7,8,25],[1,2,5,6,7,8],[1,2,5,6,7,32],[1,2,5,6],[4]] [.t 4]:={}
def c128:Kg prog 128 f128 [[1],[1,3],[1,3,4],[1,3,4,17],[1,3,4],[1,3,4,5],[1,3,4,5,6],[1,3,4,5,6,24],[1,3,4,5,6],[1,3,4,5,6,7],[1,3,4,5,6,7,8],[1,3,4,5,6,52],[1,3,4,5,6],[1,3,4,5,72],[1,3,4],[2]] [.t 2]:={}
def c169:Kg prog 169 f169 [[1,2],[4]] [.t 4]:={}
def c170:Kg prog 170 f170 [[1,2],[4]] [.t 4]:={}
def c171:Kg prog 171 f171 [[1,2],[1,2,5],[4]] [.t 4]:={}
def c172:Kg prog 172 f172 [[1,2,3],[1,2,3,8],[6],[1,2,3,14],[6],[2,3,19],[6],[6]] [.t 6]:={}
def kp92(r:Nat):List Nat:=match r with
 |0=>[2,3]
 |1=>[2,3,85]
 |2=>[4]
 |3=>[2,3,5]
 |4=>[2,3,5,90]
 |6=>[2,3,5,103]
 |7=>[4]
 |5=>[2,3,5]
 |8=>[2,3,6]
 |9=>[2,3,6,108]
 |11=>[2,3,6,122]
 |12=>[4]
 |10=>[2,3,6]
 |13=>[2,3,7]
 |14=>[2,3,7,127]
 |16=>[2,3,7,140]
 |17=>[4]
 |15=>[2,3,7]
 |18=>[2,3,8]
 |19=>[2,3,8,145]
 |21=>[2,3,8,159]
 |22=>[4]
 |20=>[2,3,8]
 |23=>[4]
 |_=>[]
def c92:Zd:=
(sq (.reg 3 [⟨some 2,none,.box 0 10 (tm 0)⟩,⟨some 3,none,.box 1 10 (tm 1)⟩,ob 4 false] [2,3]) (sq (sq (rg [of 9 0 2,ol 10 9,of 11 0 3,ol 12
 11,ov 13 (.scmp .neq (tm 10) (tm 12)),om 14 13,gf 15 14 false 1 2,gl 16 14 false 15,gf 17 14 false 1 3,gl 18 14 false 17,gv 19 14 false (.icmp
 .neq .i64 (tm 16) (tm 18)),oz 20 14 19,om 21 20,gf 22 21 false 2 2,gl 23 21 false 22,gf 24 21 false 2 3,gl 25 21 false 24,gv 26 21 false (.icmp
 .neq .i64 (tm 23) (tm 25)),oz 27 21 26,om 28 27,gf 29 28 false 3 2,gl 30 28 false 29,gf 31 28 false 3 3,gl 32 28 false 31,gv 33 28 false (.icmp
 .neq .i64 (tm 30) (tm 32)),oz 34 28 33,om 35 34,gf 36 35 false 4 2,gl 37 35 false 36,gf 38 35 false 4 3,gl 39 35 false 38,gv 40 35 false (.icmp
 .neq .i64 (tm 37) (tm 39)),oz 41 35 40,om 42 41,gf 43 42 false 5 2,gl 44 42 false 43,gf 45 42 false 5 3,gl 46 42 false 45,⟨some 47,some (42,
 false),.call true (.c (.fn (.func 131) [] [])) [(tm 44),(tm 46)]⟩,gv 48 42 false (.not (tm 47)),oz 49 42 48,om 50 49,gf 51 50 false 6 2,gl 52
 50 false 51,gv 53 50 false (.len (tm 52)),gf 54 50 false 6 3,gl 55 50 false 54,gv 56 50 false (.len (tm 55)),gv 57 50 false (.icmp .neq .i64 (tm
 53) (tm 56)),oz 58 50 57,om 59 58,gf 60 59 false 7 2,gl 61 59 false 60,gv 62 59 false (.len (tm 61)),gf 63 59 false 7 3,gl 64 59 false 63,gv
 65 59 false (.len (tm 64)),gv 66 59 false (.icmp .neq .i64 (tm 62) (tm 65)),oz 67 59 66,om 68 67,gf 69 68 false 8 2,gl 70 68 false 69,gv 71 68
 false (.len (tm 70)),gf 72 68 false 8 3,gl 73 68 false 72,gv 74 68 false (.len (tm 73)),gv 75 68 false (.icmp .neq .i64 (tm 71) (tm 74)),oz 76 68
 75,om 77 76,gf 78 77 false 9 2,gl 79 77 false 78,gv 80 77 false (.len (tm 79)),gf 81 77 false 9 3,gl 82 77 false 81,gv 83 77 false (.len (tm
 82)),gv 84 77 false (.icmp .neq .i64 (tm 80) (tm 83)),oz 85 77 84] [2,3,85]) (.cond (tm 85) (sq (rg [ob 4 false] [4]) .ret) .skip)) (sq (sq (rg [
 oi 5 0] [2,3,5]) (.block 0 (.loop (sq (sq (rg [om 86 5,of 87 6 2,ol 88 87,on 89 88,ov 90 (.icmp .lss .i64 (tm 86) (tm 89))] [2,3,5,90])
 (.cond (tm 90) .skip (.exit 0))) (sq (.block 1 (sq (rg [of 93 6 2,ol 94 93,om 95 5,oa 96 2 94 95,ov 97 (.ld 2 true (tm 96)),of 98 6 3,ol 99 98,
 om 100 5,oa 101 2 99 100,ov 102 (.ld 2 true (tm 101)),ov 103 (.aeq true [2,0] (tm 97) (tm 102))] [2,3,5,103]) (.cond (tm 103) (sq (rg [ob 4
 false] [4]) .ret) .skip))) (rg [om 91 5,ov 92 (.arith .add .i64 (tm 91) (ci 1)),om 5 92] [2,3,5])))))) (sq (sq (rg [oi 6 0] [2,3,6]) (.block 2
 (.loop (sq (sq (rg [om 104 6,of 105 7 2,ol 106 105,on 107 106,ov 108 (.icmp .lss .i64 (tm 104) (tm 107))] [2,3,6,108]) (.cond (tm 108) .skip
 (.exit 2))) (sq (.block 3 (sq (rg [of 111 7 2,ol 112 111,om 113 6,oa 114 2 112 113,ov 115 (.ld 2 true (tm 114)),of 116 7 3,ol 117 116,om 118
 6,oa 119 2 117 118,ov 120 (.ld 2 true (tm 119)),oc 121 132 [(tm 115),(tm 120)],ot 122 121] [2,3,6,122]) (.cond (tm 122) (sq (rg [ob 4 false]
 [4]) .ret) .skip))) (rg [om 109 6,ov 110 (.arith .add .i64 (tm 109) (ci 1)),om 6 110] [2,3,6])))))) (sq (sq (rg [oi 7 0] [2,3,7]) (.block 4
 (.loop (sq (sq (rg [om 123 7,of 124 8 2,ol 125 124,on 126 125,ov 127 (.icmp .lss .i64 (tm 123) (tm 126))] [2,3,7,127]) (.cond (tm 127) .skip
 (.exit 4))) (sq (.block 5 (sq (rg [of 130 8 2,ol 131 130,om 132 7,oa 133 6 131 132,ov 134 (.ld 6 true (tm 133)),of 135 8 3,ol 136 135,om 137
 7,oa 138 6 136 137,ov 139 (.ld 6 true (tm 138)),ov 140 (.aeq true [2,2,0,0,0,0] (tm 134) (tm 139))] [2,3,7,140]) (.cond (tm 140) (sq (rg [
 ob 4 false] [4]) .ret) .skip))) (rg [om 128 7,ov 129 (.arith .add .i64 (tm 128) (ci 1)),om 7 129] [2,3,7])))))) (sq (sq (rg [oi 8 0] [2,3,8])
 (.block 6 (.loop (sq (sq (rg [om 141 8,of 142 9 2,ol 143 142,on 144 143,ov 145 (.icmp .lss .i64 (tm 141) (tm 144))] [2,3,8,145]) (.cond (tm
 145) .skip (.exit 6))) (sq (.block 7 (sq (rg [of 148 9 2,ol 149 148,om 150 8,oa 151 12 149 150,ov 152 (.ld 12 true (tm 151)),of 153 9 3,ol 154
 153,om 155 8,oa 156 12 154 155,ov 157 (.ld 12 true (tm 156)),oc 158 133 [(tm 152),(tm 157)],ot 159 158] [2,3,8,159]) (.cond (tm 159) (sq (rg
 [ob 4 false] [4]) .ret) .skip))) (rg [om 146 8,ov 147 (.arith .add .i64 (tm 146) (ci 1)),om 8 147] [2,3,8])))))) (sq (rg [ob 4 true] [4])
 .ret)))))))
def a92:AOf prog 92 c92 [.t 4]:=mkA (fn:=f92) (c:=f92.body.getD .skip) (fz:=[]) (im:=[]) kp92
def c131:Kg prog 131 f131 [[0,1],[0,1,10],[4],[0,1,5],[0,1,5,14],[0,1,5],[0,1,5,25],[4],[4]] [.t 4]:={}
def c132:Kg prog 132 f132 [[2,3],[2,3,19],[4],[2,3,5],[2,3,5,24],[2,3,5],[2,3,5,38],[4],[4]] [.t 4]:={}
def c133:Kg prog 133 f133 [[2,3],[4]] [.t 4]:={}
def c173:Kg prog 173 f173 [[0,1],[0,1,10],[4],[0,1,5],[0,1,5,14],[0,1,5],[0,1,5,25],[4],[4]] [.t 4]:={}
def c22:Kg prog 22 f22 [[1],[1,3,4],[18],[2],[2]] [.t 2]:={}
def c52:Kg prog 52 f52 [[1,2],[2,4,5],[2,4,5,19],[2,3],[2,4,5],[2,4,5,25],[2,3],[2,4,6],[2,4,5,6],[2,4,5,6,44],[2,3],[2,4,6],[2,4,6,7],[2,4,6,7,55],[2,4,6,7],[2,4,6,7,8],[2,4,6,7],[2,4,6,10],[2,4,6,10,75],[2,4,6,10],[2,4,6,10,11],[2,4,6,10],[2,3]] [.c 2 17 true,.t 3]:={}
def c53:Kg prog 53 f53 [[2,3],[2,3,12],[4],[2,3,5],[2,3,5,17],[2,3,5],[2,3,5,31],[4],[4]] [.t 4]:={}
def c12:Kg prog 12 f12 [[1,2],[1,2,6],[1,2,6,10],[4,5],[1,2,17],[4,5],[4,5]] [.t 4,.t 5]:={}
def c35:Kg prog 35 f35 [[0,1],[0,1,10],[4],[0,1,5],[0,5,6],[0,5,6,7],[0,5,6,7,21],[0,5,6,7],[0,5,6,7,8],[0,5,6,7,8,26],[0,5,6,7,8],[0,5,6,7,8,35],[0,5,6,7,8],[4]] [.t 4]:={}
def c44:Kg prog 44 f44 [[2,3,4,5],[2,4,5,9],[2,4,5,9,10],[2,4,5,9,10,11,12],[2,4,5,9,10,11,12,13],[2,4,5,9,10,11,12,13,26],[2,4,5,9,10,11,12,13],[2,4,5,9,10,11,12,13,14],[2,4,5,9,10,11,12,13,14,34],[2,4,5,9,10,11,12,13,14],[2,4,5,9,10,11,12,13,14,15],[2,4,5,9,10,11,12,13,14,15,65],[8],[2,4,5,9,10,11,12,13,14,86],[8],[2,4,5,9,10,11,12,13,102],[2,4,5,9,10,11,12,13],[2,4,5,9,10,11,12,13,109],[2,4,5,9,10,11,12,13],[4,5,9,10,11,12,113],[4,5,9,10,11,12,113,114],[8],[4,5,9,10,11,12,113,121],[8],[5,9,11,12,137],[8],[8]] [.t 8]:={}
def c63:Kg prog 63 f63 [[0,1],[0,1,5],[0,1,5,9],[0,1,5],[0,1,5,17],[4],[4]] [.t 4]:={}
def c78:Kg prog 78 f78 [[0,1],[0,1,5],[0,1,5,6],[0,1,5,6,11],[0,1,5,6],[0,1,5,6],[4]] [.t 4]:={}
def c79:Kg prog 79 f79 [[1,2],[4]] [.t 4]:={}
def c80:Kg prog 80 f80 [[1,2,3],[6]] [.t 6]:={}
def c220:Kg prog 220 f220 [[1],[2]] [.t 2]:={}
def c251:Kf prog 251 f251 [] [(6,5)] [[0,1,8,9,10],[0,1,8,9,10,11],[0,1,3,4,8,9,10],[0,1,3,5,6,8,9,10],[0,1,3,5,6,8,9,10,25],[0,1,3,5,6,8,9,10],[0,1,8,9,10,36],[0,1,8,9,10]] []:={}
noncomputable def Jd:Code:=((rfs (f148.body.getD .skip))[0]?.getD (#[],.skip,.skip)).2.1
noncomputable def Je:Code:=((rfs (f148.body.getD .skip))[0]?.getD (#[],.skip,.skip)).2.2
def TK(r:Nat):List Nat:=match r with
 |11=>[]
 |_=>[]
def MA:Zd:=
 (.block 1
  (.reg 0 [
   ⟨some 33,none,.v (.ld 1 false (.t 6))⟩,
   ⟨some 34,none,.v (.ld 2 true (.t 8))⟩,
   ⟨some 35,none,.v (.mv (.t 7))⟩,
   ⟨none,none,.ext (.mput (.arr 2 .i64)) [(.t 33),(.t 34),(.t 35)]⟩] []))
def TL(r:Nat):List Nat:=match r with
 |9=>[6,7,32]
 |10=>[6,7,8]
 |_=>[]
def MB:Zd:=
 (.seq
  (.reg 0 [
   ⟨some 7,none,.v (.mv (.t 31))⟩] [6,7,32])
  (.reg 2 [
   ⟨some 8,none,.alloc 0 [(.int .i64 0),(.int .i64 0)]⟩,
   ⟨none,none,.st 2 (.t 8) (.t 32)⟩] [6,7,8]))
def y148_0{l id:Nat}{st:LoopState}{pend:Option Code}{env:List (Nat×Bool×Fs)}{args:List Fs}{H:AC}{n:Nat}{R:Bool->AC->Nat->Prop}(ho:hget H id=some (.lp ⟨l,st,pend,85,env, #[31,32],Jd,Je⟩))(hps:args.length=2)(h:awp prog MB (GJ prog id MA R) ⟨renv [31,32] args env,H,n⟩):Bw prog l args H n R:=
 Bj (aa:=MB) (ab:=MA) (fz:=[(21,8),(700002,600000)]) (im:=[(23,4),(8,1),(13,1)]) (fz2:=[(21,8),(700002,600000)]) (im2:=[(23,4),(8,1),(13,1)]) (kp:=TL) (kp2:=TK) ho rfl hps rfl (by kernel_rfl) (by kernel_rfl) rfl rfl h
noncomputable def HZ:Code:=((rfs (f148.body.getD .skip))[1]?.getD (#[],.skip,.skip)).2.1
noncomputable def Hc:Code:=((rfs (f148.body.getD .skip))[1]?.getD (#[],.skip,.skip)).2.2
def TM(r:Nat):List Nat:=match r with
 |16=>[2,6,9,10,45,46,47]
 |17=>[2,6,9,10,45,46,47,48]
 |18=>[2,6,9,10,12,45,46,47]
 |19=>[2,6,9,10,13,14,45,46,47]
 |20=>[2,6,9,10,13,45,46,47,67]
 |21=>[2,6,9,10,45,46,47]
 |22=>[2,6,9,10,45,46,47]
 |23=>[]
 |_=>[]
def MC:Zd:=
 (.block 3
  (.seq
  (.seq
   (.reg 0 [
    ⟨some 44,none,.v (.ld 1 false (.t 5))⟩,
    ⟨some 45,none,.ext (.slx 6 2 false true) [(.t 4),(.t 44)]⟩,
    ⟨some 46,none,.v (.len (.t 45))⟩,
    ⟨some 47,none,.v (.mv (.c (.int .i64 0)))⟩] [2,6,9,10,45,46,47])
   (.block 4
   (.loop
    (.seq
    (.reg 0 [
     ⟨some 48,none,.v (.icmp .lss .i64 (.t 47) (.t 46))⟩] [2,6,9,10,45,46,47,48])
    (.seq
     (.cond (.t 48)
     .skip
     (.exit 4))
     (.seq
     (.block 5
      (.seq
      (.reg 4 [
       ⟨some 49,none,.v (.ia 2 (.t 45) (.t 47))⟩,
       ⟨some 50,none,.v (.ld 2 true (.t 49))⟩,
       ⟨some 12,none,.alloc 2 [(.int .i64 0),(.int .i64 0)]⟩,
       ⟨none,none,.st 2 (.t 12) (.t 50)⟩] [2,6,9,10,12,45,46,47])
      (.seq
       (.reg 0 [
        ⟨some 52,none,.v (.ld 1 false (.t 6))⟩,
        ⟨some 53,none,.v (.iaA 2 1 (.t 10) (.c (.int .i64 0)))⟩,
        ⟨some 54,none,.v (.ld 1 false (.t 53))⟩,
        ⟨some 55,none,.v (.iaA 2 1 (.t 12) (.c (.int .i64 0)))⟩,
        ⟨some 56,none,.v (.ld 1 false (.t 55))⟩,
        ⟨some 57,none,.v (.arith .add .i64 (.t 54) (.t 56))⟩,
        ⟨some 58,none,.v (.iaA 2 1 (.t 10) (.c (.int .i64 1)))⟩,
        ⟨some 59,none,.v (.ld 1 false (.t 58))⟩,
        ⟨some 60,none,.v (.iaA 2 1 (.t 12) (.c (.int .i64 1)))⟩,
        ⟨some 61,none,.v (.ld 1 false (.t 60))⟩,
        ⟨some 62,none,.v (.arith .add .i64 (.t 59) (.t 61))⟩,
        ⟨some 63,none,.v (.build [(.int .i64 0),(.int .i64 0)] [(0,1,(.t 57)),(1,1,(.t 62))])⟩,
        ⟨some 64,none,.ext (.look (.arr 2 .i64) (.int .i64 0) true) [(.t 52),(.t 63)]⟩,
        ⟨some 51,none,.v (.mv (.t 64))⟩,
        ⟨some 65,none,.v (.ext 0 (.t 51))⟩,
        ⟨some 66,none,.v (.ext 1 (.t 51))⟩,
        ⟨some 13,none,.v (.mv (.t 65))⟩,
        ⟨some 14,none,.v (.mv (.t 66))⟩] [2,6,9,10,13,14,45,46,47])
       (.seq
       (.reg 0 [
        ⟨some 67,none,.v (.mv (.t 14))⟩] [2,6,9,10,13,45,46,47,67])
       (.cond (.t 67)
        (.regx 11 [
         (2,⟨some 68,none,.v (.ld 1 false (.t 2))⟩),
         (0,⟨some 69,none,.v (.mv (.t 9))⟩),
         (2,⟨some 70,none,.v (.ld 1 false (.t 2))⟩),
         (0,⟨some 71,none,.v (.mv (.t 9))⟩),
         (0,⟨some 72,none,.v (.ia 1 (.t 70) (.t 71))⟩),
         (1,⟨some 73,none,.v (.ld 1 false (.t 72))⟩),
         (0,⟨some 74,none,.v (.mv (.t 13))⟩),
         (0,⟨some 75,none,.v (.bs 1 1 (.int .i64 0) [(0,(.t 74))])⟩),
         (2,⟨some 76,none,.appR 8 1 8 (.int .i64 0) (.t 73) (.t 75) false⟩),
         (0,⟨some 77,none,.v (.ia 1 (.t 68) (.t 69))⟩),
         (0,⟨none,none,.st 1 (.t 77) (.t 76)⟩)] [2,6,9,10,45,46,47])
        .skip)))))
     (.reg 0 [
      ⟨some 78,none,.v (.arith .add .i64 (.t 47) (.c (.int .i64 1)))⟩,
      ⟨some 47,none,.v (.mv (.t 78))⟩] [2,6,9,10,45,46,47])))))))
  (.reg 0 [
   ⟨some 79,none,.v (.ld 1 false (.t 2))⟩,
   ⟨some 80,none,.v (.mv (.t 9))⟩,
   ⟨some 81,none,.v (.ia 1 (.t 79) (.t 80))⟩,
   ⟨some 82,none,.v (.ld 1 false (.t 81))⟩,
   ⟨some 83,none,.call false (.c (.fn (.func 221) [] [])) [(.t 82)]⟩] [])))
def TN(r:Nat):List Nat:=match r with
 |14=>[2,4,5,6,9,43]
 |15=>[2,4,5,6,9,10]
 |_=>[]
def MD:Zd:=
 (.seq
  (.reg 0 [
   ⟨some 9,none,.v (.mv (.t 42))⟩] [2,4,5,6,9,43])
  (.reg 2 [
   ⟨some 10,none,.alloc 0 [(.int .i64 0),(.int .i64 0)]⟩,
   ⟨none,none,.st 2 (.t 10) (.t 43)⟩] [2,4,5,6,9,10]))
def y148_1{l id:Nat}{st:LoopState}{pend:Option Code}{env:List (Nat×Bool×Fs)}{args:List Fs}{H:AC}{n:Nat}{R:Bool->AC->Nat->Prop}(ho:hget H id=some (.lp ⟨l,st,pend,85,env, #[42,43],HZ,Hc⟩))(hps:args.length=2)(h:awp prog MD (GJ prog id MC R) ⟨renv [42,43] args env,H,n⟩):Bw prog l args H n R:=
 Bj (aa:=MD) (ab:=MC) (fz:=[(21,8),(700002,600000)]) (im:=[(23,4),(8,1),(13,1)]) (fz2:=[(21,8),(700002,600000)]) (im2:=[(23,4),(8,1),(13,1)]) (kp:=TN) (kp2:=TM) ho rfl hps rfl (by kernel_rfl) (by kernel_rfl) rfl rfl h
def kp148(r:Nat):List Nat:=match r with
 |0=>[1,2,3]
 |1=>[1,2,3,17]
 |2=>[2,3]
 |3=>[1,2,3,4]
 |4=>[1,2,3,4,5]
 |5=>[1,2,3,4,5,27]
 |6=>[1,2,3,4,5]
 |7=>[1,2,3,4,5,6]
 |8=>[1,2,3,4,5,6,30]
 |12=>[1,2,3,4,5,6]
 |13=>[2,3,4,5,6,41]
 |24=>[2,3]
 |_=>[]
noncomputable def c148:Zd:=
(sq (.reg 3 [⟨some 1,none,.box 0 5 (tm 0)⟩,⟨some 2,none,.alloc 1 [zs]⟩,oi 3 0] [1,2,3]) (sq (sq (rg [ov 15 (.ld 5 true (tm 1)),oc 16 219
 [(tm 15)],ov 17 (.icmp .neq .i64 (tm 16) (ci 0))] [1,2,3,17]) (.cond (tm 17) (sq (rg [⟨none,none,.st 1 (tm 2) (.c zs)⟩,oi 3 130] [2,3]) .ret)
 .skip)) (sq (.reg 9 [ov 18 (.build [z0,z0] [(0,1,(ci 1)),(1,1,(ci 0))]),ov 19 (.build [z0,z0] [(0,1,(ci (-1))),(1,1,(ci 0))]),ov 20
 (.build [z0,z0] [(0,1,(ci 0)),(1,1,(ci 1))]),ov 21 (.build [z0,z0] [(0,1,(ci 0)),(1,1,(ci (-1)))]),ov 22 (.build [z0,z0] [(0,1,(ci
 1)),(1,1,(ci (-1)))]),ov 23 (.build [z0,z0] [(0,1,(ci (-1))),(1,1,(ci 1))]),ov 24 (.build [z0,z0,z0,z0,z0,z0,z0,z0,z0,z0,z0,z0]
 [(0,2,(tm 18)),(2,2,(tm 19)),(4,2,(tm 20)),(6,2,(tm 21)),(8,2,(tm 22)),(10,2,(tm 23))]),⟨some 4,none,.alloc 7 [z0,z0,z0,z0,z0,
 z0,z0,z0,z0,z0,z0,z0]⟩,⟨none,none,.st 12 (tm 4) (tm 24)⟩] [1,2,3,4]) (sq (.reg 2 [⟨some 5,none,.alloc 0 [z0]⟩,⟨none,none,.st 1 (tm
 5) (ci 6)⟩] [1,2,3,4,5]) (sq (sq (rg [of 25 0 1,ol 26 25,ov 27 (.icmp .eql .i64 (tm 26) (ci 1))] [1,2,3,4,5,27]) (.cond (tm 27) (rg [
 ⟨none,none,.st 1 (tm 5) (ci 4)⟩] [1,2,3,4,5]) .skip)) (sq (.reg 3 [⟨some 28,none,.ext (.mkm 0) []⟩,⟨some 6,none,.alloc 1 [.nilmp]⟩,⟨none,
 none,.st 1 (tm 6) (tm 28)⟩] [1,2,3,4,5,6]) (sq (sq (rg [ov 29 (.ld 5 true (tm 1)),oe 30 220 [(tm 29)]] [1,2,3,4,5,6,30]) (.block 0
 (.rfun (tm 30) #[31,32] 85 Jd Je))) (sq (.reg 5 [of 36 4 1,ol 37 36,on 38 37,⟨some 39,none,.mks 3 1 24 zs (tm 38)⟩,⟨none,none,.st
 1 (tm 2) (tm 39)⟩] [1,2,3,4,5,6]) (sq (sq (rg [ov 40 (.ld 5 true (tm 1)),oe 41 220 [(tm 40)]] [2,3,4,5,6,41]) (.block 2 (.rfun (tm 41)
 #[42,43] 85 HZ Hc))) (sq (rg [ol 84 2,⟨none,none,.st 1 (tm 2) (tm 84)⟩,oi 3 0] [2,3]) .ret))))))))))
def a148:AOf prog 148 c148 [.c 2 1 false,.t 3]:=mkA (fn:=f148) (c:=f148.body.getD .skip) (fz:=[(21,8),(700002,600000)]) (im:=[(23,4),(8,1),(13,1)]) kp148
noncomputable def FM:Code:=((rfs (f222.body.getD .skip))[0]?.getD (#[],.skip,.skip)).2.1
noncomputable def FN:Code:=((rfs (f222.body.getD .skip))[0]?.getD (#[],.skip,.skip)).2.2
def TO(r:Nat):List Nat:=match r with
 |5=>[5,6,8,9]
 |6=>[5,6,8,23]
 |7=>[]
 |_=>[]
def Hd:Zd:=
 (.block 1
  (.seq
  (.reg 0 [
   ⟨some 18,none,.v (.ld 1 false (.t 3))⟩,
   ⟨some 19,none,.v (.ld 2 true (.t 7))⟩,
   ⟨some 20,none,.call true (.t 18) [(.t 19)]⟩,
   ⟨some 17,none,.v (.mv (.t 20))⟩,
   ⟨some 21,none,.v (.ext 0 (.t 17))⟩,
   ⟨some 22,none,.v (.ext 1 (.t 17))⟩,
   ⟨some 8,none,.v (.mv (.t 21))⟩,
   ⟨some 9,none,.v (.mv (.t 22))⟩] [5,6,8,9])
  (.seq
   (.reg 0 [
    ⟨some 23,none,.v (.mv (.t 9))⟩] [5,6,8,23])
   (.cond (.t 23)
   (.reg 9 [
    ⟨some 24,none,.v (.ld 1 false (.t 5))⟩,
    ⟨some 25,none,.v (.mv (.t 8))⟩,
    ⟨some 26,none,.v (.ld 1 false (.t 5))⟩,
    ⟨some 27,none,.v (.mv (.t 8))⟩,
    ⟨some 28,none,.ext (.look (.int .i64) (.sl .nil []) false) [(.t 26),(.t 27)]⟩,
    ⟨some 29,none,.v (.mv (.t 6))⟩,
    ⟨some 30,none,.v (.bs 1 1 (.int .i64 0) [(0,(.t 29))])⟩,
    ⟨some 31,none,.app 7 1 8 (.t 28) (.t 30) false⟩,
    ⟨none,none,.ext (.mput (.int .i64)) [(.t 24),(.t 25),(.t 31)]⟩] [])
   .skip))))
def TP(r:Nat):List Nat:=match r with
 |3=>[3,5,6,16]
 |4=>[3,5,6,7]
 |_=>[]
def ME:Zd:=
 (.seq
  (.reg 0 [
   ⟨some 6,none,.v (.mv (.t 15))⟩] [3,5,6,16])
  (.reg 2 [
   ⟨some 7,none,.alloc 0 [(.int .i64 0),(.int .i64 0)]⟩,
   ⟨none,none,.st 2 (.t 7) (.t 16)⟩] [3,5,6,7]))
def y222_0{l id:Nat}{st:LoopState}{pend:Option Code}{env:List (Nat×Bool×Fs)}{args:List Fs}{H:AC}{n:Nat}{R:Bool->AC->Nat->Prop}(ho:hget H id=some (.lp ⟨l,st,pend,48,env, #[15,16],FM,FN⟩))(hps:args.length=2)(h:awp prog ME (GJ prog id Hd R) ⟨renv [15,16] args env,H,n⟩):Bw prog l args H n R:=
 Bj (aa:=ME) (ab:=Hd) (fz:=[]) (im:=[(2,1),(8,1),(8,2)]) (fz2:=[]) (im2:=[(2,1),(8,1),(8,2)]) (kp:=TP) (kp2:=TO) ho rfl hps rfl (by kernel_rfl) (by kernel_rfl) rfl rfl h
def kp222(r:Nat):List Nat:=match r with
 |0=>[2,3,4]
 |1=>[2,3,4,5]
 |2=>[3,4,5,14]
 |8=>[4,5,34,35,36]
 |9=>[4,5,34,35,36,37]
 |10=>[4,5,11,34,35,36]
 |11=>[4,5,34,35,36]
 |12=>[4,5,34,35,36]
 |13=>[4]
 |_=>[]
noncomputable def c222:Zd:=
(sq (.reg 3 [⟨some 2,none,.box 0 5 (tm 0)⟩,⟨some 3,none,.box 1 1 (tm 1)⟩,ov 4 (.mv (.c zs))] [2,3,4]) (sq (.reg 3 [⟨some 12,none,.ext (.mkm
 0) []⟩,⟨some 5,none,.alloc 1 [.nilmp]⟩,⟨none,none,.st 1 (tm 5) (tm 12)⟩] [2,3,4,5]) (sq (sq (rg [ov 13 (.ld 5 true (tm 2)),oe 14 220 [(tm
 13)]] [3,4,5,14]) (.block 0 (.rfun (tm 14) #[15,16] 48 FM FN))) (sq (sq (rg [ol 32 5,oe 33 254 [(tm 32)],oe 34 242 [(tm 33)],on 35
 34,oi 36 0] [4,5,34,35,36]) (.block 2 (.loop (sq (rg [ov 37 (.icmp .lss .i64 (tm 36) (tm 35))] [4,5,34,35,36,37]) (sq (.cond (tm 37) .skip
 (.exit 2)) (sq (.block 3 (sq (rg [oa 38 1 34 36,ol 39 38,om 11 39] [4,5,11,34,35,36]) (.reg 7 [om 40 4,ol 41 5,om 42 11,⟨some 43,none,
 .ext (.look (.int .i64) zs false) [(tm 41),(tm 42)]⟩,ov 44 (.bs 1 1 zs [(0,(tm 43))]),⟨some 45,none,.app 5 1 24 (tm 40) (tm 44) false⟩,om 4 45]
 [4,5,34,35,36]))) (rg [ov 46 (.arith .add .i64 (tm 36) (ci 1)),om 36 46] [4,5,34,35,36]))))))) (sq (rg [om 47 4,om 4 47] [4]) .ret)))))
def l222:Bi prog 222:=mkL f222
def a222:AOf prog 222 c222 [.t 4]:=mkA (fn:=f222) (c:=f222.body.getD .skip) (fz:=[]) (im:=[(2,1),(8,1),(8,2)]) kp222
def c223:Kg prog 223 f223 [[1],[2,3]] [.t 2,.t 3]:={}
def c224:Kg prog 224 f224 [[1],[2,3]] [.t 2,.t 3]:={}
def c225:Kf prog 225 f225 [] [(5,1)] [[1],[1,8],[2],[1,15],[2],[1,3],[3,20,21,22],[3,20,21,22,23],[3,5,20,21,22],[3,5,20,21,22,36],[3,20,21,22],[3,20,21,22],[2]] [.t 2]:={}
def c255:Kg prog 255 f255 [[1],[2,3]] [.t 2,.t 3]:={}
def c256:Kg prog 256 f256 [[1],[2,3]] [.t 2,.t 3]:={}
def c257:Kg prog 257 f257 [[1,2],[3,4]] [.t 3,.t 4]:={}
def c149:Kf prog 149 f149 [(24,4),(25,1010)] [(24,1),(25,1)] [[1,2,4],[1,2,4,5,6],[1,2,4,5,6,23],[4,5],[2,4,6,25],[4,5],[2,4,6,25,26],[4,30,31],[4,30,31,32],[4,7,30,31],[4,30,31],[4,30,31],[2,4,6,25,40],[4],[2,4,6,25,44],[4],[2,4,6,25,48],[4],[2,4,6,25,52],[4],[2,4,6,25,55],[4,57,58,59],[4,57,58,59,60],[4,8,9,57,58,59],[4,10,57,58,59],[4,10,57,58,59],[4,57,58,59],[4,57,58,59],[2,4,6,25,76],[4,78,79,80],[4,78,79,80,81],[4,11,12,78,79,80],[4,11,78,79,80,85,86,87],[4,11,78,79,80,85,86,87,88],[4,11,14,78,79,80,85,86,87],[4,11,14,78,79,80,85,86,87,93],[4,11,78,79,80,85,86,87],[4,11,78,79,80,85,86,87],[4,78,79,80],[2,102],[2,15],[15,106,107],[15,106,107,108],[15,16,106,107],[15,106,107],[15,106,107],[4],[4,5]] [.t 4,.t 5]:={}
def c254:Kg prog 254 f254 [[1],[2]] [.t 2]:={}
def c292:Kf prog 292 f292 [] [(3,2)] [[0,5],[0,5,7],[0,3,5],[0,5,13]] []:={}
def c105:Kg prog 105 f105 [[0,1],[4]] [.t 4]:={}
def c106:Kg prog 106 f106 [[0,1,2],[0,1,2,14],[6],[1,2,15,16,17],[1,2,15,16,17,18],[1,2,7,8,15,16,17],[1,2,8,9,15,16,17],[1,2,15,16,17,30],[6],[1,2,15,16,17],[6]] [.t 6]:={}
def c58:Kg prog 58 f58 [[2,3],[2,3,5],[4]] [.t 4]:={}
def c99:Kg prog 99 f99 [[0],[2],[2]] [.t 2]:={}
def c100:Kg prog 100 f100 [[0],[2]] [.t 2]:={}
def c101:Kg prog 101 f101 [[0],[0,2],[0,2,36],[2],[2]] [.t 2]:={}
def c102:Kg prog 102 f102 [[0],[0,10],[0,10,11],[0,3,10],[0,4,5,10],[0,4,5,10,24],[2],[0,10],[0,10],[0,44,45,46],[0,44,45,46,47],[0,7,44,45,46],[0,8,9,44,45,46],[0,8,9,44,45,46,62],[2],[0,44,45,46],[0,44,45,46],[2]] [.t 2]:={}
def c57:Kf prog 57 f57 [] [(6,1)] [[1,2],[1,2,4],[2,4],[2,4,15,16,17],[2,4,15,16,17,18],[2,4,6,15,16,17],[2,4,7,15,16,17],[2,4,7,15,16,17,24],[2,3],[2,4,15,16,17],[2,3]] [.c 2 17 true,.t 3]:={}
def c32:Kg prog 32 f32 [[1],[1,3,4],[18],[2],[2]] [.t 2]:={}
def cm62:Kf prog 62 f62 [(3,2)] [] [[0],[0,4],[2],[2]] [.t 2]:={}
def c190:Kg prog 190 f190 [[0,7],[0],[]] []:={}
def c238:Kg prog 238 f238 [[0,1],[4]] [.t 4]:={}
def c183:Kf prog 183 f183 [] [(1,2)] [[0,1],[0,5],[0,5,9],[5],[4]] [.t 4]:={}
def c180:Kf prog 180 f180 [] [(3,2),(4,1)] [[0,6,7,8],[0,6,7,8,9],[0,5,6,7,8],[0,6,7,8,15],[0,6,7,8],[0,6,7,8]] []:={}
def c237:Kg prog 237 f237 [[0],[2]] [.t 2]:={}
def c182:Kf prog 182 f182 [] [(1,1),(2,1)] [[0],[0,6],[0],[0,3],[3],[2]] [.t 2]:={}
def c181:Kf prog 181 f181 [] [(2,1)] [[0],[0,19],[0],[0,3],[3],[2]] [.t 2]:={}
def c186:Kf prog 186 f186 [] [(1,1),(2,2),(3,1)] [[0,2],[0,2],[0,2],[2],[2]] [.c 2 2 true]:={c:=by constructor;conv=>lhs;reduce;simp only[u8n,UInt8.reduceOfNat,Int.reduceOfNat]}
def c300:Kf prog 300 f300 [] [(1,2),(2,1),(3,2)] [[0],[0],[0,3],[3],[2]] [.t 2]:={c:=by constructor;conv=>lhs;reduce;simp only[u8n,UInt8.reduceOfNat,Int.reduceOfNat]}
def c273:Kf prog 273 f273 [] [(2,1),(4,1),(0,2),(6,1),(7,2),(8,2)] [[0,1],[0,1],[0,1,10],[0,1],[0,1,16],[0,1],[0,1,23],[],[]] []:={c:=by constructor;conv=>lhs;reduce;simp only[u8n,UInt8.reduceOfNat,Int.reduceOfNat]}
def c266:Kf prog 266 f266 [] [(0,2),(6,1),(8,1),(10,2),(11,2),(12,1),(14,2),(15,1),(1,2),(3,2),(4,2),(5,2)] [[0,1],[0,1],[0,1],[0,1],[0,1],[],[0,1,28],[],[0,1,34],[0,1],[0,1],[],[0,1,48],[0,1],[],[0,1,57],[]] []:={c:=by constructor;conv=>lhs;reduce;simp only[u8n,UInt8.reduceOfNat,Int.reduceOfNat]}
def c269:Kf prog 269 f269 [] [(0,2),(1,2),(2,2)] [[0,1],[0,1],[]] []:={c:=by constructor;conv=>lhs;reduce;simp only[u8n,UInt8.reduceOfNat,Int.reduceOfNat]}
def c267:Kg prog 267 f267 [] []:={}
def c268:Kf prog 268 f268 [] [(0,2)] [[]] []:={}
def c270:Kf prog 270 f270 [] [(0,2)] [[]] []:={}
def c271:Kf prog 271 f271 [] [(0,2)] [[]] []:={}
def c272:Kf prog 272 f272 [] [(0,2)] [[]] []:={}
def c189:Kf prog 189 f189 [] [(10,5),(1,1),(2,2),(3,0),(4,1),(7,2),(8,3),(11,2),(14,1)] [[0,2],[0,2],[0,2],[0,2,3],[0,2,3,15,16,17],[0,2,3,15,16,17,18],[0,2,3,5,15,16,17],[0,2,3,5,15,16,17,23],[0,2,3,5],[0,2,3,5],[0,2],[2],[2],[0,2,3,15,16,17],[2],[2]] [.c 2 12 true]:={c:=by constructor;conv=>lhs;reduce;simp only[u8n,UInt8.reduceOfNat,Int.reduceOfNat]}
def c188:Kf prog 188 f188 [] [(1,1),(2,2),(3,1),(6,1),(8,1),(10,1),(11,2),(12,1),(4,2),(13,2)] [[0,2],[0,2],[0,2],[0,2],[0,2],[0,2],[0,2,16],[0,2],[0,2,20],[0,2],[0,2],[0,2],[0,2],[2],[2]] [.c 2 6 true]:={c:=by constructor;conv=>lhs;reduce;simp only[u8n,UInt8.reduceOfNat,Int.reduceOfNat]}
def c187:Kf prog 187 f187 [(700011,300001),(800014,300000)] [(1,1),(2,2),(3,1),(4,3),(5,2),(6,2)] [[0,2],[0,2],[0,2],[0,2,10],[0,2],[0,2],[2],[2]] [.c 2 2 true]:={c:=by constructor;conv=>lhs;reduce;simp only[u8n,UInt8.reduceOfNat,Int.reduceOfNat]}
def c144:Kf prog 144 f144 [(700051,300001),(800054,300000),(700060,300001),(800063,300000),(700069,300001),(800072,300000)] [(1,2),(2,1),(3,2),(4,1),(5,2),(7,1),(8,2),(10,1),(11,2),(12,1),(13,1),(14,1),(15,2),(16,1),(17,2),(18,1),(19,3),(20,1),(21,3),(22,1),(23,3),(24,2),(26,1)] [[0,2],[0,2],[0,2],[0,2],[0,2],[0,2],[0,2],[0,2,21],[0,2],[0,2],[0,2],[0,2],[0,2],[0,2,36],[0,2],[0,2],[0,2],[0,2],[0,2,50],[0,2],[0,2,59],[0,2],[0,2,68],[0,2],[0,2],[0,2,84],[2],[2]] [.c 2 10 true]:={c:=by constructor;conv=>lhs;reduce;simp only[u8n,UInt8.reduceOfNat,Int.reduceOfNat]}
def c315:Kf prog 315 f315 [] [(1,2),(3,3),(2,1)] [[0,1],[0,1,5],[0,1,5,11],[0,1,5],[4]] [.t 4]:={c:=by constructor;conv=>lhs;reduce;simp only[u8n,UInt8.reduceOfNat,Int.reduceOfNat]}
def c184:Kf prog 184 f184 [] [(1,2),(3,3),(2,1)] [[0,1],[0,1,5],[0,1,5,11],[0,1,5],[4]] [.t 4]:={c:=by constructor;conv=>lhs;reduce;simp only[u8n,UInt8.reduceOfNat,Int.reduceOfNat]}
def c185:Kf prog 185 f185 [] [(1,2),(3,3),(2,1)] [[0,1],[0,1,5],[0,1,5,11],[0,1,5],[4]] [.t 4]:={c:=by constructor;conv=>lhs;reduce;simp only[u8n,UInt8.reduceOfNat,Int.reduceOfNat]}
def c239:Kg prog 239 f239 [[],[0]] [.t 0]:={c:=by constructor;conv=>lhs;reduce;simp only[u8n,UInt8.reduceOfNat,Int.reduceOfNat]}
def kp143(r:Nat):List Nat:=match r with
 |0=>[0,1,2,3]
 |1=>[0,1,2,3,8]
 |2=>[0,1,2,3,4,5]
 |3=>[0,1,2,3,4,15]
 |4=>[0,1,2,4]
 |5=>[]
 |_=>[]
def c143:Zd:=
(sq (rg [om 7 3,⟨some 8,none,.ext (.nileq 0 true) [(tm 7)]⟩] [0,1,2,3,8]) (.cond (tm 8) (sq (.reg 8 [om 10 3,⟨some 11,none,.ext (.tas 185
 true (.agg [z0])) [(tm 10)]⟩,om 9 11,ox 12 0 9,ox 13 1 9,⟨some 4,none,.alloc 5 [z0]⟩,⟨none,none,.st 1 (tm 4) (tm 12)⟩,om 5 13] [0,1,2,3,
 4,5]) (sq (sq (rg [om 14 5,ot 15 14] [0,1,2,3,4,15]) (.cond (tm 15) (rg [om 16 3,⟨none,none,.pan (tm 16)⟩] [0,1,2,4]) .skip)) (.regx 0
 [(0,ov 17 (.build [zr,z0,z0,z0,z0,zs,zs,zs,zs,zs] [])),(0,of 18 0 4),(300004,ol 19 18),(300003,⟨none,none,.st 10 (tm 0) (tm 17)⟩),
 (0,⟨none,none,.st 1 (tm 1) (tm 19)⟩),(0,⟨none,none,.st 1 (tm 2) (ci 150)⟩)] []))) .skip))
def l143:Bi prog 143:=mkL f143
def a143{args:List Fs}{rv:Fs}{H:AC}{n:Nat}{Rc:AC->Nat->Prop}(h:awp prog c143 (C3 [] λo H' n'=>o= .ret (.tup [])/\Rc H' n') ⟨(3,true,rv)::(6,true,rv)::penv 0 args,H,n⟩):CS prog 143 args rv H n Rc:=
 F5 (id:=0) (fn:=f143) (ops:=If (sqH (f143.body.getD .skip))) (X:=sqT (f143.body.getD .skip)) (y:=c143) (fz:=[(700018,300001),(700000,300000)]) (im:=[]) (kp:=kp143) (t3:=3) (t4:=6) (by kernel_rfl) (by kernel_rfl) (by kernel_rfl) (by kernel_rfl) (by kernel_rfl) (by kernel_rfl) h
def kp98(r:Nat):List Nat:=match r with
 |0=>[0,1,4,5,6]
 |1=>[0,1,4,5,6]
 |2=>[4,5,6]
 |_=>[]
def c98_0:Zd:=
 (.reg 3 [
  ⟨some 4,none,.alloc 0 [(.str []),(.int .i64 0),(.int .i64 0),(.int .i64 0),(.int .i64 0),(.sl .nil []),(.sl .nil []),(.sl .nil []),(.sl .nil []),(.sl .nil [])]⟩,
  ⟨some 5,none,.alloc 1 [(.int .i64 0)]⟩,
  ⟨some 6,none,.alloc 2 [(.int .i64 0)]⟩] [0,1,4,5,6])
def c98:Zd:=
(sq (.reg 8 [om 8 0,om 9 1,ov 10 (.build [zs,z0] [(0,1,(tm 8)),(1,1,(tm 9))]),⟨some 11,none,.box 3 2 (tm 10)⟩,oe 12 144 [(tm 11)],⟨none,
 none,.st 10 (tm 4) (tm 12)⟩,⟨none,none,.st 1 (tm 5) (ci 0)⟩,⟨none,none,.st 1 (tm 6) (ci 0)⟩] [4,5,6]) .ret)
def a98{args:List Fs}{H:AC}{n:Nat}{R:Zr->AC->Nat->Prop}(h:awp prog (EZ [c98_0]) (Kk prog 7 ⟨(some 7),none,.v (.fn (.func 143) [] [(.t 4),(.t 5),(.t 6)])⟩ c98 7 143 [.c 4 10 true,.c 5 1 false,.c 6 1 false] R) ⟨penv 0 args,H,n⟩):AP prog 98 args H n R:=
 D4 (id:=1) (fn:=f98) (pre:=[sqH (f98.body.getD .skip)]) (ys:=[c98_0]) (ops:=If (sqH (sqT (f98.body.getD .skip)))) (X:=(sqT (sqT (f98.body.getD .skip)))) (y:=c98) (fz:=[]) (fzX:=[(999999,7)]) (im:=[(2,4)]) (kp:=kp98) (rs:=[.c 4 10 true,.c 5 1 false,.c 6 1 false]) (d0:=(some 7)) (k:=.fn (.func 143) [] [(.t 4),(.t 5),(.t 6)]) (t:=7) (by kernel_rfl) (by kernel_rfl) (by kernel_rfl) (by kernel_rfl) (by kernel_rfl) (by kernel_rfl) (by kernel_rfl) (by kernel_rfl) (by kernel_rfl) l143 h
def c56:Kg prog 56 f56 [[0,2],[0,2,3,4,5],[0,2,3,4,5,13],[2,3,4],[2,3,4]] [.c 2 10 true,.t 3,.t 4]:={}
def c29:Kg prog 29 f29 [[0,2],[2,3,4,5],[2,3,4,5,13],[2,3,4],[2,4],[2,3,4]] [.c 2 17 true,.t 3,.t 4]:={}
def c14:Kg prog 14 f14 [[2,3,4,5],[2,3,4,5,10],[2,3,4,5,10,16],[8,9],[2,3,4,5,11],[2,3,4,5,11,46],[8,9],[2,3,4,5,11,12],[2,3,4,5,11,12,50],[2,3,4,5,11,12],[2,3,4,5,11,12,65],[8,9],[2,3,4,5,72],[8,9],[8,9]] [.t 8,.t 9]:={}
def c42:Kg prog 42 f42 [[0,1,2],[0,1,2,7],[0,1,2,7,11],[0,1,2,7],[0,1,2,7,37],[6],[6]] [.t 6]:={}
def c10:Kg prog 10 f10 [[1],[1,3],[1,3,4],[1,3,4,13],[1,3,4],[1,3,4],[2]] [.t 2]:={}
def c30:Kg prog 30 f30 [[0],[0,3],[0,3,4],[0,3,4,12],[0,3,4],[0,3,4],[2]] [.t 2]:={}
def c31:Kg prog 31 f31 [[1],[1,33],[2],[1,3],[1,3,38],[1,3],[1,3,48],[2],[1,3,4],[1,3,4,57],[1,3,4],[1,3,4,70],[2],[1,5],[1,5,75],[1,5],[1,5,95],[2],[2]] [.t 2]:={}
def c9:Kg prog 9 f9 [[],[1,3],[1,3,4,5],[1,3,4,5,6,7],[1,3,4,5,6,7,9],[1,3,4,5,6,7,9,11],[1,3,4,5,6,7,9,11,12],[1,3,4,5,6,7,9,11,12,13,14],[1,3,4,5,6,7,9,11,12,13,14,15,16],[1,3,4,5,6,7,9,11,13,14,15,16,17,18],[1,3,4,5,6,7,9,11,13,14,15,16,17,18,19],[1,3,4,5,6,7,9,11,13,14,15,16,17,18,19,20,21],[1,3,4,5,6,7,9,11,13,14,15,16,17,18,19,20,21],[1,3,4,5,6,7,9,11,13,14,15,16,17,18,19,20,21],[1,3,4,5,6,7,9,11,13,14,15,16,17,18,19,20,21,22,23],[1,3,4,5,6,7,9,11,13,14,15,16,17,18,19,20,21,22,23,24],[1,3,4,5,6,7,9,11,13,14,15,16,17,18,19,20,21,22,23,24,25,26],[3,4,5,6,7,9,11,13,14,15,16,17,18,20,21,22,23,25,26,27,28],[4,6,13,15,17,20,22,25,27,29],[0]] [.t 0]:={c:=by constructor;conv=>lhs;reduce;simp only[u8n,UInt8.reduceOfNat,Int.reduceOfNat,Int.reduceNegSucc]}
def c15:Kg prog 15 f15 [[0,1],[0,1,11],[4],[0,1,13,14],[0,1,13,14,15],[0,1,5,13,14],[0,1,5,13,14,27],[4],[0,1,5,13,14,32,33],[0,1,5,13,14,32,33,34],[0,1,5,6,13,14,32,33],[0,1,5,13,14,32,33,50],[4],[0,1,5,13,14,32,33],[0,1,13,14],[4]] [.t 4]:={}
def c3:Kg prog 3 f3 [[1,3,4,5,7],[1,3,4,5,7,20],[10],[1,3,4,5,7,52],[10],[1,3,4,5,7,11,12],[3,4,5,7,11,12,13,14],[3,4,5,7,11,12,13,14,15,16],[11,12,13,14,15,16,17,18],[10]] [.t 10]:={}
end Go.AM
