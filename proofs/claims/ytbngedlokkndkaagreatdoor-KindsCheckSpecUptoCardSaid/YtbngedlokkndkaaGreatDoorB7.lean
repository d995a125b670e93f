/-
  The abstract code of some functions, written by a program · The abstract code of some functions, written by a program · .
  Conditions: none beyond those of its parts.
-/
import Derived.Test.YtbngedlokkndkaaGreatDoorProg
import Derived.Test.YtbngedlokkndkaaGreatDoorB5
import Derived.KernelRfl

set_option maxRecDepth 20000
set_option linter.all false
namespace Go.AM
open Go.Proofs Go.Proofs.Tryz
def Rr:Kf prog 149 f149 [(3,2)] [] [[0],[0,4],[2],[2]] [.t 2]:={}
def c159:Kg prog 159 f159 [[]] []:={}
def c160:Kg prog 160 f160 [[]] []:={}
def c161:Kf prog 161 f161 [] [(1,4)] [[0,2],[]] []:={}
def c162:Kf prog 162 f162 [] [(4,4)] [[0,2],[0,2,3,4],[0,2,3,20],[0,2,3],[]] []:={}
def c163:Kf prog 163 f163 [] [(6,4)] [[0,13],[0,2],[0,2,25],[],[],[0,3],[]] []:={c:=by constructor;conv=>lhs;reduce;simp only[Lv,UInt8.reduceOfNat,Int.reduceOfNat]}
def c202:Kg prog 202 f202 [[0,1],[0,1,5],[0,1,5,27],[0,1,5],[4]] [.t 4]:={}
def c203:Kg prog 203 f203 [[0,1,5],[0,1,5,8],[0,1,5],[0,1,5],[0,1],[]] []:={}
def c206:Kg prog 206 f206 [[0,1],[4]] [.t 4]:={}
def c204:Kg prog 204 f204 [[0],[0,4,5],[0,4,5,12],[2,3],[2,3]] [.t 2,.t 3]:={c:=by constructor;conv=>lhs;reduce;simp only[Lv,UInt8.reduceOfNat,Int.reduceOfNat]}
def c205:Kg prog 205 f205 [[0],[2]] [.t 2]:={}
def c242:Kg prog 242 f242 [[0],[0,4],[0,30],[0,5],[0,5,39],[0,5],[0,5,44],[2,3],[0,5,6],[5,6,47,48,49],[5,6,47,48,49,50],[5,6,8,47,48,49],[5,6,8,47,48,49],[5,6,8,47,48,49,56],[2,3],[5,6,47,48,49],[5,6,47,48,49],[6,66],[6],[2,3],[9,10],[2,3]] [.t 2,.t 3]:={}
def c244:Kg prog 244 f244 [[0],[2]] [.t 2]:={}
def c266:Kg prog 266 f266 [[0,1],[0,1,11],[0,17],[4],[0,5],[0,5,6],[0,5,6,23],[0,5,6],[0,5,6,7],[0,5,7],[5,7,34],[5,7],[4],[4],[9],[4]] [.t 4]:={}
def c283:Kg prog 283 f283 [[0],[0,4],[2],[2]] [.t 2]:={c:=by constructor;conv=>lhs;reduce;simp only[Lv,UInt8.reduceOfNat,Int.reduceOfNat]}
def c245:Kg prog 245 f245 [[0,1],[4]] [.t 4]:={}
def c241:Kg prog 241 f241 [[1],[1,4],[1,4,5],[2],[1,4,15],[2],[1,30],[2],[2]] [.t 2]:={}
def kp158(r:Nat):List Nat:=match r with
 |0=>[0,1,2,3]
 |1=>[0,1,2,3,6]
 |2=>[]
 |_=>[]
def c158:q9:=
(sq (rg [om 5 3,⟨some 6,none,.ext (.tH 0 true) [(tm 5)]⟩] [0,1,2,3,6]) (.cond (tm 6) (rg [om 7 3,⟨some 8,none,.ext (.tas 196 false z0)
 [(tm 7)]⟩,⟨none,none,.st 1 (tm 0) (.c zs)⟩,⟨none,none,.st 1 (tm 1) (tm 8)⟩,⟨none,none,.st 1 (tm 2) (ci 100)⟩] []) .skip))
def l158:CF prog 158:=mkL f158
def a158{args:List Fs}{rv:Fs}{H:AB}{n:Nat}{Rc:AB->Nat->Prop}(h:Gl prog c158 (Co [] λo H' n'=>o= .ret (.sH [])/\Rc H' n') ⟨(3,true,rv)::(4,true,rv)::Ev 0 args,H,n⟩):C8 prog 158 args rv H n Rc:=
 I5 (id:=0) (fn:=f158) (ops:=KY (aC (f158.body.getD .skip))) (X:=TM (f158.body.getD .skip)) (y:=c158) (fz:=[]) (im:=[]) (kp:=kp158) (t3:=3) (t4:=4) (by kernel_rfl) (by kernel_rfl) (by kernel_rfl) (by kernel_rfl) (by kernel_rfl) (by kernel_rfl) h
def kp90(r:Nat):List Nat:=match r with
 |0=>[0,2,3,4]
 |1=>[0,2,3,4,9]
 |2=>[2,3,4]
 |3=>[0,2,3,4]
 |4=>[0,2,3,4,5]
 |5=>[0,2,3,4,5]
 |6=>[0,2,3,4,5,6]
 |7=>[0,2,3,4,5,6,22]
 |8=>[0,2,3,4,5,6]
 |9=>[2,3,4]
 |_=>[]
def gJ:q9:=
 (.reg 3 [
  ⟨some 2,none,.alloc 0 [(.sl .nil [])]⟩,
  ⟨some 3,none,.alloc 1 [(.int .i64 0)]⟩,
  ⟨some 4,none,.alloc 2 [(.int .i64 0)]⟩] [0,2,3,4])
def gK:q9:=
 (.seq
  (.reg 0 [
   ⟨some 7,none,.v (.mv (.t 0))⟩,
   ⟨some 8,none,.v (.lenS (.t 7))⟩,
   ⟨some 9,none,.v (.icmp .gtr .i64 (.t 8) (.c (.int .i64 65536)))⟩] [0,2,3,4,9])
  (.cond (.t 9)
  (.seq
   (.reg 0 [
    ⟨none,none,.st 1 (.t 2) (.c (.sl .nil []))⟩,
    ⟨none,none,.st 1 (.t 3) (.c (.int .i64 0))⟩,
    ⟨none,none,.st 1 (.t 4) (.c (.int .i64 2))⟩] [2,3,4])
   .ret)
  .skip))
def c90:q9:=
(sq (.reg 1 [⟨some 5,none,.alloc 0 [.tG,.tG,.tG,.tG,.tG,.tG]⟩] [0,2,3,4,5]) (sq (rg [ov 11 (.build [.tG,.tG,
 .tG,.tG,.tG,.tG] [(0,1,(.c (.fn (.func 159) [] []))),(1,1,(.c (.fn (.func 160) [] []))),(2,1,(.c (.fn (.func 161) [] []))),(3,
 1,(.c (.fn (.func 162) [] []))),(4,1,(.c (.fn (.func 163) [] []))),(5,1,(.c (.fn (.func 159) [] [])))]),of 12 0 5,⟨none,none,.st 6 (tm 12)
 (tm 11)⟩] [0,2,3,4,5]) (sq (.reg 4 [om 13 0,ov 14 (.build [zr,z0,zs] [(0,1,(tm 13))]),⟨some 15,none,.box 2 3 (tm 14)⟩,om 6 15] [0,2,3,
 4,5,6]) (sq (.block 0 (.loop (sq (sq (rg [om 16 6,ov 17 (.nilc (tm 16)),of 18 1 17,ol 19 18,om 20 0,ov 21 (.lenS (tm 20)),ov 22 (.icmp .lss
 .i64 (tm 19) (tm 21))] [0,2,3,4,5,6,22]) (.cond (tm 22) .skip (.exit 0))) (.block 1 (rg [om 23 0,om 24 6,ov 25 (.nilc (tm 24)),of 26 1 25,
 ol 27 26,ov 28 (.ixS (tm 23) (tm 27)),oc 29 164 [(tm 28)],of 30 0 5,ov 31 (.iaA 6 1 (tm 30) (tm 29)),ol 32 31,om 33 6,⟨some 34,none,.call
 false (tm 32) [(tm 33)]⟩] [0,2,3,4,5,6]))))) (sq (rg [om 35 6,ov 36 (.nilc (tm 35)),of 37 2 36,ol 38 37,⟨none,none,.st 1 (tm 2) (tm 38)⟩,
 ⟨none,none,.st 1 (tm 3) (ci 0)⟩,⟨none,none,.st 1 (tm 4) (ci 0)⟩] [2,3,4]) .ret)))))
def a90{args:List Fs}{H:AB}{n:Nat}{R:xx->AB->Nat->Prop}(h:Gl prog (Fu [gJ,gK]) (LI prog 10 ⟨(some 10),none,.v (.fn (.func 158) [] [(.t 2),(.t 3),(.t 4)])⟩ c90 5 158 [.c 2 1 false,.c 3 1 false,.c 4 1 false] R) ⟨Ev 0 args,H,n⟩):AO prog 90 args H n R:=
 GU (id:=3) (fn:=f90) (pre:=[aC (f90.body.getD .skip),aC (TM (f90.body.getD .skip))]) (ys:=[gJ,gK]) (ops:=KY (aC (TM (TM (f90.body.getD .skip))))) (X:=(TM (TM (TM (f90.body.getD .skip))))) (y:=c90) (fz:=[]) (fzX:=[(999999,5)]) (im:=[(8,11)]) (kp:=kp90) (rs:=[.c 2 1 false,.c 3 1 false,.c 4 1 false]) (d0:=(some 10)) (k:=.fn (.func 158) [] [(.t 2),(.t 3),(.t 4)]) (t:=10) (by kernel_rfl) (by kernel_rfl) (by kernel_rfl) (by kernel_rfl) (by kernel_rfl) (by kernel_rfl) (by kernel_rfl) (by kernel_rfl) (by kernel_rfl) l158 h
def c218:Kg prog 218 f218 [[0,7],[0],[]] []:={}
def c248:Kg prog 248 f248 [[0,1],[4]] [.t 4]:={}
def c211:Kf prog 211 f211 [] [(1,2)] [[0,1],[0,5],[0,5,9],[5],[4]] [.t 4]:={}
def c208:Kf prog 208 f208 [] [(3,2),(4,1)] [[0,6,7,8],[0,6,7,8,9],[0,5,6,7,8],[0,6,7,8,15],[0,6,7,8],[0,6,7,8]] []:={}
def c247:Kg prog 247 f247 [[0],[2]] [.t 2]:={}
def c210:Kf prog 210 f210 [] [(1,1),(2,1)] [[0],[0,6],[0],[0,3],[3],[2]] [.t 2]:={}
def c209:Kf prog 209 f209 [] [(2,1)] [[0],[0,19],[0],[0,3],[3],[2]] [.t 2]:={}
def c214:Kf prog 214 f214 [] [(1,1),(2,2),(3,1)] [[0,2],[0,2],[0,2],[2],[2]] [.c 2 2 true]:={c:=by constructor;conv=>lhs;reduce;simp only[Lv,UInt8.reduceOfNat,Int.reduceOfNat]}
def c287:Kf prog 287 f287 [] [(1,2),(2,1),(3,2)] [[0],[0],[0,3],[3],[2]] [.t 2]:={c:=by constructor;conv=>lhs;reduce;simp only[Lv,UInt8.reduceOfNat,Int.reduceOfNat]}
def c275:Kf prog 275 f275 [] [(2,1),(4,1),(0,2),(6,1),(7,2),(8,2)] [[0,1],[0,1],[0,1,10],[0,1],[0,1,16],[0,1],[0,1,23],[],[]] []:={c:=by constructor;conv=>lhs;reduce;simp only[Lv,UInt8.reduceOfNat,Int.reduceOfNat]}
def c268:Kf prog 268 f268 [] [(0,2),(6,1),(8,1),(10,2),(11,2),(12,1),(14,2),(15,1),(1,2),(3,2),(4,2),(5,2)] [[0,1],[0,1],[0,1],[0,1],[0,1],[],[0,1,28],[],[0,1,34],[0,1],[0,1],[],[0,1,48],[0,1],[],[0,1,57],[]] []:={c:=by constructor;conv=>lhs;reduce;simp only[Lv,UInt8.reduceOfNat,Int.reduceOfNat]}
def c271:Kf prog 271 f271 [] [(0,2),(1,2),(2,2)] [[0,1],[0,1],[]] []:={c:=by constructor;conv=>lhs;reduce;simp only[Lv,UInt8.reduceOfNat,Int.reduceOfNat]}
def c269:Kg prog 269 f269 [] []:={}
def c270:Kf prog 270 f270 [] [(0,2)] [[]] []:={}
def c272:Kf prog 272 f272 [] [(0,2)] [[]] []:={}
def c273:Kf prog 273 f273 [] [(0,2)] [[]] []:={}
def c274:Kf prog 274 f274 [] [(0,2)] [[]] []:={}
def c217:Kf prog 217 f217 [] [(10,5),(1,1),(2,2),(3,0),(4,1),(4,2),(7,2),(8,3),(11,2),(14,1)] [[0,2],[0,2],[0,2],[0,2,3],[0,2,3,15,16,17],[0,2,3,15,16,17,18],[0,2,3,5,15,16,17],[0,2,3,5,15,16,17,23],[0,2,3,5],[0,2,3,5],[0,2],[2],[2],[0,2,3,15,16,17],[2],[2]] [.c 2 12 true]:={c:=by constructor;conv=>lhs;reduce;simp only[Lv,UInt8.reduceOfNat,Int.reduceOfNat]}
def c216:Kf prog 216 f216 [] [(1,1),(2,2),(3,1),(6,1),(8,1),(10,1),(11,2),(12,1),(4,2),(13,2)] [[0,2],[0,2],[0,2],[0,2],[0,2],[0,2],[0,2,16],[0,2],[0,2,20],[0,2],[0,2],[0,2],[0,2],[2],[2]] [.c 2 6 true]:={c:=by constructor;conv=>lhs;reduce;simp only[Lv,UInt8.reduceOfNat,Int.reduceOfNat]}
def c215:Kf prog 215 f215 [(700011,300001),(800014,300000)] [(1,1),(2,2),(3,1),(4,3),(5,2),(6,2)] [[0,2],[0,2],[0,2],[0,2,10],[0,2],[0,2],[2],[2]] [.c 2 2 true]:={c:=by constructor;conv=>lhs;reduce;simp only[Lv,UInt8.reduceOfNat,Int.reduceOfNat]}
def c166:Kf prog 166 f166 [(700051,300001),(800054,300000),(700060,300001),(800063,300000),(700069,300001),(800072,300000)] [(1,2),(2,1),(3,2),(4,1),(5,2),(7,1),(8,2),(10,1),(11,2),(12,1),(13,1),(14,1),(15,2),(16,1),(17,2),(18,1),(19,3),(20,1),(21,3),(22,1),(23,3),(24,2),(26,1)] [[0,2],[0,2],[0,2],[0,2],[0,2],[0,2],[0,2],[0,2,21],[0,2],[0,2],[0,2],[0,2],[0,2],[0,2,36],[0,2],[0,2],[0,2],[0,2],[0,2,50],[0,2],[0,2,59],[0,2],[0,2,68],[0,2],[0,2],[0,2,84],[2],[2]] [.c 2 10 true]:={c:=by constructor;conv=>lhs;reduce;simp only[Lv,UInt8.reduceOfNat,Int.reduceOfNat]}
def c296:Kf prog 296 f296 [] [(1,2),(3,3),(2,1)] [[0,1],[0,1,5],[0,1,5,11],[0,1,5],[4]] [.t 4]:={c:=by constructor;conv=>lhs;reduce;simp only[Lv,UInt8.reduceOfNat,Int.reduceOfNat]}
def c212:Kf prog 212 f212 [] [(1,2),(3,3),(2,1)] [[0,1],[0,1,5],[0,1,5,11],[0,1,5],[4]] [.t 4]:={c:=by constructor;conv=>lhs;reduce;simp only[Lv,UInt8.reduceOfNat,Int.reduceOfNat]}
def c213:Kf prog 213 f213 [] [(1,2),(3,3),(2,1)] [[0,1],[0,1,5],[0,1,5,11],[0,1,5],[4]] [.t 4]:={c:=by constructor;conv=>lhs;reduce;simp only[Lv,UInt8.reduceOfNat,Int.reduceOfNat]}
def c249:Kg prog 249 f249 [[],[0]] [.t 0]:={c:=by constructor;conv=>lhs;reduce;simp only[Lv,UInt8.reduceOfNat,Int.reduceOfNat]}
def kp165(r:Nat):List Nat:=match r with
 |0=>[0,1,2,3]
 |1=>[0,1,2,3,8]
 |2=>[0,1,2,3,4,5]
 |3=>[0,1,2,3,4,15]
 |4=>[0,1,2,4]
 |5=>[]
 |_=>[]
def c165:q9:=
(sq (rg [om 7 3,⟨some 8,none,.ext (.tH 0 true) [(tm 7)]⟩] [0,1,2,3,8]) (.cond (tm 8) (sq (.reg 8 [om 10 3,⟨some 11,none,.ext (.tas 206
 true (.agg [z0])) [(tm 10)]⟩,om 9 11,ox 12 0 9,ox 13 1 9,⟨some 4,none,.alloc 5 [z0]⟩,⟨none,none,.st 1 (tm 4) (tm 12)⟩,om 5 13] [0,1,2,3,
 4,5]) (sq (sq (rg [om 14 5,ot 15 14] [0,1,2,3,4,15]) (.cond (tm 15) (rg [om 16 3,⟨none,none,.tJ (tm 16)⟩] [0,1,2,4]) .skip)) (.regx 0
 [(0,ov 17 (.build [zr,z0,z0,z0,z0,zs,zs,zs,zs,zs] [])),(0,of 18 0 4),(300004,ol 19 18),(300003,⟨none,none,.st 10 (tm 0) (tm 17)⟩),
 (0,⟨none,none,.st 1 (tm 1) (tm 19)⟩),(0,⟨none,none,.st 1 (tm 2) (ci 150)⟩)] []))) .skip))
def l165:CF prog 165:=mkL f165
def a165{args:List Fs}{rv:Fs}{H:AB}{n:Nat}{Rc:AB->Nat->Prop}(h:Gl prog c165 (Co [] λo H' n'=>o= .ret (.sH [])/\Rc H' n') ⟨(3,true,rv)::(6,true,rv)::Ev 0 args,H,n⟩):C8 prog 165 args rv H n Rc:=
 I5 (id:=0) (fn:=f165) (ops:=KY (aC (f165.body.getD .skip))) (X:=TM (f165.body.getD .skip)) (y:=c165) (fz:=[(700018,300001),(700000,300000)]) (im:=[]) (kp:=kp165) (t3:=3) (t4:=6) (by kernel_rfl) (by kernel_rfl) (by kernel_rfl) (by kernel_rfl) (by kernel_rfl) (by kernel_rfl) h
def kp91(r:Nat):List Nat:=match r with
 |0=>[0,1,4,5,6]
 |1=>[0,1,4,5,6]
 |2=>[4,5,6]
 |_=>[]
def gL:q9:=
 (.reg 3 [
  ⟨some 4,none,.alloc 0 [(.str []),(.int .i64 0),(.int .i64 0),(.int .i64 0),(.int .i64 0),(.sl .nil []),(.sl .nil []),(.sl .nil []),(.sl .nil []),(.sl .nil [])]⟩,
  ⟨some 5,none,.alloc 1 [(.int .i64 0)]⟩,
  ⟨some 6,none,.alloc 2 [(.int .i64 0)]⟩] [0,1,4,5,6])
def c91:q9:=
(sq (.reg 8 [om 8 0,om 9 1,ov 10 (.build [zs,z0] [(0,1,(tm 8)),(1,1,(tm 9))]),⟨some 11,none,.box 3 2 (tm 10)⟩,oe 12 166 [(tm 11)],⟨none,
 none,.st 10 (tm 4) (tm 12)⟩,⟨none,none,.st 1 (tm 5) (ci 0)⟩,⟨none,none,.st 1 (tm 6) (ci 0)⟩] [4,5,6]) .ret)
def a91{args:List Fs}{H:AB}{n:Nat}{R:xx->AB->Nat->Prop}(h:Gl prog (Fu [gL]) (LI prog 7 ⟨(some 7),none,.v (.fn (.func 165) [] [(.t 4),(.t 5),(.t 6)])⟩ c91 7 165 [.c 4 10 true,.c 5 1 false,.c 6 1 false] R) ⟨Ev 0 args,H,n⟩):AO prog 91 args H n R:=
 GU (id:=1) (fn:=f91) (pre:=[aC (f91.body.getD .skip)]) (ys:=[gL]) (ops:=KY (aC (TM (f91.body.getD .skip)))) (X:=(TM (TM (f91.body.getD .skip)))) (y:=c91) (fz:=[]) (fzX:=[(999999,7)]) (im:=[(2,4)]) (kp:=kp91) (rs:=[.c 4 10 true,.c 5 1 false,.c 6 1 false]) (d0:=(some 7)) (k:=.fn (.func 165) [] [(.t 4),(.t 5),(.t 6)]) (t:=7) (by kernel_rfl) (by kernel_rfl) (by kernel_rfl) (by kernel_rfl) (by kernel_rfl) (by kernel_rfl) (by kernel_rfl) (by kernel_rfl) (by kernel_rfl) l165 h
def c38:Kg prog 38 f38 [[0,2],[0,2,3,4,5],[0,2,3,4,5,13],[2,3,4],[2,3,4]] [.c 2 10 true,.t 3,.t 4]:={}
def c17:Kg prog 17 f17 [[0,2],[2,3,4,5],[2,3,4,5,13],[2,3,4],[2,4],[2,3,4]] [.c 2 17 true,.t 3,.t 4]:={}
def mS:Kf prog 250 f250 [] [(1,1),(2,1)] [[0],[3],[3],[2]] [.t 2]:={}
def c276:Kf prog 276 f276 [] [(1,1)] [[0],[2]] [.t 2]:={}
noncomputable def Jt:Code:=((WZ (f288.body.getD .skip))[0]?.getD (#[],.skip,.skip)).2.1
noncomputable def Ju:Code:=((WZ (f288.body.getD .skip))[0]?.getD (#[],.skip,.skip)).2.2
def ZK(r:Nat):List Nat:=match r with
 |3=>[]
 |_=>[]
def P0:q9:=
(.block 1 (.reg 5 [ol 8 2,om 9 5,ov 10 (.bs 1 1 (.str []) [(0,(tm 9))]),⟨some 11,none,.uF 3 1 16 (.str []) (tm 8) (tm 10) false⟩,⟨none,none,.st 1 (tm 2) (tm 11)⟩] []))
def ZL(r:Nat):List Nat:=match r with
 |2=>[2,5]
 |_=>[]
def P1:q9:=
(rg [om 5 7] [2,5])
def mT{l id:Nat}{st:LoopState}{tS:Option Code}{env:List (Nat×Bool×Fs)}{args:List Fs}{H:AB}{n:Nat}{R:Bool->AB->Nat->Prop}(ho:AD H id=some (.lp ⟨l,st,tS,13,env, #[7],Jt,Ju⟩))(td:args.length=1)(h:Gl prog P1 (KX prog id P0 R) ⟨Hp [7] args env,H,n⟩):Cf prog l args H n R:=
 Dj (aa:=P1) (ab:=P0) (fz:=[(3,3)]) (im:=[]) (fz2:=[(3,3)]) (im2:=[]) (kp:=ZL) (kp2:=ZK) ho rfl td rfl (by kernel_rfl) (by kernel_rfl) rfl rfl h
def kp288(r:Nat):List Nat:=match r with
 |0=>[1,2,4]
 |1=>[2,4,6]
 |4=>[4]
 |_=>[]
noncomputable def c288:q9:=
(sq (.reg 2 [⟨some 2,none,.box 0 1 (tm 0)⟩,ov 4 (.mv (.c zs))] [1,2,4]) (sq (sq (rg [om 6 1] [2,4,6]) (.block 0 (.rfun (tm 6) #[7] 13 Jt
 Ju))) (sq (rg [ol 12 2,om 4 12] [4]) .ret)))
def a288:TN prog 288 c288 [.t 4]:=Wz (fn:=f288) (c:=f288.body.getD .skip) (fz:=[(3,3)]) (im:=[]) kp288
def c277:Kf prog 277 f277 [] [(1,5)] [[0,2],[]] []:={}
def c289:Kf prog 289 f289 [] [(4,3),(26,4),(29,5)] [[0,1,2,3,8],[0,1,2,3,8,9],[0,1,2,3,8,9,10],[0,1,2,3,8,9,10,23],[],[0,1,2,3,8,9,10,29],[],[0,1,2,3,8,9,10,35],[0,1,2,3,8,9,10],[0,1,2,3,8,9,10],[0,1,2,3,8,9,10,11,12],[0,1,2,3,8,9,10,11,12,50],[0,1,2,3,8,9,10,11],[0,1,2,3,8,9,10,11],[0,1,2,3,8,9,10,11,12],[0,1,2,3,8,9,10,11,68],[0,1,2,3,8,9,10,11,72],[0,1,2,3,8,9,10,11,87],[0,2,3,8,9,13],[0,1,2,3,8,9],[0,1,2,3,10,14,15],[0,1,2,3,9,10,14],[0,1,2,3,9,10,14,16,17],[0,1,2,3,9,14,16,17,18],[0,1,2,3,9,14,16,17,18,113],[0,1,2,3,8,9,14],[0,2,3,8,9,14],[0,1,2,3,8,9],[0,1,2,3,8,9,14],[0,1,3,8,9,14],[0,1,2,3,8,9]] []:={}
def c297:Kg prog 297 f297 [[0,1,2,6],[0,1,2,6,12],[0,1,2,6],[0,1,2,6,7],[0,1,2,6,7,30],[0,1,2,6,7],[0,1,2,6,7]] []:={}
def c303:Kg prog 303 f303 [[0,1],[4]] [.t 4]:={}
def c311:Kg prog 311 f311 [[0],[2]] [.t 2]:={}
def c251:Kg prog 251 f251 [[1],[2]] [.t 2]:={}
def mU:Kf prog 278 f278 [] [(3,2)] [[0,5],[0,5,7],[0,3,5],[0,5,13]] []:={}
def c197:Kg prog 197 f197 [[0],[2],[2]] [.t 2]:={}
def c240:Kg prog 240 f240 [[0,1],[4]] [.t 4]:={}
def c259:Kg prog 259 f259 [[0,1],[0,1,7,8],[0,1,7,8,9],[0,1,5,7,8],[0,1,5,7,8,16],[4],[0,1,7,8],[4]] [.t 4]:={}
def c14:Kg prog 14 f14 [[1],[1,33],[2],[1,3],[1,3,38],[1,3],[1,3,48],[2],[1,3,4],[1,3,4,57],[1,3,4],[1,3,4,70],[2],[1,5],[1,5,75],[1,5],[1,5,95],[2],[2]] [.t 2]:={}
def c7:Kg prog 7 f7 [[1],[1,3],[1,3,4],[1,3,4,13],[1,3,4],[1,3,4],[2]] [.t 2]:={}
def c20:Kg prog 20 f20 [[0],[0,3],[0,3,4],[0,3,4,12],[0,3,4],[0,3,4],[2]] [.t 2]:={}
def kp3(r:Nat):List Nat:=match r with
 |0=>[2,3]
 |1=>[2,3,10]
 |2=>[4]
 |3=>[2,3,18]
 |4=>[4]
 |5=>[2,3,5,6]
 |6=>[2,3,5,6,7,8]
 |7=>[4]
 |_=>[]
def c3:q9:=
(sq (.reg 3 [⟨some 2,none,.box 0 17 (tm 0)⟩,⟨some 3,none,.box 1 17 (tm 1)⟩,ob 4 false] [2,3]) (sq (sq (rg [oc 9 6 [],ot 10 9] [2,3,10])
 (.cond (tm 10) (sq (rg [ob 4 false] [4]) .ret) .skip)) (sq (sq (rg [ov 11 (.ld 17 true (tm 2)),oc 12 7 [(tm 11)],ot 13 12,om 14 13,gv 15 14
 false (.ld 17 true (tm 3)),⟨some 16,some (14,false),.call true (.c (.fn (.func 7) [] [])) [(tm 15)]⟩,gv 17 14 false (.not (tm 16)),oz 18 14 17]
 [2,3,18]) (.cond (tm 18) (sq (rg [ob 4 true] [4]) .ret) .skip)) (sq (.reg 8 [ov 20 (.ld 17 true (tm 2)),oc 21 8 [(tm 20)],om 19 21,ox 22 0 19,
 ox 23 1 19,⟨some 5,none,.alloc 5 [(.int .u8 0),(.int .u8 0),(.int .u8 0),(.int .u8 0),(.int .u8 0),(.int .u8 0),(.int .u8 0),(.int .u8 0),
 (.int .u8 0),(.int .u8 0),(.int .u8 0),(.int .u8 0),(.int .u8 0),(.int .u8 0),(.int .u8 0),(.int .u8 0),(.int .u8 0),(.int .u8 0),(.int .u8
 0),(.int .u8 0),(.int .u8 0),(.int .u8 0),(.int .u8 0),(.int .u8 0),(.int .u8 0),(.int .u8 0),(.int .u8 0),(.int .u8 0),(.int .u8 0),(.int
 .u8 0),(.int .u8 0),(.int .u8 0)]⟩,⟨none,none,.st 32 (tm 5) (tm 22)⟩,om 6 23] [2,3,5,6]) (sq (.reg 8 [ov 25 (.ld 17 true (tm 2)),oc 26 9
 [(tm 25)],om 24 26,ox 27 0 24,ox 28 1 24,⟨some 7,none,.alloc 5 [(.int .u8 0),(.int .u8 0),(.int .u8 0),(.int .u8 0),(.int .u8 0),(.int .u8
 0),(.int .u8 0),(.int .u8 0),(.int .u8 0),(.int .u8 0),(.int .u8 0),(.int .u8 0),(.int .u8 0),(.int .u8 0),(.int .u8 0),(.int .u8 0),(.int
 .u8 0),(.int .u8 0),(.int .u8 0),(.int .u8 0),(.int .u8 0),(.int .u8 0),(.int .u8 0),(.int .u8 0),(.int .u8 0),(.int .u8 0),(.int .u8 0),
 (.int .u8 0),(.int .u8 0),(.int .u8 0),(.int .u8 0),(.int .u8 0)]⟩,⟨none,none,.st 32 (tm 7) (tm 27)⟩,om 8 28] [2,3,5,6,7,8]) (sq (rg [ov
 29 (.ld 17 true (tm 2)),oc 30 10 [(tm 29)],ov 31 (.ld 17 true (tm 2)),oc 32 11 [(tm 31)],ov 33 (.icmp .eql .i64 (tm 30) (tm 32)),om 34 33,gv 35
 34 true (.ld 17 true (tm 2)),gv 36 34 true (.ld 17 true (tm 3)),⟨some 37,some (34,true),.call true (.c (.fn (.func 12) [] [])) [(tm 35),(tm
 36)]⟩,gv 38 34 true (.ld 17 true (tm 2)),gv 39 34 true (.ld 17 true (tm 3)),⟨some 40,some (34,true),.call true (.c (.fn (.func 13) [] [])) [(tm
 38),(tm 39)]⟩,gv 41 34 true (.beq false (tm 37) (tm 40)),oy 42 34 41,om 43 42,gv 44 43 true (.ld 17 true (tm 2)),gv 45 43 true (.ld 17 true (tm
 2)),⟨some 46,some (43,true),.call true (.c (.fn (.func 12) [] [])) [(tm 44),(tm 45)]⟩,oy 47 43 46,om 48 47,gv 49 48 true (.ld 32 true (tm 5)),
 gv 50 48 true (.ld 32 true (tm 7)),gv 51 48 true (.aeq false [0,0,0,0,0,0,0,0,0,0,0,0,0,0,0,0,0,0,0,0,0,0,0,0,0,0,0,0,0,
 0,0,0] (tm 49) (tm 50)),oy 52 48 51,om 53 52,gm 54 53 true 6,gm 55 53 true 8,gv 56 53 true (.icmp .eql .i64 (tm 54) (tm 55)),oy 57 53 56,om 4
 57] [4]) .ret))))))
def a3:TN prog 3 c3 [.t 4]:=Wz (fn:=f3) (c:=f3.body.getD .skip) (fz:=[]) (im:=[]) kp3
def kp6(r:Nat):List Nat:=match r with
 |0=>[]
 |1=>[1,2,3]
 |2=>[1,2,3,5,6]
 |3=>[1,2,3,5,6,8,9]
 |4=>[1,2,3,5,6,8,9,11,12]
 |5=>[1,2,3,5,6,8,9,11,12,14]
 |6=>[1,2,3,5,6,8,9,11,12,14,16]
 |7=>[1,2,3,5,6,8,9,11,12,14,16,17,18]
 |8=>[1,11,17,103]
 |9=>[0]
 |10=>[1,11,17,19]
 |11=>[0]
 |_=>[]
def c6:q9:=
(sq (rg [ob 0 false] []) (sq (.reg 10 [oc 22 18 [(.c (.str [49])),(.c (.str [114,111,119,115])),(.c (.str [59]))],oc 23 17 [(tm 22)],om 21 23,
 ox 24 0 21,ox 25 1 21,ox 26 2 21,⟨some 1,none,.alloc 6 [zr,z0,z0,z0,z0,zs,zs,zs,zs,zs,z0,z0,z0,zs,zs,zs,zs]⟩,⟨none,none,.st 17
 (tm 1) (tm 24)⟩,om 2 25,om 3 26] [1,2,3]) (sq (.reg 10 [oc 28 18 [(.c (.str [48])),(.c (.str [114,111,119,115])),(.c (.str [59]))],oc 29 17
 [(tm 28)],om 27 29,ox 30 0 27,ox 31 1 27,ox 32 2 27,⟨some 4,none,.alloc 6 [zr,z0,z0,z0,z0,zs,zs,zs,zs,zs,z0,z0,z0,zs,zs,zs,
 zs]⟩,⟨none,none,.st 17 (tm 4) (tm 30)⟩,om 5 31,om 6 32] [1,2,3,5,6]) (sq (.reg 10 [oc 34 18 [(.c (.str [49])),(.c (.str [108,105,110,
 101,115])),(.c (.str [59]))],oc 35 17 [(tm 34)],om 33 35,ox 36 0 33,ox 37 1 33,ox 38 2 33,⟨some 7,none,.alloc 6 [zr,z0,z0,z0,z0,zs,zs,
 zs,zs,zs,z0,z0,z0,zs,zs,zs,zs]⟩,⟨none,none,.st 17 (tm 7) (tm 36)⟩,om 8 37,om 9 38] [1,2,3,5,6,8,9]) (sq (.reg 10 [oc 40 18 [(.c
 (.str [49])),(.c (.str [114,111,119,115])),(.c zr)],oc 41 17 [(tm 40)],om 39 41,ox 42 0 39,ox 43 1 39,ox 44 2 39,⟨some 10,none,.alloc 6
 [zr,z0,z0,z0,z0,zs,zs,zs,zs,zs,z0,z0,z0,zs,zs,zs,zs]⟩,⟨none,none,.st 17 (tm 10) (tm 42)⟩,om 11 43,om 12 44] [1,2,3,5,6,8,9,
 11,12]) (sq (.reg 8 [ov 46 (.build [zr,z0,z0,z0,z0,zs,zs,zs,zs,zs] []),oc 47 15 [(tm 46)],om 45 47,ox 48 0 45,ox 49 1 45,⟨some 13,
 none,.alloc 5 [zr,z0,z0,z0,z0,zs,zs,zs,zs,zs,z0,z0,z0,zs,zs,zs,zs]⟩,⟨none,none,.st 17 (tm 13) (tm 48)⟩,om 14 49] [1,2,3,5,6,
 8,9,11,12,14]) (sq (.reg 8 [ov 51 (.build [zr,z0,z0,z0,z0,zs,zs,zs,zs,zs,z0,z0,z0,zs,zs,zs,zs] []),oc 52 8 [(tm 51)],om 50 52,
 ox 53 0 50,ox 54 1 50,⟨some 15,none,.alloc 5 [(.int .u8 0),(.int .u8 0),(.int .u8 0),(.int .u8 0),(.int .u8 0),(.int .u8 0),(.int .u8 0),
 (.int .u8 0),(.int .u8 0),(.int .u8 0),(.int .u8 0),(.int .u8 0),(.int .u8 0),(.int .u8 0),(.int .u8 0),(.int .u8 0),(.int .u8 0),(.int .u8
 0),(.int .u8 0),(.int .u8 0),(.int .u8 0),(.int .u8 0),(.int .u8 0),(.int .u8 0),(.int .u8 0),(.int .u8 0),(.int .u8 0),(.int .u8 0),(.int
 .u8 0),(.int .u8 0),(.int .u8 0),(.int .u8 0)]⟩,⟨none,none,.st 32 (tm 15) (tm 53)⟩,om 16 54] [1,2,3,5,6,8,9,11,12,14,16]) (sq (.reg 8
 [ov 56 (.ld 17 true (tm 1)),oc 57 8 [(tm 56)],om 55 57,ox 58 0 55,ox 59 1 55,⟨some 17,none,.alloc 5 [(.int .u8 0),(.int .u8 0),(.int .u8 0),
 (.int .u8 0),(.int .u8 0),(.int .u8 0),(.int .u8 0),(.int .u8 0),(.int .u8 0),(.int .u8 0),(.int .u8 0),(.int .u8 0),(.int .u8 0),(.int .u8
 0),(.int .u8 0),(.int .u8 0),(.int .u8 0),(.int .u8 0),(.int .u8 0),(.int .u8 0),(.int .u8 0),(.int .u8 0),(.int .u8 0),(.int .u8 0),(.int
 .u8 0),(.int .u8 0),(.int .u8 0),(.int .u8 0),(.int .u8 0),(.int .u8 0),(.int .u8 0),(.int .u8 0)]⟩,⟨none,none,.st 32 (tm 17) (tm 58)⟩,om
 18 59] [1,2,3,5,6,8,9,11,12,14,16,17,18]) (sq (sq (rg [om 60 3,ov 61 (.icmp .neq .i64 (tm 60) (ci 0)),om 62 61,gm 63 62 false 2,gv 64
 62 false (.icmp .neq .i64 (tm 63) (ci 0)),oz 65 62 64,om 66 65,gm 67 66 false 6,gv 68 66 false (.icmp .neq .i64 (tm 67) (ci 170)),oz 69 66 68,om
 70 69,gm 71 70 false 5,gv 72 70 false (.icmp .neq .i64 (tm 71) (ci 0)),oz 73 70 72,om 74 73,gm 75 74 false 9,gv 76 74 false (.icmp .neq .i64 (tm
 75) (ci 160)),oz 77 74 76,om 78 77,gm 79 78 false 8,gv 80 78 false (.icmp .neq .i64 (tm 79) (ci 0)),oz 81 78 80,om 82 81,gm 83 82 false 12,gv
 84 82 false (.icmp .neq .i64 (tm 83) (ci 150)),oz 85 82 84,om 86 85,gm 87 86 false 14,gv 88 86 false (.icmp .neq .i64 (tm 87) (ci 2)),oz 89 86
 88,om 90 89,gm 91 90 false 16,gv 92 90 false (.icmp .neq .i64 (tm 91) (ci 180)),oz 93 90 92,om 94 93,gm 95 94 false 18,gv 96 94 false (.icmp
 .neq .i64 (tm 95) (ci 0)),oz 97 94 96,om 98 97,gf 99 98 false 16 1,gl 100 98 false 99,gv 101 98 false (.len (tm 100)),gv 102 98 false (.icmp
 .neq .i64 (tm 101) (ci 8)),oz 103 98 102] [1,11,17,103]) (.cond (tm 103) (sq (rg [ob 0 false] [0]) .ret) .skip)) (sq (.reg 8 [ov 105 (.ld 17
 true (tm 1)),oc 106 9 [(tm 105)],om 104 106,ox 107 0 104,ox 108 1 104,⟨some 19,none,.alloc 5 [(.int .u8 0),(.int .u8 0),(.int .u8 0),(.int
 .u8 0),(.int .u8 0),(.int .u8 0),(.int .u8 0),(.int .u8 0),(.int .u8 0),(.int .u8 0),(.int .u8 0),(.int .u8 0),(.int .u8 0),(.int .u8 0),
 (.int .u8 0),(.int .u8 0),(.int .u8 0),(.int .u8 0),(.int .u8 0),(.int .u8 0),(.int .u8 0),(.int .u8 0),(.int .u8 0),(.int .u8 0),(.int .u8
 0),(.int .u8 0),(.int .u8 0),(.int .u8 0),(.int .u8 0),(.int .u8 0),(.int .u8 0),(.int .u8 0)]⟩,⟨none,none,.st 32 (tm 19) (tm 107)⟩,om 20
 108] [1,11,17,19]) (sq (rg [om 109 11,oc 110 18 [(.c (.str [49])),(.c (.str [114,111,119,115])),(.c zr)],ov 111 (.lenS (tm 110)),ov 112
 (.arith .sub .i64 (tm 111) (ci 1)),ov 113 (.icmp .eql .i64 (tm 109) (tm 112)),om 114 113,gv 115 114 true (.ld 32 true (tm 17)),gv 116 114 true
 (.ld 32 true (tm 19)),gv 117 114 true (.aeq false [0,0,0,0,0,0,0,0,0,0,0,0,0,0,0,0,0,0,0,0,0,0,0,0,0,0,0,0,0,0,0,0]
 (tm 115) (tm 116)),oy 118 114 117,om 119 118,gf 120 119 true 10 1,gf 121 119 true 4 120,gl 122 119 true 121,gv 123 119 true (.len (tm 122)),gv
 124 119 true (.icmp .eql .i64 (tm 123) (ci 4)),oy 125 119 124,om 126 125,gf 127 126 true 16 1,gl 128 126 true 127,gv 129 126 true (.ia 1 (tm 128)
 (ci 1)),gl 130 126 true 129,gv 131 126 true (.bs 1 2 z0 [(0,(ci 0)),(1,(ci 1))]),gv 132 126 true (.bs 1 2 z0 [(0,(ci 2)),(1,(ci 3))]),gv 133
 126 true (.bs 1 2 zs [(0,(tm 131)),(1,(tm 132))]),⟨some 134,some (126,true),.call true (.c (.fn (.func 19) [] [])) [(tm 130),(tm 133)]⟩,oy
 135 126 134,om 136 135,gv 137 136 true (.ld 17 true (tm 1)),⟨some 138,some (136,true),.call true (.c (.fn (.func 10) [] [])) [(tm 137)]⟩,gv 139
 136 true (.icmp .eql .i64 (tm 138) (ci 0)),oy 140 136 139,om 141 140,gv 142 141 true (.build [zr,z0,z0,z0,z0,zs,zs,zs,zs,zs,z0,z0,z0,
 zs,zs,zs,zs] []),⟨some 143,some (141,true),.call true (.c (.fn (.func 10) [] [])) [(tm 142)]⟩,gv 144 141 true (.icmp .eql .i64 (tm 143) (ci
 180)),oy 145 141 144,om 146 145,gv 147 146 true (.build [zr,z0,z0,z0,z0,zs,zs,zs,zs,zs,z0,z0,z0,zs,zs,zs,zs] []),gv 148 146 true
 (.build [zr,z0,z0,z0,z0,zs,zs,zs,zs,zs,z0,z0,z0,zs,zs,zs,zs] []),⟨some 149,some (146,true),.call true (.c (.fn (.func 12) [] []))
 [(tm 147),(tm 148)]⟩,oy 150 146 149,om 0 150] [0]) .ret)))))))))))
def a6:TN prog 6 c6 [.t 0]:=Wz (fn:=f6) (c:=f6.body.getD .skip) (fz:=[]) (im:=[]) kp6
def c18:Kg prog 18 f18 [[0,1,2],[6]] [.t 6]:={c:=by constructor;conv=>lhs;reduce;simp only[Lv,UInt8.reduceOfNat,Int.reduceOfNat]}
def c16:Kg prog 16 f16 [[0,1],[0,1,5],[1,5,8,9,10],[1,5,8,9,10,11],[1,5,7,8,9,10],[1,5,8,9,10],[1,5,8,9,10],[4]] [.t 4]:={}
def c4:Kf prog 4 f4 [(6,3),(6,7),(700019,600000),(700023,600000),(990006,0),(990006,1),(990006,2),(990006,4),(990006,5),(990006,6),(990006,3),(990006,8),(990006,7),(990006,9),(990006,10),(990006,11),(700069,1026),(700071,1026),(700073,1026),(700075,1026),(700051,1027),(700054,1027),(700057,1027),(700062,1027),(700064,1027),(700066,1027)] [(18,1)] [[2,3],[2,3,13],[4],[2,3,16],[4],[2,3,5],[2,3,5],[2,3,5,30,31],[2,3,5,30,31,32],[2,3,5,6,30,31],[2,3,5,30,31],[2,3,5,30,31],[2,3,5,44,45],[2,3,5,44,45,46],[2,3,5,7,44,45],[2,3,5,44,45],[2,3,5,44,45],[5,8,9],[8,9,10,11],[4]] [.t 4]:={}
def c5:Kf prog 5 f5 [(6,3),(6,7),(700024,600000),(700028,600000),(990006,0),(990006,1),(990006,2),(990006,4),(990006,5),(990006,6),(990006,3),(990006,8),(990006,7),(990006,9),(990006,10),(990006,11),(700059,1025),(700079,1024)] [(18,1)] [[1,2],[1,2,13],[4],[1,2,21],[4],[1,2,5],[1,2,5],[1,2,5,35,36],[1,2,5,35,36,37],[1,2,5,6,35,36],[1,2,5,35,36],[1,2,5,35,36],[1,2,5,52,53],[1,2,5,52,53,54],[1,2,5,7,52,53],[1,2,5,52,53],[1,2,5,52,53],[5,8,9],[8,9,10,11],[8,10,95],[4],[8,10],[4]] [.t 4]:={}
def c8:Kg prog 8 f8 [[1,2],[1,2,7],[2,3],[2,3,4],[2,3,4,17],[2,3],[2,3]] [.c 2 32 true,.t 3]:={c:=by constructor;conv=>lhs;reduce;simp only[Lv,UInt8.reduceOfNat,Int.reduceOfNat]}
def c22:Kg prog 22 f22 [[1,2],[1,2,3],[1,2,3,4],[1,2,3,4,5],[1,2,3,4,5,6],[1,2,3,4,5,6,7],[2]] [.c 2 4 true]:={}
def c42:Kg prog 42 f42 [[0,2],[2]] [.c 2 4 true]:={}
def c46:Kg prog 46 f46 [[1,2],[2]] [.c 2 4 true]:={}
def c50:Kg prog 50 f50 [[1,2,3],[3]] [.c 3 4 true]:={}
def c53:Kg prog 53 f53 [[1,2],[2]] [.c 2 4 true]:={}
def c55:Kg prog 55 f55 [[1,2],[2]] [.c 2 4 true]:={}
def c44:Kg prog 44 f44 [[0,2],[2]] [.c 2 4 true]:={}
def c48:Kg prog 48 f48 [[0,2],[2]] [.c 2 4 true]:={}
def c47:Kg prog 47 f47 [[0,2],[2]] [.c 2 4 true]:={}
def c43:Kf prog 43 f43 [] [(7,1)] [[0,1,4],[0,1,4,5],[1,4,5,11,12,13],[1,4,5,11,12,13,14],[1,4,5,6,7,11,12,13],[1,4,5,11,12,13],[1,4,5,11,12,13],[4]] [.c 4 4 true]:={}
def c45:Kf prog 45 f45 [] [(7,1)] [[0,1,4],[0,1,4,5],[1,4,5,11,12,13],[1,4,5,11,12,13,14],[1,4,5,6,7,11,12,13],[1,4,5,11,12,13],[1,4,5,11,12,13],[4]] [.c 4 4 true]:={}
def c49:Kf prog 49 f49 [] [(7,1)] [[0,1,4],[0,1,4,5],[1,4,5,11,12,13],[1,4,5,11,12,13,14],[1,4,5,6,7,11,12,13],[1,4,5,11,12,13],[1,4,5,11,12,13],[4]] [.c 4 4 true]:={}
def c51:Kf prog 51 f51 [] [(7,1)] [[0,1,4],[0,1,4,5],[1,4,5,11,12,13],[1,4,5,11,12,13,14],[1,4,5,6,7,11,12,13],[1,4,5,11,12,13],[1,4,5,11,12,13],[4]] [.c 4 4 true]:={}
def c52:Kf prog 52 f52 [] [(7,1)] [[0,1,4],[0,1,4,5],[1,4,5,11,12,13],[1,4,5,11,12,13,14],[1,4,5,6,7,11,12,13],[1,4,5,11,12,13],[1,4,5,11,12,13],[4]] [.c 4 4 true]:={}
def c54:Kf prog 54 f54 [] [(7,1)] [[0,1,4],[0,1,4,5],[1,4,5,11,12,13],[1,4,5,11,12,13,14],[1,4,5,6,7,11,12,13],[1,4,5,11,12,13],[1,4,5,11,12,13],[4]] [.c 4 4 true]:={}
def c56:Kf prog 56 f56 [] [(7,1)] [[0,1,4],[0,1,4,5],[1,4,5,11,12,13],[1,4,5,11,12,13,14],[1,4,5,6,7,11,12,13],[1,4,5,11,12,13],[1,4,5,11,12,13],[4]] [.c 4 4 true]:={}
def c21:Kf prog 21 f21 [(800010,500000),(700011,500001),(700001,500001),(700015,500001),(990004,1),(990004,2),(990004,7),(990004,0),(990004,3),(990004,4),(990004,5),(990004,6),(990004,8),(990004,9),(990004,10)] [(4,3),(4,8),(4,0)] [[1],[1,4],[1,4,8],[2,3],[2,3]] [.t 2,.t 3]:={}
def c40:Kg prog 40 f40 [[1],[3,4],[3,10],[2],[13],[2],[2]] [.t 2]:={}
def nk:Kg prog 92 f92 [[1,2],[1,2,4],[1,2,50],[2,3],[1,2,53],[2,3],[2,55,56,57],[2,55,56,57,58],[2,6,55,56,57],[2,7,8,55,56,57],[2,7,55,56,57,67],[2,3],[2,55,56,57],[2,55,56,57],[2,3]] [.t 2,.t 3]:={}
def c41:Kg prog 41 f41 [[],[1],[1],[1],[1],[0]] [.t 0]:={}
def c93:Kf prog 93 f93 [] [(1,6)] [[0,3],[4]] [.t 4]:={}
def c96:Kf prog 96 f96 [(700013,500005),(800012,500004),(990001,0),(990001,1),(990001,2),(990001,3),(990001,4),(990001,5),(990001,6),(990001,8),(990001,9),(990001,7),(990001,10),(990001,11)] [(1,9),(1,7)] [[0,3],[4]] [.t 4]:={}
def c97:Kf prog 97 f97 [] [(1,7),(5,9)] [[0,2,4],[0,2,4],[0,2,17,18,19],[0,2,17,18,19,20],[0,2,7,17,18,19],[0,2,17,18,19],[0,2,17,18,19],[5]] [.t 5]:={}
def c94:Kg prog 94 f94 [[0,1],[0,1,6],[0,1],[0,1],[4]] [.t 4]:={}
def c95:Kg prog 95 f95 [[0],[2]] [.t 2]:={}
def c23:Kf prog 23 f23 [] [(2,3)] [[0,1,4],[1,4,5],[4]] [.c 4 32 true]:={}
def c57:Kf prog 57 f57 [(17,1002),(12,1006)] [(6,3),(15,3),(12,9),(19,8)] [[0,2],[0,2,3],[0,2,3,4],[0,2,3,4,5],[0,2,3,4,5,14],[0,2,3,4,5],[0,2,3,4,5],[0,2,3,4,5,6],[0,2,3,4,5,6],[0,2,3,4,5,6],[0,2,3,4,6,31],[0,2,3,4,6],[2,3,4,6],[2,3,4,6,46],[2,3,4,6],[2,3,4,6],[2,53,54],[2,53,54,55],[2,7,8,53,54],[2,53,54],[2,53,54],[2]] [.c 2 32 true]:={}
def c98:Kf prog 98 f98 [(17,0),(17,1),(17,2)] [] [[0,1,4],[0,1,4,14],[0,1,4,14,15],[0,1,4,5,14],[0,1,4,14],[0,1,4,14],[0,4,6],[0,4,6,26],[0,4,6],[0,4,6,7,8],[0,4,6],[0,4,9],[0,4,9,69],[0,4,9,69,70],[0,4,9,10,69],[0,4,9,11,69],[0,4,9,11,12,69],[0,4,9,11,12,69],[0,4,9,11,12,69],[0,4,9,69],[0,4,9,69],[0,9,129],[0,9,129,130],[0,9,13,129],[0,9,129],[0,9,129]] []:={}
def c99:Kg prog 99 f99 [[0,1,6,7],[0,1,6,7,8],[0,1,4,6,7],[0,1,6,7],[0,1,6,7]] []:={}
def c167:Kg prog 167 f167 [[0,2],[2,6,7,8],[2,6,7,8,9],[2,4,6,7,8],[2,6,7,8],[2,6,7,8],[2]] [.t 2]:={}
def c169:Kg prog 169 f169 [[0,1,2,3],[8]] [.t 8]:={}
def c168:Kg prog 168 f168 [[0,1],[0,5],[4]] [.t 4]:={}
def c58:Kf prog 58 f58 [(13,2),(15,1002)] [(9,1)] [[0],[0,3],[0,3,9,10,11],[0,3,9,10,11,12],[0,3,5,9,10,11],[0,3,9,10,11],[0,3,9,10,11,20],[0,3,9,10,11],[0,3,9,10,11],[0,6],[6,25,26,27],[6,25,26,27,28],[6,8,25,26,27],[6,25,26,27],[6,25,26,27],[2]] [.t 2]:={c:=by constructor;conv=>lhs;reduce;simp only[Lv,UInt8.reduceOfNat,Int.reduceOfNat]}
def mV:Kf prog 100 f100 [(5,8)] [] [[0,1],[0,1,6],[0,1],[0,1],[0,1,16],[0],[4]] [.t 4]:={c:=by constructor;conv=>lhs;reduce;simp only[Lv,UInt8.reduceOfNat,Int.reduceOfNat]}
def c9:Kg prog 9 f9 [[1,2],[1,2,8],[2,3],[2,4],[2,3]] [.c 2 32 true,.t 3]:={c:=by constructor;conv=>lhs;reduce;simp only[Lv,UInt8.reduceOfNat,Int.reduceOfNat]}
def c25:Kg prog 25 f25 [[1,2],[1,2,3],[1,2,3,4],[1,2,3,4,21],[1,2,3,4],[1,2,3,4,5],[1,2,3,4],[1,2,3,6],[1,2,3,6,7],[1,2,3,6,7,45],[1,2,3,6,7],[1,2,3,6,7,8],[1,2,3,6,7,8,9],[1,2,3,6,7,8,9,57],[1,2,3,6,7,8,9],[1,2,3,6,7,8,9],[1,2,3,6,7],[1,2,3,6,10],[1,2,3,6,10,11],[1,2,3,6,10,11,92],[1,2,3,6,10,11],[1,2,3,6,10,11,12],[1,2,3,6,10,11],[1,2,3,6,10,13],[1,2,3,6,10,13,14],[1,2,3,6,10,13,14,125],[1,2,3,6,10,13,14],[1,2,3,6,10,13,14,15],[1,2,3,6,10,13,14],[2]] [.c 2 4 true]:={}
def c65:Kg prog 65 f65 [[0,2],[0,2,3],[0,2,3,4],[0,2,3,4,9],[0,2,3,4],[0,2,3,4],[2]] [.c 2 4 true]:={}
def c64:Kg prog 64 f64 [[0,2],[0,2,3],[0,2,3,4],[0,2,3,4,9],[0,2,3,4],[0,2,3,4],[2]] [.c 2 4 true]:={}
def c61:Kg prog 61 f61 [[0,2],[2]] [.c 2 4 true]:={}
def c24:Kg prog 24 f24 [[1],[1,4],[1,4,8],[2,3],[2,3]] [.t 2,.t 3]:={}
def c59:Kg prog 59 f59 [[1],[1,5],[2],[8],[2],[2]] [.t 2]:={}
def Wd:Kg prog 101 f101 [[1],[1,5],[1,5,6],[2],[1,5,17],[2],[1,28],[1,3],[1,3,34],[1,3],[1,3,43],[2],[2],[2]] [.t 2]:={}
def We:Kg prog 102 f102 [[1],[1,7],[2],[1,3],[1,3,4],[1,3,4,12],[1,3,4],[1,3,4],[2]] [.t 2]:={}
def np:Kg prog 60 f60 [[1],[1,6],[1,6,7],[2],[1,15],[2],[1,3],[1,3,4],[1,3,4,38],[1,3,4],[1,3,4],[2]] [.t 2]:={}
def mW:Kg prog 103 f103 [[0],[0,4],[2],[2]] [.t 2]:={}
def mX:Kg prog 104 f104 [[0],[0,4],[2],[2]] [.t 2]:={}
def c62:Kg prog 62 f62 [[0,2],[2]] [.c 2 4 true]:={}
def c63:Kg prog 63 f63 [[0,2],[2]] [.c 2 4 true]:={}
def c26:Kg prog 26 f26 [[0,1,4],[1,4,5],[4]] [.c 4 32 true]:={}
def c66:Kg prog 66 f66 [[0,2],[0,2,3],[2,3,4],[2,3,4,5],[2,3,4,5,14],[2,3,4,5],[2,3,4,5],[2,3,6],[2,3,6,7],[2,3,6,7,26],[2,3,6,7],[2,3,6,7],[2]] [.c 2 32 true]:={}
def c105:Kg prog 105 f105 [[0],[0,3],[0,3,14],[0,3],[3,4],[3,4,5],[3,4,5,23],[3,4,5],[3,4,5],[2]] [.t 2]:={}
def c106:Kg prog 106 f106 [[1,2,4],[1,2,4,5],[1,2,4,5,6],[1,2,4,5,6,24],[1,2,4,5,6],[1,2,4,5,6],[2,4,5,7],[2,4,5,7,38],[2,4,5,7],[2,4,5,7,8],[2,4,5,7,8,9],[2,4,5,7],[2,4,5,10],[2,4,5,10,11,12,13,14,15,16,17,18],[2,4,5,10,11,12,13,14,15,16,17,18,19],[2,4,5,10,11,12,13,14,15,16,17,18,19,96],[2,4,5,10,11,12,13,14,15,16,17,18,19],[2,4,5,10,11,12,13,14,15,16,17,19,20],[2,4,5,10,11,12,13,14,15,16,17,19,20,21],[2,4,5,10,11,12,13,14,15,16,17,18,19],[4]] [.c 4 8 true]:={}
def c170:Kg prog 170 f170 [[0],[2]] [.t 2]:={}
def c171:Kg prog 171 f171 [[0,1],[4]] [.t 4]:={}
def c172:Kg prog 172 f172 [[0],[0]] [.c 0 64 true]:={}
end Go.AM
