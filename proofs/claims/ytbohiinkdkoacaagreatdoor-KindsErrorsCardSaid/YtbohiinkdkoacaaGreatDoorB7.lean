/-
  Parts of the proof. Conditions: none.
-/
import Derived.Test.YtbohiinkdkoacaaGreatDoorProg
import Derived.Test.YtbohiinkdkoacaaGreatDoorB5
set_option maxRecDepth 20000
set_option linter.all false
namespace Go.AM
open Go.Proofs Go.Proofs.Tryz
def QV:Kf prog 133 f133 [(3,2)] [] [[0],[0,4],[2],[2]] [.t 2]:={}
def c187:Kg prog 187 f187 [[]] []:={}
def c188:Kg prog 188 f188 [[]] []:={}
def c189:Kf prog 189 f189 [] [(1,4)] [[0,2],[]] []:={}
def c190:Kf prog 190 f190 [] [(4,4)] [[0,2],[0,2,3,4],[0,2,3,20],[0,2,3],[]] []:={}
def c191:Kf prog 191 f191 [] [(6,4)] [[0,13],[0,2],[0,2,25],[],[],[0,3],[]] []:={c:=by constructor;conv=>lhs;reduce;simp only[u8n,UInt8.reduceOfNat,Int.reduceOfNat]}
def c215:Kg prog 215 f215 [[0,1],[0,1,5],[0,1,5,27],[0,1,5],[4]] [.t 4]:={}
def c216:Kg prog 216 f216 [[0,1,5],[0,1,5,8],[0,1,5],[0,1,5],[0,1],[]] []:={}
def c219:Kg prog 219 f219 [[0,1],[4]] [.t 4]:={}
def c217:Kg prog 217 f217 [[0],[0,4,5],[0,4,5,12],[2,3],[2,3]] [.t 2,.t 3]:={c:=by constructor;conv=>lhs;reduce;simp only[u8n,UInt8.reduceOfNat,Int.reduceOfNat]}
def c218:Kg prog 218 f218 [[0],[2]] [.t 2]:={}
def c246:Kg prog 246 f246 [[0],[0,4],[0,30],[0,5],[0,5,39],[0,5],[0,5,44],[2,3],[0,5,6],[5,6,47,48,49],[5,6,47,48,49,50],[5,6,8,47,48,49],[5,6,8,47,48,49],[5,6,8,47,48,49,56],[2,3],[5,6,47,48,49],[5,6,47,48,49],[6,66],[6],[2,3],[9,10],[2,3]] [.t 2,.t 3]:={}
def c248:Kg prog 248 f248 [[0],[2]] [.t 2]:={}
def c268:Kg prog 268 f268 [[0,1],[0,1,11],[0,17],[4],[0,5],[0,5,6],[0,5,6,23],[0,5,6],[0,5,6,7],[0,5,7],[5,7,34],[5,7],[4],[4],[9],[4]] [.t 4]:={}
def c285:Kg prog 285 f285 [[0],[0,4],[2],[2]] [.t 2]:={c:=by constructor;conv=>lhs;reduce;simp only[u8n,UInt8.reduceOfNat,Int.reduceOfNat]}
def c249:Kg prog 249 f249 [[0,1],[4]] [.t 4]:={}
def c245:Kg prog 245 f245 [[1],[1,4],[1,4,5],[2],[1,4,15],[2],[1,30],[2],[2]] [.t 2]:={}
def kp186(r:Nat):List Nat:=match r with
 |0=>[0,1,2,3]
 |1=>[0,1,2,3,6]
 |2=>[]
 |_=>[]
def c186:Yw:=
(sq (rg [om 5 3,⟨some 6,none,.ext (.nileq 0 true) [(tm 5)]⟩] [0,1,2,3,6]) (.cond (tm 6) (rg [om 7 3,⟨some 8,none,.ext (.tas 218 false z0)
 [(tm 7)]⟩,⟨none,none,.st 1 (tm 0) (.c zs)⟩,⟨none,none,.st 1 (tm 1) (tm 8)⟩,⟨none,none,.st 1 (tm 2) (ci 100)⟩] []) .skip))
def l186:BW prog 186:=mkL f186
def a186{args:List Fs}{rv:Fs}{H:AC}{n:Nat}{Rc:AC->Nat->Prop}(h:awp prog c186 (Cd [] λo H' n'=>o= .ret (.tup [])/\Rc H' n') ⟨(3,true,rv)::(4,true,rv)::penv 0 args,H,n⟩):CL prog 186 args rv H n Rc:=
 F2 (id:=0) (fn:=f186) (ops:=IS (sqH (f186.body.getD .skip))) (X:=sqT (f186.body.getD .skip)) (y:=c186) (fz:=[]) (im:=[]) (kp:=kp186) (t3:=3) (t4:=4) (by kernel_rfl) (by kernel_rfl) (by kernel_rfl) (by kernel_rfl) (by kernel_rfl) (by kernel_rfl) h
def kp142(r:Nat):List Nat:=match r with
 |0=>[0,2,3,4]
 |1=>[0,2,3,4,9]
 |2=>[2,3,4]
 |3=>[0,2,3,4]
 |4=>[0,2,3,4,5]
 |5=>[0,2,3,4,5]
 |6=>[0,2,3,4,5,6]
 |7=>[0,2,3,4,5,6,22]
 |8=>[0,2,3,4,5,6]
 |9=>[2,3,4]
 |_=>[]
def TR:Yw:=
 (.reg 3 [
  ⟨some 2,none,.alloc 0 [(.sl .nil [])]⟩,
  ⟨some 3,none,.alloc 1 [(.int .i64 0)]⟩,
  ⟨some 4,none,.alloc 2 [(.int .i64 0)]⟩] [0,2,3,4])
def TS:Yw:=
 (.seq
  (.reg 0 [
   ⟨some 7,none,.v (.mv (.t 0))⟩,
   ⟨some 8,none,.v (.lenS (.t 7))⟩,
   ⟨some 9,none,.v (.icmp .gtr .i64 (.t 8) (.c (.int .i64 65536)))⟩] [0,2,3,4,9])
  (.cond (.t 9)
  (.seq
   (.reg 0 [
    ⟨none,none,.st 1 (.t 2) (.c (.sl .nil []))⟩,
    ⟨none,none,.st 1 (.t 3) (.c (.int .i64 0))⟩,
    ⟨none,none,.st 1 (.t 4) (.c (.int .i64 2))⟩] [2,3,4])
   .ret)
  .skip))
def c142:Yw:=
(sq (.reg 1 [⟨some 5,none,.alloc 0 [.nilfn,.nilfn,.nilfn,.nilfn,.nilfn,.nilfn]⟩] [0,2,3,4,5]) (sq (rg [ov 11 (.build [.nilfn,.nilfn,
 .nilfn,.nilfn,.nilfn,.nilfn] [(0,1,(.c (.fn (.func 187) [] []))),(1,1,(.c (.fn (.func 188) [] []))),(2,1,(.c (.fn (.func 189) [] []))),(3,
 1,(.c (.fn (.func 190) [] []))),(4,1,(.c (.fn (.func 191) [] []))),(5,1,(.c (.fn (.func 187) [] [])))]),of 12 0 5,⟨none,none,.st 6 (tm 12)
 (tm 11)⟩] [0,2,3,4,5]) (sq (.reg 4 [om 13 0,ov 14 (.build [zr,z0,zs] [(0,1,(tm 13))]),⟨some 15,none,.box 2 3 (tm 14)⟩,om 6 15] [0,2,3,
 4,5,6]) (sq (.block 0 (.loop (sq (sq (rg [om 16 6,ov 17 (.nilc (tm 16)),of 18 1 17,ol 19 18,om 20 0,ov 21 (.lenS (tm 20)),ov 22 (.icmp .lss
 .i64 (tm 19) (tm 21))] [0,2,3,4,5,6,22]) (.cond (tm 22) .skip (.exit 0))) (.block 1 (rg [om 23 0,om 24 6,ov 25 (.nilc (tm 24)),of 26 1 25,
 ol 27 26,ov 28 (.ixS (tm 23) (tm 27)),oc 29 192 [(tm 28)],of 30 0 5,ov 31 (.iaA 6 1 (tm 30) (tm 29)),ol 32 31,om 33 6,⟨some 34,none,.call
 false (tm 32) [(tm 33)]⟩] [0,2,3,4,5,6]))))) (sq (rg [om 35 6,ov 36 (.nilc (tm 35)),of 37 2 36,ol 38 37,⟨none,none,.st 1 (tm 2) (tm 38)⟩,
 ⟨none,none,.st 1 (tm 3) (ci 0)⟩,⟨none,none,.st 1 (tm 4) (ci 0)⟩] [2,3,4]) .ret)))))
def a142{args:List Fs}{H:AC}{n:Nat}{R:Zb->AC->Nat->Prop}(h:awp prog (EQ [TR,TS]) (KL prog 10 ⟨(some 10),none,.v (.fn (.func 186) [] [(.t 2),(.t 3),(.t 4)])⟩ c142 5 186 [.c 2 1 false,.c 3 1 false,.c 4 1 false] R) ⟨penv 0 args,H,n⟩):AN prog 142 args H n R:=
 Dw (id:=3) (fn:=f142) (pre:=[sqH (f142.body.getD .skip),sqH (sqT (f142.body.getD .skip))]) (ys:=[TR,TS]) (ops:=IS (sqH (sqT (sqT (f142.body.getD .skip))))) (X:=(sqT (sqT (sqT (f142.body.getD .skip))))) (y:=c142) (fz:=[]) (fzX:=[(999999,5)]) (im:=[(8,11)]) (kp:=kp142) (rs:=[.c 2 1 false,.c 3 1 false,.c 4 1 false]) (d0:=(some 10)) (k:=.fn (.func 186) [] [(.t 2),(.t 3),(.t 4)]) (t:=10) (by kernel_rfl) (by kernel_rfl) (by kernel_rfl) (by kernel_rfl) (by kernel_rfl) (by kernel_rfl) (by kernel_rfl) (by kernel_rfl) (by kernel_rfl) l186 h
def c231:Kg prog 231 f231 [[0,7],[0],[]] []:={}
def c252:Kg prog 252 f252 [[0,1],[4]] [.t 4]:={}
def c224:Kf prog 224 f224 [] [(1,2)] [[0,1],[0,5],[0,5,9],[5],[4]] [.t 4]:={}
def c221:Kf prog 221 f221 [] [(3,2),(4,1)] [[0,6,7,8],[0,6,7,8,9],[0,5,6,7,8],[0,6,7,8,15],[0,6,7,8],[0,6,7,8]] []:={}
def c251:Kg prog 251 f251 [[0],[2]] [.t 2]:={}
def c223:Kf prog 223 f223 [] [(1,1),(2,1)] [[0],[0,6],[0],[0,3],[3],[2]] [.t 2]:={}
def c222:Kf prog 222 f222 [] [(2,1)] [[0],[0,19],[0],[0,3],[3],[2]] [.t 2]:={}
def c227:Kf prog 227 f227 [] [(1,1),(2,2),(3,1)] [[0,2],[0,2],[0,2],[2],[2]] [.c 2 2 true]:={c:=by constructor;conv=>lhs;reduce;simp only[u8n,UInt8.reduceOfNat,Int.reduceOfNat]}
def c289:Kf prog 289 f289 [] [(1,2),(2,1),(3,2)] [[0],[0],[0,3],[3],[2]] [.t 2]:={c:=by constructor;conv=>lhs;reduce;simp only[u8n,UInt8.reduceOfNat,Int.reduceOfNat]}
def c277:Kf prog 277 f277 [] [(2,1),(4,1),(0,2),(6,1),(7,2),(8,2)] [[0,1],[0,1],[0,1,10],[0,1],[0,1,16],[0,1],[0,1,23],[],[]] []:={c:=by constructor;conv=>lhs;reduce;simp only[u8n,UInt8.reduceOfNat,Int.reduceOfNat]}
def c270:Kf prog 270 f270 [] [(0,2),(6,1),(8,1),(10,2),(11,2),(12,1),(14,2),(15,1),(1,2),(3,2),(4,2),(5,2)] [[0,1],[0,1],[0,1],[0,1],[0,1],[],[0,1,28],[],[0,1,34],[0,1],[0,1],[],[0,1,48],[0,1],[],[0,1,57],[]] []:={c:=by constructor;conv=>lhs;reduce;simp only[u8n,UInt8.reduceOfNat,Int.reduceOfNat]}
def c273:Kf prog 273 f273 [] [(0,2),(1,2),(2,2)] [[0,1],[0,1],[]] []:={c:=by constructor;conv=>lhs;reduce;simp only[u8n,UInt8.reduceOfNat,Int.reduceOfNat]}
def c271:Kg prog 271 f271 [] []:={}
def c272:Kf prog 272 f272 [] [(0,2)] [[]] []:={}
def c274:Kf prog 274 f274 [] [(0,2)] [[]] []:={}
def c275:Kf prog 275 f275 [] [(0,2)] [[]] []:={}
def c276:Kf prog 276 f276 [] [(0,2)] [[]] []:={}
def c230:Kf prog 230 f230 [] [(10,5),(1,1),(2,2),(3,0),(4,1),(4,2),(7,2),(8,3),(11,2),(14,1)] [[0,2],[0,2],[0,2],[0,2,3],[0,2,3,15,16,17],[0,2,3,15,16,17,18],[0,2,3,5,15,16,17],[0,2,3,5,15,16,17,23],[0,2,3,5],[0,2,3,5],[0,2],[2],[2],[0,2,3,15,16,17],[2],[2]] [.c 2 12 true]:={c:=by constructor;conv=>lhs;reduce;simp only[u8n,UInt8.reduceOfNat,Int.reduceOfNat]}
def c229:Kf prog 229 f229 [] [(1,1),(2,2),(3,1),(6,1),(8,1),(10,1),(11,2),(12,1),(4,2),(13,2)] [[0,2],[0,2],[0,2],[0,2],[0,2],[0,2],[0,2,16],[0,2],[0,2,20],[0,2],[0,2],[0,2],[0,2],[2],[2]] [.c 2 6 true]:={c:=by constructor;conv=>lhs;reduce;simp only[u8n,UInt8.reduceOfNat,Int.reduceOfNat]}
def c228:Kf prog 228 f228 [(700011,300001),(800014,300000)] [(1,1),(2,2),(3,1),(4,3),(5,2),(6,2)] [[0,2],[0,2],[0,2],[0,2,10],[0,2],[0,2],[2],[2]] [.c 2 2 true]:={c:=by constructor;conv=>lhs;reduce;simp only[u8n,UInt8.reduceOfNat,Int.reduceOfNat]}
def c194:Kf prog 194 f194 [(700051,300001),(800054,300000),(700060,300001),(800063,300000),(700069,300001),(800072,300000)] [(1,2),(2,1),(3,2),(4,1),(5,2),(7,1),(8,2),(10,1),(11,2),(12,1),(13,1),(14,1),(15,2),(16,1),(17,2),(18,1),(19,3),(20,1),(21,3),(22,1),(23,3),(24,2),(26,1)] [[0,2],[0,2],[0,2],[0,2],[0,2],[0,2],[0,2],[0,2,21],[0,2],[0,2],[0,2],[0,2],[0,2],[0,2,36],[0,2],[0,2],[0,2],[0,2],[0,2,50],[0,2],[0,2,59],[0,2],[0,2,68],[0,2],[0,2],[0,2,84],[2],[2]] [.c 2 10 true]:={c:=by constructor;conv=>lhs;reduce;simp only[u8n,UInt8.reduceOfNat,Int.reduceOfNat]}
def c298:Kf prog 298 f298 [] [(1,2),(3,3),(2,1)] [[0,1],[0,1,5],[0,1,5,11],[0,1,5],[4]] [.t 4]:={c:=by constructor;conv=>lhs;reduce;simp only[u8n,UInt8.reduceOfNat,Int.reduceOfNat]}
def c225:Kf prog 225 f225 [] [(1,2),(3,3),(2,1)] [[0,1],[0,1,5],[0,1,5,11],[0,1,5],[4]] [.t 4]:={c:=by constructor;conv=>lhs;reduce;simp only[u8n,UInt8.reduceOfNat,Int.reduceOfNat]}
def c226:Kf prog 226 f226 [] [(1,2),(3,3),(2,1)] [[0,1],[0,1,5],[0,1,5,11],[0,1,5],[4]] [.t 4]:={c:=by constructor;conv=>lhs;reduce;simp only[u8n,UInt8.reduceOfNat,Int.reduceOfNat]}
def c253:Kg prog 253 f253 [[],[0]] [.t 0]:={c:=by constructor;conv=>lhs;reduce;simp only[u8n,UInt8.reduceOfNat,Int.reduceOfNat]}
def kp193(r:Nat):List Nat:=match r with
 |0=>[0,1,2,3]
 |1=>[0,1,2,3,8]
 |2=>[0,1,2,3,4,5]
 |3=>[0,1,2,3,4,15]
 |4=>[0,1,2,4]
 |5=>[]
 |_=>[]
def c193:Yw:=
(sq (rg [om 7 3,⟨some 8,none,.ext (.nileq 0 true) [(tm 7)]⟩] [0,1,2,3,8]) (.cond (tm 8) (sq (.reg 8 [om 10 3,⟨some 11,none,.ext (.tas 228
 true (.agg [z0])) [(tm 10)]⟩,om 9 11,ox 12 0 9,ox 13 1 9,⟨some 4,none,.alloc 5 [z0]⟩,⟨none,none,.st 1 (tm 4) (tm 12)⟩,om 5 13] [0,1,2,3,
 4,5]) (sq (sq (rg [om 14 5,ot 15 14] [0,1,2,3,4,15]) (.cond (tm 15) (rg [om 16 3,⟨none,none,.pan (tm 16)⟩] [0,1,2,4]) .skip)) (.regx 0
 [(0,ov 17 (.build [zr,z0,z0,z0,z0,zs,zs,zs,zs,zs] [])),(0,of 18 0 4),(300004,ol 19 18),(300003,⟨none,none,.st 10 (tm 0) (tm 17)⟩),
 (0,⟨none,none,.st 1 (tm 1) (tm 19)⟩),(0,⟨none,none,.st 1 (tm 2) (ci 150)⟩)] []))) .skip))
def l193:BW prog 193:=mkL f193
def a193{args:List Fs}{rv:Fs}{H:AC}{n:Nat}{Rc:AC->Nat->Prop}(h:awp prog c193 (Cd [] λo H' n'=>o= .ret (.tup [])/\Rc H' n') ⟨(3,true,rv)::(6,true,rv)::penv 0 args,H,n⟩):CL prog 193 args rv H n Rc:=
 F2 (id:=0) (fn:=f193) (ops:=IS (sqH (f193.body.getD .skip))) (X:=sqT (f193.body.getD .skip)) (y:=c193) (fz:=[(700018,300001),(700000,300000)]) (im:=[]) (kp:=kp193) (t3:=3) (t4:=6) (by kernel_rfl) (by kernel_rfl) (by kernel_rfl) (by kernel_rfl) (by kernel_rfl) (by kernel_rfl) h
def kp143(r:Nat):List Nat:=match r with
 |0=>[0,1,4,5,6]
 |1=>[0,1,4,5,6]
 |2=>[4,5,6]
 |_=>[]
def TT:Yw:=
 (.reg 3 [
  ⟨some 4,none,.alloc 0 [(.str []),(.int .i64 0),(.int .i64 0),(.int .i64 0),(.int .i64 0),(.sl .nil []),(.sl .nil []),(.sl .nil []),(.sl .nil []),(.sl .nil [])]⟩,
  ⟨some 5,none,.alloc 1 [(.int .i64 0)]⟩,
  ⟨some 6,none,.alloc 2 [(.int .i64 0)]⟩] [0,1,4,5,6])
def c143:Yw:=
(sq (.reg 8 [om 8 0,om 9 1,ov 10 (.build [zs,z0] [(0,1,(tm 8)),(1,1,(tm 9))]),⟨some 11,none,.box 3 2 (tm 10)⟩,oe 12 194 [(tm 11)],⟨none,
 none,.st 10 (tm 4) (tm 12)⟩,⟨none,none,.st 1 (tm 5) (ci 0)⟩,⟨none,none,.st 1 (tm 6) (ci 0)⟩] [4,5,6]) .ret)
def a143{args:List Fs}{H:AC}{n:Nat}{R:Zb->AC->Nat->Prop}(h:awp prog (EQ [TT]) (KL prog 7 ⟨(some 7),none,.v (.fn (.func 193) [] [(.t 4),(.t 5),(.t 6)])⟩ c143 7 193 [.c 4 10 true,.c 5 1 false,.c 6 1 false] R) ⟨penv 0 args,H,n⟩):AN prog 143 args H n R:=
 Dw (id:=1) (fn:=f143) (pre:=[sqH (f143.body.getD .skip)]) (ys:=[TT]) (ops:=IS (sqH (sqT (f143.body.getD .skip)))) (X:=(sqT (sqT (f143.body.getD .skip)))) (y:=c143) (fz:=[]) (fzX:=[(999999,7)]) (im:=[(2,4)]) (kp:=kp143) (rs:=[.c 4 10 true,.c 5 1 false,.c 6 1 false]) (d0:=(some 7)) (k:=.fn (.func 193) [] [(.t 4),(.t 5),(.t 6)]) (t:=7) (by kernel_rfl) (by kernel_rfl) (by kernel_rfl) (by kernel_rfl) (by kernel_rfl) (by kernel_rfl) (by kernel_rfl) (by kernel_rfl) (by kernel_rfl) l193 h
def c84:Kg prog 84 f84 [[0,2],[0,2,3,4,5],[0,2,3,4,5,13],[2,3,4],[2,3,4]] [.c 2 10 true,.t 3,.t 4]:={}
def c23:Kg prog 23 f23 [[0,2],[2,3,4,5],[2,3,4,5,13],[2,3,4],[2,4],[2,3,4]] [.c 2 17 true,.t 3,.t 4]:={}
def c254:Kf prog 254 f254 [] [(1,1),(2,1)] [[0],[3],[3],[2]] [.t 2]:={}
def c278:Kf prog 278 f278 [] [(1,1)] [[0],[2]] [.t 2]:={}
noncomputable def HH:Code:=((rfs (f290.body.getD .skip))[0]?.getD (#[],.skip,.skip)).2.1
noncomputable def HI:Code:=((rfs (f290.body.getD .skip))[0]?.getD (#[],.skip,.skip)).2.2
def SO(r:Nat):List Nat:=match r with
 |3=>[]
 |_=>[]
def Ll:Yw:=
 (.block 1
  (.reg 5 [
   ⟨some 8,none,.v (.ld 1 false (.t 2))⟩,
   ⟨some 9,none,.v (.mv (.t 5))⟩,
   ⟨some 10,none,.v (.bs 1 1 (.str []) [(0,(.t 9))])⟩,
   ⟨some 11,none,.appR 3 1 16 (.str []) (.t 8) (.t 10) false⟩,
   ⟨none,none,.st 1 (.t 2) (.t 11)⟩] []))
def SP(r:Nat):List Nat:=match r with
 |2=>[2,5]
 |_=>[]
def Ln:Yw:=
 (.reg 0 [
  ⟨some 5,none,.v (.mv (.t 7))⟩] [2,5])
def y290_0{l id:Nat}{st:LoopState}{pend:Option Code}{env:List (Nat×Bool×Fs)}{args:List Fs}{H:AC}{n:Nat}{R:Bool->AC->Nat->Prop}(ho:hget H id=some (.lp ⟨l,st,pend,13,env, #[7],HH,HI⟩))(o8:args.length=1)(h:awp prog Ln (IQ prog id Ll R) ⟨renv [7] args env,H,n⟩):B2 prog l args H n R:=
 CF (aa:=Ln) (ab:=Ll) (fz:=[(3,3)]) (im:=[]) (fz2:=[(3,3)]) (im2:=[]) (kp:=SP) (kp2:=SO) ho rfl o8 rfl (by kernel_rfl) (by kernel_rfl) rfl rfl h
def kp290(r:Nat):List Nat:=match r with
 |0=>[1,2,4]
 |1=>[2,4,6]
 |4=>[4]
 |_=>[]
noncomputable def c290:Yw:=
(sq (.reg 2 [⟨some 2,none,.box 0 1 (tm 0)⟩,ov 4 (.mv (.c zs))] [1,2,4]) (sq (sq (rg [om 6 1] [2,4,6]) (.block 0 (.rfun (tm 6) #[7] 13 HH
 HI))) (sq (rg [ol 12 2,om 4 12] [4]) .ret)))
def a290:AOf prog 290 c290 [.t 4]:=mkA (fn:=f290) (c:=f290.body.getD .skip) (fz:=[(3,3)]) (im:=[]) kp290
def c279:Kf prog 279 f279 [] [(1,5)] [[0,2],[]] []:={}
def c291:Kf prog 291 f291 [] [(4,3),(26,4),(29,5)] [[0,1,2,3,8],[0,1,2,3,8,9],[0,1,2,3,8,9,10],[0,1,2,3,8,9,10,23],[],[0,1,2,3,8,9,10,29],[],[0,1,2,3,8,9,10,35],[0,1,2,3,8,9,10],[0,1,2,3,8,9,10],[0,1,2,3,8,9,10,11,12],[0,1,2,3,8,9,10,11,12,50],[0,1,2,3,8,9,10,11],[0,1,2,3,8,9,10,11],[0,1,2,3,8,9,10,11,12],[0,1,2,3,8,9,10,11,68],[0,1,2,3,8,9,10,11,72],[0,1,2,3,8,9,10,11,87],[0,2,3,8,9,13],[0,1,2,3,8,9],[0,1,2,3,10,14,15],[0,1,2,3,9,10,14],[0,1,2,3,9,10,14,16,17],[0,1,2,3,9,14,16,17,18],[0,1,2,3,9,14,16,17,18,113],[0,1,2,3,8,9,14],[0,2,3,8,9,14],[0,1,2,3,8,9],[0,1,2,3,8,9,14],[0,1,3,8,9,14],[0,1,2,3,8,9]] []:={}
def c299:Kg prog 299 f299 [[0,1,2,6],[0,1,2,6,12],[0,1,2,6],[0,1,2,6,7],[0,1,2,6,7,30],[0,1,2,6,7],[0,1,2,6,7]] []:={}
def c305:Kg prog 305 f305 [[0,1],[4]] [.t 4]:={}
def c313:Kg prog 313 f313 [[0],[2]] [.t 2]:={}
def c255:Kg prog 255 f255 [[1],[2]] [.t 2]:={}
def c280:Kf prog 280 f280 [] [(3,2)] [[0,5],[0,5,7],[0,3,5],[0,5,13]] []:={}
def c197:Kg prog 197 f197 [[0],[2],[2]] [.t 2]:={}
def c244:Kg prog 244 f244 [[0,1],[4]] [.t 4]:={}
def c261:Kg prog 261 f261 [[0,1],[0,1,7,8],[0,1,7,8,9],[0,1,5,7,8],[0,1,5,7,8,16],[4],[0,1,7,8],[4]] [.t 4]:={}
def c9:Kg prog 9 f9 [[1],[1,33],[2],[1,3],[1,3,38],[1,3],[1,3,48],[2],[1,3,4],[1,3,4,57],[1,3,4],[1,3,4,70],[2],[1,5],[1,5,75],[1,5],[1,5,95],[2],[2]] [.t 2]:={}
def kp8(r:Nat):List Nat:=match r with
 |0=>[]
 |1=>[1,2,3]
 |2=>[1,2,3,5,6]
 |3=>[1,2,3,5,6,8,9]
 |4=>[1,2,3,5,6,8,9,11,12]
 |5=>[1,2,3,5,6,8,9,11,12,14]
 |6=>[1,2,3,5,6,8,9,11,12,14,16]
 |7=>[1,2,3,5,6,8,9,11,12,14,16,17,18]
 |8=>[1,11,17,103]
 |9=>[0]
 |10=>[1,11,17,19]
 |11=>[0]
 |_=>[]
def c8:Yw:=
(sq (rg [ob 0 false] []) (sq (.reg 10 [oc 22 24 [(.c (.str [49])),(.c (.str [114,111,119,115])),(.c (.str [59]))],oc 23 23 [(tm 22)],om 21 23,
 ox 24 0 21,ox 25 1 21,ox 26 2 21,⟨some 1,none,.alloc 6 [zr,z0,z0,z0,z0,zs,zs,zs,zs,zs,z0,z0,z0,zs,zs,zs,zs]⟩,⟨none,none,.st 17
 (tm 1) (tm 24)⟩,om 2 25,om 3 26] [1,2,3]) (sq (.reg 10 [oc 28 24 [(.c (.str [48])),(.c (.str [114,111,119,115])),(.c (.str [59]))],oc 29 23
 [(tm 28)],om 27 29,ox 30 0 27,ox 31 1 27,ox 32 2 27,⟨some 4,none,.alloc 6 [zr,z0,z0,z0,z0,zs,zs,zs,zs,zs,z0,z0,z0,zs,zs,zs,
 zs]⟩,⟨none,none,.st 17 (tm 4) (tm 30)⟩,om 5 31,om 6 32] [1,2,3,5,6]) (sq (.reg 10 [oc 34 24 [(.c (.str [49])),(.c (.str [108,105,110,
 101,115])),(.c (.str [59]))],oc 35 23 [(tm 34)],om 33 35,ox 36 0 33,ox 37 1 33,ox 38 2 33,⟨some 7,none,.alloc 6 [zr,z0,z0,z0,z0,zs,zs,
 zs,zs,zs,z0,z0,z0,zs,zs,zs,zs]⟩,⟨none,none,.st 17 (tm 7) (tm 36)⟩,om 8 37,om 9 38] [1,2,3,5,6,8,9]) (sq (.reg 10 [oc 40 24 [(.c
 (.str [49])),(.c (.str [114,111,119,115])),(.c zr)],oc 41 23 [(tm 40)],om 39 41,ox 42 0 39,ox 43 1 39,ox 44 2 39,⟨some 10,none,.alloc 6
 [zr,z0,z0,z0,z0,zs,zs,zs,zs,zs,z0,z0,z0,zs,zs,zs,zs]⟩,⟨none,none,.st 17 (tm 10) (tm 42)⟩,om 11 43,om 12 44] [1,2,3,5,6,8,9,
 11,12]) (sq (.reg 8 [ov 46 (.build [zr,z0,z0,z0,z0,zs,zs,zs,zs,zs] []),oc 47 10 [(tm 46)],om 45 47,ox 48 0 45,ox 49 1 45,⟨some 13,
 none,.alloc 5 [zr,z0,z0,z0,z0,zs,zs,zs,zs,zs,z0,z0,z0,zs,zs,zs,zs]⟩,⟨none,none,.st 17 (tm 13) (tm 48)⟩,om 14 49] [1,2,3,5,6,
 8,9,11,12,14]) (sq (.reg 8 [ov 51 (.build [zr,z0,z0,z0,z0,zs,zs,zs,zs,zs,z0,z0,z0,zs,zs,zs,zs] []),oc 52 14 [(tm 51)],om 50 52,
 ox 53 0 50,ox 54 1 50,⟨some 15,none,.alloc 5 [(.int .u8 0),(.int .u8 0),(.int .u8 0),(.int .u8 0),(.int .u8 0),(.int .u8 0),(.int .u8 0),
 (.int .u8 0),(.int .u8 0),(.int .u8 0),(.int .u8 0),(.int .u8 0),(.int .u8 0),(.int .u8 0),(.int .u8 0),(.int .u8 0),(.int .u8 0),(.int .u8
 0),(.int .u8 0),(.int .u8 0),(.int .u8 0),(.int .u8 0),(.int .u8 0),(.int .u8 0),(.int .u8 0),(.int .u8 0),(.int .u8 0),(.int .u8 0),(.int
 .u8 0),(.int .u8 0),(.int .u8 0),(.int .u8 0)]⟩,⟨none,none,.st 32 (tm 15) (tm 53)⟩,om 16 54] [1,2,3,5,6,8,9,11,12,14,16]) (sq (.reg 8
 [ov 56 (.ld 17 true (tm 1)),oc 57 14 [(tm 56)],om 55 57,ox 58 0 55,ox 59 1 55,⟨some 17,none,.alloc 5 [(.int .u8 0),(.int .u8 0),(.int .u8
 0),(.int .u8 0),(.int .u8 0),(.int .u8 0),(.int .u8 0),(.int .u8 0),(.int .u8 0),(.int .u8 0),(.int .u8 0),(.int .u8 0),(.int .u8 0),(.int
 .u8 0),(.int .u8 0),(.int .u8 0),(.int .u8 0),(.int .u8 0),(.int .u8 0),(.int .u8 0),(.int .u8 0),(.int .u8 0),(.int .u8 0),(.int .u8 0),
 (.int .u8 0),(.int .u8 0),(.int .u8 0),(.int .u8 0),(.int .u8 0),(.int .u8 0),(.int .u8 0),(.int .u8 0)]⟩,⟨none,none,.st 32 (tm 17) (tm
 58)⟩,om 18 59] [1,2,3,5,6,8,9,11,12,14,16,17,18]) (sq (sq (rg [om 60 3,ov 61 (.icmp .neq .i64 (tm 60) (ci 0)),om 62 61,gm 63 62 false
 2,gv 64 62 false (.icmp .neq .i64 (tm 63) (ci 0)),oz 65 62 64,om 66 65,gm 67 66 false 6,gv 68 66 false (.icmp .neq .i64 (tm 67) (ci 170)),oz 69
 66 68,om 70 69,gm 71 70 false 5,gv 72 70 false (.icmp .neq .i64 (tm 71) (ci 0)),oz 73 70 72,om 74 73,gm 75 74 false 9,gv 76 74 false (.icmp
 .neq .i64 (tm 75) (ci 160)),oz 77 74 76,om 78 77,gm 79 78 false 8,gv 80 78 false (.icmp .neq .i64 (tm 79) (ci 0)),oz 81 78 80,om 82 81,gm 83 82
 false 12,gv 84 82 false (.icmp .neq .i64 (tm 83) (ci 150)),oz 85 82 84,om 86 85,gm 87 86 false 14,gv 88 86 false (.icmp .neq .i64 (tm 87) (ci
 2)),oz 89 86 88,om 90 89,gm 91 90 false 16,gv 92 90 false (.icmp .neq .i64 (tm 91) (ci 180)),oz 93 90 92,om 94 93,gm 95 94 false 18,gv 96 94
 false (.icmp .neq .i64 (tm 95) (ci 0)),oz 97 94 96,om 98 97,gf 99 98 false 16 1,gl 100 98 false 99,gv 101 98 false (.len (tm 100)),gv 102 98
 false (.icmp .neq .i64 (tm 101) (ci 8)),oz 103 98 102] [1,11,17,103]) (.cond (tm 103) (sq (rg [ob 0 false] [0]) .ret) .skip)) (sq (.reg 8 [ov
 105 (.ld 17 true (tm 1)),oc 106 15 [(tm 105)],om 104 106,ox 107 0 104,ox 108 1 104,⟨some 19,none,.alloc 5 [(.int .u8 0),(.int .u8 0),(.int
 .u8 0),(.int .u8 0),(.int .u8 0),(.int .u8 0),(.int .u8 0),(.int .u8 0),(.int .u8 0),(.int .u8 0),(.int .u8 0),(.int .u8 0),(.int .u8 0),
 (.int .u8 0),(.int .u8 0),(.int .u8 0),(.int .u8 0),(.int .u8 0),(.int .u8 0),(.int .u8 0),(.int .u8 0),(.int .u8 0),(.int .u8 0),(.int .u8
 0),(.int .u8 0),(.int .u8 0),(.int .u8 0),(.int .u8 0),(.int .u8 0),(.int .u8 0),(.int .u8 0),(.int .u8 0)]⟩,⟨none,none,.st 32 (tm 19) (tm
 107)⟩,om 20 108] [1,11,17,19]) (sq (rg [om 109 11,oc 110 24 [(.c (.str [49])),(.c (.str [114,111,119,115])),(.c zr)],ov 111 (.lenS (tm
 110)),ov 112 (.arith .sub .i64 (tm 111) (ci 1)),ov 113 (.icmp .eql .i64 (tm 109) (tm 112)),om 114 113,gv 115 114 true (.ld 32 true (tm 17)),gv
 116 114 true (.ld 32 true (tm 19)),gv 117 114 true (.aeq false [0,0,0,0,0,0,0,0,0,0,0,0,0,0,0,0,0,0,0,0,0,0,0,0,0,0,0,0,
 0,0,0,0] (tm 115) (tm 116)),oy 118 114 117,om 119 118,gf 120 119 true 10 1,gf 121 119 true 4 120,gl 122 119 true 121,gv 123 119 true (.len
 (tm 122)),gv 124 119 true (.icmp .eql .i64 (tm 123) (ci 4)),oy 125 119 124,om 126 125,gf 127 126 true 16 1,gl 128 126 true 127,gv 129 126 true
 (.ia 1 (tm 128) (ci 1)),gl 130 126 true 129,gv 131 126 true (.bs 1 2 z0 [(0,(ci 0)),(1,(ci 1))]),gv 132 126 true (.bs 1 2 z0 [(0,(ci 2)),(1,
 (ci 3))]),gv 133 126 true (.bs 1 2 zs [(0,(tm 131)),(1,(tm 132))]),⟨some 134,some (126,true),.call true (.c (.fn (.func 25) [] [])) [(tm 130),
 (tm 133)]⟩,oy 135 126 134,om 136 135,gv 137 136 true (.ld 17 true (tm 1)),⟨some 138,some (136,true),.call true (.c (.fn (.func 16) [] [])) [(tm
 137)]⟩,gv 139 136 true (.icmp .eql .i64 (tm 138) (ci 0)),oy 140 136 139,om 141 140,gv 142 141 true (.build [zr,z0,z0,z0,z0,zs,zs,zs,zs,
 zs,z0,z0,z0,zs,zs,zs,zs] []),⟨some 143,some (141,true),.call true (.c (.fn (.func 16) [] [])) [(tm 142)]⟩,gv 144 141 true (.icmp .eql .i64
 (tm 143) (ci 180)),oy 145 141 144,om 146 145,gv 147 146 true (.build [zr,z0,z0,z0,z0,zs,zs,zs,zs,zs,z0,z0,z0,zs,zs,zs,zs] []),gv
 148 146 true (.build [zr,z0,z0,z0,z0,zs,zs,zs,zs,zs,z0,z0,z0,zs,zs,zs,zs] []),⟨some 149,some (146,true),.call true (.c (.fn (.func
 18) [] [])) [(tm 147),(tm 148)]⟩,oy 150 146 149,om 0 150] [0]) .ret)))))))))))
def a8:AOf prog 8 c8 [.t 0]:=mkA (fn:=f8) (c:=f8.body.getD .skip) (fz:=[]) (im:=[]) kp8
def c24:Kg prog 24 f24 [[0,1,2],[6]] [.t 6]:={c:=by constructor;conv=>lhs;reduce;simp only[u8n,UInt8.reduceOfNat,Int.reduceOfNat]}
def c5:Kg prog 5 f5 [[1],[1,9],[2],[1,12],[2],[1,3,4],[3,4,5,6],[3,4,5,6,24],[2],[3,4,5,7],[3,4,5,7,37],[2],[2]] [.t 2]:={}
def c14:Kg prog 14 f14 [[1,2],[1,2,7],[2,3],[2,3,4],[2,3,4,17],[2,3],[2,3]] [.c 2 32 true,.t 3]:={c:=by constructor;conv=>lhs;reduce;simp only[u8n,UInt8.reduceOfNat,Int.reduceOfNat]}
def c40:Kg prog 40 f40 [[1,2],[1,2,3],[1,2,3,4],[1,2,3,4,5],[1,2,3,4,5,6],[1,2,3,4,5,6,7],[2]] [.c 2 4 true]:={}
def c108:Kg prog 108 f108 [[0,2],[2]] [.c 2 4 true]:={}
def c112:Kg prog 112 f112 [[1,2],[2]] [.c 2 4 true]:={}
def c116:Kg prog 116 f116 [[1,2,3],[3]] [.c 3 4 true]:={}
def c119:Kg prog 119 f119 [[1,2],[2]] [.c 2 4 true]:={}
def c121:Kg prog 121 f121 [[1,2],[2]] [.c 2 4 true]:={}
def c110:Kg prog 110 f110 [[0,2],[2]] [.c 2 4 true]:={}
def c114:Kg prog 114 f114 [[0,2],[2]] [.c 2 4 true]:={}
def c113:Kg prog 113 f113 [[0,2],[2]] [.c 2 4 true]:={}
def c109:Kf prog 109 f109 [] [(7,1)] [[0,1,4],[0,1,4,5],[1,4,5,11,12,13],[1,4,5,11,12,13,14],[1,4,5,6,7,11,12,13],[1,4,5,11,12,13],[1,4,5,11,12,13],[4]] [.c 4 4 true]:={}
def c111:Kf prog 111 f111 [] [(7,1)] [[0,1,4],[0,1,4,5],[1,4,5,11,12,13],[1,4,5,11,12,13,14],[1,4,5,6,7,11,12,13],[1,4,5,11,12,13],[1,4,5,11,12,13],[4]] [.c 4 4 true]:={}
def c115:Kf prog 115 f115 [] [(7,1)] [[0,1,4],[0,1,4,5],[1,4,5,11,12,13],[1,4,5,11,12,13,14],[1,4,5,6,7,11,12,13],[1,4,5,11,12,13],[1,4,5,11,12,13],[4]] [.c 4 4 true]:={}
def c117:Kf prog 117 f117 [] [(7,1)] [[0,1,4],[0,1,4,5],[1,4,5,11,12,13],[1,4,5,11,12,13,14],[1,4,5,6,7,11,12,13],[1,4,5,11,12,13],[1,4,5,11,12,13],[4]] [.c 4 4 true]:={}
def c118:Kf prog 118 f118 [] [(7,1)] [[0,1,4],[0,1,4,5],[1,4,5,11,12,13],[1,4,5,11,12,13,14],[1,4,5,6,7,11,12,13],[1,4,5,11,12,13],[1,4,5,11,12,13],[4]] [.c 4 4 true]:={}
def c120:Kf prog 120 f120 [] [(7,1)] [[0,1,4],[0,1,4,5],[1,4,5,11,12,13],[1,4,5,11,12,13,14],[1,4,5,6,7,11,12,13],[1,4,5,11,12,13],[1,4,5,11,12,13],[4]] [.c 4 4 true]:={}
def c122:Kf prog 122 f122 [] [(7,1)] [[0,1,4],[0,1,4,5],[1,4,5,11,12,13],[1,4,5,11,12,13,14],[1,4,5,6,7,11,12,13],[1,4,5,11,12,13],[1,4,5,11,12,13],[4]] [.c 4 4 true]:={}
def c39:Kf prog 39 f39 [(800010,500000),(700011,500001),(700001,500001),(700015,500001),(990004,1),(990004,2),(990004,7),(990004,0),(990004,3),(990004,4),(990004,5),(990004,6),(990004,8),(990004,9),(990004,10)] [(4,3),(4,8),(4,0)] [[1],[1,4],[1,4,8],[2,3],[2,3]] [.t 2,.t 3]:={}
def c106:Kg prog 106 f106 [[1],[3,4],[3,10],[2],[13],[2],[2]] [.t 2]:={}
def c165:Kg prog 165 f165 [[1,2],[1,2,4],[1,2,50],[2,3],[1,2,53],[2,3],[2,55,56,57],[2,55,56,57,58],[2,6,55,56,57],[2,7,8,55,56,57],[2,7,55,56,57,67],[2,3],[2,55,56,57],[2,55,56,57],[2,3]] [.t 2,.t 3]:={}
def c107:Kg prog 107 f107 [[],[1],[1],[1],[1],[0]] [.t 0]:={}
def c166:Kf prog 166 f166 [] [(1,6)] [[0,3],[4]] [.t 4]:={}
def c169:Kf prog 169 f169 [(700013,500005),(800012,500004),(990001,0),(990001,1),(990001,2),(990001,3),(990001,4),(990001,5),(990001,6),(990001,8),(990001,9),(990001,7),(990001,10),(990001,11)] [(1,9),(1,7)] [[0,3],[4]] [.t 4]:={}
def c170:Kf prog 170 f170 [] [(1,7),(5,9)] [[0,2,4],[0,2,4],[0,2,17,18,19],[0,2,17,18,19,20],[0,2,7,17,18,19],[0,2,17,18,19],[0,2,17,18,19],[5]] [.t 5]:={}
def c167:Kg prog 167 f167 [[0,1],[0,1,6],[0,1],[0,1],[4]] [.t 4]:={}
def c168:Kg prog 168 f168 [[0],[2]] [.t 2]:={}
def c41:Kf prog 41 f41 [] [(2,3)] [[0,1,4],[1,4,5],[4]] [.c 4 32 true]:={}
def c123:Kf prog 123 f123 [(17,1002),(12,1006)] [(6,3),(15,3),(12,9),(19,8)] [[0,2],[0,2,3],[0,2,3,4],[0,2,3,4,5],[0,2,3,4,5,14],[0,2,3,4,5],[0,2,3,4,5],[0,2,3,4,5,6],[0,2,3,4,5,6],[0,2,3,4,5,6],[0,2,3,4,6,31],[0,2,3,4,6],[2,3,4,6],[2,3,4,6,46],[2,3,4,6],[2,3,4,6],[2,53,54],[2,53,54,55],[2,7,8,53,54],[2,53,54],[2,53,54],[2]] [.c 2 32 true]:={}
def c171:Kf prog 171 f171 [(17,0),(17,1),(17,2)] [] [[0,1,4],[0,1,4,14],[0,1,4,14,15],[0,1,4,5,14],[0,1,4,14],[0,1,4,14],[0,4,6],[0,4,6,26],[0,4,6],[0,4,6,7,8],[0,4,6],[0,4,9],[0,4,9,69],[0,4,9,69,70],[0,4,9,10,69],[0,4,9,11,69],[0,4,9,11,12,69],[0,4,9,11,12,69],[0,4,9,11,12,69],[0,4,9,69],[0,4,9,69],[0,9,129],[0,9,129,130],[0,9,13,129],[0,9,129],[0,9,129]] []:={}
def c172:Kg prog 172 f172 [[0,1,6,7],[0,1,6,7,8],[0,1,4,6,7],[0,1,6,7],[0,1,6,7]] []:={}
def c207:Kg prog 207 f207 [[0,2],[2,6,7,8],[2,6,7,8,9],[2,4,6,7,8],[2,6,7,8],[2,6,7,8],[2]] [.t 2]:={}
def c209:Kg prog 209 f209 [[0,1,2,3],[8]] [.t 8]:={}
def c208:Kg prog 208 f208 [[0,1],[0,5],[4]] [.t 4]:={}
def c124:Kf prog 124 f124 [(13,2),(15,1002)] [(9,1)] [[0],[0,3],[0,3,9,10,11],[0,3,9,10,11,12],[0,3,5,9,10,11],[0,3,9,10,11],[0,3,9,10,11,20],[0,3,9,10,11],[0,3,9,10,11],[0,6],[6,25,26,27],[6,25,26,27,28],[6,8,25,26,27],[6,25,26,27],[6,25,26,27],[2]] [.t 2]:={c:=by constructor;conv=>lhs;reduce;simp only[u8n,UInt8.reduceOfNat,Int.reduceOfNat]}
def c173:Kf prog 173 f173 [(5,8)] [] [[0,1],[0,1,6],[0,1],[0,1],[0,1,16],[0],[4]] [.t 4]:={c:=by constructor;conv=>lhs;reduce;simp only[u8n,UInt8.reduceOfNat,Int.reduceOfNat]}
def c15:Kg prog 15 f15 [[1,2],[1,2,8],[2,3],[2,4],[2,3]] [.c 2 32 true,.t 3]:={c:=by constructor;conv=>lhs;reduce;simp only[u8n,UInt8.reduceOfNat,Int.reduceOfNat]}
def c43:Kg prog 43 f43 [[1,2],[1,2,3],[1,2,3,4],[1,2,3,4,21],[1,2,3,4],[1,2,3,4,5],[1,2,3,4],[1,2,3,6],[1,2,3,6,7],[1,2,3,6,7,45],[1,2,3,6,7],[1,2,3,6,7,8],[1,2,3,6,7,8,9],[1,2,3,6,7,8,9,57],[1,2,3,6,7,8,9],[1,2,3,6,7,8,9],[1,2,3,6,7],[1,2,3,6,10],[1,2,3,6,10,11],[1,2,3,6,10,11,92],[1,2,3,6,10,11],[1,2,3,6,10,11,12],[1,2,3,6,10,11],[1,2,3,6,10,13],[1,2,3,6,10,13,14],[1,2,3,6,10,13,14,125],[1,2,3,6,10,13,14],[1,2,3,6,10,13,14,15],[1,2,3,6,10,13,14],[2]] [.c 2 4 true]:={}
def c131:Kg prog 131 f131 [[0,2],[0,2,3],[0,2,3,4],[0,2,3,4,9],[0,2,3,4],[0,2,3,4],[2]] [.c 2 4 true]:={}
def c130:Kg prog 130 f130 [[0,2],[0,2,3],[0,2,3,4],[0,2,3,4,9],[0,2,3,4],[0,2,3,4],[2]] [.c 2 4 true]:={}
def c127:Kg prog 127 f127 [[0,2],[2]] [.c 2 4 true]:={}
def c42:Kg prog 42 f42 [[1],[1,4],[1,4,8],[2,3],[2,3]] [.t 2,.t 3]:={}
def c125:Kg prog 125 f125 [[1],[1,5],[2],[8],[2],[2]] [.t 2]:={}
def c174:Kg prog 174 f174 [[1],[1,5],[1,5,6],[2],[1,5,17],[2],[1,28],[1,3],[1,3,34],[1,3],[1,3,43],[2],[2],[2]] [.t 2]:={}
def c175:Kg prog 175 f175 [[1],[1,7],[2],[1,3],[1,3,4],[1,3,4,12],[1,3,4],[1,3,4],[2]] [.t 2]:={}
def c126:Kg prog 126 f126 [[1],[1,6],[1,6,7],[2],[1,15],[2],[1,3],[1,3,4],[1,3,4,38],[1,3,4],[1,3,4],[2]] [.t 2]:={}
def c176:Kg prog 176 f176 [[0],[0,4],[2],[2]] [.t 2]:={}
def c177:Kg prog 177 f177 [[0],[0,4],[2],[2]] [.t 2]:={}
def c128:Kg prog 128 f128 [[0,2],[2]] [.c 2 4 true]:={}
def c129:Kg prog 129 f129 [[0,2],[2]] [.c 2 4 true]:={}
def c44:Kg prog 44 f44 [[0,1,4],[1,4,5],[4]] [.c 4 32 true]:={}
def c132:Kg prog 132 f132 [[0,2],[0,2,3],[2,3,4],[2,3,4,5],[2,3,4,5,14],[2,3,4,5],[2,3,4,5],[2,3,6],[2,3,6,7],[2,3,6,7,26],[2,3,6,7],[2,3,6,7],[2]] [.c 2 32 true]:={}
def c178:Kg prog 178 f178 [[0],[0,3],[0,3,14],[0,3],[3,4],[3,4,5],[3,4,5,23],[3,4,5],[3,4,5],[2]] [.t 2]:={}
def c179:Kg prog 179 f179 [[1,2,4],[1,2,4,5],[1,2,4,5,6],[1,2,4,5,6,24],[1,2,4,5,6],[1,2,4,5,6],[2,4,5,7],[2,4,5,7,38],[2,4,5,7],[2,4,5,7,8],[2,4,5,7,8,9],[2,4,5,7],[2,4,5,10],[2,4,5,10,11,12,13,14,15,16,17,18],[2,4,5,10,11,12,13,14,15,16,17,18,19],[2,4,5,10,11,12,13,14,15,16,17,18,19,96],[2,4,5,10,11,12,13,14,15,16,17,18,19],[2,4,5,10,11,12,13,14,15,16,17,19,20],[2,4,5,10,11,12,13,14,15,16,17,19,20,21],[2,4,5,10,11,12,13,14,15,16,17,18,19],[4]] [.c 4 8 true]:={}
def c210:Kg prog 210 f210 [[0],[2]] [.t 2]:={}
def c211:Kg prog 211 f211 [[0,1],[4]] [.t 4]:={}
def c212:Kg prog 212 f212 [[0],[0]] [.c 0 64 true]:={}
end Go.AM
