/-
  The abstract code of some functions, written by a program · The abstract code of some functions, written by a program · .
  Conditions: none beyond those of its parts.
-/
import Derived.Test.YtepckdbdfhpggaaGreatProg
import Derived.Test.YtepckdbdfhpggaaGreatB5
import Derived.KernelRfl

set_option maxRecDepth 20000
set_option linter.all false
namespace Go.AM
open Go.Proofs
def c74:Ke Tryz.prog Tryz.f74 [[0],[0,17],[2],[0,19,20],[0,19,20,21],[0,3,19,20],[0,4,19,20],[0,19,20,36],[2],[0,19,20],[2]]:=by
 constructor;conv=>lhs;reduce;simp only[seval]
theorem a74:AOf Tryz.prog 74 c74.1 [.t 2]:=mkB
def c108:Ke Tryz.prog Tryz.f108 [[0],[0,3],[2],[0,18],[2],[0,25],[2],[0,28],[2],[43],[2],[2]]:=by
 constructor;conv=>lhs;reduce;simp only[u8n,UInt8.reduceOfNat,Int.reduceOfNat]
theorem a108:AOf Tryz.prog 108 c108.1 [.t 2]:=mkB
def c156:Ke Tryz.prog Tryz.f156 [[0],[2]]:=by
 constructor;conv=>lhs;reduce;simp only[seval]
theorem a156:AOf Tryz.prog 156 c156.1 [.t 2]:=mkB
def c157:Ke Tryz.prog Tryz.f157 [[0],[2]]:=by
 constructor;conv=>lhs;reduce;simp only[seval]
theorem a157:AOf Tryz.prog 157 c157.1 [.t 2]:=mkB
def c200:Ke Tryz.prog Tryz.f200 [[0],[2]]:=by
 constructor;conv=>lhs;reduce;simp only[seval]
theorem a200:AOf Tryz.prog 200 c200.1 [.t 2]:=mkB
theorem l155:AZ Tryz.prog 155:=mkL Tryz.f155
end Go.AM
namespace Go.AM
open Go.Proofs
def c121:Ke Tryz.prog Tryz.f121 [[0,1],[0,1,10],[4],[0,1,12,13],[0,1,12,13,14],[0,1,5,12,13],[0,1,12,13,24],[4],[0,1,12,13],[4]]:=by
 constructor;conv=>lhs;reduce;simp only[seval]
theorem a121:AOf Tryz.prog 121 c121.1 [.t 4]:=mkB
def c170:Ke Tryz.prog Tryz.f170 [[0,1],[0,1,10],[4],[0,1,12,13],[0,1,12,13,14],[0,1,5,12,13],[0,1,12,13,24],[4],[0,1,12,13],[4]]:=by
 constructor;conv=>lhs;reduce;simp only[seval]
theorem a170:AOf Tryz.prog 170 c170.1 [.t 4]:=mkB
def kp171 (r:Nat):List Nat:=match r with
 |0=>[0,1]
 |1=>[0,1,10]
 |2=>[4]
 |3=>[0,1,12,13]
 |4=>[0,1,12,13,14]
 |5=>[0,1,5,12,13]
 |6=>[0,1,12,13,24]
 |7=>[4]
 |8=>[0,1,12,13]
 |9=>[4]
 |_=>[]
def c171:ACode:=
(sq (rg [ob 4 false] [0,1]) (sq (sq (rg [om 6 0,on 7 6,om 8 1,on 9 8,ov 10 (.icmp .neq .i64 (tm 7) (tm 9))] [0,1,10]) (.cond (tm 10) (sq (rg [
 ob 4 false] [4]) .ret) .skip)) (sq (sq (rg [om 11 0,on 12 11,oi 13 0] [0,1,12,13]) (.block 0 (.loop (sq (rg [ov 14 (.icmp .lss .i64 (tm 13) (tm
 12))] [0,1,12,13,14]) (sq (.cond (tm 14) .skip (.exit 0)) (sq (.block 1 (sq (rg [om 15 13,om 5 15] [0,1,5,12,13]) (sq (rg [om 16 0,om 17
 5,oa 18 2 16 17,ov 19 (.ld 2 true (tm 18)),om 20 1,om 21 5,oa 22 2 20 21,ov 23 (.ld 2 true (tm 22)),ov 24 (.aeq true [2,0] (tm 19) (tm 23))]
 [0,1,12,13,24]) (.cond (tm 24) (sq (rg [ob 4 false] [4]) .ret) .skip)))) (rg [ov 25 (.arith .add .i64 (tm 13) (ci 1)),om 13 25] [0,1,12,
 13]))))))) (sq (rg [ob 4 true] [4]) .ret))))
theorem a171:AOf Tryz.prog 171 c171 [.t 4]:=mkA (fn:=Tryz.f171) (c:=Tryz.f171.body.getD .skip) (fz:=[]) (im:=[]) kp171 (by kernel_rfl) (by kernel_rfl) (by kernel_rfl) (by kernel_rfl) (by kernel_rfl)
def kp173 (r:Nat):List Nat:=match r with
 |0=>[0,1]
 |1=>[0,1,10]
 |2=>[4]
 |3=>[0,1,12,13]
 |4=>[0,1,12,13,14]
 |5=>[0,1,5,12,13]
 |6=>[0,1,12,13,24]
 |7=>[4]
 |8=>[0,1,12,13]
 |9=>[4]
 |_=>[]
def c173:ACode:=
(sq (rg [ob 4 false] [0,1]) (sq (sq (rg [om 6 0,on 7 6,om 8 1,on 9 8,ov 10 (.icmp .neq .i64 (tm 7) (tm 9))] [0,1,10]) (.cond (tm 10) (sq (rg [
 ob 4 false] [4]) .ret) .skip)) (sq (sq (rg [om 11 0,on 12 11,oi 13 0] [0,1,12,13]) (.block 0 (.loop (sq (rg [ov 14 (.icmp .lss .i64 (tm 13) (tm
 12))] [0,1,12,13,14]) (sq (.cond (tm 14) .skip (.exit 0)) (sq (.block 1 (sq (rg [om 15 13,om 5 15] [0,1,5,12,13]) (sq (rg [om 16 0,om 17
 5,oa 18 6 16 17,ov 19 (.ld 6 true (tm 18)),om 20 1,om 21 5,oa 22 6 20 21,ov 23 (.ld 6 true (tm 22)),ov 24 (.aeq true [2,2,0,0,0,0] (tm 19)
 (tm 23))] [0,1,12,13,24]) (.cond (tm 24) (sq (rg [ob 4 false] [4]) .ret) .skip)))) (rg [ov 25 (.arith .add .i64 (tm 13) (ci 1)),om 13 25] [0,
 1,12,13]))))))) (sq (rg [ob 4 true] [4]) .ret))))
theorem a173:AOf Tryz.prog 173 c173 [.t 4]:=mkA (fn:=Tryz.f173) (c:=Tryz.f173.body.getD .skip) (fz:=[]) (im:=[]) kp173 (by kernel_rfl) (by kernel_rfl) (by kernel_rfl) (by kernel_rfl) (by kernel_rfl)
def c168:Ke Tryz.prog Tryz.f168 [[0,1,2],[0,1,2,14],[6],[1,2,15,16,17],[1,2,15,16,17,18],[1,2,7,8,15,16,17],[1,2,8,9,15,16,17],[1,2,15,16,17,30],[6],[1,2,15,16,17],[6]]:=by
 constructor;conv=>lhs;reduce;simp only[seval]
theorem a168:AOf Tryz.prog 168 c168.1 [.t 6]:=mkB
def c172:Ke Tryz.prog Tryz.f172 [[0,1,2],[0,1,2,14],[6],[1,2,15,16,17],[1,2,15,16,17,18],[1,2,7,8,15,16,17],[1,2,8,9,15,16,17],[1,2,15,16,17,30],[6],[1,2,15,16,17],[6]]:=by
 constructor;conv=>lhs;reduce;simp only[seval]
theorem a172:AOf Tryz.prog 172 c172.1 [.t 6]:=mkB
def c174:Ke Tryz.prog Tryz.f174 [[0,1,2],[0,1,2,14],[6],[1,2,15,16,17],[1,2,15,16,17,18],[1,2,7,8,15,16,17],[1,2,8,9,15,16,17],[1,2,15,16,17,30],[6],[1,2,15,16,17],[6]]:=by
 constructor;conv=>lhs;reduce;simp only[seval]
theorem a174:AOf Tryz.prog 174 c174.1 [.t 6]:=mkB
def c167:Ke Tryz.prog Tryz.f167 [[2,3],[4]]:=by
 constructor;conv=>lhs;reduce;simp only[seval]
theorem a167:AOf Tryz.prog 167 c167.1 [.t 4]:=mkB
def c169:Ke Tryz.prog Tryz.f169 [[2,3],[2,3,5],[4]]:=by
 constructor;conv=>lhs;reduce;simp only[seval]
theorem a169:AOf Tryz.prog 169 c169.1 [.t 4]:=mkB
def c122:Ke Tryz.prog Tryz.f122 [[2,3],[2,3,5],[2,3,5,6],[2,3,5,6,7],[4]]:=by
 constructor;conv=>lhs;reduce;simp only[seval]
theorem a122:AOf Tryz.prog 122 c122.1 [.t 4]:=mkB
theorem l231:AZ Tryz.prog 231:=mkL Tryz.f231
def c39:Ke Tryz.prog Tryz.f39 [[0],[0,4],[2],[2]]:=by
 constructor;conv=>lhs;reduce;simp only[seval]
theorem l39:AZ Tryz.prog 39:=mkL Tryz.f39
theorem a39:AOf Tryz.prog 39 c39.1 [.t 2]:=mkB
def c214:Kc Tryz.prog Tryz.f214 [(3,2)] [] [[0],[0,4],[2],[2]]:=by
 constructor;conv=>lhs;reduce;simp only[seval]
theorem l214:AZ Tryz.prog 214:=mkL Tryz.f214
theorem a214:AOf Tryz.prog 214 c214.1 [.t 2]:=mkB
def c218:Kc Tryz.prog Tryz.f218 [(3,2)] [] [[0],[0,4],[2],[2]]:=by
 constructor;conv=>lhs;reduce;simp only[seval]
theorem l218:AZ Tryz.prog 218:=mkL Tryz.f218
theorem a218:AOf Tryz.prog 218 c218.1 [.t 2]:=mkB
def c163:Ke Tryz.prog Tryz.f163 [[0,1,2,3,8],[0,1,2,3,8,45],[8,9],[0,1,2,3,8,10],[0,1,2,3,8,10,47,48,49],[0,1,2,3,8,10,47,48,49,50],[0,1,2,3,8,10,12,47,48,49],[0,1,2,3,8,12,47,48,49,62],[8,9],[0,1,2,3,8,10,47,48,49],[0,1,2,3,8,10,47,48,49],[1,2,3,8],[3,8,74,75],[3,8,74,75,76],[3,8,13,74,75],[3,8,13,15,74,75],[3,8,13,74,75,85],[3,8,74,75],[3,8,74,75],[8,9]]:=by
 constructor;conv=>lhs;reduce;simp only[seval]
theorem a163:AOf Tryz.prog 163 c163.1 [.c 8 5 true,.t 9]:=mkB
def c232:Ke Tryz.prog Tryz.f232 [[1],[1,2,3],[25],[2],[2]]:=by
 constructor;conv=>lhs;reduce;simp only[seval]
theorem a232:AOf Tryz.prog 232 c232.1 [.t 2]:=mkB
def c166:Ke Tryz.prog Tryz.f166 [[1,2,4],[1,2,4,21],[4,5],[2,4,22,23,24],[2,4,22,23,24,25],[2,4,7,22,23,24],[2,4,7,8,22,23,24],[2,4,7,8,9,22,23,24],[2,4,8,9,22,23,24,29,30,31],[2,4,8,9,22,23,24,29,30,31,32],[2,4,8,9,11,22,23,24,29,30,31],[2,4,8,9,12,13,22,23,24,29,30,31],[2,4,8,9,12,22,23,24,29,30,31,48],[4,5],[2,4,8,9,12,22,23,24,29,30,31],[2,4,8,9,22,23,24,29,30,31],[2,4,8,9,22,23,24,29,30,31],[2,4,8,22,23,24,58],[4,5],[2,4,22,23,24],[2,4,22,23,24],[4,5]]:=by
 constructor;conv=>lhs;reduce;simp only[seval]
theorem a166:AOf Tryz.prog 166 c166.1 [.t 4,.t 5]:=mkB
end Go.AM
namespace Go.AM
open Go.Proofs
def c210:Ke Tryz.prog Tryz.f210 [[],[0]]:=by
 constructor;conv=>lhs;reduce;simp only[u8n,UInt8.reduceOfNat,Int.reduceOfNat]
theorem a210:AOf Tryz.prog 210 c210.1 [.t 0]:=mkB
def c206:Ke Tryz.prog Tryz.f206 [[1],[2]]:=by
 constructor;conv=>lhs;reduce;simp only[seval]
theorem a206:AOf Tryz.prog 206 c206.1 [.t 2]:=mkB
def c208:Ke Tryz.prog Tryz.f208 [[1],[2]]:=by
 constructor;conv=>lhs;reduce;simp only[seval]
theorem a208:AOf Tryz.prog 208 c208.1 [.t 2]:=mkB
def c213:Ke Tryz.prog Tryz.f213 [[1],[2]]:=by
 constructor;conv=>lhs;reduce;simp only[seval]
theorem a213:AOf Tryz.prog 213 c213.1 [.t 2]:=mkB
def c217:Ke Tryz.prog Tryz.f217 [[1],[2]]:=by
 constructor;conv=>lhs;reduce;simp only[seval]
theorem a217:AOf Tryz.prog 217 c217.1 [.t 2]:=mkB
def c211:Ke Tryz.prog Tryz.f211 [[0],[2]]:=by
 constructor;conv=>lhs;reduce;simp only[seval]
theorem a211:AOf Tryz.prog 211 c211.1 [.t 2]:=mkB
def c205:Ke Tryz.prog Tryz.f205 [[0,1,2,3],[1,2,3,13,14,15],[1,2,3,13,14,15,16],[1,2,3,9,10,13,14,15],[1,2,3,9,10,12,13,14,15],[1,2,3,9,10,13,14,15,28],[1,2,3,9,10,13,14,15],[1,2,3,13,14,15],[1,2,3,13,14,15],[8]]:=by
 constructor;conv=>lhs;reduce;simp only[seval]
theorem l205:AZ Tryz.prog 205:=mkL Tryz.f205
theorem a205:AOf Tryz.prog 205 c205.1 [.t 8]:=mkB
def c207:Ke Tryz.prog Tryz.f207 [[0,1,2,3],[1,2,3,13,14,15],[1,2,3,13,14,15,16],[1,2,3,9,10,13,14,15],[1,2,3,9,10,12,13,14,15],[1,2,3,9,10,13,14,15,28],[1,2,3,9,10,13,14,15],[1,2,3,13,14,15],[1,2,3,13,14,15],[8]]:=by
 constructor;conv=>lhs;reduce;simp only[seval]
theorem l207:AZ Tryz.prog 207:=mkL Tryz.f207
theorem a207:AOf Tryz.prog 207 c207.1 [.t 8]:=mkB
def c209:Ke Tryz.prog Tryz.f209 [[0,1,2,3],[1,2,3,13,14,15],[1,2,3,13,14,15,16],[1,2,3,9,10,13,14,15],[1,2,3,9,10,12,13,14,15],[1,2,3,9,10,13,14,15,28],[1,2,3,9,10,13,14,15],[1,2,3,13,14,15],[1,2,3,13,14,15],[8]]:=by
 constructor;conv=>lhs;reduce;simp only[seval]
theorem l209:AZ Tryz.prog 209:=mkL Tryz.f209
theorem a209:AOf Tryz.prog 209 c209.1 [.t 8]:=mkB
def c212:Ke Tryz.prog Tryz.f212 [[0,1,2,3],[1,2,3,13,14,15],[1,2,3,13,14,15,16],[1,2,3,9,10,13,14,15],[1,2,3,9,10,12,13,14,15],[1,2,3,9,10,13,14,15,28],[1,2,3,9,10,13,14,15],[1,2,3,13,14,15],[1,2,3,13,14,15],[8]]:=by
 constructor;conv=>lhs;reduce;simp only[seval]
theorem l212:AZ Tryz.prog 212:=mkL Tryz.f212
theorem a212:AOf Tryz.prog 212 c212.1 [.t 8]:=mkB
def c216:Ke Tryz.prog Tryz.f216 [[0,1,2,3],[1,2,3,13,14,15],[1,2,3,13,14,15,16],[1,2,3,9,10,13,14,15],[1,2,3,9,10,12,13,14,15],[1,2,3,9,10,13,14,15,28],[1,2,3,9,10,13,14,15],[1,2,3,13,14,15],[1,2,3,13,14,15],[8]]:=by
 constructor;conv=>lhs;reduce;simp only[seval]
theorem l216:AZ Tryz.prog 216:=mkL Tryz.f216
theorem a216:AOf Tryz.prog 216 c216.1 [.t 8]:=mkB
def c215:Ke Tryz.prog Tryz.f215 [[0,1],[5,6],[5,14],[5],[4]]:=by
 constructor;conv=>lhs;reduce;simp only[seval]
theorem a215:AOf Tryz.prog 215 c215.1 [.t 4]:=mkB
def c219:Kc Tryz.prog Tryz.f219 [] [(4,3)] [[0,1,3],[1,3,6,7,8],[1,3,6,7,8,9],[1,3,5,6,7,8],[1,3,6,7,8],[1,3,6,7,8],[3]]:=by
 constructor;conv=>lhs;reduce;simp only[seval]
theorem a219:AOf Tryz.prog 219 c219.1 [.t 3]:=mkB
def kp204 (r:Nat):List Nat:=match r with
 |0=>[0,1,2]
 |1=>[0,1,2,5]
 |2=>[]
 |_=>[]
def c204:ACode:=
(sq (rg [om 4 2,⟨some 5,none,.ext (.nileq 0 true) [(tm 4)]⟩] [0,1,2,5]) (.cond (tm 5) (rg [ov 6 (.build [zr,z0,z0,z0,z0,zs,zs,zs,zs,
 zs] []),om 7 2,⟨some 8,none,.ext (.tas 46 false z0) [(tm 7)]⟩,⟨none,none,.st 10 (tm 0) (tm 6)⟩,⟨none,none,.st 1 (tm 1) (tm 8)⟩] []) .skip))
theorem l204:AZ Tryz.prog 204:=mkL Tryz.f204
theorem a204 {args:List AVal} {rv:AVal} {H:AB} {n:Nat} {Rc:AB->Nat->Prop} (h:awp Tryz.prog c204 (Ji [] λo H' n'=>o= .ret (.tup [])/\Rc H' n') ⟨(2,true,rv)::(3,true,rv)::penv 0 args,H,n⟩):C7 Tryz.prog 204 args rv H n Rc:=
 Om (id:=0) (fn:=Tryz.f204) (ops:=Un (sqH (Tryz.f204.body.getD .skip))) (X:=sqT (Tryz.f204.body.getD .skip)) (y:=c204) (fz:=[]) (im:=[]) (kp:=kp204) (t3:=2) (t4:=3) (by kernel_rfl) (by kernel_rfl) (by kernel_rfl) (by kernel_rfl) (by kernel_rfl) (by kernel_rfl) h
def kp161 (r:Nat):List Nat:=match r with
 |0=>[1,2,3]
 |1=>[1,2,3]
 |2=>[1,2,3,15]
 |3=>[2,3]
 |4=>[1,2,3,4]
 |5=>[1,2,3,4,5]
 |6=>[1,2,3,4,5,6]
 |7=>[1,2,3,4,5,6]
 |8=>[1,2,3,4,5,6,37,38]
 |9=>[1,2,3,4,5,6,37,38,39]
 |10=>[1,2,3,4,5,6,7,37,38]
 |11=>[1,2,3,4,5,6,37,38]
 |12=>[1,2,3,4,5,6,37,38]
 |13=>[1,2,3,4,5,6]
 |14=>[1,2,3,4,5,6]
 |15=>[1,2,3,5,6,8]
 |16=>[1,2,3,5,6,8,66,67]
 |17=>[1,2,3,5,6,8,66,67,68]
 |18=>[1,2,3,5,6,8,9,66,67]
 |19=>[1,2,3,5,6,8,10,66,67]
 |20=>[1,2,3,5,6,8,10,66,67]
 |21=>[1,2,3,5,6,8,10,66,67,84]
 |22=>[1,2,3,5,6,8,10,66,67]
 |23=>[1,2,3,5,6,8,10,66,67]
 |24=>[1,2,3,5,6,8,10,66,67,116]
 |25=>[1,2,3,5,6,8,66,67]
 |26=>[1,2,3,5,6,8,66,67]
 |27=>[2,3]
 |_=>[]
def RJ:ACode:=
 (.reg 3 [
  ⟨some 1,none,.box 0 10 (.t 0)⟩,
  ⟨some 2,none,.alloc 1 [(.str []),(.int .i64 0),(.int .i64 0),(.int .i64 0),(.int .i64 0),(.sl .nil []),(.sl .nil []),(.sl .nil []),(.sl .nil []),(.sl .nil [])]⟩,
  ⟨some 3,none,.alloc 2 [(.int .i64 0)]⟩] [1,2,3])
def c161:ACode:=
(sq (sq (rg [of 12 6 1,ol 13 12,on 14 13,ov 15 (.icmp .gtr .i64 (tm 14) (ci 16))] [1,2,3,15]) (.cond (tm 15) (sq (rg [ov 16 (.ld 10 true (tm
 2)),⟨none,none,.st 10 (tm 2) (tm 16)⟩,⟨none,none,.st 1 (tm 3) (ci 2)⟩] [2,3]) .ret) .skip)) (sq (.reg 6 [of 17 6 1,ol 18 17,⟨some 19,none,
 .ext (.mkm 2) []⟩,oe 20 205 [(tm 18),(ci 0),(.c (.fn (.func 206) [] [])),(tm 19)],⟨some 4,none,.alloc 4 [.nilmp]⟩,⟨none,none,.st 1 (tm 4)
 (tm 20)⟩] [1,2,3,4]) (sq (.regx 7 [(0,of 21 7 1),(500010,ol 22 21),(0,⟨some 23,none,.cpu (.c (.fn (.func 210) [] [])) []⟩),(0,⟨some 24,
 none,.ext (.mkm 3) []⟩),(500009,oe 25 209 [(tm 23),(ci 0),(.c (.fn (.func 211) [] [])),(tm 24)]),(500009,oe 26 207 [(tm 22),(ci 8),(.c (.fn
 (.func 208) [] [])),(tm 25)]),(0,om 5 26)] [1,2,3,4,5]) (sq (.reg 5 [of 27 8 1,ol 28 27,⟨some 29,none,.ext (.mkm 2) []⟩,oe 30 212 [(tm
 28),(ci 0),(.c (.fn (.func 213) [] [])),(tm 29)],om 6 30] [1,2,3,4,5,6]) (sq (rg [of 31 8 1,ol 32 31,oe 33 214 [(tm 32)],of 34 8 1,
 ⟨none,none,.st 1 (tm 34) (tm 33)⟩] [1,2,3,4,5,6]) (sq (sq (rg [of 35 8 1,ol 36 35,on 37 36,oi 38 0] [1,2,3,4,5,6,37,38]) (.block 0
 (.loop (sq (rg [ov 39 (.icmp .lss .i64 (tm 38) (tm 37))] [1,2,3,4,5,6,37,38,39]) (sq (.cond (tm 39) .skip (.exit 0)) (sq (.block 1 (sq (rg [
 om 40 38,om 7 40] [1,2,3,4,5,6,7,37,38]) (.regx 0 [(0,of 41 8 1),(300092,ol 42 41),(0,om 43 7),(0,om 44 5),(0,of 45 8 1),(300092,
 ol 46 45),(0,om 47 7),(0,oa 48 6 46 47),(0,of 49 1 48),(1,ol 50 49),(300091,oe 51 215 [(tm 44),(tm 50)]),(0,oa 52 6 42 43),(0,of 53 2
 52),(0,⟨none,none,.st 1 (tm 53) (tm 51)⟩)] [1,2,3,4,5,6,37,38]))) (rg [ov 54 (.arith .add .i64 (tm 38) (ci 1)),om 38 54] [1,2,3,4,5,
 6,37,38]))))))) (sq (.reg 4 [of 55 9 1,ol 56 55,⟨some 57,none,.ext (.mkm 2) []⟩,oe 58 216 [(tm 56),(ci 0),(.c (.fn (.func 217) [] [])),(tm
 57)]] [1,2,3,4,5,6]) (sq (rg [of 59 9 1,ol 60 59,oe 61 218 [(tm 60)],of 62 9 1,⟨none,none,.st 1 (tm 62) (tm 61)⟩] [1,2,3,4,5,6]) (sq
 (rg [ov 63 (.fn (.func 219) [] [(tm 4)]),om 8 63] [1,2,3,5,6,8]) (sq (sq (rg [of 64 9 1,ol 65 64,on 66 65,oi 67 0] [1,2,3,5,6,8,66,
 67]) (.block 2 (.loop (sq (rg [ov 68 (.icmp .lss .i64 (tm 67) (tm 66))] [1,2,3,5,6,8,66,67,68]) (sq (.cond (tm 68) .skip (.exit 2)) (sq
 (.block 3 (sq (rg [om 69 67,om 9 69] [1,2,3,5,6,8,9,66,67]) (sq (rg [of 70 9 1,ol 71 70,om 72 9,oa 73 12 71 72,om 10 73] [1,2,3,5,
 6,8,10,66,67]) (sq (rg [om 74 10,om 75 10,ov 76 (.nilc (tm 74)),of 77 3 76,⟨none,none,.st 1 (tm 77) (ci 0)⟩,ov 78 (.nilc (tm 75)),of 79
 11 78,⟨none,none,.st 1 (tm 79) (ci (-1))⟩] [1,2,3,5,6,8,10,66,67]) (sq (sq (rg [om 80 10,ov 81 (.nilc (tm 80)),of 82 1 81,ol 83 82,ov
 84 (.scmp .neq (tm 83) (.c zr))] [1,2,3,5,6,8,10,66,67,84]) (.cond (tm 84) (rg [om 85 10,om 86 5,om 87 10,ov 88 (.nilc (tm 87)),of 89 1
 88,ol 90 89,oe 91 215 [(tm 86),(tm 90)],ov 92 (.nilc (tm 85)),of 93 3 92,⟨none,none,.st 1 (tm 93) (tm 91)⟩] [1,2,3,5,6,8,10,66,67])
 .skip)) (sq (.regx 0 [(0,om 94 10),(0,om 95 10),(0,om 96 8),(0,om 97 10),(0,ov 98 (.nilc (tm 97))),(0,of 99 4 98),(1,ol 100 99),(0,om
 102 8),(0,om 103 10),(0,ov 104 (.nilc (tm 103))),(0,of 105 5 104),(300012,ol 106 105),(300011,⟨some 101,none,.call false (tm 96) [(tm
 100)]⟩),(300011,⟨some 107,none,.call false (tm 102) [(tm 106)]⟩),(0,ov 108 (.nilc (tm 94))),(0,of 109 6 108),(0,⟨none,none,.st 1 (tm 109)
 (tm 101)⟩),(0,ov 110 (.nilc (tm 95))),(0,of 111 7 110),(0,⟨none,none,.st 1 (tm 111) (tm 107)⟩)] [1,2,3,5,6,8,10,66,67]) (sq (rg [om
 112 10,ov 113 (.nilc (tm 112)),of 114 10 113,ol 115 114,ov 116 (.scmp .neq (tm 115) (.c zr))] [1,2,3,5,6,8,10,66,67,116]) (.cond (tm 116)
 (rg [om 117 10,om 118 6,om 119 10,ov 120 (.nilc (tm 119)),of 121 10 120,ol 122 121,oe 123 215 [(tm 118),(tm 122)],ov 124 (.nilc (tm 117)),of
 125 11 124,⟨none,none,.st 1 (tm 125) (tm 123)⟩] [1,2,3,5,6,8,66,67]) .skip)))))))) (rg [ov 126 (.arith .add .i64 (tm 67) (ci 1)),om 67
 126] [1,2,3,5,6,8,66,67]))))))) (sq (rg [ov 127 (.ld 10 true (tm 1)),⟨none,none,.st 10 (tm 2) (tm 127)⟩,⟨none,none,.st 1 (tm 3) (ci 0)⟩]
 [2,3]) .ret)))))))))))
theorem a161 {args:List AVal} {H:AB} {n:Nat} {R:AOut->AB->Nat->Prop} (h:awp Tryz.prog (HK [RJ]) (Q9 Tryz.prog 11 ⟨(some 11),none,.v (.fn (.func 204) [] [(.t 2),(.t 3)])⟩ c161 4 204 [.c 2 10 true,.c 3 1 false] R) ⟨penv 0 args,H,n⟩):AO Tryz.prog 161 args H n R:=
 Jj (id:=1) (fn:=Tryz.f161) (pre:=[sqH (Tryz.f161.body.getD .skip)]) (ys:=[RJ]) (ops:=Un (sqH (sqT (Tryz.f161.body.getD .skip)))) (X:=(sqT (sqT (Tryz.f161.body.getD .skip)))) (y:=c161) (fz:=[(5,2),(700021,500007),(800025,500006),(800026,500006),(700041,300089),(700045,300089),(800051,300088),(700105,300009),(800101,300008),(800107,300008),(990023,0),(990023,1),(990023,2),(990023,3),(990023,4),(990023,5),(990023,6),(990023,8),(990023,9),(990023,10),(990023,11),(990023,12),(990023,7),(990023,13),(990023,14),(990023,15),(990023,16),(990023,17),(990023,18),(990023,19)]) (fzX:=[(999999,4),(5,2),(700021,500007),(800025,500006),(800026,500006),(700041,300089),(700045,300089),(800051,300088),(700105,300009),(800101,300008),(800107,300008),(990023,0),(990023,1),(990023,2),(990023,3),(990023,4),(990023,5),(990023,6),(990023,8),(990023,9),(990023,10),(990023,11),(990023,12),(990023,7),(990023,13),(990023,14),(990023,15),(990023,16),(990023,17),(990023,18),(990023,19)]) (im:=[(5,2),(23,7),(23,13),(4,3),(5,4),(5,5),(6,3),(7,2),(11,10),(13,3),(14,2),(22,6),(25,6)]) (kp:=kp161) (rs:=[.c 2 10 true,.c 3 1 false]) (d0:=(some 11)) (k:=.fn (.func 204) [] [(.t 2),(.t 3)]) (t:=11) (by kernel_rfl) (by kernel_rfl) (by kernel_rfl) (by kernel_rfl) (by kernel_rfl) (by kernel_rfl) (by kernel_rfl) (by kernel_rfl) (by kernel_rfl) l204 h
end Go.AM
namespace Go.AM
open Go.Proofs
def c267:Ke Tryz.prog Tryz.f267 [[0,2],[0,2,3],[0,2,3,23],[2],[2]]:=by
 constructor;conv=>lhs;reduce;simp only[seval]
theorem a267:AOf Tryz.prog 267 c267.1 [.c 2 8 true]:=mkB
def c252:Ke Tryz.prog Tryz.f252 [[1],[1,5],[1,5,6],[2],[1,5,23],[2],[1,38],[1,3],[2],[2]]:=by
 constructor;conv=>lhs;reduce;simp only[seval]
theorem a252:AOf Tryz.prog 252 c252.1 [.t 2]:=mkB
def c251:Ke Tryz.prog Tryz.f251 [[2,3],[2,3,5],[2,3,5,14],[4],[2,3,5,68],[4],[2,3,5,99],[4],[2,3,5,6],[2,3,5,117],[4],[2,3,5,7],[2,3,7,126],[2,3,7],[2,3,7,128],[4],[2,3,7,147],[4],[3,7,8],[4]]:=by
 constructor;conv=>lhs;reduce;simp only[seval]
theorem a251:AOf Tryz.prog 251 c251.1 [.t 4]:=mkB
def c221:Ke Tryz.prog Tryz.f221 [[0,1],[1,5],[4],[4]]:=by
 constructor;conv=>lhs;reduce;simp only[seval]
theorem a221:AOf Tryz.prog 221 c221.1 [.t 4]:=mkB
def c228:Ke Tryz.prog Tryz.f228 [[1],[1,11,12,13],[1,11,12,13,14],[1,4,11,12,13],[1,11,12,13,24],[2],[1,11,12,13],[1,5],[1,5,28,29,30],[1,5,28,29,30,31],[1,5,7,28,29,30],[1,5,7,28,29,30,37],[2],[1,5,28,29,30],[1,5,28,29,30],[5,45,46,47],[5,45,46,47,48],[5,8,9,45,46,47],[5,45,46,47,60],[2],[5,45,46,47],[2]]:=by
 constructor;conv=>lhs;reduce;simp only[seval]
theorem a228:AOf Tryz.prog 228 c228.1 [.t 2]:=mkB
def c253:Ke Tryz.prog Tryz.f253 [[1],[2]]:=by
 constructor;conv=>lhs;reduce;simp only[seval]
theorem a253:AOf Tryz.prog 253 c253.1 [.t 2]:=mkB
def c230:Ke Tryz.prog Tryz.f230 [[1,2],[2,6,7,8],[2,6,7,8,9],[2,3,4,6,7,8],[2,3,6,7,8,15],[2,6,7,8],[2,6,7,8],[2]]:=by
 constructor;conv=>lhs;reduce;simp only[seval]
theorem a230:AOf Tryz.prog 230 c230.1 [.t 2]:=mkB
def c247:Kc Tryz.prog Tryz.f247 [] [(1,1),(2,1)] [[0],[3],[3],[2]]:=by
 constructor;conv=>lhs;reduce;simp only[seval]
theorem l247:AZ Tryz.prog 247:=mkL Tryz.f247
theorem a247:AOf Tryz.prog 247 c247.1 [.t 2]:=mkB
def c248:Ke Tryz.prog Tryz.f248 [[1],[2]]:=by
 constructor;conv=>lhs;reduce;simp only[seval]
theorem a248:AOf Tryz.prog 248 c248.1 [.t 2]:=mkB
def c265:Kc Tryz.prog Tryz.f265 [] [(3,2)] [[0,5,6,7],[0,5,6,7,8],[0,4,5,6,7],[0,5,6,7,14],[0,5,6,7]]:=by
 constructor;conv=>lhs;reduce;simp only[seval]
theorem a265:AOf Tryz.prog 265 c265.1 []:=mkB
def c264:Kc Tryz.prog Tryz.f264 [] [(1,1)] [[0],[2]]:=by
 constructor;conv=>lhs;reduce;simp only[seval]
theorem a264:AOf Tryz.prog 264 c264.1 [.t 2]:=mkB
noncomputable def EJ:Code:=((rfs (Tryz.f280.body.getD .skip))[0]?.getD (#[],.skip,.skip)).2.1
noncomputable def EK:Code:=((rfs (Tryz.f280.body.getD .skip))[0]?.getD (#[],.skip,.skip)).2.2
def TV (r:Nat):List Nat:=match r with
 |3=>[]
 |_=>[]
def Jk:ACode:=
 (.block 1
  (.reg 5 [
   ⟨some 8,none,.v (.ld 1 false (.t 2))⟩,
   ⟨some 9,none,.v (.mv (.t 5))⟩,
   ⟨some 10,none,.v (.bs 1 1 (.int .i64 0) [(0,(.t 9))])⟩,
   ⟨some 11,none,.appR 3 1 8 (.int .i64 0) (.t 8) (.t 10) false⟩,
   ⟨none,none,.st 1 (.t 2) (.t 11)⟩] []))
def TW (r:Nat):List Nat:=match r with
 |2=>[2,5]
 |_=>[]
def Jl:ACode:=
 (.reg 0 [
  ⟨some 5,none,.v (.mv (.t 7))⟩] [2,5])
theorem Uo {l id:Nat} {st:LoopState} {pend:Option Code} {env:List (Nat×Bool×AVal)} {args:List AVal} {H:AB} {n:Nat} {R:Bool->AB->Nat->Prop} (ho:hget H id=some (.lp ⟨l,st,pend,13,env, #[7],EJ,EK⟩)) (hps:args.length=1) (h:awp Tryz.prog Jl (GD Tryz.prog id Jk R) ⟨renv [7] args env,H,n⟩):BU Tryz.prog l args H n R:=
 BO (aa:=Jl) (ab:=Jk) (fz:=[(3,3)]) (im:=[]) (fz2:=[(3,3)]) (im2:=[]) (kp:=TW) (kp2:=TV) ho rfl hps rfl (by kernel_rfl) (by kernel_rfl) rfl rfl h
def kp280 (r:Nat):List Nat:=match r with
 |0=>[1,2,4]
 |1=>[2,4,6]
 |4=>[4]
 |_=>[]
noncomputable def c280:ACode:=
(sq (.reg 2 [⟨some 2,none,.box 0 1 (tm 0)⟩,ov 4 (.mv (.c zs))] [1,2,4]) (sq (sq (rg [om 6 1] [2,4,6]) (.block 0 (.rfun (tm 6) #[7] 13 EJ
 EK))) (sq (rg [ol 12 2,om 4 12] [4]) .ret)))
theorem a280:AOf Tryz.prog 280 c280 [.t 4]:=mkA (fn:=Tryz.f280) (c:=Tryz.f280.body.getD .skip) (fz:=[(3,3)]) (im:=[]) kp280 (by kernel_rfl) (by kernel_rfl) (by kernel_rfl) (by kernel_rfl) (by kernel_rfl)
def c250:Ke Tryz.prog Tryz.f250 [[0,1],[3]]:=by
 constructor;conv=>lhs;reduce;simp only[seval]
theorem l250:AZ Tryz.prog 250:=mkL Tryz.f250
theorem a250:AOf Tryz.prog 250 c250.1 [.t 3]:=mkB
def c266:Ke Tryz.prog Tryz.f266 [[0,1],[0,1,7,8],[0,1,7,8,9],[0,1,5,7,8],[0,1,5,7,8,16],[4],[0,1,7,8],[4]]:=by
 constructor;conv=>lhs;reduce;simp only[seval]
theorem l266:AZ Tryz.prog 266:=mkL Tryz.f266
theorem a266:AOf Tryz.prog 266 c266.1 [.t 4]:=mkB
def c249:Ke Tryz.prog Tryz.f249 [[0,1],[4]]:=by
 constructor;conv=>lhs;reduce;simp only[seval]
theorem l249:AZ Tryz.prog 249:=mkL Tryz.f249
theorem a249:AOf Tryz.prog 249 c249.1 [.t 4]:=mkB
def c226:Kc Tryz.prog Tryz.f226 [] [(11,1)] [[2,3],[3,14,15,16],[3,14,15,16,17],[3,6,14,15,16],[3,6,8,14,15,16],[3,6,8,14,15,16,28],[4],[3,6,9,14,15,16],[3,9,14,15,16,31,32,33],[3,9,14,15,16,31,32,33,34],[3,9,11,14,15,16,31,32,33],[3,9,12,14,15,16,31,32,33],[3,9,12,14,15,16,31,32,33,42],[4],[3,9,14,15,16,31,32,33],[3,9,14,15,16,31,32,33],[3,14,15,16],[4]]:=by
 constructor;conv=>lhs;reduce;simp only[seval]
theorem a226:AOf Tryz.prog 226 c226.1 [.t 4]:=mkB
def c220:Ke Tryz.prog Tryz.f220 [[0],[1]]:=by
 constructor;conv=>lhs;reduce;simp only[seval]
theorem l220:AZ Tryz.prog 220:=mkL Tryz.f220
theorem a220:AOf Tryz.prog 220 c220.1 [.t 1]:=mkB
def c222:Ke Tryz.prog Tryz.f222 [[0],[0,2,3],[0,2,3,10],[1],[1]]:=by
 constructor;conv=>lhs;reduce;simp only[seval]
theorem l222:AZ Tryz.prog 222:=mkL Tryz.f222
theorem a222:AOf Tryz.prog 222 c222.1 [.t 1]:=mkB
def c223:Ke Tryz.prog Tryz.f223 [[0],[1]]:=by
 constructor;conv=>lhs;reduce;simp only[seval]
theorem l223:AZ Tryz.prog 223:=mkL Tryz.f223
theorem a223:AOf Tryz.prog 223 c223.1 [.t 1]:=mkB
def c224:Ke Tryz.prog Tryz.f224 [[0,1],[2],[2]]:=by
 constructor;conv=>lhs;reduce;simp only[seval]
theorem a224:AOf Tryz.prog 224 c224.1 [.t 2]:=mkB
def c225:Ke Tryz.prog Tryz.f225 [[0,1],[2]]:=by
 constructor;conv=>lhs;reduce;simp only[seval]
theorem l225:AZ Tryz.prog 225:=mkL Tryz.f225
theorem a225:AOf Tryz.prog 225 c225.1 [.t 2]:=mkB
def c227:Ke Tryz.prog Tryz.f227 [[0],[1]]:=by
 constructor;conv=>lhs;reduce;simp only[seval]
theorem l227:AZ Tryz.prog 227:=mkL Tryz.f227
theorem a227:AOf Tryz.prog 227 c227.1 [.t 1]:=mkB
def c229:Ke Tryz.prog Tryz.f229 [[0],[1]]:=by
 constructor;conv=>lhs;reduce;simp only[seval]
theorem l229:AZ Tryz.prog 229:=mkL Tryz.f229
theorem a229:AOf Tryz.prog 229 c229.1 [.t 1]:=mkB
def c162:Kc Tryz.prog Tryz.f162 [] [(5,1)] [[1],[1,3],[14,15,16],[14,15,16,17],[5,14,15,16],[6,14,15,16],[6,14,15,16,23],[2],[14,15,16],[2]]:=by
 constructor;conv=>lhs;reduce;simp only[seval]
theorem a162:AOf Tryz.prog 162 c162.1 [.t 2]:=mkB
end Go.AM
namespace Go.AM
open Go.Proofs
def c109:Ke Tryz.prog Tryz.f109 [[0,1],[0,1,7,8],[0,1,7,8,9],[0,1,5,7,8],[0,1,5,7,8,16],[4],[0,1,7,8],[4]]:=by
 constructor;conv=>lhs;reduce;simp only[seval]
theorem a109:AOf Tryz.prog 109 c109.1 [.t 4]:=mkB
def c63:Ke Tryz.prog Tryz.f63 [[0,1],[0,1,7,8],[0,1,7,8,9],[0,1,5,7,8],[0,1,5,7,8,16],[4],[0,1,7,8],[4]]:=by
 constructor;conv=>lhs;reduce;simp only[seval]
theorem a63:AOf Tryz.prog 63 c63.1 [.t 4]:=mkB
def c76:Ke Tryz.prog Tryz.f76 [[0,1,2],[0,1,2,9,10,11],[0,1,2,9,10,11,12],[0,1,2,7,8,9,10,11],[0,1,2,9,10,11,29],[6],[0,1,2,9,10,11],[6]]:=by
 constructor;conv=>lhs;reduce;simp only[seval]
theorem a76:AOf Tryz.prog 76 c76.1 [.t 6]:=mkB
def c75:Ke Tryz.prog Tryz.f75 [[0,1],[0,1,7,8,9],[0,1,7,8,9,10],[0,1,5,6,7,8,9],[0,1,7,8,9,23],[4],[0,1,7,8,9],[4]]:=by
 constructor;conv=>lhs;reduce;simp only[seval]
theorem a75:AOf Tryz.prog 75 c75.1 [.t 4]:=mkB
def c77:Ke Tryz.prog Tryz.f77 [[1,2,3],[3,20],[6],[3,7,8],[3,7,8,28],[3,7,8,28,29],[3,7,8,28,29],[6],[3,7,8,28,43],[6],[3,7,8,28,52],[6],[3,7,8,28,70],[6],[3,7,8,83],[6],[6]]:=by
 constructor;conv=>lhs;reduce;simp only[seval]
theorem a77:AOf Tryz.prog 77 c77.1 [.t 6]:=mkB
def c42:Ke Tryz.prog Tryz.f42 [[1],[1,3],[1,3,4],[1,3,4],[1,3,4,58,59,60],[1,3,4,58,59,60,61],[1,3,4,6,58,59,60],[1,3,4,58,59,60],[1,3,4,58,59,60],[1,3,4,77,78,79],[1,3,4,77,78,79,80],[1,3,4,8,77,78,79],[1,3,4,8,77,78,79],[1,3,4,77,78,79],[1,3,4,77,78,79],[107],[2],[2]]:=by
 constructor;conv=>lhs;reduce;simp only[seval]
theorem a42:AOf Tryz.prog 42 c42.1 [.t 2]:=mkB
end Go.AM
namespace Go.AM
open Go.Proofs
def c146:Ke Tryz.prog Tryz.f146 [[0,1],[0,1,5],[0,1,5,9],[0,1,5],[0,1,5,17],[4],[4]]:=by
 constructor;conv=>lhs;reduce;simp only[seval]
theorem a146:AOf Tryz.prog 146 c146.1 [.t 4]:=mkB
def c175:Ke Tryz.prog Tryz.f175 [[0,1],[0,1,10],[4],[0,1,5],[0,1,5,14],[0,1,5],[0,1,5,25],[4],[4]]:=by
 constructor;conv=>lhs;reduce;simp only[seval]
theorem a175:AOf Tryz.prog 175 c175.1 [.t 4]:=mkB
def c95:Ke Tryz.prog Tryz.f95 [[0,1,2,3,8],[0,1,2,3,8,34],[8,9],[0,1,2,3,8,10],[0,1,2,3,8,10,39],[0,1,2,3,8,10],[0,1,2,3,8,10,72],[8,9],[1,2,3,8,11],[1,2,3,8,11,12],[1,2,3,8,11,12,82],[1,2,3,8,11,12],[1,2,3,8,11,12,87],[1,2,3,8,11,12],[1,2,3,8,11,12],[8,11,103],[8,9],[8,9]]:=by
 constructor;conv=>lhs;reduce;simp only[seval]
theorem a95:AOf Tryz.prog 95 c95.1 [.c 8 5 true,.t 9]:=mkB
def c147:Ke Tryz.prog Tryz.f147 [[1],[1,3,4],[26],[2],[2]]:=by
 constructor;conv=>lhs;reduce;simp only[seval]
theorem a147:AOf Tryz.prog 147 c147.1 [.t 2]:=mkB
def c151:Ke Tryz.prog Tryz.f151 [[1,2],[1,2,6],[1,2,6,11],[1,2,6],[1,2,6,20],[4,5],[4,5]]:=by
 constructor;conv=>lhs;reduce;simp only[seval]
theorem a151:AOf Tryz.prog 151 c151.1 [.t 4,.t 5]:=mkB
def c98:Ke Tryz.prog Tryz.f98 [[1,2],[1,2,19],[4,5],[1,2,6],[1,2,6,7],[1,2,6,7,23],[1,2,6,7],[1,2,6,7,8],[1,2,6,7,8,9],[1,2,6,7,8,9,32],[1,2,6,7,8,9],[1,2,6,7,8,9,10,11],[1,2,6,7,8,9,10,53],[4,5],[1,2,6,7,8,9],[1,2,6,7,8,60],[4,5],[1,2,6,7],[4,5]]:=by
 constructor;conv=>lhs;reduce;simp only[seval]
theorem a98:AOf Tryz.prog 98 c98.1 [.t 4,.t 5]:=mkB
def c189:Ke Tryz.prog Tryz.f189 [[0,1],[0,1,5],[0,1,5,10],[0,1,5],[0,1,5,19],[4],[0,1,6],[0,1,6,23],[0,1,6],[0,1,6,32],[4],[4]]:=by
 constructor;conv=>lhs;reduce;simp only[seval]
theorem a189:AOf Tryz.prog 189 c189.1 [.t 4]:=mkB
def c143:Ke Tryz.prog Tryz.f143 [[2,3],[2,3,5],[2,3,5,15],[2,3,5],[2,3,5,6],[2,3,5,6,8],[2,3,5,6,8,31],[4],[2,3,5,6,9],[2,3,5,6,9,36],[2,3,5,6,9],[2,3,5,6,9,10],[2,3,5,6,9,10,41],[2,3,5,6,9,10],[2,3,5,6,9,10,52],[4],[4]]:=by
 constructor;conv=>lhs;reduce;simp only[seval]
theorem a143:AOf Tryz.prog 143 c143.1 [.t 4]:=mkB
def c191:Ke Tryz.prog Tryz.f191 [[1],[1,5],[1,5,6],[2],[1,5,21],[2],[1,38],[1,3],[2],[2]]:=by
 constructor;conv=>lhs;reduce;simp only[seval]
theorem a191:AOf Tryz.prog 191 c191.1 [.t 2]:=mkB
def c244:Ke Tryz.prog Tryz.f244 [[2,3,4,5],[2,3,4,5,20],[8],[2,3,5,9],[8]]:=by
 constructor;conv=>lhs;reduce;simp only[seval]
theorem a244:AOf Tryz.prog 244 c244.1 [.t 8]:=mkB
def c243:Ke Tryz.prog Tryz.f243 [[2,3],[2,3,12],[4],[2,3,15],[4],[4]]:=by
 constructor;conv=>lhs;reduce;simp only[seval]
theorem a243:AOf Tryz.prog 243 c243.1 [.t 4]:=mkB
def c190:Ke Tryz.prog Tryz.f190 [[2,3],[2,3,5],[2,3,5,6],[2,3,5,6,7],[2,3,5,6,7,8],[2,3,5,6,7,8,9],[2,3,5,6,7,8,9,10],[2,3,5,6,7,8,9,10,12],[4],[2,3,5,6,7,8,9,10,12,13],[2,3,5,6,7,8,9,10,12,13],[2,3,5,6,7,8,9,10,12,13],[2,3,5,6,7,8,9,10],[2,3,5,6,7,8,9,10,12,17],[2,3,5,7,8,9],[2,3,5,6,7,8,9],[2,3,5,6,7,8,9,10],[2,3,5,6,7,8,9,10,12,19],[2,3,5,6,7,8,9],[2,3,5,6,7,8,9,10],[2,3,5,6,7,8,9,10,12,21],[2,3,5,7,8,10],[2,3,5,6,7,8,10],[2,3,5,6,7,8,9,10],[2,3,5,6,7,8,9,10,12,23],[2,3,5,6,7,8,9,10,12,25],[2,3,5,6,7,8,9,10],[2,3,5,6,7,8,9,10,12,27],[2,3,5,6,8,9,10],[2,3,5,6,7,8,9,10],[2,3,5,6,7,8,9,10,12,29],[2,3,5,6,7,8,9,10,12,29],[2,3,5,6,7,8,9,10],[2,3,5,6,7,8,9,10,12,32],[2,3,5,6,7,8,9,10],[2,3,5,6,7,8,9,34],[2,3,5,6,7,8,9,10],[2,3,5,6,7,8,9,10,77],[4],[2,3,8,9,10,99],[4],[2,3,8,10,129],[4],[2,3,149],[4],[2,3,152],[4],[4]]:=by
 constructor;conv=>lhs;reduce;simp only[seval]
theorem a190:AOf Tryz.prog 190 c190.1 [.t 4]:=mkB
def c144:Ke Tryz.prog Tryz.f144 [[1],[1,3],[1,3,12],[1,3],[1,3,30],[2],[1,4],[1,4,35],[1,4],[1,4,45],[2],[1,5],[1,5,50],[1,5],[1,5,6],[1,5,6,7],[1,5,6,7,57],[1,5,6,7],[1,5,6,7,67],[1,5,6,7],[1,5,80],[2],[2]]:=by
 constructor;conv=>lhs;reduce;simp only[seval]
theorem a144:AOf Tryz.prog 144 c144.1 [.t 2]:=mkB
def c192:Ke Tryz.prog Tryz.f192 [[1],[2]]:=by
 constructor;conv=>lhs;reduce;simp only[seval]
theorem a192:AOf Tryz.prog 192 c192.1 [.t 2]:=mkB
def c145:Ke Tryz.prog Tryz.f145 [[1],[1,3],[1,3,4],[1,3,4,9],[1,3,4],[1,3,4,18],[1,3,4],[2]]:=by
 constructor;conv=>lhs;reduce;simp only[seval]
theorem a145:AOf Tryz.prog 145 c145.1 [.t 2]:=mkB
def c94:Ke Tryz.prog Tryz.f94 [[1],[1,33],[2],[1,3,4],[1,3,4,40],[2],[1,55],[2],[1,4,5],[1,4,5,69],[2],[1,4],[1,4,75],[2],[1,79],[2],[83],[2],[2]]:=by
 constructor;conv=>lhs;reduce;simp only[seval]
theorem a94:AOf Tryz.prog 94 c94.1 [.t 2]:=mkB
def c186:Ke Tryz.prog Tryz.f186 [[0,1],[0,1,10],[4],[0,1,5],[0,1,5,14],[0,1,5],[0,1,5,25],[4],[4]]:=by
 constructor;conv=>lhs;reduce;simp only[seval]
theorem a186:AOf Tryz.prog 186 c186.1 [.t 4]:=mkB
def c187:Ke Tryz.prog Tryz.f187 [[0,1],[0,1,10],[4],[0,1,5],[0,1,5,14],[0,1,5],[0,1,5,26],[4],[4]]:=by
 constructor;conv=>lhs;reduce;simp only[seval]
theorem a187:AOf Tryz.prog 187 c187.1 [.t 4]:=mkB
def c242:Ke Tryz.prog Tryz.f242 [[0,1],[0,1,10],[4],[0,1,5],[0,1,5,14],[0,1,5],[0,1,5,25],[4],[4]]:=by
 constructor;conv=>lhs;reduce;simp only[seval]
theorem a242:AOf Tryz.prog 242 c242.1 [.t 4]:=mkB
def c188:Ke Tryz.prog Tryz.f188 [[2,3],[2,3,5],[4]]:=by
 constructor;conv=>lhs;reduce;simp only[seval]
theorem a188:AOf Tryz.prog 188 c188.1 [.t 4]:=mkB
def kp142 (r:Nat):List Nat:=match r with
 |0=>[2,3]
 |1=>[2,3,49]
 |2=>[4]
 |3=>[2,3,83]
 |4=>[4]
 |5=>[2,3,5]
 |6=>[2,3,5,88]
 |8=>[2,3,5,101]
 |9=>[4]
 |7=>[2,3,5]
 |10=>[2,3,6]
 |11=>[2,3,6,106]
 |13=>[2,3,6,137]
 |14=>[4]
 |12=>[2,3,6]
 |15=>[2,3,7]
 |16=>[2,3,7,142]
 |18=>[2,3,7,155]
 |19=>[4]
 |17=>[2,3,7]
 |20=>[2,3,8]
 |21=>[2,3,8,160]
 |23=>[2,3,8,174]
 |24=>[4]
 |22=>[2,3,8]
 |25=>[4]
 |_=>[]
def c142:ACode:=
(sq (.reg 3 [⟨some 2,none,.box 0 10 (tm 0)⟩,⟨some 3,none,.box 1 10 (tm 1)⟩,ob 4 false] [2,3]) (sq (sq (rg [of 9 0 2,ol 10 9,of 11 0 3,ol 12
 11,ov 13 (.scmp .neq (tm 10) (tm 12)),om 14 13,gf 15 14 false 1 2,gl 16 14 false 15,gf 17 14 false 1 3,gl 18 14 false 17,gv 19 14 false (.icmp
 .neq .i64 (tm 16) (tm 18)),oz 20 14 19,om 21 20,gf 22 21 false 2 2,gl 23 21 false 22,gf 24 21 false 2 3,gl 25 21 false 24,gv 26 21 false (.icmp
 .neq .i64 (tm 23) (tm 25)),oz 27 21 26,om 28 27,gf 29 28 false 3 2,gl 30 28 false 29,gf 31 28 false 3 3,gl 32 28 false 31,gv 33 28 false (.icmp
 .neq .i64 (tm 30) (tm 32)),oz 34 28 33,om 35 34,gf 36 35 false 4 2,gl 37 35 false 36,gf 38 35 false 4 3,gl 39 35 false 38,gv 40 35 false (.icmp
 .neq .i64 (tm 37) (tm 39)),oz 41 35 40,om 42 41,gf 43 42 false 5 2,gl 44 42 false 43,gf 45 42 false 5 3,gl 46 42 false 45,⟨some 47,some (42,
 false),.call true (.c (.fn (.func 186) [] [])) [(tm 44),(tm 46)]⟩,gv 48 42 false (.not (tm 47)),oz 49 42 48] [2,3,49]) (.cond (tm 49) (sq (rg [
 ob 4 false] [4]) .ret) .skip)) (sq (sq (rg [of 50 6 2,ol 51 50,on 52 51,of 53 6 3,ol 54 53,on 55 54,ov 56 (.icmp .neq .i64 (tm 52) (tm 55)),om
 57 56,gf 58 57 false 7 2,gl 59 57 false 58,gv 60 57 false (.len (tm 59)),gf 61 57 false 7 3,gl 62 57 false 61,gv 63 57 false (.len (tm 62)),gv
 64 57 false (.icmp .neq .i64 (tm 60) (tm 63)),oz 65 57 64,om 66 65,gf 67 66 false 8 2,gl 68 66 false 67,gv 69 66 false (.len (tm 68)),gf 70 66
 false 8 3,gl 71 66 false 70,gv 72 66 false (.len (tm 71)),gv 73 66 false (.icmp .neq .i64 (tm 69) (tm 72)),oz 74 66 73,om 75 74,gf 76 75 false 9
 2,gl 77 75 false 76,gv 78 75 false (.len (tm 77)),gf 79 75 false 9 3,gl 80 75 false 79,gv 81 75 false (.len (tm 80)),gv 82 75 false (.icmp .neq
 .i64 (tm 78) (tm 81)),oz 83 75 82] [2,3,83]) (.cond (tm 83) (sq (rg [ob 4 false] [4]) .ret) .skip)) (sq (sq (rg [oi 5 0] [2,3,5]) (.block 0
 (.loop (sq (sq (rg [om 84 5,of 85 6 2,ol 86 85,on 87 86,ov 88 (.icmp .lss .i64 (tm 84) (tm 87))] [2,3,5,88]) (.cond (tm 88) .skip (.exit 0)))
 (sq (.block 1 (sq (rg [of 91 6 2,ol 92 91,om 93 5,oa 94 2 92 93,ov 95 (.ld 2 true (tm 94)),of 96 6 3,ol 97 96,om 98 5,oa 99 2 97 98,ov 100
 (.ld 2 true (tm 99)),ov 101 (.aeq true [2,0] (tm 95) (tm 100))] [2,3,5,101]) (.cond (tm 101) (sq (rg [ob 4 false] [4]) .ret) .skip))) (rg [om
 89 5,ov 90 (.arith .add .i64 (tm 89) (ci 1)),om 5 90] [2,3,5])))))) (sq (sq (rg [oi 6 0] [2,3,6]) (.block 2 (.loop (sq (sq (rg [om 102 6,of
 103 7 2,ol 104 103,on 105 104,ov 106 (.icmp .lss .i64 (tm 102) (tm 105))] [2,3,6,106]) (.cond (tm 106) .skip (.exit 2))) (sq (.block 3 (sq (rg [
 of 109 7 2,ol 110 109,om 111 6,oa 112 2 110 111,of 113 0 112,ol 114 113,of 115 7 3,ol 116 115,om 117 6,oa 118 2 116 117,of 119 0 118,ol 120
 119,ov 121 (.scmp .neq (tm 114) (tm 120)),om 122 121,gf 123 122 false 7 2,gl 124 122 false 123,gm 125 122 false 6,ga 126 122 false 2 124 125,gf
 127 122 false 1 126,gl 128 122 false 127,gf 129 122 false 7 3,gl 130 122 false 129,gm 131 122 false 6,ga 132 122 false 2 130 131,gf 133 122
 false 1 132,gl 134 122 false 133,⟨some 135,some (122,false),.call true (.c (.fn (.func 187) [] [])) [(tm 128),(tm 134)]⟩,gv 136 122 false (.not
 (tm 135)),oz 137 122 136] [2,3,6,137]) (.cond (tm 137) (sq (rg [ob 4 false] [4]) .ret) .skip))) (rg [om 107 6,ov 108 (.arith .add .i64 (tm 107)
 (ci 1)),om 6 108] [2,3,6])))))) (sq (sq (rg [oi 7 0] [2,3,7]) (.block 4 (.loop (sq (sq (rg [om 138 7,of 139 8 2,ol 140 139,on 141 140,ov
 142 (.icmp .lss .i64 (tm 138) (tm 141))] [2,3,7,142]) (.cond (tm 142) .skip (.exit 4))) (sq (.block 5 (sq (rg [of 145 8 2,ol 146 145,om 147 7,
 oa 148 6 146 147,ov 149 (.ld 6 true (tm 148)),of 150 8 3,ol 151 150,om 152 7,oa 153 6 151 152,ov 154 (.ld 6 true (tm 153)),ov 155 (.aeq true
 [2,2,0,0,0,0] (tm 149) (tm 154))] [2,3,7,155]) (.cond (tm 155) (sq (rg [ob 4 false] [4]) .ret) .skip))) (rg [om 143 7,ov 144 (.arith .add
 .i64 (tm 143) (ci 1)),om 7 144] [2,3,7])))))) (sq (sq (rg [oi 8 0] [2,3,8]) (.block 6 (.loop (sq (sq (rg [om 156 8,of 157 9 2,ol 158 157,on
 159 158,ov 160 (.icmp .lss .i64 (tm 156) (tm 159))] [2,3,8,160]) (.cond (tm 160) .skip (.exit 6))) (sq (.block 7 (sq (rg [of 163 9 2,ol 164 163,
 om 165 8,oa 166 12 164 165,ov 167 (.ld 12 true (tm 166)),of 168 9 3,ol 169 168,om 170 8,oa 171 12 169 170,ov 172 (.ld 12 true (tm 171)),oc 173
 188 [(tm 167),(tm 172)],ot 174 173] [2,3,8,174]) (.cond (tm 174) (sq (rg [ob 4 false] [4]) .ret) .skip))) (rg [om 161 8,ov 162 (.arith .add
 .i64 (tm 161) (ci 1)),om 8 162] [2,3,8])))))) (sq (rg [ob 4 true] [4]) .ret))))))))
theorem a142:AOf Tryz.prog 142 c142 [.t 4]:=mkA (fn:=Tryz.f142) (c:=Tryz.f142.body.getD .skip) (fz:=[]) (im:=[]) kp142 (by kernel_rfl) (by kernel_rfl) (by kernel_rfl) (by kernel_rfl) (by kernel_rfl)
def c139:Ke Tryz.prog Tryz.f139 [[],[0]]:=by
 constructor;conv=>lhs;reduce;simp only[u8n,UInt8.reduceOfNat,Int.reduceOfNat]
theorem a139:AOf Tryz.prog 139 c139.1 [.t 0]:=mkB
def c184:Ke Tryz.prog Tryz.f184 [[1,2],[1,2,6],[1,2,6,7],[1,2,6,7,13],[1,2,6,7],[1,2,6,7,21],[4,5],[1,2,8],[1,2,8,27],[1,2,8],[1,2,8,37],[4,5],[4,5]]:=by
 constructor;conv=>lhs;reduce;simp only[seval]
theorem a184:AOf Tryz.prog 184 c184.1 [.t 4,.t 5]:=mkB
def c263:Ke Tryz.prog Tryz.f263 [[1,2],[1,2,6],[1,2,6,11],[1,2,6],[1,2,6,21],[4,5],[4,5]]:=by
 constructor;conv=>lhs;reduce;simp only[seval]
theorem a263:AOf Tryz.prog 263 c263.1 [.t 4,.t 5]:=mkB
def c241:Ke Tryz.prog Tryz.f241 [[1,2],[1,2,6],[1,2,6,11],[1,2,6],[1,2,6,21],[4,5],[4,5]]:=by
 constructor;conv=>lhs;reduce;simp only[seval]
theorem a241:AOf Tryz.prog 241 c241.1 [.t 4,.t 5]:=mkB
def c138:Ke Tryz.prog Tryz.f138 [[0],[0,3],[0,3,8],[0,3],[0,3,4],[0,3,4,13],[0,3,4],[0,3,4,24],[2],[2]]:=by
 constructor;conv=>lhs;reduce;simp only[seval]
theorem a138:AOf Tryz.prog 138 c138.1 [.t 2]:=mkB
def c240:Ke Tryz.prog Tryz.f240 [[1,2],[1,2,6],[1,2,6,7],[1,2,6,7,13],[1,2,6,7],[1,2,6,7,8,9],[1,2,6,7,8,26],[4,5],[1,2,6,7],[4,5]]:=by
 constructor;conv=>lhs;reduce;simp only[seval]
theorem a240:AOf Tryz.prog 240 c240.1 [.t 4,.t 5]:=mkB
def c140:Ke Tryz.prog Tryz.f140 [[1],[1,4],[1,4,5],[1,4,5,15],[1,4,5],[1,4,5],[1,28],[2,3],[1,6],[1,6,7],[1,6,7,33],[1,6,7],[1,6,7,8],[1,6,7,8,9,10],[1,6,7,8,9,49],[2,3],[1,6,7,8],[1,6,7],[2,3]]:=by
 constructor;conv=>lhs;reduce;simp only[seval]
theorem a140:AOf Tryz.prog 140 c140.1 [.t 2,.t 3]:=mkB
def c185:Ke Tryz.prog Tryz.f185 [[2,3,4],[2,3,4],[2,3,4,17],[2,3,4,6,7],[2,3,4,6,26],[4,5],[2,3,4],[2,3,4,8,9],[2,3,4,8,9,10,11],[2,3,4,9,10,11],[2,3,4,9,11],[2,3,4,9,11],[2,3,4,9,11,51],[3,4,9,11,12,13],[3,4,9,11,12,60],[4,5],[3,4,9,11],[4,5]]:=by
 constructor;conv=>lhs;reduce;simp only[seval]
theorem a185:AOf Tryz.prog 185 c185.1 [.c 4 12 true,.t 5]:=mkB
def c141:Kc Tryz.prog Tryz.f141 [(12,6)] [(12,6)] [[1],[1,4],[1,4,5],[1,4,5,14],[1,4,5],[1,4,5],[1,27],[2,3],[1,6],[1,6,7],[1,6,7,32],[1,6,7],[1,6,7,8,9],[1,6,7,8,46],[2,3],[1,6,7],[2,3]]:=by
 constructor;conv=>lhs;reduce;simp only[seval]
theorem a141:AOf Tryz.prog 141 c141.1 [.t 2,.t 3]:=mkB
def c93:Ke Tryz.prog Tryz.f93 [[1,2],[1,2,15],[2,3],[1,2,4],[1,2,4,5],[1,2,4,5,21],[1,2,4,5],[1,2,4,5],[1,2,34],[2,3],[1,2,6],[1,2,6,7],[1,2,6,7,41],[1,2,6,7],[1,2,6,7],[1,2,54],[2,3],[1,2,8,9],[1,2,8,9,62],[2,3],[1,2,8,10,11],[1,2,8,10,11,71],[2,3],[1,2,10],[1,2],[2,3]]:=by
 constructor;conv=>lhs;reduce;simp only[seval]
theorem a93:AOf Tryz.prog 93 c93.1 [.c 2 10 true,.t 3]:=mkB
end Go.AM
