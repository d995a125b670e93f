/-
  Parts of the proof. Conditions: none.
-/
import Derived.Test.YtbohiinkdkoacaaGreatDoorB19
import Derived.Test.YtbohiinkdkoacaaGreatDoorB20
set_option maxRecDepth 20000
set_option linter.all false
namespace Go.AM
open Go.Lib Go.Proofs Go.Proofs.Tryz
def bv1:BC kd1= .tup [BS kk1,.int .i64 0]:=by kernel_rfl
def bv2:BC kd2= .tup [BS knd0,.int .i64 170]:=by kernel_rfl
def bv3:BC kd3= .tup [BS knd0,.int .i64 160]:=by kernel_rfl
def bv0:BC dcl0= .tup [BS knd0,.int .i64 2]:=by kernel_rfl
def ck1:DI kk1=0:=by kernel_rfl
def ck0:DI knd0=180:=by kernel_rfl
def rm1:Pur prog 23 [.str ex1] (.tup [BS kk1,.int .i64 0,.int .i64 0]):=F7 (ts:=[xS rn1,xS (bv1▸p10 kd1 (Jo _ zd))]) (by kernel_rfl)
def rm2:Pur prog 23 [.str ex2] (.tup [BS knd0,.int .i64 0,.int .i64 170]):=F7 (ts:=[xS rn2,xS (bv2▸p10 kd2 (Jo _ zd))]) (by kernel_rfl)
def rm3:Pur prog 23 [.str ex3] (.tup [BS knd0,.int .i64 0,.int .i64 160]):=F7 (ts:=[xS rn3,xS (bv3▸p10 kd3 (Jo _ zd))]) (by kernel_rfl)
def rm4:Pur prog 23 [.str ex4] (.tup [BS knd0,.int .i64 89,.int .i64 150]):=F7 (ts:=[xS rn4]) (by kernel_rfl)
end Go.AM
