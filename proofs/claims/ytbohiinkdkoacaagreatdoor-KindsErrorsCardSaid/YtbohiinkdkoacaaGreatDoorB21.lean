/-
  Parts of the proof. Conditions: none.
-/
import Derived.Test.YtbohiinkdkoacaaGreatDoorB19
import Derived.Test.YtbohiinkdkoacaaGreatDoorB20
set_option maxRecDepth 20000
set_option linter.all false
namespace Go.AM
open Go.Lib Go.Proofs Go.Proofs.Tryz
def bv1:BB kd1= .tup [BR kk1,.int .i64 0]:=by kernel_rfl
def bv2:BB kd2= .tup [BR knd0,.int .i64 170]:=by kernel_rfl
def bv3:BB kd3= .tup [BR knd0,.int .i64 160]:=by kernel_rfl
def bv0:BB dcl0= .tup [BR knd0,.int .i64 2]:=by kernel_rfl
def ck1:CN kk1=0:=by kernel_rfl
def ck0:CN knd0=180:=by kernel_rfl
def rm1:Pur prog 23 [.str ex1] (.tup [BR kk1,.int .i64 0,.int .i64 0]):=F5 (ts:=[xS rn1,xS (bv1▸p10 kd1 (Jo _ zd))]) (by kernel_rfl)
def rm2:Pur prog 23 [.str ex2] (.tup [BR knd0,.int .i64 0,.int .i64 170]):=F5 (ts:=[xS rn2,xS (bv2▸p10 kd2 (Jo _ zd))]) (by kernel_rfl)
def rm3:Pur prog 23 [.str ex3] (.tup [BR knd0,.int .i64 0,.int .i64 160]):=F5 (ts:=[xS rn3,xS (bv3▸p10 kd3 (Jo _ zd))]) (by kernel_rfl)
def rm4:Pur prog 23 [.str ex4] (.tup [BR knd0,.int .i64 89,.int .i64 150]):=F5 (ts:=[xS rn4]) (by kernel_rfl)
end Go.AM
