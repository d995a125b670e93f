/-
  The examples of kinds, by runs: what Compile returns.
  Conditions: none beyond those of its parts.
-/
import Derived.Test.YtbngedlokkndkaaGreatDoorB19
import Derived.Test.YtbngedlokkndkaaGreatDoorB20

set_option maxRecDepth 20000
set_option linter.all false
namespace Go.AM
open Go.Lib Go.Proofs Go.Proofs.Tryz
def bv1:A9 ng= .sH [BM NV,.int .i64 0]:=by kernel_rfl
def bv2:A9 kd2= .sH [BM DY,.int .i64 170]:=by kernel_rfl
def bv3:A9 kd3= .sH [BM DY,.int .i64 160]:=by kernel_rfl
def bv0:A9 G6= .sH [BM DY,.int .i64 2]:=by kernel_rfl
def ck1:Cq NV=0:=by kernel_rfl
def ck0:Cq DY=180:=by kernel_rfl
def rm1:A6 prog 17 [.str nZ] (.sH [BM NV,.int .i64 0,.int .i64 0]):=HZ (ts:=[xS rn1,xS (bv1▸aZ ng (MS _ zd))]) (by kernel_rfl)
def rm2:A6 prog 17 [.str na] (.sH [BM DY,.int .i64 0,.int .i64 170]):=HZ (ts:=[xS rn2,xS (bv2▸aZ kd2 (MS _ zd))]) (by kernel_rfl)
def rm3:A6 prog 17 [.str nf] (.sH [BM DY,.int .i64 0,.int .i64 160]):=HZ (ts:=[xS rn3,xS (bv3▸aZ kd3 (MS _ zd))]) (by kernel_rfl)
def rm4:A6 prog 17 [.str kA] (.sH [BM DY,.int .i64 89,.int .i64 150]):=HZ (ts:=[xS rn4]) (by kernel_rfl)
end Go.AM
