/-
  Arguments of the laws of kinds: a declaration and four numbers.
  Conditions: none beyond those of its parts.
-/
import Derived.Test.YtbngedlokkndkaaGreatDoorB26
import Derived.Test.YtbngedlokkndkaaGreatDoorB24

set_option maxRecDepth 20000
set_option linter.all false
namespace Go.AM
open Go.Lib Go.Proofs
def argDA{av:List Fs}(h:Sh.rdA [gC,.ar 4 .i64] av):∃(d:x8) (a b c e:Int),av=[Ba d,.agg (cW a b c e)]:=by
 simp only[Sh.rdA]at h;obtain⟨_,_,rfl,h1,_,_,rfl,⟨l,rfl,hl,_⟩,rfl⟩:=h;obtain⟨d,-,e⟩:=rdD _ h1
 match l,hl with
 |[a,b,c,f],_=>exact⟨d,a,b,c,f,by rw[e];rfl⟩
end Go.AM
