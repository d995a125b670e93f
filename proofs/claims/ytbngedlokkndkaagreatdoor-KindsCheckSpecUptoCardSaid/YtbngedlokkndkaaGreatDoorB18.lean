/-
  The examples of kinds, by runs: four sources.
  Conditions: none beyond those of its parts.
-/
import Derived.Test.YtbngedlokkndkaaGreatDoorB17
import Derived.Test.YtbngedlokkndkaaGreatDoorB8

set_option maxRecDepth 20000
set_option linter.all false
namespace Go.AM
open Go.Lib Go.Proofs Go.Proofs.Tryz
noncomputable def tabS:List (XF prog):=[xSrt,xF (c17.a),xF (c38.a),xF (c159.a),xF (c160.a),xF (c161.a),xF (c162.a),xF (c163.a),xF (c164.a),xF (c166.a),xF (c202.a),xF (c203.a),xF (c205.a),xF (c204.a),xF (c206.a),xF (c207.a),xF (c210.a),xF (c214.a),xF (c208.a),xF (c209.a),xF (c211.a),xF (c212.a),xF (c213.a),xF (c215.a),xF (c216.a),xF (c217.a),xF (c218.a),xF (c240.a),xF (c241.a),xF (c244.a),xF (c242.a),xF (c245.a),xF (c247.a),xF (c248.a),xF (c249.a),xF (c251.a),xF (c259.a),xF (c260.a),xF (c266.a),xF (c268.a),xF (c269.a),xF (c270.a),xF (c271.a),xF (c272.a),xF (c273.a),xF (c274.a),xF (c275.a),xF (mU.a),xF (c283.a),xF (c287.a),xF (c296.a),xD (@a165) (@a91),xD (@a158) (@a90)]
def HZ{ts:List (XS prog)}{f:FuncId}{a:List Fs}{r:Fs}(h:(uBs a&&match (xp tabS ts 400 40).1 f a with
  |some v=>wkB v r
  |none=>false)=true):A6 prog f a r:=by
 rw[oo]at h
 obtain⟨hu,h⟩:=h
 split at h
 ·rename_i v e
  obtain⟨a',w,p⟩:=(fU tabS ts 400 40).1 _ _ _ e
  have k:=YC _ _ h
  exact⟨uU _ hu,k.2,(AO.args p.2.2 λg vs hv=>w.rel vs hv).mono λo H' n' ⟨v,e,q⟩=>⟨v,e,q.trans k.1⟩⟩
 ·cases h
def Z8(a b c:List UInt8):List UInt8:=[107,105,110,100,32,107,32,118,101,114,115,105,111,110,32]++a++[32,123,32,103,114,105,100,32,115,113,117,97,114,101,32,50,32,98,121,32,50,59,32,115,121,109,98,111,108,115,32,97,32,61,32,49,44,32,98,32,61,32,50,59,32,114,117,108,101,32,114,58,32,101,97,99,104,32]++b++[32,100,105,102,102,101,114,101,110,116]++c++[32,125]
def nZ:List UInt8:=Z8 [49] [114,111,119,115] [59]
def na:List UInt8:=Z8 [48] [114,111,119,115] [59]
def nf:List UInt8:=Z8 [49] [108,105,110,101,115] [59]
def kA:List UInt8:=Z8 [49] [114,111,119,115] []
def ng:x8:=⟨[107],1,1,2,2,[],[⟨[97],1⟩,⟨[98],2⟩],[],[],[⟨[114],[114,111,119,115],1,0,[],[],0,0,0,0,[],0⟩]⟩
def kd2:x8:={ng with uw:=0}
def kd3:x8:={ng with sC:=[⟨[114],[108,105,110,101,115],1,0,[],[],0,0,0,0,[],0⟩]}
def NV:uV:=⟨{ng with sC:=[⟨[114],[114,111,119,115],1,1,[],[],0,0,0,0,[],-1⟩]},⟨1,2,2,[],[0,1,2,3]⟩,[[1,2],[0,3],[0,3],[1,2]],[[[0],[1],[2],[3]],[[0,1],[2,3]],[[0,2],[1,3]],[[0,3],[1,2]],[[1,2],[0,3],[0,3],[1,2]],[[0,1,2],[0,1,3],[0,2,3],[1,2,3]],[[0,1],[0,2],[1,3],[2,3]],[[0,1,2,3]]]⟩
def MS(d:x8)(h:C1 d=true):zy d:=IZ h
def rn1:A6 prog 38 [.str nZ] (.sH [Ba ng,.int .i64 0,.int .i64 0]):=HZ (ts:=ts0) (by kernel_rfl)
end Go.AM
