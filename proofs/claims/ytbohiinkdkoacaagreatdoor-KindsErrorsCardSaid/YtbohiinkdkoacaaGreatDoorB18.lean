/-
  Parts of the proof. Conditions: none.
-/
import Derived.Test.YtbohiinkdkoacaaGreatDoorB17
set_option maxRecDepth 20000
set_option linter.all false
namespace Go.AM
open Go.Lib Go.Proofs Go.Proofs.Tryz
noncomputable def tabS:List (XF prog):=[xSrt,xF (c23.a),xF (c84.a),xF (c187.a),xF (c188.a),xF (c189.a),xF (c190.a),xF (c191.a),xF (c192.a),xF (c194.a),xF (c215.a),xF (c216.a),xF (c218.a),xF (c217.a),xF (c219.a),xF (c220.a),xF (c223.a),xF (c227.a),xF (c221.a),xF (c222.a),xF (c224.a),xF (c225.a),xF (c226.a),xF (c228.a),xF (c229.a),xF (c230.a),xF (c231.a),xF (c244.a),xF (c245.a),xF (c248.a),xF (c246.a),xF (c249.a),xF (c251.a),xF (c252.a),xF (c253.a),xF (c255.a),xF (c261.a),xF (c262.a),xF (c268.a),xF (c270.a),xF (c271.a),xF (c272.a),xF (c273.a),xF (c274.a),xF (c275.a),xF (c276.a),xF (c277.a),xF (c280.a),xF (c285.a),xF (c289.a),xF (c298.a),xD (@a193) (@a143),xD (@a186) (@a142)]
def F5{ts:List (XS prog)}{f:FuncId}{a:List Fs}{r:Fs}(h:(uBs a&&match (xp tabS ts 400 40).1 f a with
  |some v=>wkB v r
  |none=>false)=true):Pur prog f a r:=by
 rw[V7]at h
 obtain⟨hu,h⟩:=h
 split at h
 ·rename_i v e
  obtain⟨a',w,p⟩:=(xp_ok tabS ts 400 40).1 _ _ _ e
  have k:=TB _ _ h
  exact⟨uBs_ok _ hu,k.2,(AN.args p.2.2 λg vs hv=>w.rel vs hv).mono λo H' n' ⟨v,e,q⟩=>⟨v,e,q.trans k.1⟩⟩
 ·cases h
def exB(a b c:List UInt8):List UInt8:=[107,105,110,100,32,107,32,118,101,114,115,105,111,110,32]++a++[32,123,32,103,114,105,100,32,115,113,117,97,114,101,32,50,32,98,121,32,50,59,32,115,121,109,98,111,108,115,32,97,32,61,32,49,44,32,98,32,61,32,50,59,32,114,117,108,101,32,114,58,32,101,97,99,104,32]++b++[32,100,105,102,102,101,114,101,110,116]++c++[32,125]
def ex1:List UInt8:=exB [49] [114,111,119,115] [59]
def ex2:List UInt8:=exB [48] [114,111,119,115] [59]
def ex3:List UInt8:=exB [49] [108,105,110,101,115] [59]
def ex4:List UInt8:=exB [49] [114,111,119,115] []
def kd1:Z8:=⟨[107],1,1,2,2,[],[⟨[97],1⟩,⟨[98],2⟩],[],[],[⟨[114],[114,111,119,115],1,0,[],[],0,0,0,0,[],0⟩]⟩
def kd2:Z8:={kd1 with ver:=0}
def kd3:Z8:={kd1 with ruls:=[⟨[114],[108,105,110,101,115],1,0,[],[],0,0,0,0,[],0⟩]}
def kk1:Knd:=⟨{kd1 with ruls:=[⟨[114],[114,111,119,115],1,1,[],[],0,0,0,0,[],-1⟩]},⟨1,2,2,[],[0,1,2,3]⟩,[[1,2],[0,3],[0,3],[1,2]],[[[0],[1],[2],[3]],[[0,1],[2,3]],[[0,2],[1,3]],[[0,3],[1,2]],[[1,2],[0,3],[0,3],[1,2]],[[0,1,2],[0,1,3],[0,2,3],[1,2,3]],[[0,1],[0,2],[1,3],[2,3]],[[0,1,2,3]]]⟩
def Jo(d:Z8)(h:HW d=true):Z4 d:=Kb h
def rn1:Pur prog 84 [.str ex1] (.tup [encD kd1,.int .i64 0,.int .i64 0]):=F5 (ts:=ts0) (by kernel_rfl)
end Go.AM
