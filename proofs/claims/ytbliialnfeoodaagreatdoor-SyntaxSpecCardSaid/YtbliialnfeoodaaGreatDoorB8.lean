/-
  Declarations, plainly: what is declared, names resolved, grids, rules, what Check returns · Declarations, plainly: sorted lists, rules as the reference looks at them · Declarations, plainly: accepted declarations, with other names, a rule more, a rule less · Declarations, plainly: a rule more, a rule less, clues · Declarations, plainly: a name that no rule has; sums · Declarations, plainly: the rules about the way in which a grid is filled; what the laws say of Check · Declarations, plainly: small declarations · Declarations, plainly: a grid as the reference makes it · Declarations, plainly: where a number stands in a rising list · Declarations, plainly: names and their numbers, as a table that grows · Declarations as the machine's values, and back · Declarations, plainly: how they are read from tokens · Declarations, plainly: reading looks at no places, and at nothing behind what it lea.
  Conditions: none beyond those of its parts.
-/
import Derived.Test.YtbliialnfeoodaaGreatDoorB4
import Derived.Test.YtbliialnfeoodaaGreatDoorB6
import Derived.Test.YtbliialnfeoodaaGreatDoorB7
import Derived.Test.YtbliialnfeoodaaGreatDoorB5

section
set_option maxRecDepth 20000
set_option linter.all false
namespace Go.AM
open Go.Proofs Go.Lib
structure DSym where
 nm:List UInt8
 v:Int
 deriving DecidableEq
structure DReg where
 nm:List UInt8
 ls:List (List Int)
 deriving DecidableEq
structure DClu where
 nm:List UInt8
 on:List UInt8
 fam:Int
 ty:Int
 lo:Int
 hi:Int
 deriving DecidableEq
structure DRul where
 nm:List UInt8
 on:List UInt8
 kind:Int
 fam:Int
 ns:List (List UInt8)
 os:List (List UInt8)
 set:Int
 oth:Int
 op:Int
 n:Int
 byN:List UInt8
 clue:Int
 deriving DecidableEq
structure Dcl where
 nm:List UInt8
 ver:Int
 sh:Int
 w:Int
 h:Int
 holes:List Int
 syms:List DSym
 regs:List DReg
 clus:List DClu
 ruls:List DRul
 deriving DecidableEq
def givenF:List (List UInt8):=[[99,101,108,108,115],[114,111,119,115],[99,111,108,117,109,110,115],[100,105,97,103,111,110,97,108,115],[97,114,111,117,110,100],[110,101,97,114],[112,97,105,114,115],[97,108,108]]
def twiceD {α:Type} [DecidableEq α]:List α→Bool
 |[]=>false
 |x::r=>(r.any fun y=>decide (y=x))||twiceD r
def famNs (d:Dcl):List (List UInt8):=givenF++d.regs.map (·.nm)
def numOf (l:List (List UInt8)) (s:List UInt8):Option Int:=(l.findIdx? fun x=>decide (x=s)).map fun(i:Nat)=>(i:Int)
def setOf (l:List (List UInt8)):List (List UInt8)→Option Int
 |[]=>some 0
 |s::r=>match l.findIdx? (fun x=>decide (x=s)),setOf l r with
  |some i,some n=>some (Int.ofNat (Nat.lor (1<<<i) n.toNat))
  |_,_=>none
def resClu (d:Dcl) (c:DClu):Option DClu:=(numOf (famNs d) c.on).map fun f=>{c with fam:=f}
def resRul (d:Dcl) (r:DRul):Option DRul:=
 match (if r.on=[]then some 0 else numOf (famNs d) r.on),setOf (d.syms.map (·.nm)) r.ns,setOf (d.syms.map (·.nm)) r.os,(if r.byN=[]then some (-1)else numOf (d.clus.map (·.nm)) r.byN)with
 |some f,some a,some b,some c=>some {r with fam:=f,set:=a,oth:=b,clue:=c}
 |_,_,_,_=>none
def risingI:Int→List Int→Bool
 |_,[]=>true
 |a,x::r=>decide (a<x)&&risingI x r
def cellsG (sh w h:Int) (holes:List Int):Option (List Int):=
 if(sh=1∨sh=2)∧1≤w∧w≤16∧1≤h∧h≤16∧(holes.length:Int)<w*h∧risingI (-1) holes=true∧(holes.all fun p=>decide (p<w*h))=true then
  some (((List.range (w*h).toNat).map fun(i:Nat)=>(i:Int)).filter fun p=>!holes.contains p)
 else none
def listOK (cells l:List Int):Bool:=(l.all fun p=>cells.contains p)&& !twiceD l&&decide (1≤l.length)
def alikeL (a b:List Int):Bool:=(a.all fun x=>b.contains x)&&b.all fun x=>a.contains x
def pairTwice:List (List Int)→Bool
 |[]=>false
 |x::r=>(r.any fun y=>alikeL y x)||pairTwice r
def regE (cells:List Int) (r:DReg):Int:=if(decide (r.ls.length≤64)&&r.ls.all (listOK cells))=false then 130 else if pairTwice r.ls=true then 161 else 0
def regsE (cells:List Int):List DReg→Int
 |[]=>0
 |r::s=>if regE cells r=0 then regsE cells s else regE cells r
def cluOK (c:DClu):Bool:=
 if c.ty=1 then decide (c.fam=0)&&decide (c.lo=0)&&decide (c.hi=0)
 else if c.ty=2 then decide (0≤c.lo)&&decide (c.lo≤c.hi)&&decide (c.hi≤65536)
 else if c.ty=3 then(decide (1≤c.fam)&&decide (c.fam≤3)||decide (8≤c.fam))&&decide (c.lo=0)&&decide (c.hi=0)
 else false
structure FormD where
 on:Bool:=false
 set:Bool:=false
 oth:Bool:=false
 bnd:Bool:=false
 num:Bool:=false
 rdb:Bool:=false
 knw:Bool:=false
 clue:Int:=0
def formK (k:Int):FormD:=
 if k=1 then{on:=true,rdb:=true,knw:=true}else if k=2 then{on:=true,set:=true,bnd:=true,rdb:=true,knw:=true}
 else if k=3 then{on:=true,bnd:=true,rdb:=true,knw:=true}else if k=4 then{on:=true,rdb:=true,knw:=true}
 else if k=5 then{on:=true,set:=true,rdb:=true,knw:=true,clue:=3}else if k=6 then{rdb:=true,knw:=true}
 else if k=7 then{num:=true,rdb:=true,knw:=true}else if k=8 then{set:=true,oth:=true,rdb:=true,knw:=true}
 else if k=9 then{set:=true,rdb:=true,knw:=true}else if k=10 then{set:=true,rdb:=true,knw:=true}
 else if k=11 then{rdb:=true,knw:=true,clue:=1}else if k=12 then{on:=true,knw:=true}else if k=13 then{bnd:=true,knw:=true}else{}
def cluP (cl:List DClu) (r:DRul) (w:Int):Bool:=if r.clue<0∨(cl.length:Int)≤r.clue then false else match cl[r.clue.toNat]? with
 |some c=>decide (c.ty=w)&&(decide (w=1)||decide (c.fam=r.fam))
 |none=>false
def rulOK (cl:List DClu) (r:DRul):Bool:=
 let f:=formK r.kind
 if f.knw=false then false
 else if(f.on !=decide (r.on≠[]))||(f.set !=decide (r.set≠0))||(f.oth !=decide (r.oth≠0))||(!f.on&&decide (r.fam≠0))||(!f.set&&decide (0<r.ns.length))||(!f.oth&&decide (0<r.os.length))then false
 else if(f.bnd !=(decide (1≤r.op)&&decide (r.op≤3)))||(!f.bnd&&decide (r.op≠0))||decide (r.n<0)||decide (65536<r.n)then false
 else if !(f.num||f.bnd&&decide (r.byN=[]))&&decide (r.n≠0)then false
 else
  let want:=if f.bnd&&decide (r.byN≠[])then 2 else f.clue
  if want=0 then decide (r.byN=[])&&decide (r.clue= -1)else cluP cl r want
def manyC (rs:List DRul) (i:Nat):Nat:=(rs.filter fun r=>decide (r.clue=(i:Int))).length
def formOK (d:Dcl):Bool:=(d.syms.all fun s=>decide (0≤s.v)&&decide (s.v≤99))&&d.ruls.all (rulOK d.clus)&&((List.range d.clus.length).all fun i=>decide (manyC d.ruls i=1))&&d.clus.all cluOK
def limD (d:Dcl):Bool:=decide (0<d.syms.length)&&decide (d.syms.length≤16)&&decide (d.regs.length≤4)&&decide (d.clus.length≤4)&&decide (d.ruls.length≤16)
end Go.AM
end
section
set_option maxRecDepth 20000
set_option linter.all false
namespace Go.AM
open Go.Proofs Go.Lib
end Go.AM
end
section
set_option maxRecDepth 20000
set_option linter.all false
namespace Go.AM
open Go.Proofs Go.Lib
structure ResOK (d:Dcl):Prop where
 n16:d.syms.length≤16
 ts:twiceD (d.syms.map (·.nm))=false
 tf:twiceD (famNs d)=false
 tc:twiceD (d.clus.map (·.nm))=false
 tr:twiceD (d.ruls.map (·.nm))=false
 cl:∀c∈d.clus,resClu d c=some c
 ru:∀r∈d.ruls,resRul d r=some r
structure DclOK (d:Dcl):Prop where
 lim:limD d=true
 res:ResOK d
 ver:1≤d.ver∧d.ver≤255
 reg:∃cells,cellsG d.sh d.w d.h d.holes=some cells∧regsE cells d.regs=0
 form:formOK d=true
end Go.AM
end
section
set_option maxRecDepth 20000
set_option linter.all false
namespace Go.AM
open Go.Proofs Go.Lib
end Go.AM
end
section
set_option maxRecDepth 20000
set_option linter.all false
namespace Go.AM
open Go.Proofs Go.Lib
end Go.AM
end
section
set_option maxRecDepth 20000
set_option linter.all false
namespace Go.AM
open Go.Proofs Go.Lib
end Go.AM
end
section
set_option maxRecDepth 20000
set_option linter.all false
namespace Go.AM
open Go.Proofs Go.Lib
structure SmallD (d:Dcl):Prop where
 top:d.nm.length+d.holes.length+d.syms.length+d.regs.length+d.clus.length+d.ruls.length<2000
 sy:∀s∈d.syms,s.nm.length<2000
 rg:∀r∈d.regs,r.nm.length+r.ls.length<2000∧∀l∈r.ls,l.length<2000
 cl:∀c∈d.clus,c.nm.length+c.on.length<2000
 ru:∀r∈d.ruls,r.nm.length+r.on.length+r.byN.length+r.ns.length+r.os.length<2000∧(∀s∈r.ns,s.length<2000)∧∀s∈r.os,s.length<2000
end Go.AM
end
section
set_option maxRecDepth 20000
set_option linter.all false
namespace Go.AM
open Go.Proofs Go.Lib
end Go.AM
end
section
set_option maxRecDepth 20000
set_option linter.all false
namespace Go.AM
open Go.Proofs Go.Lib
end Go.AM
end
section
set_option maxRecDepth 20000
set_option linter.all false
namespace Go.AM
open Go.Proofs Go.Lib
def bits (is:List Nat):Nat:=is.foldr (fun i n=>Nat.lor (1<<<i) n) 0
end Go.AM
end
section
set_option maxRecDepth 20000
set_option linter.all false
namespace Go.AM
open Go.Proofs Go.Lib
abbrev eLl (l:List (List Int)):AVal:=.sl (.none 1) (l.map eIs)
abbrev encSy (s:DSym):AVal:=.agg [.str s.nm,.int .i64 s.v]
abbrev encRg (r:DReg):AVal:=.agg [.str r.nm,eLl r.ls]
abbrev encCl (c:DClu):AVal:=.agg [.str c.nm,.str c.on,.int .i64 c.fam,.int .i64 c.ty,.int .i64 c.lo,.int .i64 c.hi]
abbrev cellsRu (r:DRul):List AVal:=[.str r.nm,.str r.on,.int .i64 r.kind,.int .i64 r.fam,eSs r.ns,eSs r.os,.int .i64 r.set,.int .i64 r.oth,.int .i64 r.op,.int .i64 r.n,.str r.byN,.int .i64 r.clue]
abbrev encRu (r:DRul):AVal:=.agg (cellsRu r)
abbrev eSys (l:List DSym):AVal:=.sl (.none 2) (l.map encSy)
abbrev eRgs (l:List DReg):AVal:=.sl (.none 2) (l.map encRg)
abbrev eCls (l:List DClu):AVal:=.sl (.none 6) (l.map encCl)
abbrev eRus (l:List DRul):AVal:=.sl (.none 12) (l.map encRu)
abbrev cellsD (d:Dcl):List AVal:=[.str d.nm,.int .i64 d.ver,.int .i64 d.sh,.int .i64 d.w,.int .i64 d.h,eIs d.holes,eSys d.syms,eRgs d.regs,eCls d.clus,eRus d.ruls]
abbrev encD (d:Dcl):AVal:=.agg (cellsD d)
theorem eIs_under (n:Nat) (l:List Int):(eIs l).under n:=⟨trivial,eI_under n _⟩
theorem eSs_under (n:Nat) (l:List Bs):(eSs l).under n:=⟨trivial,strs_under n _⟩
theorem eLl_under (n:Nat) (l:List (List Int)):(eLl l).under n:=⟨trivial,unders_map (eIs_under n) _⟩
theorem encSy_under (n:Nat) (s:DSym):(encSy s).under n:=⟨trivial,trivial,trivial⟩
theorem encRg_under (n:Nat) (r:DReg):(encRg r).under n:=⟨trivial,eLl_under n _,trivial⟩
theorem encCl_under (n:Nat) (c:DClu):(encCl c).under n:=⟨trivial,trivial,trivial,trivial,trivial,trivial,trivial⟩
theorem encRu_under (n:Nat) (r:DRul):(encRu r).under n:=⟨trivial,trivial,trivial,trivial,eSs_under n _,eSs_under n _,trivial,trivial,trivial,trivial,trivial,trivial,trivial⟩
theorem eSys_under (n:Nat) (l:List DSym):(eSys l).under n:=⟨trivial,unders_map (encSy_under n) _⟩
theorem eRgs_under (n:Nat) (l:List DReg):(eRgs l).under n:=⟨trivial,unders_map (encRg_under n) _⟩
theorem eCls_under (n:Nat) (l:List DClu):(eCls l).under n:=⟨trivial,unders_map (encCl_under n) _⟩
theorem eRus_under (n:Nat) (l:List DRul):(eRus l).under n:=⟨trivial,unders_map (encRu_under n) _⟩
theorem encD_under (n:Nat) (d:Dcl):(encD d).under n:=⟨trivial,trivial,trivial,trivial,trivial,eIs_under n _,eSys_under n _,eRgs_under n _,eCls_under n _,eRus_under n _,trivial⟩
def decIs:AVal→List Int
 | .sl _ L=>L.map toI
 |_=>[]
def decSs:AVal→List Bs
 | .sl _ L=>L.map toS
 |_=>[]
def decLl:AVal→List (List Int)
 | .sl _ L=>L.map decIs
 |_=>[]
def decSy:AVal→DSym
 | .agg [.str nm,.int _ v]=>⟨nm,v⟩
 |_=>⟨[],0⟩
def decRg:AVal→DReg
 | .agg [.str nm,l]=>⟨nm,decLl l⟩
 |_=>⟨[],[]⟩
def decCl:AVal→DClu
 | .agg [.str nm,.str on,.int _ f,.int _ t,.int _ lo,.int _ hi]=>⟨nm,on,f,t,lo,hi⟩
 |_=>⟨[],[],0,0,0,0⟩
def decRu:AVal→DRul
 | .agg [.str nm,.str on,.int _ k,.int _ f,ns,os,.int _ s,.int _ o,.int _ op,.int _ n,.str b,.int _ c]=>⟨nm,on,k,f,decSs ns,decSs os,s,o,op,n,b,c⟩
 |_=>⟨[],[],0,0,[],[],0,0,0,0,[],0⟩
def decLs {α:Type} (f:AVal→α):AVal→List α
 | .sl _ L=>L.map f
 |_=>[]
def decD:AVal→Dcl
 | .agg [.str nm,.int _ v,.int _ sh,.int _ w,.int _ h,ho,sy,rg,cl,ru]=>⟨nm,v,sh,w,h,decIs ho,decLs decSy sy,decLs decRg rg,decLs decCl cl,decLs decRu ru⟩
 |_=>⟨[],0,0,0,0,[],[],[],[],[]⟩
theorem decIs_enc (l:List Int):decIs (eIs l)=l:=eI_map l
theorem decLl_enc (l:List (List Int)):decLl (eLl l)=l:=map_dec decIs_enc l
theorem decSy_enc (s:DSym):decSy (encSy s)=s:=rfl
theorem decRg_enc (r:DReg):decRg (encRg r)=r:=by simp only[decRg,decLl_enc]
theorem decCl_enc (c:DClu):decCl (encCl c)=c:=rfl
theorem decRu_enc (r:DRul):decRu (encRu r)=r:=by simp only[decRu,decSs,toSs_map]
theorem decD_enc (d:Dcl):decD (encD d)=d:=by
 simp only[decD,decIs,decLs,eI_map,map_dec decSy_enc,map_dec decRg_enc,map_dec decCl_enc,map_dec decRu_enc]
def dWk {α:Type} (enc:α→AVal) (dec:AVal→α):Dc α:=⟨enc,dec,fun v=>Wk v (enc (dec v)),fun _ h=>h⟩
theorem dWk_ok {α:Type} {enc:α→AVal} {dec:AVal→α} (h:∀x,dec (enc x)=x) (x:α):(dWk enc dec).ok (enc x)=True:=eq_true (by show Wk _ _;rw[h];exact Wk.refl _)
def dRg:Dc DReg:=dWk encRg decRg
def dCl:Dc DClu:=dWk encCl decCl
def dRu:Dc DRul:=dWk encRu decRu
def dD:Dc Dcl:=dWk encD decD
theorem dRg_ok (x:DReg):dRg.ok (encRg x)=True:=dWk_ok decRg_enc x
theorem dRg_dec (x:DReg):dRg.dec (encRg x)=x:=decRg_enc x
theorem dCl_ok (x:DClu):dCl.ok (encCl x)=True:=dWk_ok decCl_enc x
theorem dCl_dec (x:DClu):dCl.dec (encCl x)=x:=rfl
theorem dRu_ok (x:DRul):dRu.ok (encRu x)=True:=dWk_ok decRu_enc x
theorem dRu_dec (x:DRul):dRu.dec (encRu x)=x:=decRu_enc x
theorem dD_ok (x:Dcl):dD.ok (encD x)=True:=dWk_ok decD_enc x
theorem dD_dec (x:Dcl):dD.dec (encD x)=x:=decD_enc x
def dLi {α:Type} (e:Nat) (enc:α→AVal) (dec:AVal→α):Dc (List α):=⟨fun l=>.sl (.none e) (l.map enc),decL dec,okL e enc dec,okL_wk⟩
theorem dLi_ok {α:Type} {e:Nat} {enc:α→AVal} {dec:AVal→α} (h:∀x,dec (enc x)=x) {t:Tok} {l:List α} (ht:t.esz=e∨l=[]):(dLi e enc dec).ok (.sl t (l.map enc))=True:=eq_true (by
 refine⟨ht.imp id fun q=>by rw[q];rfl,?_⟩
 rw[map_dec h])
theorem dLi_dec {α:Type} {e:Nat} {enc:α→AVal} {dec:AVal→α} (h:∀x,dec (enc x)=x) {t:Tok} {l:List α}:(dLi e enc dec).dec (.sl t (l.map enc))=l:=map_dec h l
def dLl:Dc (List (List Int)):=dLi 1 eIs decIs
def dSys:Dc (List DSym):=dLi 2 encSy decSy
def dRgs:Dc (List DReg):=dLi 2 encRg decRg
def dCls:Dc (List DClu):=dLi 6 encCl decCl
def dRus:Dc (List DRul):=dLi 12 encRu decRu
theorem dIs_ok (l:List Int):dIs.ok (eIs l)=True:=eq_true ⟨.inl rfl,by rw[eI_map]⟩
theorem dIs_dec (l:List Int):dIs.dec (eIs l)=l:=eI_map l
theorem dSs_ok (l:List Bs):dSs.ok (eSs l)=True:=eq_true ⟨.inl rfl,by rw[toSs_map]⟩
theorem dSs_dec (l:List Bs):dSs.dec (eSs l)=l:=toSs_map l
theorem dI_ok (x:Int):dI.ok (.int .i64 x)=True:=eq_true trivial
theorem dI_dec (x:Int):dI.dec (.int .i64 x)=x:=rfl
theorem dS_ok (x:Bs):dS.ok (.str x)=True:=eq_true trivial
theorem dS_dec (x:Bs):dS.dec (.str x)=x:=rfl
abbrev dcl0:Dcl:=⟨[],0,0,0,0,[],[],[],[],[]⟩
end Go.AM
end
section
set_option maxRecDepth 20000
set_option linter.all false
namespace Go.AM
open Go.Proofs Go.Lib
def whileF {α:Type} (t:List Tkn→Bool) (one:List Tkn→Rs α):Nat→List Tkn→Rs (List α)
 |0,l=>.bad l
 |f+1,l=>if t l=true then(one l).bd fun a r=>(whileF t one f r).bd fun xs q=>.ok (a::xs) q else .ok [] l
def whileR {α:Type} (t:List Tkn→Bool) (one:List Tkn→Rs α) (l:List Tkn):Rs (List α):=whileF t one (l.length+1) l
def comR {α:Type} (one:List Tkn→Rs α) (l:List Tkn):Rs α:=(need [44] l).bd fun _ r=>one r
def listR {α:Type} (one:List Tkn→Rs α) (l:List Tkn):Rs (List α):=(one l).bd fun a r=>(whileR (hdW [44]) (comR one) r).bd fun xs q=>.ok (a::xs) q
def isNumT:List Tkn→Bool
 |t::_=>decide (t.K=2)&&decide (t.N≤65536)
 |[]=>false
def nmbR:List Tkn→Rs Int
 |t::r=>if t.K=2∧t.N≤65536 then .ok t.N r else .bad (t::r)
 |[]=>.bad []
abbrev wEach:Bs:=[101,97,99,104]
abbrev wUnlike:Bs:=[117,110,108,105,107,101]
abbrev wApart:Bs:=[97,112,97,114,116]
abbrev wNot:Bs:=[110,111,116]
abbrev wConn:Bs:=[99,111,110,110,101,99,116,101,100]
abbrev wLoop:Bs:=[108,111,111,112]
abbrev wGiven:Bs:=[103,105,118,101,110]
abbrev wFill:Bs:=[102,105,108,108,101,100]
abbrev wSteps:Bs:=[115,116,101,112,115]
abbrev wIs:Bs:=[105,115]
abbrev wMost:Bs:=[109,111,115,116]
abbrev wLeast:Bs:=[108,101,97,115,116]
abbrev wDiff:Bs:=[100,105,102,102,101,114,101,110,116]
abbrev wCount:Bs:=[99,111,117,110,116]
abbrev wSum:Bs:=[115,117,109]
abbrev wRise:Bs:=[114,105,115,101]
abbrev wRuns:Bs:=[114,117,110,115]
abbrev wBy:Bs:=[98,121]
abbrev wBeside:Bs:=[98,101,115,105,100,101]
abbrev wOn:Bs:=[111,110]
abbrev wSym:Bs:=[115,121,109,98,111,108]
abbrev wNumber:Bs:=[110,117,109,98,101,114]
abbrev wTo:Bs:=[116,111]
abbrev wKind:Bs:=[107,105,110,100]
abbrev wVers:Bs:=[118,101,114,115,105,111,110]
abbrev wGrid:Bs:=[103,114,105,100]
abbrev wHex:Bs:=[104,101,120]
abbrev wSquare:Bs:=[115,113,117,97,114,101]
abbrev wWout:Bs:=[119,105,116,104,111,117,116]
abbrev wSyms:Bs:=[115,121,109,98,111,108,115]
abbrev wRegs:Bs:=[114,101,103,105,111,110,115]
abbrev wClue:Bs:=[99,108,117,101]
abbrev wRule:Bs:=[114,117,108,101]
def setR (l:List Tkn):Rs (List Bs):=(need [123] l).bd fun _ r=>(listR nameR r).bd fun ss r=>(need [125] r).bd fun _ r=>.ok ss r
def symR (l:List Tkn):Rs DSym:=(nameR l).bd fun s r=>(need [61] r).bd fun _ r=>(nmbR r).bd fun v r=>.ok ⟨s,v⟩ r
def opR (l:List Tkn):Rs Int:=if hdW wIs l=true then .ok 1 l.tail else if hdW wMost l=true then .ok 2 l.tail else(need wLeast l).bd fun _ r=>.ok 3 r
def limR (l:List Tkn):Rs (Int×Bs):=if isNumT l=true then(nmbR l).bd fun n r=>.ok (n,[]) r else(nameR l).bd fun s r=>.ok (0,s) r
def bndR (l:List Tkn):Rs (Int×Int×Bs):=(opR l).bd fun o r=>(limR r).bd fun p r=>.ok (o,p) r
abbrev rul0:DRul:=⟨[],[],0,0,[],[],0,0,0,0,[],0⟩
def eachR (x:DRul) (l:List Tkn):Rs DRul:=
 if hdW wDiff l=true then .ok {x with kind:=1} l.tail
 else if hdW wCount l=true then(setR l.tail).bd fun ss r=>(bndR r).bd fun b r=>.ok {x with kind:=2,ns:=ss,op:=b.1,n:=b.2.1,byN:=b.2.2} r
 else if hdW wSum l=true then(bndR l.tail).bd fun b r=>.ok {x with kind:=3,op:=b.1,n:=b.2.1,byN:=b.2.2} r
 else if hdW wRise l=true then .ok {x with kind:=4} l.tail
 else(need wRuns l).bd fun _ r=>(setR r).bd fun ss r=>(need wBy r).bd fun _ r=>(nameR r).bd fun s r=>.ok {x with kind:=5,ns:=ss,byN:=s} r
def bodyR (x:DRul) (l:List Tkn):Rs DRul:=
 if hdW wEach l=true then(nameR l.tail).bd fun s r=>eachR {x with on:=s} r
 else if hdW wUnlike l=true then .ok {x with kind:=6} l.tail
 else if hdW wApart l=true then(nmbR l.tail).bd fun n r=>.ok {x with kind:=7,n:=n} r
 else if hdW wNot l=true then(setR l.tail).bd fun ss r=>(need wBeside r).bd fun _ r=>(setR r).bd fun os r=>.ok {x with kind:=8,ns:=ss,os:=os} r
 else if hdW wConn l=true then(setR l.tail).bd fun ss r=>.ok {x with kind:=9,ns:=ss} r
 else if hdW wLoop l=true then(setR l.tail).bd fun ss r=>.ok {x with kind:=10,ns:=ss} r
 else if hdW wGiven l=true then(nameR l.tail).bd fun s r=>.ok {x with kind:=11,byN:=s} r
 else if hdW wFill l=true then(nameR l.tail).bd fun s r=>.ok {x with kind:=12,on:=s} r
 else if hdW wSteps l=true then(bndR l.tail).bd fun b r=>.ok {x with kind:=13,op:=b.1,n:=b.2.1,byN:=b.2.2} r
 else .bad l
def ruleR (l:List Tkn):Rs DRul:=(nameR l).bd fun s r=>(need [58] r).bd fun _ r=>(bodyR {rul0 with nm:=s} r).bd fun x r=>(need [59] r).bd fun _ r=>.ok x r
def cluR (l:List Tkn):Rs DClu:=(nameR l).bd fun s r=>(need wOn r).bd fun _ r=>(nameR r).bd fun o r=>
 (if hdW wSym r=true then Rs.ok ⟨s,o,0,1,0,0⟩ r.tail else if hdW wNumber r=true then(nmbR r.tail).bd fun a r=>(need wTo r).bd fun _ r=>(nmbR r).bd fun b r=>.ok ⟨s,o,0,2,a,b⟩ r
  else(need wRuns r).bd fun _ r=>.ok ⟨s,o,0,3,0,0⟩ r).bd fun x r=>(need [59] r).bd fun _ r=>.ok x r
def rlistR (l:List Tkn):Rs (List Int):=(listR nmbR l).bd fun ns r=>(need [59] r).bd fun _ r=>.ok ns r
def regR (l:List Tkn):Rs DReg:=(nameR l).bd fun s r=>(need [123] r).bd fun _ r=>(whileR isNumT rlistR r).bd fun ls r=>(need [125] r).bd fun _ r=>.ok ⟨s,ls⟩ r
def behind {α:Type} (w:Bs) (one:List Tkn→Rs α) (l:List Tkn):Rs α:=(need w l).bd fun _ r=>one r
def manyR {α:Type} (w:Bs) (one:List Tkn→Rs α) (l:List Tkn):Rs (List α):=whileR (hdW w) (behind w one) l
def shapeR (l:List Tkn):Rs Int:=if hdW wHex l=true then .ok 2 l.tail else(need wSquare l).bd fun _ r=>.ok 1 r
def holesR (l:List Tkn):Rs (List Int):=if hdW wWout l=true then listR nmbR l.tail else .ok [] l
def headR (l:List Tkn):Rs Dcl:=
 (need wKind l).bd fun _ r=>(nameR r).bd fun nm r=>(need wVers r).bd fun _ r=>(nmbR r).bd fun v r=>(need [123] r).bd fun _ r=>(need wGrid r).bd fun _ r=>(shapeR r).bd fun sh r=>
 (nmbR r).bd fun w r=>(need wBy r).bd fun _ r=>(nmbR r).bd fun h r=>(holesR r).bd fun ho r=>(need [59] r).bd fun _ r=>.ok ⟨nm,v,sh,w,h,ho,[],[],[],[]⟩ r
def bodyD (d:Dcl) (l:List Tkn):Rs Dcl:=
 (need wSyms l).bd fun _ r=>(listR symR r).bd fun ss r=>(need [59] r).bd fun _ r=>(manyR wRegs regR r).bd fun rs r=>(manyR wClue cluR r).bd fun cs r=>(manyR wRule ruleR r).bd fun us r=>
 .ok {d with syms:=ss,regs:=rs,clus:=cs,ruls:=us} r
def declO (l:List Tkn):Rs Dcl:=(headR l).bd fun d r=>bodyD d r
def endR (d:Dcl):List Tkn→Rs Dcl
 |[]=>.ok d []
 |l=>.bad l
def declR (l:List Tkn):Rs Dcl:=(declO l).bd fun d r=>(need [125] r).bd fun _ r=>endR d r
def plc (e:Int):List Tkn→Int
 |t::_=>t.A
 |[]=>e
def bareD (d:Dcl):Dcl:={d with clus:=d.clus.map fun c=>{c with fam:=0},ruls:=d.ruls.map fun r=>{r with fam:=0,set:=0,oth:=0,clue:=0}}
theorem while_fuel {α:Type} {t:List Tkn→Bool} {one:List Tkn→Rs α} (hp:∀l a r,t l=true→one l= .ok a r→r.length<l.length):∀(f g:Nat) (l:List Tkn),l.length<f→l.length<g→whileF t one f l=whileF t one g l:=by
 intro f
 induction f with
 |zero=>intro g l h;omega
 |succ f ih=>
  intro g l h1 h2
  obtain⟨g,rfl⟩:∃k,g=k+1:=⟨g-1,by omega⟩
  rw[whileF,whileF]
  by_cases ht:t l=true
  ·rw[if_pos ht,if_pos ht]
   cases ho:one l with
   |bad r=>rfl
   |ok a r=>
    have:=hp l a r ht ho
    show(whileF t one f r).bd _=(whileF t one g r).bd _
    rw[ih g r (by omega) (by omega)]
  ·rw[if_neg ht,if_neg ht]
theorem while_eq {α:Type} {t:List Tkn→Bool} {one:List Tkn→Rs α} (hp:∀l a r,t l=true→one l= .ok a r→r.length<l.length) (l:List Tkn):
  whileR t one l=if t l=true then(one l).bd fun a r=>(whileR t one r).bd fun xs q=>.ok (a::xs) q else .ok [] l:=by
 unfold whileR
 rw[whileF]
 by_cases ht:t l=true
 ·rw[if_pos ht,if_pos ht]
  cases ho:one l with
  |bad r=>rfl
  |ok a r=>
   have:=hp l a r ht ho
   show(whileF t one l.length r).bd _=(whileF t one (r.length+1) r).bd _
   rw[while_fuel hp l.length (r.length+1) r this (by omega)]
 ·rw[if_neg ht,if_neg ht]
def Le {α:Type} (p:List Tkn→Rs α):Prop:=∀l a r,p l= .ok a r→r.length≤l.length
def Lt {α:Type} (p:List Tkn→Rs α):Prop:=∀l a r,p l= .ok a r→r.length<l.length
theorem Lt.le {α:Type} {p:List Tkn→Rs α} (h:Lt p):Le p:=fun l a r e=>Nat.le_of_lt (h l a r e)
theorem Le.ok {α:Type} (a:α):Le (Rs.ok a):=fun l b r h=>by cases h;exact Nat.le_refl _
theorem Le.bd {α β:Type} {p:List Tkn→Rs α} {f:α→List Tkn→Rs β} (hp:Le p) (hf:∀a,Le (f a)):Le fun l=>(p l).bd f:=fun l b r h=>by
 obtain⟨a,q,h1,h2⟩:=bd_inv (show(p l).bd f=_ from h)
 have:=hp _ _ _ h1
 have:=hf _ _ _ _ h2
 omega
theorem Lt.bd {α β:Type} {p:List Tkn→Rs α} {f:α→List Tkn→Rs β} (hp:Lt p) (hf:∀a,Le (f a)):Lt fun l=>(p l).bd f:=fun l b r h=>by
 obtain⟨a,q,h1,h2⟩:=bd_inv (show(p l).bd f=_ from h)
 have:=hp _ _ _ h1
 have:=hf _ _ _ _ h2
 omega
theorem Lt.ite {α:Type} (t:List Tkn→Bool) {p q:List Tkn→Rs α} (hp:Lt p) (hq:Lt q):Lt fun l=>if t l=true then p l else q l:=fun l a r h=>by
 simp only[]at h
 split at h
 ·exact hp _ _ _ h
 ·exact hq _ _ _ h
theorem Lt.word {α:Type} (w:Bs) {p q:List Tkn→Rs α} (hp:Le p) (hq:Lt q):Lt fun l=>if hdW w l=true then p l.tail else q l:=fun l a r h=>by
 simp only[]at h
 split at h
 ·rename_i hw
  have:=hp _ _ _ h
  cases l with
  |nil=>cases hw
  |cons t l=>simp only[List.tail_cons]at this;simp only[List.length_cons];omega
 ·exact hq _ _ _ h
theorem Le.word {α:Type} (w:Bs) {p q:List Tkn→Rs α} (hp:Le p) (hq:Le q):Le fun l=>if hdW w l=true then p l.tail else q l:=fun l a r h=>by
 simp only[]at h
 split at h
 ·have:=hp _ _ _ h
  rw[List.length_tail]at this;omega
 ·exact hq _ _ _ h
theorem Lt.fail {α:Type}:Lt (Rs.bad:List Tkn→Rs α):=fun l a r h=>by cases h
theorem need_Lt (w:Bs):Lt (need w):=fun l a r h=>need_lt h
theorem name_Lt:Lt nameR:=fun l a r h=>by
 cases l with
 |nil=>cases h
 |cons t l=>
  simp only[nameR,kindR]at h
  split at h
  ·cases h;simp
  ·cases h
theorem num_Lt:Lt nmbR:=fun l a r h=>by
 cases l with
 |nil=>cases h
 |cons t l=>
  simp only[nmbR]at h
  split at h
  ·cases h;simp
  ·cases h
theorem while_Le {α:Type} {t:List Tkn→Bool} {one:List Tkn→Rs α} (h:Le one):Le (whileR t one):=fun l=>by
 have key:∀(f:Nat) (l:List Tkn) a r,whileF t one f l= .ok a r→r.length≤l.length:=by
  intro f
  induction f with
  |zero=>intro l a r e;cases e
  |succ f ih=>
   intro l a r e
   rw[whileF]at e
   split at e
   ·obtain⟨x,q,h1,h2⟩:=bd_inv e
    obtain⟨y,q2,h3,h4⟩:=bd_inv h2
    cases h4
    have:=h _ _ _ h1
    have:=ih _ _ _ h3
    omega
   ·cases e;exact Nat.le_refl _
 exact key _ l
theorem com_Lt {α:Type} {one:List Tkn→Rs α} (h:Le one):Lt (comR one):=(need_Lt [44]).bd fun _=>h
theorem list_Lt {α:Type} {one:List Tkn→Rs α} (h:Lt one):Lt (listR one):=Lt.bd h fun a=>Le.bd (while_Le (com_Lt h.le).le) fun _=>Le.ok _
theorem set_Lt:Lt setR:=(need_Lt _).bd fun _=>(list_Lt name_Lt).le.bd fun _=>(need_Lt _).le.bd fun _=>Le.ok _
theorem sym_Lt:Lt symR:=name_Lt.bd fun _=>(need_Lt _).le.bd fun _=>num_Lt.le.bd fun _=>Le.ok _
theorem op_Lt:Lt opR:=Lt.word (p:=Rs.ok 1) _ (Le.ok _) (Lt.word (p:=Rs.ok 2) _ (Le.ok _) ((need_Lt _).bd fun _=>Le.ok _))
theorem lim_Lt:Lt limR:=Lt.ite _ (num_Lt.bd fun _=>Le.ok _) (name_Lt.bd fun _=>Le.ok _)
theorem bnd_Lt:Lt bndR:=op_Lt.bd fun _=>lim_Lt.le.bd fun _=>Le.ok _
theorem each_Lt (x:DRul):Lt (eachR x):=Lt.word (p:=Rs.ok _) _ (Le.ok _) (Lt.word _ (set_Lt.le.bd fun _=>bnd_Lt.le.bd fun _=>Le.ok _) (Lt.word _ (bnd_Lt.le.bd fun _=>Le.ok _) (Lt.word (p:=Rs.ok _) _ (Le.ok _)
 ((need_Lt _).bd fun _=>set_Lt.le.bd fun _=>(need_Lt _).le.bd fun _=>name_Lt.le.bd fun _=>Le.ok _))))
theorem body_Lt (x:DRul):Lt (bodyR x):=Lt.word _ (name_Lt.le.bd fun _=>(each_Lt _).le) (Lt.word (p:=Rs.ok _) _ (Le.ok _) (Lt.word _ (num_Lt.le.bd fun _=>Le.ok _) (Lt.word _ (set_Lt.le.bd fun _=>(need_Lt _).le.bd fun _=>set_Lt.le.bd fun _=>Le.ok _)
 (Lt.word _ (set_Lt.le.bd fun _=>Le.ok _) (Lt.word _ (set_Lt.le.bd fun _=>Le.ok _) (Lt.word _ (name_Lt.le.bd fun _=>Le.ok _) (Lt.word _ (name_Lt.le.bd fun _=>Le.ok _) (Lt.word _ (bnd_Lt.le.bd fun _=>Le.ok _) Lt.fail))))))))
theorem rule_Lt:Lt ruleR:=name_Lt.bd fun _=>(need_Lt _).le.bd fun _=>(body_Lt _).le.bd fun _=>(need_Lt _).le.bd fun _=>Le.ok _
theorem clu_Lt:Lt cluR:=name_Lt.bd fun s=>(need_Lt _).le.bd fun _=>name_Lt.le.bd fun o=>Le.bd (Lt.word (p:=Rs.ok _) _ (Le.ok _) (Lt.word _ (num_Lt.le.bd fun _=>(need_Lt _).le.bd fun _=>num_Lt.le.bd fun _=>Le.ok _) ((need_Lt _).bd fun _=>Le.ok _))).le fun _=>(need_Lt _).le.bd fun _=>Le.ok _
theorem rlist_Lt:Lt rlistR:=(list_Lt num_Lt).bd fun _=>(need_Lt _).le.bd fun _=>Le.ok _
theorem reg_Lt:Lt regR:=name_Lt.bd fun _=>(need_Lt _).le.bd fun _=>(while_Le rlist_Lt.le).bd fun _=>(need_Lt _).le.bd fun _=>Le.ok _
theorem behind_Lt {α:Type} (w:Bs) {one:List Tkn→Rs α} (h:Le one):Lt (behind w one):=(need_Lt w).bd fun _=>h
theorem shape_Lt:Lt shapeR:=Lt.word (p:=Rs.ok 2) _ (Le.ok _) ((need_Lt _).bd fun _=>Le.ok _)
theorem holes_Le:Le holesR:=Le.word _ (list_Lt num_Lt).le (Le.ok _)
end Go.AM
end
section
set_option maxRecDepth 20000
set_option linter.all false
namespace Go.AM
open Go.Proofs Go.Lib
structure HdT (t:List Tkn→Bool):Prop where
 nil:t []=false
 hd:∀x q q',t (x::q)=t (x::q')
 bar:∀l,t (l.map bar)=t l
section
variable {α:Type} {t:List Tkn→Bool} {one:List Tkn→Rs α}
end
structure Gr {α:Type} (p:List Tkn→Rs α):Prop where
 nt:Nt p
 lc:Lc p
end Go.AM
end
section
set_option maxRecDepth 20000
set_option linter.all false
namespace Go.AM
open Go.Proofs Go.Lib
def comT {α:Type} (one:α→List Tkn):List α→List Tkn
 |[]=>[]
 |a::r=>one a++r.flatMap fun b=>kS [44]::one b
abbrev oneI (s:Bs):List Tkn:=[kI s]
abbrev oneN (n:Int):List Tkn:=[kN n]
def setT (ss:List Bs):List Tkn:=kS [123]::(comT oneI ss++[kS [125]])
def symT (s:DSym):List Tkn:=[kI s.nm,kS [61],kN s.v]
def limT (n:Int) (b:Bs):List Tkn:=if b=[]then[kN n]else[kI b]
section
variable (ot:Int→Bs) (b0:Bool)
def bndT (o n:Int) (b:Bs):List Tkn:=kI (ot o)::limT n b
def bodyT (x:DRul):List Tkn:=
 if x.kind=1 then[kI wEach,kI x.on,kI wDiff]
 else if x.kind=2 then kI wEach::kI x.on::kI wCount::(setT x.ns++bndT ot x.op x.n x.byN)
 else if x.kind=3 then kI wEach::kI x.on::kI wSum::bndT ot x.op x.n x.byN
 else if x.kind=4 then[kI wEach,kI x.on,kI wRise]
 else if x.kind=5 then kI wEach::kI x.on::kI wRuns::(setT x.ns++[kI wBy,kI x.byN])
 else if x.kind=6 then[kI wUnlike]
 else if x.kind=7 then[kI wApart,kN x.n]
 else if x.kind=8 then kI wNot::(setT x.ns++kI wBeside::setT x.os)
 else if x.kind=9 then kI wConn::setT x.ns
 else if x.kind=10 then kI wLoop::setT x.ns
 else if x.kind=11 then[kI wGiven,kI x.byN]
 else if x.kind=12 then[kI wFill,kI x.on]
 else if x.kind=13∨b0=true then kI wSteps::bndT ot x.op x.n x.byN
 else[]
def ruleT (x:DRul):List Tkn:=kI wRule::kI x.nm::kS [58]::(bodyT ot b0 x++[kS [59]])
end
def cluB (x:DClu):List Tkn:=if x.ty=1 then[kI wSym]else if x.ty=2 then[kI wNumber,kN x.lo,kI wTo,kN x.hi]else[kI wRuns]
def cluT (x:DClu):List Tkn:=kI wClue::kI x.nm::kI wOn::kI x.on::(cluB x++[kS [59]])
def rlistT (l:List Int):List Tkn:=comT oneN l++[kS [59]]
def regT (x:DReg):List Tkn:=kI wRegs::kI x.nm::kS [123]::(x.ls.flatMap rlistT++[kS [125]])
def shapeT (s:Int):Tkn:=kI (if s=2 then wHex else wSquare)
def holesT (l:List Int):List Tkn:=if l=[]then[]else kI wWout::comT oneN l
def headT (d:Dcl):List Tkn:=kI wKind::kI d.nm::kI wVers::kN d.ver::kS [123]::kI wGrid::shapeT d.sh::kN d.w::kI wBy::kN d.h::(holesT d.holes++[kS [59]])
def declT (ot:Int→Bs) (b0:Bool) (d:Dcl):List Tkn:=headT d++kI wSyms::(comT symT d.syms++kS [59]::(d.regs.flatMap regT++(d.clus.flatMap cluT++(d.ruls.flatMap (ruleT ot b0)++[kS [125]]))))
def opP (o:Int):Bs:=if o≤1 then wIs else if o≤2 then wMost else wLeast
def opF (o:Int):Bs:=if o=1 then wIs else if o=2 then wMost else wLeast
def rgl (x:DRul):Prop:=1≤x.kind∧x.kind≤13∧((x.kind=2∨x.kind=3∨x.kind=13)→1≤x.op∧x.op≤3)
def Vd (l:List Tkn):Prop:=∀t∈l,validS t=true
def In {α:Type} (p:List Tkn→Rs α) (tk:α→List Tkn):Prop:=∀l a r,Vd l→p l= .ok a r→Vd r∧l.map bar=tk a++r.map bar
theorem vd_tail {t:Tkn} {l:List Tkn} (h:Vd (t::l)):validS t=true∧Vd l:=⟨h t List.mem_cons_self,fun x hx=>h x (List.mem_cons_of_mem _ hx)⟩
theorem valid_1 {t:Tkn} (h:validS t=true) (hk:t.K=1):bar t=kI t.T∧nameS t.T=true:=by
 unfold validS at h
 rw[if_pos hk,Bool.and_eq_true,decide_eq_true_eq]at h
 refine⟨?_,h.1⟩
 show(⟨t.K,t.T,t.N,0⟩:Tkn)=_
 rw[hk,h.2]
theorem valid_2 {t:Tkn} (h:validS t=true) (hk:t.K=2):bar t=kN t.N:=by
 unfold validS at h
 rw[if_neg (by omega),if_pos hk]at h
 simp only[Bool.and_eq_true,decide_eq_true_eq]at h
 have:t.T=[]:=List.length_eq_zero_iff.1 h.1.1
 show(⟨t.K,t.T,t.N,0⟩:Tkn)=_
 rw[hk,this]
theorem valid_3 {t:Tkn} (h:validS t=true) (h1:t.K≠1) (h2:t.K≠2):bar t=kS t.T∧∃b,t.T=[b]∧sgnB b=true:=by
 unfold validS at h
 rw[if_neg h1,if_neg h2]at h
 split at h
 ·rename_i hk
  simp only[Bool.and_eq_true,decide_eq_true_eq]at h
  obtain⟨⟨p1,p2⟩,p3⟩:=h
  obtain⟨b,hb⟩:=List.length_eq_one_iff.1 p1
  refine⟨?_,b,hb,?_⟩
  ·show(⟨t.K,t.T,t.N,0⟩:Tkn)=_
   rw[hk,p3]
  ·rw[hb]at p2;simpa using p2
 ·cases h
theorem sgn_let {b:UInt8} (h:sgnB b=true):letB b=false:=by
 have key:∀x:Fin 256,isSgn (x.val:Int)=true→isLet (x.val:Int)=false:=by decide+kernel
 exact key ⟨b.toNat,b.toNat_lt⟩ h
theorem in_word (w:Bs) (hw:nameS w=true):In (need w) fun _=>[kI w]:=fun l a r hv h=>by
 unfold need at h
 split at h
 ·rename_i q
  cases h
  cases l with
  |nil=>cases q
  |cons t l=>
   obtain⟨v1,v2⟩:=vd_tail hv
   simp only[hdW,Bool.and_eq_true,decide_eq_true_eq]at q
   refine⟨v2,?_⟩
   rw[List.map_cons]
   by_cases hk:t.K=1
   ·rw[(valid_1 v1 hk).1,q.2];rfl
   ·obtain⟨_,b,e,hb⟩:=valid_3 v1 hk q.1
    rw[←q.2,e]at hw
    simp only[nameS,Bool.and_eq_true]at hw
    have:=hw.1.2
    simp only[List.getElem?_cons_zero,Option.getD_some]at this
    rw[sgn_let hb]at this;cases this
 ·cases h
theorem in_sign (w:Bs) (hw:nameS w=false):In (need w) fun _=>[kS w]:=fun l a r hv h=>by
 unfold need at h
 split at h
 ·rename_i q
  cases h
  cases l with
  |nil=>cases q
  |cons t l=>
   obtain⟨v1,v2⟩:=vd_tail hv
   simp only[hdW,Bool.and_eq_true,decide_eq_true_eq]at q
   refine⟨v2,?_⟩
   rw[List.map_cons]
   by_cases hk:t.K=1
   ·have:=(valid_1 v1 hk).2
    rw[q.2,hw]at this;cases this
   ·rw[(valid_3 v1 hk q.1).1,q.2];rfl
 ·cases h
theorem in_name:In nameR fun s=>[kI s]:=fun l a r hv h=>by
 cases l with
 |nil=>cases h
 |cons t l=>
  obtain⟨v1,v2⟩:=vd_tail hv
  simp only[nameR,kindR]at h
  split at h
  ·rename_i hk
   cases h
   exact⟨v2,by rw[List.map_cons,(valid_1 v1 hk).1];rfl⟩
  ·cases h
theorem name_ne {l r:List Tkn} {s:Bs} (hv:Vd l) (h:nameR l= .ok s r):nameS s=true∧s≠[]:=by
 cases l with
 |nil=>cases h
 |cons t l=>
  obtain⟨v1,v2⟩:=vd_tail hv
  simp only[nameR,kindR]at h
  split at h
  ·rename_i hk
   cases h
   have:=(valid_1 v1 hk).2
   refine⟨this,fun e=>?_⟩
   rw[e]at this;cases this
  ·cases h
theorem in_num:In nmbR fun v=>[kN v]:=fun l a r hv h=>by
 cases l with
 |nil=>cases h
 |cons t l=>
  obtain⟨v1,v2⟩:=vd_tail hv
  simp only[nmbR]at h
  split at h
  ·rename_i hk
   cases h
   exact⟨v2,by rw[List.map_cons,valid_2 v1 hk.1];rfl⟩
  ·cases h
theorem in_hd {w:Bs} {l:List Tkn} (hw:nameS w=true) (hv:Vd l) (h:hdW w l=true):Vd l.tail∧l.map bar=kI w::l.tail.map bar:=by
 obtain⟨a,b⟩:=in_word w hw l () l.tail hv (by unfold need;rw[if_pos h])
 exact⟨a,b⟩
theorem in_while {α:Type} {t:List Tkn→Bool} {one:List Tkn→Rs α} {tk:α→List Tkn} (h:In one tk):In (whileR t one) fun l=>l.flatMap tk:=fun l=>by
 have key:∀(f:Nat) (l:List Tkn) a r,Vd l→whileF t one f l= .ok a r→Vd r∧l.map bar=a.flatMap tk++r.map bar:=by
  intro f
  induction f with
  |zero=>intro l a r _ e;cases e
  |succ f ih=>
   intro l a r hv e
   rw[whileF]at e
   split at e
   ·obtain⟨x,q,h1,h2⟩:=bd_inv e
    obtain⟨y,q2,h3,h4⟩:=bd_inv h2
    cases h4
    obtain⟨v1,e1⟩:=h _ _ _ hv h1
    obtain⟨v2,e2⟩:=ih _ _ _ v1 h3
    exact⟨v2,by rw[e1,e2,List.flatMap_cons,List.append_assoc]⟩
   ·cases e;exact⟨hv,rfl⟩
 exact key _ l
theorem in_com {α:Type} {one:List Tkn→Rs α} {tk:α→List Tkn} (h:In one tk):In (comR one) fun a=>kS [44]::tk a:=fun l a r hv e=>by
 obtain⟨_,q,h1,h2⟩:=bd_inv e
 obtain⟨v1,e1⟩:=in_sign [44] (by decide) _ _ _ hv h1
 obtain⟨v2,e2⟩:=h _ _ _ v1 h2
 exact⟨v2,by rw[e1,e2];rfl⟩
theorem in_list {α:Type} {one:List Tkn→Rs α} {tk:α→List Tkn} (h:In one tk):In (listR one) (comT tk):=fun l a r hv e=>by
 obtain⟨x,q,h1,h2⟩:=bd_inv e
 obtain⟨y,q2,h3,h4⟩:=bd_inv h2
 cases h4
 obtain⟨v1,e1⟩:=h _ _ _ hv h1
 obtain⟨v2,e2⟩:=in_while (in_com h) _ _ _ v1 h3
 exact⟨v2,by rw[e1,e2,comT,List.append_assoc]⟩
theorem list_ne {α:Type} {one:List Tkn→Rs α} {l r:List Tkn} {a:List α} (e:listR one l= .ok a r):a≠[]:=by
 obtain⟨x,q,h1,h2⟩:=bd_inv e
 obtain⟨y,q2,h3,h4⟩:=bd_inv h2
 cases h4
 simp
theorem in_set:In setR setT:=fun l a r hv e=>by
 obtain⟨_,r1,h1,e⟩:=bd_inv e
 obtain⟨x,r2,h2,e⟩:=bd_inv e
 obtain⟨_,r3,h3,e⟩:=bd_inv e
 cases e
 obtain⟨v1,e1⟩:=in_sign [123] (by decide) _ _ _ hv h1
 obtain⟨v2,e2⟩:=in_list in_name _ _ _ v1 h2
 obtain⟨v3,e3⟩:=in_sign [125] (by decide) _ _ _ v2 h3
 exact⟨v3,by rw[e1,e2,e3];simp [setT,comT,oneI]⟩
theorem in_sym:In symR symT:=fun l a r hv e=>by
 obtain⟨s,r1,h1,e⟩:=bd_inv e
 obtain⟨_,r2,h2,e⟩:=bd_inv e
 obtain⟨v,r3,h3,e⟩:=bd_inv e
 cases e
 obtain⟨v1,e1⟩:=in_name _ _ _ hv h1
 obtain⟨v2,e2⟩:=in_sign [61] (by decide) _ _ _ v1 h2
 obtain⟨v3,e3⟩:=in_num _ _ _ v2 h3
 exact⟨v3,by rw[e1,e2,e3];rfl⟩
theorem in_op:In opR fun o=>[kI (opP o)]:=fun l a r hv e=>by
 unfold opR at e
 split at e
 ·rename_i q;cases e;exact in_hd (by decide) hv q
 split at e
 ·rename_i q;cases e;exact in_hd (by decide) hv q
 ·obtain⟨_,r1,h1,e⟩:=bd_inv e
  cases e
  exact in_word _ (by decide) _ _ _ hv h1
theorem op_rng {l r:List Tkn} {o:Int} (e:opR l= .ok o r):1≤o∧o≤3:=by
 unfold opR at e
 split at e
 ·cases e;omega
 split at e
 ·cases e;omega
 ·obtain⟨_,r1,h1,e⟩:=bd_inv e
  cases e;omega
theorem in_lim:In limR fun p=>limT p.1 p.2:=fun l a r hv e=>by
 unfold limR at e
 split at e
 ·obtain⟨n,r1,h1,e⟩:=bd_inv e
  cases e
  exact in_num _ _ _ hv h1
 ·obtain⟨n,r1,h1,e⟩:=bd_inv e
  cases e
  obtain⟨v1,e1⟩:=in_name _ _ _ hv h1
  refine⟨v1,?_⟩
  rw[e1]
  simp only[limT]
  rw[if_neg (name_ne hv h1).2]
theorem in_bnd:In bndR fun b=>bndT opP b.1 b.2.1 b.2.2:=fun l a r hv e=>by
 obtain⟨o,r1,h1,e⟩:=bd_inv e
 obtain⟨p,r2,h2,e⟩:=bd_inv e
 cases e
 obtain⟨v1,e1⟩:=in_op _ _ _ hv h1
 obtain⟨v2,e2⟩:=in_lim _ _ _ v1 h2
 exact⟨v2,by rw[e1,e2];rfl⟩
theorem bnd_rng {l r:List Tkn} {b:Int×Int×Bs} (e:bndR l= .ok b r):1≤b.1∧b.1≤3:=by
 obtain⟨o,r1,h1,e⟩:=bd_inv e
 obtain⟨p,r2,h2,e⟩:=bd_inv e
 cases e
 exact op_rng h1
def BodyIn (p:List Tkn→Rs DRul) (pre:List Tkn) (P:DRul→Prop):Prop:=∀l a r,Vd l→p l= .ok a r→Vd r∧pre++l.map bar=bodyT opP false a++r.map bar∧rgl a∧P a
def Fz (x a:DRul):Prop:=a.nm=x.nm∧a.fam=x.fam∧a.set=x.set∧a.oth=x.oth∧a.clue=x.clue
theorem in_each (x:DRul):BodyIn (eachR x) [kI wEach,kI x.on] (Fz x):=fun l a r hv e=>by
 have fz:∀k ns op n b,Fz x {x with kind:=k,ns:=ns,op:=op,n:=n,byN:=b}:=fun _ _ _ _ _=>⟨rfl,rfl,rfl,rfl,rfl⟩
 unfold eachR at e
 split at e
 ·rename_i q
  cases e
  obtain⟨v1,e1⟩:=in_hd (by decide) hv q
  exact⟨v1,by rw[e1];rfl,⟨by simp,by simp,by simp⟩,fz _ _ _ _ _⟩
 split at e
 ·rename_i q
  obtain⟨ss,r1,h1,e⟩:=bd_inv e
  obtain⟨b,r2,h2,e⟩:=bd_inv e
  cases e
  obtain⟨v0,e0⟩:=in_hd (by decide) hv q
  obtain⟨v1,e1⟩:=in_set _ _ _ v0 h1
  obtain⟨v2,e2⟩:=in_bnd _ _ _ v1 h2
  exact⟨v2,by rw[e0,e1,e2];simp [bodyT],⟨by simp,by simp,fun _=>bnd_rng h2⟩,fz _ _ _ _ _⟩
 split at e
 ·rename_i q
  obtain⟨b,r2,h2,e⟩:=bd_inv e
  cases e
  obtain⟨v0,e0⟩:=in_hd (by decide) hv q
  obtain⟨v2,e2⟩:=in_bnd _ _ _ v0 h2
  exact⟨v2,by rw[e0,e2];simp [bodyT],⟨by simp,by simp,fun _=>bnd_rng h2⟩,fz _ _ _ _ _⟩
 split at e
 ·rename_i q
  cases e
  obtain⟨v1,e1⟩:=in_hd (by decide) hv q
  exact⟨v1,by rw[e1];rfl,⟨by simp,by simp,by simp⟩,fz _ _ _ _ _⟩
 ·obtain⟨_,r0,h0,e⟩:=bd_inv e
  obtain⟨ss,r1,h1,e⟩:=bd_inv e
  obtain⟨_,r2,h2,e⟩:=bd_inv e
  obtain⟨s,r3,h3,e⟩:=bd_inv e
  cases e
  obtain⟨v0,e0⟩:=in_word _ (by decide) _ _ _ hv h0
  obtain⟨v1,e1⟩:=in_set _ _ _ v0 h1
  obtain⟨v2,e2⟩:=in_word _ (by decide) _ _ _ v1 h2
  obtain⟨v3,e3⟩:=in_name _ _ _ v2 h3
  exact⟨v3,by rw[e0,e1,e2,e3];simp [bodyT],⟨by simp,by simp,by simp⟩,fz _ _ _ _ _⟩
theorem in_body (x:DRul):BodyIn (bodyR x) [] (Fz x):=fun l a r hv e=>by
 have fz:∀on k ns os op n b,Fz x {x with on:=on,kind:=k,ns:=ns,os:=os,op:=op,n:=n,byN:=b}:=fun _ _ _ _ _ _ _=>⟨rfl,rfl,rfl,rfl,rfl⟩
 unfold bodyR at e
 split at e
 ·rename_i q
  obtain⟨s,r1,h1,e⟩:=bd_inv e
  obtain⟨v0,e0⟩:=in_hd (by decide) hv q
  obtain⟨v1,e1⟩:=in_name _ _ _ v0 h1
  obtain⟨v2,e2,h3,h4⟩:=in_each _ _ _ _ v1 e
  exact⟨v2,by rw[e0,e1,←e2];rfl,h3,h4⟩
 split at e
 ·rename_i q
  cases e
  obtain⟨v1,e1⟩:=in_hd (by decide) hv q
  exact⟨v1,by rw[e1];rfl,⟨by simp,by simp,by simp⟩,fz _ _ _ _ _ _ _⟩
 split at e
 ·rename_i q
  obtain⟨n,r1,h1,e⟩:=bd_inv e
  cases e
  obtain⟨v0,e0⟩:=in_hd (by decide) hv q
  obtain⟨v1,e1⟩:=in_num _ _ _ v0 h1
  exact⟨v1,by rw[e0,e1];rfl,⟨by simp,by simp,by simp⟩,fz _ _ _ _ _ _ _⟩
 split at e
 ·rename_i q
  obtain⟨ss,r1,h1,e⟩:=bd_inv e
  obtain⟨_,r2,h2,e⟩:=bd_inv e
  obtain⟨os,r3,h3,e⟩:=bd_inv e
  cases e
  obtain⟨v0,e0⟩:=in_hd (by decide) hv q
  obtain⟨v1,e1⟩:=in_set _ _ _ v0 h1
  obtain⟨v2,e2⟩:=in_word _ (by decide) _ _ _ v1 h2
  obtain⟨v3,e3⟩:=in_set _ _ _ v2 h3
  exact⟨v3,by rw[e0,e1,e2,e3];simp [bodyT],⟨by simp,by simp,by simp⟩,fz _ _ _ _ _ _ _⟩
 split at e
 ·rename_i q
  obtain⟨ss,r1,h1,e⟩:=bd_inv e
  cases e
  obtain⟨v0,e0⟩:=in_hd (by decide) hv q
  obtain⟨v1,e1⟩:=in_set _ _ _ v0 h1
  exact⟨v1,by rw[e0,e1];simp [bodyT],⟨by simp,by simp,by simp⟩,fz _ _ _ _ _ _ _⟩
 split at e
 ·rename_i q
  obtain⟨ss,r1,h1,e⟩:=bd_inv e
  cases e
  obtain⟨v0,e0⟩:=in_hd (by decide) hv q
  obtain⟨v1,e1⟩:=in_set _ _ _ v0 h1
  exact⟨v1,by rw[e0,e1];simp [bodyT],⟨by simp,by simp,by simp⟩,fz _ _ _ _ _ _ _⟩
 split at e
 ·rename_i q
  obtain⟨ss,r1,h1,e⟩:=bd_inv e
  cases e
  obtain⟨v0,e0⟩:=in_hd (by decide) hv q
  obtain⟨v1,e1⟩:=in_name _ _ _ v0 h1
  exact⟨v1,by rw[e0,e1];simp [bodyT],⟨by simp,by simp,by simp⟩,fz _ _ _ _ _ _ _⟩
 split at e
 ·rename_i q
  obtain⟨ss,r1,h1,e⟩:=bd_inv e
  cases e
  obtain⟨v0,e0⟩:=in_hd (by decide) hv q
  obtain⟨v1,e1⟩:=in_name _ _ _ v0 h1
  exact⟨v1,by rw[e0,e1];simp [bodyT],⟨by simp,by simp,by simp⟩,fz _ _ _ _ _ _ _⟩
 split at e
 ·rename_i q
  obtain⟨b,r1,h1,e⟩:=bd_inv e
  cases e
  obtain⟨v0,e0⟩:=in_hd (by decide) hv q
  obtain⟨v1,e1⟩:=in_bnd _ _ _ v0 h1
  exact⟨v1,by rw[e0,e1];simp [bodyT],⟨by simp,by simp,fun _=>bnd_rng h1⟩,fz _ _ _ _ _ _ _⟩
 ·cases e
def rdR (x:DRul):Prop:=rgl x∧x.fam=0∧x.set=0∧x.oth=0∧x.clue=0
theorem in_rule {l r:List Tkn} {x:DRul} (hv:Vd l) (e:ruleR l= .ok x r):Vd r∧kI wRule::l.map bar=ruleT opP false x++r.map bar∧rdR x:=by
 obtain⟨s,r1,h1,e⟩:=bd_inv e
 obtain⟨_,r2,h2,e⟩:=bd_inv e
 obtain⟨y,r3,h3,e⟩:=bd_inv e
 obtain⟨_,r4,h4,e⟩:=bd_inv e
 cases e
 obtain⟨v1,e1⟩:=in_name _ _ _ hv h1
 obtain⟨v2,e2⟩:=in_sign [58] (by decide) _ _ _ v1 h2
 obtain⟨v3,e3,k1,k2,k3,k4,k5,k6⟩:=in_body _ _ _ _ v2 h3
 obtain⟨v4,e4⟩:=in_sign [59] (by decide) _ _ _ v3 h4
 rw[List.nil_append]at e3
 refine⟨v4,?_,k1,k3,k4,k5,k6⟩
 rw[e1,e2,e3,e4]
 have:x.nm=s:=k2
 simp [ruleT,this]
theorem in_clu {l r:List Tkn} {x:DClu} (hv:Vd l) (e:cluR l= .ok x r):Vd r∧kI wClue::l.map bar=cluT x++r.map bar∧x.fam=0:=by
 obtain⟨s,r1,h1,e⟩:=bd_inv e
 obtain⟨_,r2,h2,e⟩:=bd_inv e
 obtain⟨o,r3,h3,e⟩:=bd_inv e
 obtain⟨y,r4,h4,e⟩:=bd_inv e
 obtain⟨_,r5,h5,e⟩:=bd_inv e
 cases e
 obtain⟨v1,e1⟩:=in_name _ _ _ hv h1
 obtain⟨v2,e2⟩:=in_word _ (by decide) _ _ _ v1 h2
 obtain⟨v3,e3⟩:=in_name _ _ _ v2 h3
 have key:Vd r4∧r3.map bar=cluB x++r4.map bar∧x.fam=0∧x.nm=s∧x.on=o:=by
  split at h4
  ·rename_i q
   cases h4
   obtain⟨p1,p2⟩:=in_hd (by decide) v3 q
   exact⟨p1,p2,rfl,rfl,rfl⟩
  split at h4
  ·rename_i q
   obtain⟨a,q1,g1,h4⟩:=bd_inv h4
   obtain⟨_,q2,g2,h4⟩:=bd_inv h4
   obtain⟨b,q3,g3,h4⟩:=bd_inv h4
   cases h4
   obtain⟨p1,p2⟩:=in_hd (by decide) v3 q
   obtain⟨p3,p4⟩:=in_num _ _ _ p1 g1
   obtain⟨p5,p6⟩:=in_word _ (by decide) _ _ _ p3 g2
   obtain⟨p7,p8⟩:=in_num _ _ _ p5 g3
   exact⟨p7,by rw[p2,p4,p6,p8];rfl,rfl,rfl,rfl⟩
  ·obtain⟨_,q1,g1,h4⟩:=bd_inv h4
   cases h4
   obtain⟨p1,p2⟩:=in_word _ (by decide) _ _ _ v3 g1
   exact⟨p1,by rw[p2];rfl,rfl,rfl,rfl⟩
 obtain⟨v4,e4,k1,k2,k3⟩:=key
 obtain⟨v5,e5⟩:=in_sign [59] (by decide) _ _ _ v4 h5
 refine⟨v5,?_,k1⟩
 rw[e1,e2,e3,e4,e5]
 simp [cluT,k2,k3]
theorem in_rlist:In rlistR rlistT:=fun l a r hv e=>by
 obtain⟨x,r2,h2,e⟩:=bd_inv e
 obtain⟨_,r3,h3,e⟩:=bd_inv e
 cases e
 obtain⟨v2,e2⟩:=in_list in_num _ _ _ hv h2
 obtain⟨v3,e3⟩:=in_sign [59] (by decide) _ _ _ v2 h3
 exact⟨v3,by rw[e2,e3];simp [rlistT,comT,oneN]⟩
theorem in_reg {l r:List Tkn} {x:DReg} (hv:Vd l) (e:regR l= .ok x r):Vd r∧kI wRegs::l.map bar=regT x++r.map bar:=by
 obtain⟨s,r1,h1,e⟩:=bd_inv e
 obtain⟨_,r2,h2,e⟩:=bd_inv e
 obtain⟨ls,r3,h3,e⟩:=bd_inv e
 obtain⟨_,r4,h4,e⟩:=bd_inv e
 cases e
 obtain⟨v1,e1⟩:=in_name _ _ _ hv h1
 obtain⟨v2,e2⟩:=in_sign [123] (by decide) _ _ _ v1 h2
 obtain⟨v3,e3⟩:=in_while in_rlist _ _ _ v2 h3
 obtain⟨v4,e4⟩:=in_sign [125] (by decide) _ _ _ v3 h4
 exact⟨v4,by rw[e1,e2,e3,e4];simp [regT]⟩
theorem in_many {α:Type} {w:Bs} {one:List Tkn→Rs α} {tk:α→List Tkn} {P:α→Prop} (hw:nameS w=true) (h:∀l a r,Vd l→one l= .ok a r→Vd r∧kI w::l.map bar=tk a++r.map bar∧P a) {l r:List Tkn} {a:List α} (hv:Vd l) (e:manyR w one l= .ok a r):
  Vd r∧l.map bar=a.flatMap tk++r.map bar∧∀x∈a,P x:=by
 have key:∀(f:Nat) (l:List Tkn) a r,Vd l→whileF (hdW w) (behind w one) f l= .ok a r→Vd r∧l.map bar=a.flatMap tk++r.map bar∧∀x∈a,P x:=by
  intro f
  induction f with
  |zero=>intro l a r _ e;cases e
  |succ f ih=>
   intro l a r hv e
   rw[whileF]at e
   split at e
   ·obtain⟨x,q,h1,h2⟩:=bd_inv e
    obtain⟨y,q2,h3,h4⟩:=bd_inv h2
    cases h4
    obtain⟨_,q3,h5,h6⟩:=bd_inv h1
    obtain⟨v0,e0⟩:=in_word w hw _ _ _ hv h5
    obtain⟨v1,e1,k1⟩:=h _ _ _ v0 h6
    obtain⟨v2,e2,k2⟩:=ih _ _ _ v1 h3
    refine⟨v2,?_,fun z hz=>?_⟩
    ·rw[e0,List.cons_append,List.nil_append,e1,e2,List.flatMap_cons,List.append_assoc]
    ·rcases List.mem_cons.1 hz with rfl|hz
     ·exact k1
     ·exact k2 z hz
   ·cases e;exact⟨hv,rfl,fun x hx=>by cases hx⟩
 exact key _ l _ _ hv e
theorem in_shape:In shapeR fun s=>[shapeT s]:=fun l a r hv e=>by
 unfold shapeR at e
 split at e
 ·rename_i q;cases e;exact in_hd (by decide) hv q
 ·obtain⟨_,r1,h1,e⟩:=bd_inv e
  cases e
  exact in_word _ (by decide) _ _ _ hv h1
theorem in_holes:In holesR holesT:=fun l a r hv e=>by
 unfold holesR at e
 split at e
 ·rename_i q
  obtain⟨v0,e0⟩:=in_hd (by decide) hv q
  obtain⟨v1,e1⟩:=in_list in_num _ _ _ v0 e
  refine⟨v1,?_⟩
  rw[e0,e1]
  unfold holesT
  rw[if_neg (list_ne e)];rfl
 ·cases e;exact⟨hv,rfl⟩
theorem in_head {l r:List Tkn} {d:Dcl} (hv:Vd l) (e:headR l= .ok d r):Vd r∧l.map bar=headT d++r.map bar:=by
 obtain⟨_,r1,h1,e⟩:=bd_inv e
 obtain⟨nm,r2,h2,e⟩:=bd_inv e
 obtain⟨_,r3,h3,e⟩:=bd_inv e
 obtain⟨v,r4,h4,e⟩:=bd_inv e
 obtain⟨_,r5,h5,e⟩:=bd_inv e
 obtain⟨_,r6,h6,e⟩:=bd_inv e
 obtain⟨sh,r7,h7,e⟩:=bd_inv e
 obtain⟨w,r8,h8,e⟩:=bd_inv e
 obtain⟨_,r9,h9,e⟩:=bd_inv e
 obtain⟨hh,r10,h10,e⟩:=bd_inv e
 obtain⟨ho,r11,h11,e⟩:=bd_inv e
 obtain⟨_,r12,h12,e⟩:=bd_inv e
 cases e
 obtain⟨v1,e1⟩:=in_word _ (by decide) _ _ _ hv h1
 obtain⟨v2,e2⟩:=in_name _ _ _ v1 h2
 obtain⟨v3,e3⟩:=in_word _ (by decide) _ _ _ v2 h3
 obtain⟨v4,e4⟩:=in_num _ _ _ v3 h4
 obtain⟨v5,e5⟩:=in_sign _ (by decide) _ _ _ v4 h5
 obtain⟨v6,e6⟩:=in_word _ (by decide) _ _ _ v5 h6
 obtain⟨v7,e7⟩:=in_shape _ _ _ v6 h7
 obtain⟨v8,e8⟩:=in_num _ _ _ v7 h8
 obtain⟨v9,e9⟩:=in_word _ (by decide) _ _ _ v8 h9
 obtain⟨v10,e10⟩:=in_num _ _ _ v9 h10
 obtain⟨v11,e11⟩:=in_holes _ _ _ v10 h11
 obtain⟨v12,e12⟩:=in_sign _ (by decide) _ _ _ v11 h12
 exact⟨v12,by rw[e1,e2,e3,e4,e5,e6,e7,e8,e9,e10,e11,e12];simp [headT]⟩
theorem in_decl {l r:List Tkn} {d:Dcl} (hv:Vd l) (e:declR l= .ok d r):l.map bar=declT opP false d∧(∀x∈d.ruls,rdR x)∧∀x∈d.clus,x.fam=0:=by
 obtain⟨x,r1,h1,e⟩:=bd_inv e
 obtain⟨_,r2,h2,e⟩:=bd_inv e
 have hr:r2=[]∧x=d:=by
  cases r2 with
  |nil=>cases e;exact⟨rfl,rfl⟩
  |cons t q=>cases e
 obtain⟨rfl,rfl⟩:=hr
 obtain⟨d0,r3,h3,h4⟩:=bd_inv h1
 obtain⟨v3,e3⟩:=in_head hv h3
 obtain⟨_,q1,g1,h4⟩:=bd_inv h4
 obtain⟨ss,q2,g2,h4⟩:=bd_inv h4
 obtain⟨_,q3,g3,h4⟩:=bd_inv h4
 obtain⟨rs,q4,g4,h4⟩:=bd_inv h4
 obtain⟨cs,q5,g5,h4⟩:=bd_inv h4
 obtain⟨us,q6,g6,h4⟩:=bd_inv h4
 cases h4
 obtain⟨w1,f1⟩:=in_word _ (by decide) _ _ _ v3 g1
 obtain⟨w2,f2⟩:=in_list in_sym _ _ _ w1 g2
 obtain⟨w3,f3⟩:=in_sign _ (by decide) _ _ _ w2 g3
 obtain⟨w4,f4,-⟩:=in_many (P:=fun _=>True) (by decide) (fun l a r hv h=>⟨(in_reg hv h).1,(in_reg hv h).2,trivial⟩) w3 g4
 obtain⟨w5,f5,k5⟩:=in_many (by decide) (fun l a r hv h=>in_clu hv h) w4 g5
 obtain⟨w6,f6,k6⟩:=in_many (by decide) (fun l a r hv h=>in_rule hv h) w5 g6
 obtain⟨w7,f7⟩:=in_sign _ (by decide) _ _ _ w6 h2
 refine⟨?_,k6,k5⟩
 rw[e3,f1,f2,f3,f4,f5,f6,f7]
 simp [declT,headT]
end Go.AM
end
section
set_option maxRecDepth 20000
set_option linter.all false
namespace Go.AM
open Go.Proofs Go.Lib
structure PD where
 d:Dcl
 a:Int
 e:Int
def readS (e:Int) (ts:List Tkn):PD:=match declR ts with
 | .ok d _=>⟨d,0,0⟩
 | .bad r=>⟨dcl0,plc e r,150⟩
def parseS (src:Bs):PD:=if 65536<src.length then⟨dcl0,0,2⟩else match lx src 0 with
 | .err a=>⟨dcl0,a,100⟩
 | .ok _ ts=>readS src.length ts
abbrev textS (w:List Tkn):Bs:=join (w.map wordS) [32]
def printW (w:List Tkn) (d:Dcl):Bs×Int:=if w.all validS=true then(match declR w with
 | .ok x _=>if x=bareD d then(textS w,0)else([],150)
 | .bad _=>([],150))else([],150)
def printS (d:Dcl):Bs×Int:=printW (declT opP false d) d
def printF (d:Dcl):Bs×Int:=printW (declT opF true d) d
theorem all_vd {l:List Tkn}:l.all validS=true↔Vd l:=List.all_eq_true
end Go.AM
end
section
set_option maxRecDepth 20000
set_option linter.all false
namespace Go.AM
open Go.Proofs Go.Lib
structure FewS (d:Dcl):Prop where
 ho:d.holes.length≤20
 sy:d.syms.length≤20
 rg:d.regs.length≤6
 cl:d.clus.length≤8
 ru:d.ruls.length≤20
 rgs:∀r∈d.regs,r.ls.length≤20∧∀x∈r.ls,x.length≤20
 rus:∀r∈d.ruls,r.ns.length≤20∧r.os.length≤20
end Go.AM
end
section
set_option maxRecDepth 20000
set_option linter.all false
namespace Go.AM
open Go.Proofs Go.Lib
def LV (e:Nat) (v:AVal) (H:AHeap) (l:List AVal):Prop:=
 (l=[]∧∃t,v= .sl t []∧(t= .nil∨t= .exact e))∨(l≠[]∧∃id cap rest,v= .ref id e 0 l.length cap∧hget H id=some (.arr e (l++rest))∧l.length+rest.length=cap)
def ClPost (e:Nat) (H:AHeap) (n:Nat) (l:List AVal):AOut→AHeap→Nat→Prop:=fun o H' n'=>
 (l=[]∧H'=H∧n≤n'∧∃t,o= .ret (.sl t [])∧(t= .nil∨t= .exact e))∨(l≠[]∧n'=n+4∧∃cap rest,o= .ret (.ref (n+2) e 0 l.length cap)∧H'=hset H (n+2) (.arr e (l++rest))∧l.length+rest.length=cap)
theorem ACalls.out {P:Program} {f:FuncId} {args:List AVal} {H:AHeap} {n:Nat} {R R':AOut→AHeap→Nat→Prop} (h:ACalls P f args H n R)
  (hr:∀o H' n',R o H' n'→∃o2,R' o2 H' n'∧∀g w e,Rel g H' n' w→ERel g o e→ERel g o2 e):ACalls P f args H n R':=
 ⟨h.1,fun g w vs r v=>(h.2 g w vs r v).mono fun e w' ⟨g',out,H',n',q,he,hR,hn,ht⟩=>
  let ⟨o2,q2,hw⟩:=hr _ _ _ q;⟨g',o2,H',n',q2,hw _ _ _ hR he,hR,hn,ht⟩⟩
theorem ACalls.seal {P:Program} {f:FuncId} {args:List AVal} {H:AHeap} {n:Nat} {R R':AOut→AHeap→Nat→Prop} (h:ACalls P f args H n R)
  (hr:∀o H' n',R o H' n'→R' o H' n'∨∃id e l,hget H' id=some (.arr e l)∧R' o (hset H' id (.frz e l)) n'):ACalls P f args H n R':=by
 refine⟨h.1,fun g w vs r v=>(h.2 g w vs r v).mono ?_⟩
 rintro e w' ⟨g',out,H',n',q,he,hR,hn,ht⟩
 rcases hr _ _ _ q with q|⟨id,es,l,h0,q⟩
 ·exact⟨g',out,H',n',q,he,hR,hn,ht⟩
 ·obtain⟨σ',r1,t1⟩:=hR.freeze (m:=n) h0
  refine⟨_,out,_,n',q,?_,r1,hn,ht.trans t1⟩
  cases out<;>cases e<;>first|exact he.elim|skip
  ·exact VRel.mono t1.le _ _ he
  ·obtain⟨v,hv,hr⟩:=he
   exact⟨v,hv,VRel.mono t1.le _ _ hr⟩
def LF (e:Nat) (v:AVal) (H:AHeap) (l:List AVal):Prop:=
 (l=[]∧∃t,v= .sl t []∧(t= .nil∨t= .exact e))∨(l≠[]∧∃id cap rest,v= .ref id e 0 l.length cap∧hget H id=some (.frz e (l++rest))∧l.length+rest.length=cap)
theorem lf_rel {e:Nat} {v:AVal} {H:AHeap} {l:List AVal} (h:LF e v H l) {g:Ghost} {n:Nat} {w:World} {x:Value} (hR:Rel g H n w) (hv:VRel g v x):VRel g (.sl (.none e) l) x:=by
 rcases h with⟨rfl,t,rfl,ht⟩|⟨hne,id,cap,rest,rfl,ho,hc⟩
 ·exact Wk.sl (.inr rfl) _ _ hv
 ·obtain⟨L,h1,h2,rfl⟩:=hv
  obtain⟨L',j1,j2,j3⟩:=hR.obj id _ ho
  rw[h1]at j1;cases j1
  refine .inr ⟨trivial,L.blk,0,cap,⟨none,by simp,.inl rfl⟩,by omega,?_,trivial⟩
  have:=Stab.take l.length _ _ j3
  rw[List.take_left]at this
  exact this
def LvG {α:Type} (enc:α→AVal) (e lo:Nat) (H:AHeap) (lv:AVal) (qs:List α):Prop:=(lv= .sl .nil []∧qs=[])∨qs≠[]∧∃id rest,lv= .ref id e 0 qs.length (qs.length+rest.length)∧lo≤id∧hget H id=some (.arr e ((qs++rest).map enc))
section
variable {α:Type} {enc:α→AVal} {e lo:Nat}
theorem app_lvG {H:AHeap} {m b:Nat} {lv z v:AVal} {z0:α} {qs:List α} {q:α} {K:AHeap→AVal→Prop} (h:LvG enc e lo H lv qs) (hv:v=enc q) (he:0<e) (hz:z.cells.length=e) (hz0:z=enc z0) (hb:small (qs.length+1) b) (hm:hget H m=none) (hm2:lo≤m) (hk:qs.length+1≤35184372088832)
  (hK:∀id (rest:List α),lo≤id→(id=m∨∃L,hget H id=some (.arr e L))→K (hset H id (.arr e (((qs++[q])++rest).map enc))) (.ref id e 0 (qs++[q]).length ((qs++[q]).length+rest.length))):appRK H m e b z K lv (some [v]):=by
 subst hv
 subst hz0
 have el:(qs++[q]).length=qs.length+1:=by simp
 rcases h with⟨rfl,rfl⟩|⟨-,id,rest,rfl,h2,h3⟩
 ·rw[appRK_sl]
  refine⟨hm,he,hz,.inl rfl,hb,by simp,(fun e=>by cases e),fun _ cap hcap=>?_⟩
  have:=hK m (List.replicate (cap-1) z0) hm2 (.inl rfl)
  simp only[List.nil_append,List.map_cons,List.length_cons,List.length_nil,List.length_replicate,List.cons_append,List.map_replicate]at this hcap⊢
  rw[show 0+1+(cap-1)=cap by omega]at this
  exact this
 ·rw[appRK_ref h3]
  refine⟨hm,he,hz,rfl,rfl,hb,hk,rfl,by simp,by omega,fun hr=>?_,fun hr cap' hc=>?_⟩
  ·have:=hK id (rest.drop 1) h2 (.inr ⟨_,h3⟩)
   simp only[List.length_cons,List.length_nil]at hr⊢
   have e1:List.take qs.length ((qs++rest).map enc)=qs.map enc:=by rw[List.map_append,List.take_append_of_le_length (by simp),List.take_of_length_le (by simp)]
   have e2:List.drop (qs.length+(0+1)) ((qs++rest).map enc)=(rest.drop 1).map enc:=by rw[List.map_append,List.drop_append,List.drop_eq_nil_of_le (by simp)];simp
   rw[e1,e2]
   rw[el,List.map_append,List.map_append,List.length_drop,show qs.length+1+(rest.length-1)=qs.length+rest.length by omega]at this
   exact this
  ·have:=hK m (List.replicate (cap'-(qs.length+1)) z0) hm2 (.inl rfl)
   simp only[List.length_cons,List.length_nil]at hr hc⊢
   have e1:List.take qs.length ((qs++rest).map enc)=qs.map enc:=by rw[List.map_append,List.take_append_of_le_length (by simp),List.take_of_length_le (by simp)]
   rw[e1]
   rw[el,List.map_append,List.map_append,List.map_replicate,List.length_replicate,show qs.length+1+(cap'-(qs.length+1))=cap' by omega]at this
   exact this
end
structure VF where
 i:Nat
 H:AHeap
 n:Nat
theorem rx_st0 {P:Program} {T:Tab} {b:Nat} {cx:Nat→AVal} {rx:List (Nat×AOp)} {kp:List Nat} {k:List Item} {Q:AExit→AS→Prop} {s:AS} {d:Option Nat} {sz:Nat} {a x:Opd}:runXK P T b cx ((0,⟨d,none,.st sz a x⟩)::rx) kp k Q s=((lk s.env a).1=true∧(lk s.env x).1=true∧nT (lkv s.env x)∧(lkv s.env x).cells.length=sz∧(stE s.H sz (lkv s.env x) (lkv s.env a)).1∧runXK P T b cx rx kp k Q ({s with H:=(stE s.H sz (lkv s.env x) (lkv s.env a)).2}.put d true (.tup []))):=by
 rw[rx_sto,step_st,stE_eq]
 simp only[gvb,forall_const,sideO,true_and];rfl
end Go.AM
end
section
set_option maxRecDepth 20000
set_option linter.all false
namespace Go.AM
open Go.Proofs Go.Lib
theorem t_clnCl {H:AHeap} {n:Nat} (l:List DClu) (hl:few l):ACalls Tryz.prog 78 [eCls l] H n (ClPost 6 H n (l.map encCl)):=by
 refine ACalls.fresh l78 fun hf=>a78 (ev_awp TabOK.tnil (ev_evK ?_))
 have hll:l.length<1000000000:=hl
 cases l with
 |nil=>
  simp only[eE,eC,eN,reduceCtorEq,↓reduceIte,c78]
  refine⟨?_,?_⟩
  ·simp only[eE,eC,eN,reduceCtorEq,Nat.reduceEqDiff,↓reduceIte,Nat.reduceAdd,Nat.reduceLT,appRK_sl,afterR,fr1 hf,small,Nat.zero_mul,Nat.zero_le]
   exact .inl ⟨rfl,rfl,Nat.le_add_right _ _,.exact 6,rfl,.inr rfl⟩
  ·simp only[eE,eC,eN,reduceCtorEq,↓reduceIte,Bool.not_false]
   exact .inl ⟨rfl,rfl,Nat.le_refl _,.nil,rfl,.inl rfl⟩
 |cons x r=>
  rw[List.length_cons]at hll
  simp only[eE,eC,eN,reduceCtorEq,Nat.reduceEqDiff,↓reduceIte,Nat.reduceAdd,Nat.reduceLeDiff,Nat.reduceMul,Nat.reduceLT,List.length_map,c78,eCls,appRK_sl,afterR,fr1 hf]
  refine⟨small_of (by omega) (by decide),by omega,fun cap hcap=>.inr ⟨by simp,rfl,cap,List.replicate (cap-(r.length+1)) (.agg [.str [],.str [],.int .i64 0,.int .i64 0,.int .i64 0,.int .i64 0]),?_,?_,?_⟩⟩
  ·simp
  ·simp
  ·simp;omega
theorem t_clnRu {H:AHeap} {n:Nat} (l:List DRul) (hl:few l):ACalls Tryz.prog 79 [eRus l] H n (ClPost 12 H n (l.map encRu)):=by
 refine ACalls.fresh l79 fun hf=>a79 (ev_awp TabOK.tnil (ev_evK ?_))
 have hll:l.length<1000000000:=hl
 cases l with
 |nil=>
  simp only[eE,eC,eN,reduceCtorEq,↓reduceIte,c79]
  refine⟨?_,?_⟩
  ·simp only[eE,eC,eN,reduceCtorEq,Nat.reduceEqDiff,↓reduceIte,Nat.reduceAdd,Nat.reduceLT,appRK_sl,afterR,fr1 hf,small,Nat.zero_mul,Nat.zero_le]
   exact .inl ⟨rfl,rfl,Nat.le_add_right _ _,.exact 12,rfl,.inr rfl⟩
  ·simp only[eE,eC,eN,reduceCtorEq,↓reduceIte,Bool.not_false]
   exact .inl ⟨rfl,rfl,Nat.le_refl _,.nil,rfl,.inl rfl⟩
 |cons x r=>
  rw[List.length_cons]at hll
  simp only[eE,eC,eN,reduceCtorEq,Nat.reduceEqDiff,↓reduceIte,Nat.reduceAdd,Nat.reduceLeDiff,Nat.reduceMul,Nat.reduceLT,List.length_map,c79,eRus,appRK_sl,afterR,fr1 hf]
  refine⟨small_of (by omega) (by decide),by omega,fun cap hcap=>.inr ⟨by simp,rfl,cap,List.replicate (cap-(r.length+1)) (.agg [.str [],.str [],.int .i64 0,.int .i64 0,.sl .nil [],.sl .nil [],.int .i64 0,.int .i64 0,.int .i64 0,.int .i64 0,.str [],.int .i64 0]),?_,?_,?_⟩⟩
  ·simp
  ·simp
  ·simp;omega
end Go.AM
end
