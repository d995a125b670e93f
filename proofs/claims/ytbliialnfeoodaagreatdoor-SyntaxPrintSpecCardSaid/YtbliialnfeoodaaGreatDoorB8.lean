/-
  Declarations, plainly: what is declared, names resolved, grids, rules, what Check returns · Declarations, plainly: sorted lists, rules as the reference looks at them · Declarations, plainly: accepted declarations, with other names, a rule more, a rule less · Declarations, plainly: a rule more, a rule less, clues · Declarations, plainly: a name that no rule has; sums · Declarations, plainly: the rules about the way in which a grid is filled; what the laws say of Check · Declarations, plainly: small declarations · Declarations, plainly: a grid as the reference makes it · Declarations, plainly: where a number stands in a rising list · Declarations, plainly: names and their numbers, as a table that grows · Declarations as the machine's values, and back · Declarations, plainly: how they are read from tokens · Declarations, plainly: reading looks at no places, and at nothing behind what it lea.
  Conditions: none beyond those of its parts.
-/
import Derived.Test.YtbliialnfeoodaaGreatDoorB4
import Derived.Test.YtbliialnfeoodaaGreatDoorB6
import Derived.Test.YtbliialnfeoodaaGreatDoorB7
import Derived.Test.YtbliialnfeoodaaGreatDoorB5

section
set_option maxRecDepth 20000
set_option linter.all false
namespace Go.AM
open Go.Proofs Go.Lib
structure DSym where
 nm:List UInt8
 v:Int
 deriving DecidableEq
structure DReg where
 nm:List UInt8
 ls:List (List Int)
 deriving DecidableEq
structure DClu where
 nm:List UInt8
 on:List UInt8
 fam:Int
 ty:Int
 lo:Int
 hi:Int
 deriving DecidableEq
structure DRul where
 nm:List UInt8
 on:List UInt8
 kind:Int
 fam:Int
 ns:List (List UInt8)
 os:List (List UInt8)
 set:Int
 oth:Int
 op:Int
 n:Int
 byN:List UInt8
 clue:Int
 deriving DecidableEq
structure Dcl where
 nm:List UInt8
 ver:Int
 sh:Int
 w:Int
 h:Int
 holes:List Int
 syms:List DSym
 regs:List DReg
 clus:List DClu
 ruls:List DRul
 deriving DecidableEq
def givenF:List (List UInt8):=[[99,101,108,108,115],[114,111,119,115],[99,111,108,117,109,110,115],[100,105,97,103,111,110,97,108,115],[97,114,111,117,110,100],[110,101,97,114],[112,97,105,114,115],[97,108,108]]
def Hy {α:Type} [DecidableEq α]:List α→Bool
 |[]=>false
 |x::r=>(r.any fun y=>decide (y=x))||Hy r
def S6 (d:Dcl):List (List UInt8):=givenF++d.regs.map (·.nm)
def S7 (l:List (List UInt8)) (s:List UInt8):Option Int:=(l.findIdx? fun x=>decide (x=s)).map fun(i:Nat)=>(i:Int)
def S8 (l:List (List UInt8)):List (List UInt8)→Option Int
 |[]=>some 0
 |s::r=>match l.findIdx? (fun x=>decide (x=s)),S8 l r with
  |some i,some n=>some (Int.ofNat (Nat.lor (1<<<i) n.toNat))
  |_,_=>none
def resClu (d:Dcl) (c:DClu):Option DClu:=(S7 (S6 d) c.on).map fun f=>{c with fam:=f}
def resRul (d:Dcl) (r:DRul):Option DRul:=
 match (if r.on=[]then some 0 else S7 (S6 d) r.on),S8 (d.syms.map (·.nm)) r.ns,S8 (d.syms.map (·.nm)) r.os,(if r.byN=[]then some (-1)else S7 (d.clus.map (·.nm)) r.byN)with
 |some f,some a,some b,some c=>some {r with fam:=f,set:=a,oth:=b,clue:=c}
 |_,_,_,_=>none
def Oc:Int→List Int→Bool
 |_,[]=>true
 |a,x::r=>decide (a<x)&&Oc x r
def cellsG (sh w h:Int) (holes:List Int):Option (List Int):=
 if(sh=1∨sh=2)∧1≤w∧w≤16∧1≤h∧h≤16∧(holes.length:Int)<w*h∧Oc (-1) holes=true∧(holes.all fun p=>decide (p<w*h))=true then
  some (((List.range (w*h).toNat).map fun(i:Nat)=>(i:Int)).filter fun p=>!holes.contains p)
 else none
def listOK (cells l:List Int):Bool:=(l.all fun p=>cells.contains p)&& !Hy l&&decide (1≤l.length)
def alikeL (a b:List Int):Bool:=(a.all fun x=>b.contains x)&&b.all fun x=>a.contains x
def Jp:List (List Int)→Bool
 |[]=>false
 |x::r=>(r.any fun y=>alikeL y x)||Jp r
def regE (cells:List Int) (r:DReg):Int:=if(decide (r.ls.length≤64)&&r.ls.all (listOK cells))=false then 130 else if Jp r.ls=true then 161 else 0
def regsE (cells:List Int):List DReg→Int
 |[]=>0
 |r::s=>if regE cells r=0 then regsE cells s else regE cells r
def cluOK (c:DClu):Bool:=
 if c.ty=1 then decide (c.fam=0)&&decide (c.lo=0)&&decide (c.hi=0)
 else if c.ty=2 then decide (0≤c.lo)&&decide (c.lo≤c.hi)&&decide (c.hi≤65536)
 else if c.ty=3 then(decide (1≤c.fam)&&decide (c.fam≤3)||decide (8≤c.fam))&&decide (c.lo=0)&&decide (c.hi=0)
 else false
structure FormD where
 on:Bool:=false
 set:Bool:=false
 oth:Bool:=false
 bnd:Bool:=false
 num:Bool:=false
 rdb:Bool:=false
 knw:Bool:=false
 clue:Int:=0
def formK (k:Int):FormD:=
 if k=1 then{on:=true,rdb:=true,knw:=true}else if k=2 then{on:=true,set:=true,bnd:=true,rdb:=true,knw:=true}
 else if k=3 then{on:=true,bnd:=true,rdb:=true,knw:=true}else if k=4 then{on:=true,rdb:=true,knw:=true}
 else if k=5 then{on:=true,set:=true,rdb:=true,knw:=true,clue:=3}else if k=6 then{rdb:=true,knw:=true}
 else if k=7 then{num:=true,rdb:=true,knw:=true}else if k=8 then{set:=true,oth:=true,rdb:=true,knw:=true}
 else if k=9 then{set:=true,rdb:=true,knw:=true}else if k=10 then{set:=true,rdb:=true,knw:=true}
 else if k=11 then{rdb:=true,knw:=true,clue:=1}else if k=12 then{on:=true,knw:=true}else if k=13 then{bnd:=true,knw:=true}else{}
def cluP (cl:List DClu) (r:DRul) (w:Int):Bool:=if r.clue<0∨(cl.length:Int)≤r.clue then false else match cl[r.clue.toNat]? with
 |some c=>decide (c.ty=w)&&(decide (w=1)||decide (c.fam=r.fam))
 |none=>false
def rulOK (cl:List DClu) (r:DRul):Bool:=
 let f:=formK r.kind
 if f.knw=false then false
 else if(f.on !=decide (r.on≠[]))||(f.set !=decide (r.set≠0))||(f.oth !=decide (r.oth≠0))||(!f.on&&decide (r.fam≠0))||(!f.set&&decide (0<r.ns.length))||(!f.oth&&decide (0<r.os.length))then false
 else if(f.bnd !=(decide (1≤r.op)&&decide (r.op≤3)))||(!f.bnd&&decide (r.op≠0))||decide (r.n<0)||decide (65536<r.n)then false
 else if !(f.num||f.bnd&&decide (r.byN=[]))&&decide (r.n≠0)then false
 else
  let want:=if f.bnd&&decide (r.byN≠[])then 2 else f.clue
  if want=0 then decide (r.byN=[])&&decide (r.clue= -1)else cluP cl r want
def manyC (rs:List DRul) (i:Nat):Nat:=(rs.filter fun r=>decide (r.clue=(i:Int))).length
def formOK (d:Dcl):Bool:=(d.syms.all fun s=>decide (0≤s.v)&&decide (s.v≤99))&&d.ruls.all (rulOK d.clus)&&((List.range d.clus.length).all fun i=>decide (manyC d.ruls i=1))&&d.clus.all cluOK
def limD (d:Dcl):Bool:=decide (0<d.syms.length)&&decide (d.syms.length≤16)&&decide (d.regs.length≤4)&&decide (d.clus.length≤4)&&decide (d.ruls.length≤16)
end Go.AM
end
section
set_option maxRecDepth 20000
set_option linter.all false
namespace Go.AM
open Go.Proofs Go.Lib
end Go.AM
end
section
set_option maxRecDepth 20000
set_option linter.all false
namespace Go.AM
open Go.Proofs Go.Lib
structure ResOK (d:Dcl):Prop where
 n16:d.syms.length≤16
 ts:Hy (d.syms.map (·.nm))=false
 tf:Hy (S6 d)=false
 tc:Hy (d.clus.map (·.nm))=false
 tr:Hy (d.ruls.map (·.nm))=false
 cl:∀c∈d.clus,resClu d c=some c
 ru:∀r∈d.ruls,resRul d r=some r
structure DclOK (d:Dcl):Prop where
 lim:limD d=true
 res:ResOK d
 ver:1≤d.ver∧d.ver≤255
 reg:∃cells,cellsG d.sh d.w d.h d.holes=some cells∧regsE cells d.regs=0
 form:formOK d=true
end Go.AM
end
section
set_option maxRecDepth 20000
set_option linter.all false
namespace Go.AM
open Go.Proofs Go.Lib
end Go.AM
end
section
set_option maxRecDepth 20000
set_option linter.all false
namespace Go.AM
open Go.Proofs Go.Lib
end Go.AM
end
section
set_option maxRecDepth 20000
set_option linter.all false
namespace Go.AM
open Go.Proofs Go.Lib
end Go.AM
end
section
set_option maxRecDepth 20000
set_option linter.all false
namespace Go.AM
open Go.Proofs Go.Lib
structure SmallD (d:Dcl):Prop where
 top:d.nm.length+d.holes.length+d.syms.length+d.regs.length+d.clus.length+d.ruls.length<2000
 sy:∀s∈d.syms,s.nm.length<2000
 rg:∀r∈d.regs,r.nm.length+r.ls.length<2000∧∀l∈r.ls,l.length<2000
 cl:∀c∈d.clus,c.nm.length+c.on.length<2000
 ru:∀r∈d.ruls,r.nm.length+r.on.length+r.byN.length+r.ns.length+r.os.length<2000∧(∀s∈r.ns,s.length<2000)∧∀s∈r.os,s.length<2000
end Go.AM
end
section
set_option maxRecDepth 20000
set_option linter.all false
namespace Go.AM
open Go.Proofs Go.Lib
end Go.AM
end
section
set_option maxRecDepth 20000
set_option linter.all false
namespace Go.AM
open Go.Proofs Go.Lib
end Go.AM
end
section
set_option maxRecDepth 20000
set_option linter.all false
namespace Go.AM
open Go.Proofs Go.Lib
def bits (is:List Nat):Nat:=is.foldr (fun i n=>Nat.lor (1<<<i) n) 0
end Go.AM
end
section
set_option maxRecDepth 20000
set_option linter.all false
namespace Go.AM
open Go.Proofs Go.Lib
abbrev eLl (l:List (List Int)):AVal:=.sl (.none 1) (l.map eIs)
abbrev Fb (s:DSym):AVal:=.agg [.str s.nm,.int .i64 s.v]
abbrev DF (r:DReg):AVal:=.agg [.str r.nm,eLl r.ls]
abbrev BI (c:DClu):AVal:=.agg [.str c.nm,.str c.on,.int .i64 c.fam,.int .i64 c.ty,.int .i64 c.lo,.int .i64 c.hi]
abbrev BB (r:DRul):List AVal:=[.str r.nm,.str r.on,.int .i64 r.kind,.int .i64 r.fam,eSs r.ns,eSs r.os,.int .i64 r.set,.int .i64 r.oth,.int .i64 r.op,.int .i64 r.n,.str r.byN,.int .i64 r.clue]
abbrev Am (r:DRul):AVal:=.agg (BB r)
abbrev eSys (l:List DSym):AVal:=.sl (.none 2) (l.map Fb)
abbrev eRgs (l:List DReg):AVal:=.sl (.none 2) (l.map DF)
abbrev eCls (l:List DClu):AVal:=.sl (.none 6) (l.map BI)
abbrev eRus (l:List DRul):AVal:=.sl (.none 12) (l.map Am)
abbrev A0 (d:Dcl):List AVal:=[.str d.nm,.int .i64 d.ver,.int .i64 d.sh,.int .i64 d.w,.int .i64 d.h,eIs d.holes,eSys d.syms,eRgs d.regs,eCls d.clus,eRus d.ruls]
abbrev encD (d:Dcl):AVal:=.agg (A0 d)
theorem Bn (n:Nat) (l:List Int):(eIs l).under n:=⟨trivial,LT n _⟩
theorem Bo (n:Nat) (l:List Bs):(eSs l).under n:=⟨trivial,Hr n _⟩
theorem Ci (n:Nat) (l:List (List Int)):(eLl l).under n:=⟨trivial,A2 (Bn n) _⟩
theorem Cj (n:Nat) (s:DSym):(Fb s).under n:=⟨trivial,trivial,trivial⟩
theorem Ck (n:Nat) (r:DReg):(DF r).under n:=⟨trivial,Ci n _,trivial⟩
theorem Dd (n:Nat) (c:DClu):(BI c).under n:=⟨trivial,trivial,trivial,trivial,trivial,trivial,trivial⟩
theorem Ah (n:Nat) (r:DRul):(Am r).under n:=⟨trivial,trivial,trivial,trivial,Bo n _,Bo n _,trivial,trivial,trivial,trivial,trivial,trivial,trivial⟩
theorem Fc (n:Nat) (l:List DSym):(eSys l).under n:=⟨trivial,A2 (Cj n) _⟩
theorem DG (n:Nat) (l:List DReg):(eRgs l).under n:=⟨trivial,A2 (Ck n) _⟩
theorem Fd (n:Nat) (l:List DClu):(eCls l).under n:=⟨trivial,A2 (Dd n) _⟩
theorem DH (n:Nat) (l:List DRul):(eRus l).under n:=⟨trivial,A2 (Ah n) _⟩
theorem Ai (n:Nat) (d:Dcl):(encD d).under n:=⟨trivial,trivial,trivial,trivial,trivial,Bn n _,Fc n _,DG n _,Fd n _,DH n _,trivial⟩
def Od:AVal→List Int
 | .sl _ L=>L.map toI
 |_=>[]
def S9:AVal→List Bs
 | .sl _ L=>L.map toS
 |_=>[]
def decLl:AVal→List (List Int)
 | .sl _ L=>L.map Od
 |_=>[]
def TA:AVal→DSym
 | .agg [.str nm,.int _ v]=>⟨nm,v⟩
 |_=>⟨[],0⟩
def Oe:AVal→DReg
 | .agg [.str nm,l]=>⟨nm,decLl l⟩
 |_=>⟨[],[]⟩
def QH:AVal→DClu
 | .agg [.str nm,.str on,.int _ f,.int _ t,.int _ lo,.int _ hi]=>⟨nm,on,f,t,lo,hi⟩
 |_=>⟨[],[],0,0,0,0⟩
def Of:AVal→DRul
 | .agg [.str nm,.str on,.int _ k,.int _ f,ns,os,.int _ s,.int _ o,.int _ op,.int _ n,.str b,.int _ c]=>⟨nm,on,k,f,S9 ns,S9 os,s,o,op,n,b,c⟩
 |_=>⟨[],[],0,0,[],[],0,0,0,0,[],0⟩
def Og {α:Type} (f:AVal→α):AVal→List α
 | .sl _ L=>L.map f
 |_=>[]
def decD:AVal→Dcl
 | .agg [.str nm,.int _ v,.int _ sh,.int _ w,.int _ h,ho,sy,rg,cl,ru]=>⟨nm,v,sh,w,h,Od ho,Og TA sy,Og Oe rg,Og QH cl,Og Of ru⟩
 |_=>⟨[],0,0,0,0,[],[],[],[],[]⟩
theorem Gt (l:List Int):Od (eIs l)=l:=LU l
theorem Oh (l:List (List Int)):decLl (eLl l)=l:=Eo Gt l
theorem Gu (s:DSym):TA (Fb s)=s:=rfl
theorem D7 (r:DReg):Oe (DF r)=r:=by simp only[Oe,Oh]
theorem FJ (c:DClu):QH (BI c)=c:=rfl
theorem D8 (r:DRul):Of (Am r)=r:=by simp only[Of,S9,Io]
theorem Lh (d:Dcl):decD (encD d)=d:=by
 simp only[decD,Od,Og,LU,Eo Gu,Eo D7,Eo FJ,Eo D8]
def dWk {α:Type} (enc:α→AVal) (dec:AVal→α):Dc α:=⟨enc,dec,fun v=>Wk v (enc (dec v)),fun _ h=>h⟩
theorem Lk {α:Type} {enc:α→AVal} {dec:AVal→α} (h:∀x,dec (enc x)=x) (x:α):(dWk enc dec).ok (enc x)=True:=eq_true (by show Wk _ _;rw[h];exact Wk.refl _)
def dRg:Dc DReg:=dWk DF Oe
def dCl:Dc DClu:=dWk BI QH
def dRu:Dc DRul:=dWk Am Of
def dD:Dc Dcl:=dWk encD decD
theorem RM (x:DReg):dRg.ok (DF x)=True:=Lk D7 x
theorem Oi (x:DReg):dRg.dec (DF x)=x:=D7 x
theorem dCl_ok (x:DClu):dCl.ok (BI x)=True:=Lk FJ x
theorem TB (x:DClu):dCl.dec (BI x)=x:=rfl
theorem Jq (x:DRul):dRu.ok (Am x)=True:=Lk D8 x
theorem Gv (x:DRul):dRu.dec (Am x)=x:=D8 x
theorem HH (x:Dcl):dD.ok (encD x)=True:=Lk Lh x
theorem Ec (x:Dcl):dD.dec (encD x)=x:=Lh x
def dLi {α:Type} (e:Nat) (enc:α→AVal) (dec:AVal→α):Dc (List α):=⟨fun l=>.sl (.none e) (l.map enc),decL dec,okL e enc dec,OF⟩
theorem Hz {α:Type} {e:Nat} {enc:α→AVal} {dec:AVal→α} (h:∀x,dec (enc x)=x) {t:Tok} {l:List α} (ht:t.esz=e∨l=[]):(dLi e enc dec).ok (.sl t (l.map enc))=True:=eq_true (by
 refine⟨ht.imp id fun q=>by rw[q];rfl,?_⟩
 rw[Eo h])
theorem Fe {α:Type} {e:Nat} {enc:α→AVal} {dec:AVal→α} (h:∀x,dec (enc x)=x) {t:Tok} {l:List α}:(dLi e enc dec).dec (.sl t (l.map enc))=l:=Eo h l
def dLl:Dc (List (List Int)):=dLi 1 eIs Od
def dSys:Dc (List DSym):=dLi 2 Fb TA
def dRgs:Dc (List DReg):=dLi 2 DF Oe
def dCls:Dc (List DClu):=dLi 6 BI QH
def dRus:Dc (List DRul):=dLi 12 Am Of
theorem B1 (l:List Int):dIs.ok (eIs l)=True:=eq_true ⟨.inl rfl,by rw[LU]⟩
theorem BS (l:List Int):dIs.dec (eIs l)=l:=LU l
theorem Gw (l:List Bs):dSs.ok (eSs l)=True:=eq_true ⟨.inl rfl,by rw[Io]⟩
theorem Er (l:List Bs):dSs.dec (eSs l)=l:=Io l
theorem By (x:Int):dI.ok (.int .i64 x)=True:=eq_true trivial
theorem A9 (x:Int):dI.dec (.int .i64 x)=x:=rfl
theorem AV (x:Bs):dS.ok (.str x)=True:=eq_true trivial
theorem AH (x:Bs):dS.dec (.str x)=x:=rfl
abbrev dcl0:Dcl:=⟨[],0,0,0,0,[],[],[],[],[]⟩
end Go.AM
end
section
set_option maxRecDepth 20000
set_option linter.all false
namespace Go.AM
open Go.Proofs Go.Lib
def CI {α:Type} (t:List Tkn→Bool) (one:List Tkn→Rs α):Nat→List Tkn→Rs (List α)
 |0,l=>.bad l
 |f+1,l=>if t l=true then(one l).bd fun a r=>(CI t one f r).bd fun xs q=>.ok (a::xs) q else .ok [] l
def BA {α:Type} (t:List Tkn→Bool) (one:List Tkn→Rs α) (l:List Tkn):Rs (List α):=CI t one (l.length+1) l
def comR {α:Type} (one:List Tkn→Rs α) (l:List Tkn):Rs α:=(need [44] l).bd fun _ r=>one r
def CJ {α:Type} (one:List Tkn→Rs α) (l:List Tkn):Rs (List α):=(one l).bd fun a r=>(BA (hdW [44]) (comR one) r).bd fun xs q=>.ok (a::xs) q
def BH:List Tkn→Bool
 |t::_=>decide (t.K=2)&&decide (t.N≤65536)
 |[]=>false
def nmbR:List Tkn→Rs Int
 |t::r=>if t.K=2∧t.N≤65536 then .ok t.N r else .bad (t::r)
 |[]=>.bad []
abbrev Bp:Bs:=[101,97,99,104]
abbrev Bq:Bs:=[117,110,108,105,107,101]
abbrev Cw:Bs:=[97,112,97,114,116]
abbrev wNot:Bs:=[110,111,116]
abbrev FK:Bs:=[99,111,110,110,101,99,116,101,100]
abbrev FL:Bs:=[108,111,111,112]
abbrev Cx:Bs:=[103,105,118,101,110]
abbrev FM:Bs:=[102,105,108,108,101,100]
abbrev Cl:Bs:=[115,116,101,112,115]
abbrev wIs:Bs:=[105,115]
abbrev Es:Bs:=[109,111,115,116]
abbrev Ed:Bs:=[108,101,97,115,116]
abbrev D9:Bs:=[100,105,102,102,101,114,101,110,116]
abbrev CP:Bs:=[99,111,117,110,116]
abbrev wSum:Bs:=[115,117,109]
abbrev FN:Bs:=[114,105,115,101]
abbrev Cm:Bs:=[114,117,110,115]
abbrev wBy:Bs:=[98,121]
abbrev Cn:Bs:=[98,101,115,105,100,101]
abbrev wOn:Bs:=[111,110]
abbrev wSym:Bs:=[115,121,109,98,111,108]
abbrev BC:Bs:=[110,117,109,98,101,114]
abbrev wTo:Bs:=[116,111]
abbrev EA:Bs:=[107,105,110,100]
abbrev EW:Bs:=[118,101,114,115,105,111,110]
abbrev Et:Bs:=[103,114,105,100]
abbrev wHex:Bs:=[104,101,120]
abbrev EB:Bs:=[115,113,117,97,114,101]
abbrev Eu:Bs:=[119,105,116,104,111,117,116]
abbrev EC:Bs:=[115,121,109,98,111,108,115]
abbrev Bl:Bs:=[114,101,103,105,111,110,115]
abbrev CK:Bs:=[99,108,117,101]
abbrev CN:Bs:=[114,117,108,101]
def setR (l:List Tkn):Rs (List Bs):=(need [123] l).bd fun _ r=>(CJ Bc r).bd fun ss r=>(need [125] r).bd fun _ r=>.ok ss r
def symR (l:List Tkn):Rs DSym:=(Bc l).bd fun s r=>(need [61] r).bd fun _ r=>(nmbR r).bd fun v r=>.ok ⟨s,v⟩ r
def opR (l:List Tkn):Rs Int:=if hdW wIs l=true then .ok 1 l.tail else if hdW Es l=true then .ok 2 l.tail else(need Ed l).bd fun _ r=>.ok 3 r
def limR (l:List Tkn):Rs (Int×Bs):=if BH l=true then(nmbR l).bd fun n r=>.ok (n,[]) r else(Bc l).bd fun s r=>.ok (0,s) r
def bndR (l:List Tkn):Rs (Int×Int×Bs):=(opR l).bd fun o r=>(limR r).bd fun p r=>.ok (o,p) r
abbrev rul0:DRul:=⟨[],[],0,0,[],[],0,0,0,0,[],0⟩
def ED (x:DRul) (l:List Tkn):Rs DRul:=
 if hdW D9 l=true then .ok {x with kind:=1} l.tail
 else if hdW CP l=true then(setR l.tail).bd fun ss r=>(bndR r).bd fun b r=>.ok {x with kind:=2,ns:=ss,op:=b.1,n:=b.2.1,byN:=b.2.2} r
 else if hdW wSum l=true then(bndR l.tail).bd fun b r=>.ok {x with kind:=3,op:=b.1,n:=b.2.1,byN:=b.2.2} r
 else if hdW FN l=true then .ok {x with kind:=4} l.tail
 else(need Cm l).bd fun _ r=>(setR r).bd fun ss r=>(need wBy r).bd fun _ r=>(Bc r).bd fun s r=>.ok {x with kind:=5,ns:=ss,byN:=s} r
def Do (x:DRul) (l:List Tkn):Rs DRul:=
 if hdW Bp l=true then(Bc l.tail).bd fun s r=>ED {x with on:=s} r
 else if hdW Bq l=true then .ok {x with kind:=6} l.tail
 else if hdW Cw l=true then(nmbR l.tail).bd fun n r=>.ok {x with kind:=7,n:=n} r
 else if hdW wNot l=true then(setR l.tail).bd fun ss r=>(need Cn r).bd fun _ r=>(setR r).bd fun os r=>.ok {x with kind:=8,ns:=ss,os:=os} r
 else if hdW FK l=true then(setR l.tail).bd fun ss r=>.ok {x with kind:=9,ns:=ss} r
 else if hdW FL l=true then(setR l.tail).bd fun ss r=>.ok {x with kind:=10,ns:=ss} r
 else if hdW Cx l=true then(Bc l.tail).bd fun s r=>.ok {x with kind:=11,byN:=s} r
 else if hdW FM l=true then(Bc l.tail).bd fun s r=>.ok {x with kind:=12,on:=s} r
 else if hdW Cl l=true then(bndR l.tail).bd fun b r=>.ok {x with kind:=13,op:=b.1,n:=b.2.1,byN:=b.2.2} r
 else .bad l
def Gx (l:List Tkn):Rs DRul:=(Bc l).bd fun s r=>(need [58] r).bd fun _ r=>(Do {rul0 with nm:=s} r).bd fun x r=>(need [59] r).bd fun _ r=>.ok x r
def cluR (l:List Tkn):Rs DClu:=(Bc l).bd fun s r=>(need wOn r).bd fun _ r=>(Bc r).bd fun o r=>
 (if hdW wSym r=true then Rs.ok ⟨s,o,0,1,0,0⟩ r.tail else if hdW BC r=true then(nmbR r.tail).bd fun a r=>(need wTo r).bd fun _ r=>(nmbR r).bd fun b r=>.ok ⟨s,o,0,2,a,b⟩ r
  else(need Cm r).bd fun _ r=>.ok ⟨s,o,0,3,0,0⟩ r).bd fun x r=>(need [59] r).bd fun _ r=>.ok x r
def Di (l:List Tkn):Rs (List Int):=(CJ nmbR l).bd fun ns r=>(need [59] r).bd fun _ r=>.ok ns r
def regR (l:List Tkn):Rs DReg:=(Bc l).bd fun s r=>(need [123] r).bd fun _ r=>(BA BH Di r).bd fun ls r=>(need [125] r).bd fun _ r=>.ok ⟨s,ls⟩ r
def Gy {α:Type} (w:Bs) (one:List Tkn→Rs α) (l:List Tkn):Rs α:=(need w l).bd fun _ r=>one r
def C4 {α:Type} (w:Bs) (one:List Tkn→Rs α) (l:List Tkn):Rs (List α):=BA (hdW w) (Gy w one) l
def EE (l:List Tkn):Rs Int:=if hdW wHex l=true then .ok 2 l.tail else(need EB l).bd fun _ r=>.ok 1 r
def EF (l:List Tkn):Rs (List Int):=if hdW Eu l=true then CJ nmbR l.tail else .ok [] l
def Oj (l:List Tkn):Rs Dcl:=
 (need EA l).bd fun _ r=>(Bc r).bd fun nm r=>(need EW r).bd fun _ r=>(nmbR r).bd fun v r=>(need [123] r).bd fun _ r=>(need Et r).bd fun _ r=>(EE r).bd fun sh r=>
 (nmbR r).bd fun w r=>(need wBy r).bd fun _ r=>(nmbR r).bd fun h r=>(EF r).bd fun ho r=>(need [59] r).bd fun _ r=>.ok ⟨nm,v,sh,w,h,ho,[],[],[],[]⟩ r
def QI (d:Dcl) (l:List Tkn):Rs Dcl:=
 (need EC l).bd fun _ r=>(CJ symR r).bd fun ss r=>(need [59] r).bd fun _ r=>(C4 Bl regR r).bd fun rs r=>(C4 CK cluR r).bd fun cs r=>(C4 CN Gx r).bd fun us r=>
 .ok {d with syms:=ss,regs:=rs,clus:=cs,ruls:=us} r
def Mm (l:List Tkn):Rs Dcl:=(Oj l).bd fun d r=>QI d r
def endR (d:Dcl):List Tkn→Rs Dcl
 |[]=>.ok d []
 |l=>.bad l
def C5 (l:List Tkn):Rs Dcl:=(Mm l).bd fun d r=>(need [125] r).bd fun _ r=>endR d r
def plc (e:Int):List Tkn→Int
 |t::_=>t.A
 |[]=>e
def C6 (d:Dcl):Dcl:={d with clus:=d.clus.map fun c=>{c with fam:=0},ruls:=d.ruls.map fun r=>{r with fam:=0,set:=0,oth:=0,clue:=0}}
theorem Mn {α:Type} {t:List Tkn→Bool} {one:List Tkn→Rs α} (hp:∀l a r,t l=true→one l= .ok a r→r.length<l.length):∀(f g:Nat) (l:List Tkn),l.length<f→l.length<g→CI t one f l=CI t one g l:=by
 intro f
 induction f with
 |zero=>intro g l h;omega
 |succ f ih=>
  intro g l h1 h2
  obtain⟨g,rfl⟩:∃k,g=k+1:=⟨g-1,by omega⟩
  rw[CI,CI]
  by_cases ht:t l=true
  ·rw[if_pos ht,if_pos ht]
   cases ho:one l with
   |bad r=>rfl
   |ok a r=>
    have:=hp l a r ht ho
    show(CI t one f r).bd _=(CI t one g r).bd _
    rw[ih g r (by omega) (by omega)]
  ·rw[if_neg ht,if_neg ht]
theorem GD {α:Type} {t:List Tkn→Bool} {one:List Tkn→Rs α} (hp:∀l a r,t l=true→one l= .ok a r→r.length<l.length) (l:List Tkn):
  BA t one l=if t l=true then(one l).bd fun a r=>(BA t one r).bd fun xs q=>.ok (a::xs) q else .ok [] l:=by
 unfold BA
 rw[CI]
 by_cases ht:t l=true
 ·rw[if_pos ht,if_pos ht]
  cases ho:one l with
  |bad r=>rfl
  |ok a r=>
   have:=hp l a r ht ho
   show(CI t one l.length r).bd _=(CI t one (r.length+1) r).bd _
   rw[Mn hp l.length (r.length+1) r this (by omega)]
 ·rw[if_neg ht,if_neg ht]
def Le {α:Type} (p:List Tkn→Rs α):Prop:=∀l a r,p l= .ok a r→r.length≤l.length
def Lt {α:Type} (p:List Tkn→Rs α):Prop:=∀l a r,p l= .ok a r→r.length<l.length
theorem Lt.le {α:Type} {p:List Tkn→Rs α} (h:Lt p):Le p:=fun l a r e=>Nat.le_of_lt (h l a r e)
theorem Le.ok {α:Type} (a:α):Le (Rs.ok a):=fun l b r h=>by cases h;exact Nat.le_refl _
theorem Le.bd {α β:Type} {p:List Tkn→Rs α} {f:α→List Tkn→Rs β} (hp:Le p) (hf:∀a,Le (f a)):Le fun l=>(p l).bd f:=fun l b r h=>by
 obtain⟨a,q,h1,h2⟩:=AJ (show(p l).bd f=_ from h)
 have:=hp _ _ _ h1
 have:=hf _ _ _ _ h2
 omega
theorem Lt.bd {α β:Type} {p:List Tkn→Rs α} {f:α→List Tkn→Rs β} (hp:Lt p) (hf:∀a,Le (f a)):Lt fun l=>(p l).bd f:=fun l b r h=>by
 obtain⟨a,q,h1,h2⟩:=AJ (show(p l).bd f=_ from h)
 have:=hp _ _ _ h1
 have:=hf _ _ _ _ h2
 omega
theorem Lt.ite {α:Type} (t:List Tkn→Bool) {p q:List Tkn→Rs α} (hp:Lt p) (hq:Lt q):Lt fun l=>if t l=true then p l else q l:=fun l a r h=>by
 simp only[]at h
 split at h
 ·exact hp _ _ _ h
 ·exact hq _ _ _ h
theorem Lt.word {α:Type} (w:Bs) {p q:List Tkn→Rs α} (hp:Le p) (hq:Lt q):Lt fun l=>if hdW w l=true then p l.tail else q l:=fun l a r h=>by
 simp only[]at h
 split at h
 ·rename_i hw
  have:=hp _ _ _ h
  cases l with
  |nil=>cases hw
  |cons t l=>simp only[List.tail_cons]at this;simp only[List.length_cons];omega
 ·exact hq _ _ _ h
theorem Le.word {α:Type} (w:Bs) {p q:List Tkn→Rs α} (hp:Le p) (hq:Le q):Le fun l=>if hdW w l=true then p l.tail else q l:=fun l a r h=>by
 simp only[]at h
 split at h
 ·have:=hp _ _ _ h
  rw[List.length_tail]at this;omega
 ·exact hq _ _ _ h
theorem Lt.fail {α:Type}:Lt (Rs.bad:List Tkn→Rs α):=fun l a r h=>by cases h
theorem AR (w:Bs):Lt (need w):=fun l a r h=>S5 h
theorem As:Lt Bc:=fun l a r h=>by
 cases l with
 |nil=>cases h
 |cons t l=>
  simp only[Bc,Jo]at h
  split at h
  ·cases h;simp
  ·cases h
theorem Bd:Lt nmbR:=fun l a r h=>by
 cases l with
 |nil=>cases h
 |cons t l=>
  simp only[nmbR]at h
  split at h
  ·cases h;simp
  ·cases h
theorem Cy {α:Type} {t:List Tkn→Bool} {one:List Tkn→Rs α} (h:Le one):Le (BA t one):=fun l=>by
 have key:∀(f:Nat) (l:List Tkn) a r,CI t one f l= .ok a r→r.length≤l.length:=by
  intro f
  induction f with
  |zero=>intro l a r e;cases e
  |succ f ih=>
   intro l a r e
   rw[CI]at e
   split at e
   ·obtain⟨x,q,h1,h2⟩:=AJ e
    obtain⟨y,q2,h3,h4⟩:=AJ h2
    cases h4
    have:=h _ _ _ h1
    have:=ih _ _ _ h3
    omega
   ·cases e;exact Nat.le_refl _
 exact key _ l
theorem Jr {α:Type} {one:List Tkn→Rs α} (h:Le one):Lt (comR one):=(AR [44]).bd fun _=>h
theorem C7 {α:Type} {one:List Tkn→Rs α} (h:Lt one):Lt (CJ one):=Lt.bd h fun a=>Le.bd (Cy (Jr h.le).le) fun _=>Le.ok _
theorem Co:Lt setR:=(AR _).bd fun _=>(C7 As).le.bd fun _=>(AR _).le.bd fun _=>Le.ok _
theorem Js:Lt symR:=As.bd fun _=>(AR _).le.bd fun _=>Bd.le.bd fun _=>Le.ok _
theorem op_Lt:Lt opR:=Lt.word (p:=Rs.ok 1) _ (Le.ok _) (Lt.word (p:=Rs.ok 2) _ (Le.ok _) ((AR _).bd fun _=>Le.ok _))
theorem lim_Lt:Lt limR:=Lt.ite _ (Bd.bd fun _=>Le.ok _) (As.bd fun _=>Le.ok _)
theorem Ll:Lt bndR:=op_Lt.bd fun _=>lim_Lt.le.bd fun _=>Le.ok _
theorem TC (x:DRul):Lt (ED x):=Lt.word (p:=Rs.ok _) _ (Le.ok _) (Lt.word _ (Co.le.bd fun _=>Ll.le.bd fun _=>Le.ok _) (Lt.word _ (Ll.le.bd fun _=>Le.ok _) (Lt.word (p:=Rs.ok _) _ (Le.ok _)
 ((AR _).bd fun _=>Co.le.bd fun _=>(AR _).le.bd fun _=>As.le.bd fun _=>Le.ok _))))
theorem Kh (x:DRul):Lt (Do x):=Lt.word _ (As.le.bd fun _=>(TC _).le) (Lt.word (p:=Rs.ok _) _ (Le.ok _) (Lt.word _ (Bd.le.bd fun _=>Le.ok _) (Lt.word _ (Co.le.bd fun _=>(AR _).le.bd fun _=>Co.le.bd fun _=>Le.ok _)
 (Lt.word _ (Co.le.bd fun _=>Le.ok _) (Lt.word _ (Co.le.bd fun _=>Le.ok _) (Lt.word _ (As.le.bd fun _=>Le.ok _) (Lt.word _ (As.le.bd fun _=>Le.ok _) (Lt.word _ (Ll.le.bd fun _=>Le.ok _) Lt.fail))))))))
theorem EG:Lt Gx:=As.bd fun _=>(AR _).le.bd fun _=>(Kh _).le.bd fun _=>(AR _).le.bd fun _=>Le.ok _
theorem Gz:Lt cluR:=As.bd fun s=>(AR _).le.bd fun _=>As.le.bd fun o=>Le.bd (Lt.word (p:=Rs.ok _) _ (Le.ok _) (Lt.word _ (Bd.le.bd fun _=>(AR _).le.bd fun _=>Bd.le.bd fun _=>Le.ok _) ((AR _).bd fun _=>Le.ok _))).le fun _=>(AR _).le.bd fun _=>Le.ok _
theorem FO:Lt Di:=(C7 Bd).bd fun _=>(AR _).le.bd fun _=>Le.ok _
theorem G0:Lt regR:=As.bd fun _=>(AR _).le.bd fun _=>(Cy FO.le).bd fun _=>(AR _).le.bd fun _=>Le.ok _
theorem BU {α:Type} (w:Bs) {one:List Tkn→Rs α} (h:Le one):Lt (Gy w one):=(AR w).bd fun _=>h
theorem QJ:Lt EE:=Lt.word (p:=Rs.ok 2) _ (Le.ok _) ((AR _).bd fun _=>Le.ok _)
theorem QK:Le EF:=Le.word _ (C7 Bd).le (Le.ok _)
end Go.AM
end
section
set_option maxRecDepth 20000
set_option linter.all false
namespace Go.AM
open Go.Proofs Go.Lib
structure HdT (t:List Tkn→Bool):Prop where
 nil:t []=false
 hd:∀x q q',t (x::q)=t (x::q')
 bar:∀l,t (l.map bar)=t l
section
variable {α:Type} {t:List Tkn→Bool} {one:List Tkn→Rs α}
end
structure Gr {α:Type} (p:List Tkn→Rs α):Prop where
 nt:Nt p
 lc:Lc p
def TD (l:List Tkn):Rs Dcl:=(Mm l).bd fun d r=>(need [125] r).bd fun _ r=>.ok d r
theorem decl_x (l:List Tkn):C5 l=(TD l).bd endR:=by
 unfold C5 TD
 cases Mm l with
 |bad r=>rfl
 |ok d r=>
  show(need [125] r).bd (fun _ r=>endR d r)=((need [125] r).bd fun _ r=>Rs.ok d r).bd endR
  cases need [125] r<;>rfl
theorem TE {l r:List Tkn} {d:Dcl} (h:C5 l= .ok d r):TD l= .ok d []∧r=[]:=by
 rw[decl_x]at h
 obtain⟨x,q,h1,h2⟩:=AJ h
 cases q with
 |nil=>cases h2;exact⟨h1,rfl⟩
 |cons t q=>cases h2
end Go.AM
end
section
set_option maxRecDepth 20000
set_option linter.all false
namespace Go.AM
open Go.Proofs Go.Lib
def comT {α:Type} (one:α→List Tkn):List α→List Tkn
 |[]=>[]
 |a::r=>one a++r.flatMap fun b=>kS [44]::one b
abbrev oneI (s:Bs):List Tkn:=[kI s]
abbrev oneN (n:Int):List Tkn:=[kN n]
def setT (ss:List Bs):List Tkn:=kS [123]::(comT oneI ss++[kS [125]])
def symT (s:DSym):List Tkn:=[kI s.nm,kS [61],kN s.v]
def limT (n:Int) (b:Bs):List Tkn:=if b=[]then[kN n]else[kI b]
section
variable (ot:Int→Bs) (b0:Bool)
def bndT (o n:Int) (b:Bs):List Tkn:=kI (ot o)::limT n b
def Au (x:DRul):List Tkn:=
 if x.kind=1 then[kI Bp,kI x.on,kI D9]
 else if x.kind=2 then kI Bp::kI x.on::kI CP::(setT x.ns++bndT ot x.op x.n x.byN)
 else if x.kind=3 then kI Bp::kI x.on::kI wSum::bndT ot x.op x.n x.byN
 else if x.kind=4 then[kI Bp,kI x.on,kI FN]
 else if x.kind=5 then kI Bp::kI x.on::kI Cm::(setT x.ns++[kI wBy,kI x.byN])
 else if x.kind=6 then[kI Bq]
 else if x.kind=7 then[kI Cw,kN x.n]
 else if x.kind=8 then kI wNot::(setT x.ns++kI Cn::setT x.os)
 else if x.kind=9 then kI FK::setT x.ns
 else if x.kind=10 then kI FL::setT x.ns
 else if x.kind=11 then[kI Cx,kI x.byN]
 else if x.kind=12 then[kI FM,kI x.on]
 else if x.kind=13∨b0=true then kI Cl::bndT ot x.op x.n x.byN
 else[]
def A1 (x:DRul):List Tkn:=kI CN::kI x.nm::kS [58]::(Au ot b0 x++[kS [59]])
end
def cluB (x:DClu):List Tkn:=if x.ty=1 then[kI wSym]else if x.ty=2 then[kI BC,kN x.lo,kI wTo,kN x.hi]else[kI Cm]
def cluT (x:DClu):List Tkn:=kI CK::kI x.nm::kI wOn::kI x.on::(cluB x++[kS [59]])
def A7 (l:List Int):List Tkn:=comT oneN l++[kS [59]]
def regT (x:DReg):List Tkn:=kI Bl::kI x.nm::kS [123]::(x.ls.flatMap A7++[kS [125]])
def FP (s:Int):Tkn:=kI (if s=2 then wHex else EB)
def B4 (l:List Int):List Tkn:=if l=[]then[]else kI Eu::comT oneN l
def Jt (d:Dcl):List Tkn:=kI EA::kI d.nm::kI EW::kN d.ver::kS [123]::kI Et::FP d.sh::kN d.w::kI wBy::kN d.h::(B4 d.holes++[kS [59]])
def BP (ot:Int→Bs) (b0:Bool) (d:Dcl):List Tkn:=Jt d++kI EC::(comT symT d.syms++kS [59]::(d.regs.flatMap regT++(d.clus.flatMap cluT++(d.ruls.flatMap (A1 ot b0)++[kS [125]]))))
def opP (o:Int):Bs:=if o≤1 then wIs else if o≤2 then Es else Ed
def opF (o:Int):Bs:=if o=1 then wIs else if o=2 then Es else Ed
def rgl (x:DRul):Prop:=1≤x.kind∧x.kind≤13∧((x.kind=2∨x.kind=3∨x.kind=13)→1≤x.op∧x.op≤3)
theorem Ki {o:Int} (h:1≤o∧o≤3):opP o=opF o:=by
 have:o=1∨o=2∨o=3:=by omega
 rcases this with rfl|rfl|rfl<;>rfl
theorem Ok {x:DRul} (h:rgl x):Au opP false x=Au opF true x:=by
 obtain⟨h1,h2,h3⟩:=h
 unfold Au bndT
 by_cases k2:x.kind=2
 ·rw[Ki (h3 (.inl k2))];simp [k2]
 by_cases k3:x.kind=3
 ·rw[Ki (h3 (.inr (.inl k3)))];simp [k3]
 by_cases k13:x.kind=13
 ·rw[Ki (h3 (.inr (.inr k13)))];simp [k13]
 have:x.kind=1∨x.kind=4∨x.kind=5∨x.kind=6∨x.kind=7∨x.kind=8∨x.kind=9∨x.kind=10∨x.kind=11∨x.kind=12:=by omega
 rcases this with h|h|h|h|h|h|h|h|h|h<;>simp [h]
theorem Mo {l:List DRul} (h:∀x∈l,rgl x):l.flatMap (A1 opP false)=l.flatMap (A1 opF true):=by
 induction l with
 |nil=>rfl
 |cons x r ih=>
  rw[List.flatMap_cons,List.flatMap_cons,ih fun y hy=>h y (List.mem_cons_of_mem _ hy)]
  unfold A1
  rw[Ok (h x List.mem_cons_self)]
theorem Ol {d:Dcl} (h:∀x∈d.ruls,rgl x):BP opP false d=BP opF true d:=by
 unfold BP
 rw[Mo h]
def Vd (l:List Tkn):Prop:=∀t∈l,Ad t=true
def In {α:Type} (p:List Tkn→Rs α) (tk:α→List Tkn):Prop:=∀l a r,Vd l→p l= .ok a r→Vd r∧l.map bar=tk a++r.map bar
theorem G1 {t:Tkn} {l:List Tkn} (h:Vd (t::l)):Ad t=true∧Vd l:=⟨h t List.mem_cons_self,fun x hx=>h x (List.mem_cons_of_mem _ hx)⟩
theorem G2 {t:Tkn} (h:Ad t=true) (hk:t.K=1):bar t=kI t.T∧Bx t.T=true:=by
 unfold Ad at h
 rw[if_pos hk,Bool.and_eq_true,decide_eq_true_eq]at h
 refine⟨?_,h.1⟩
 show(⟨t.K,t.T,t.N,0⟩:Tkn)=_
 rw[hk,h.2]
theorem TF {t:Tkn} (h:Ad t=true) (hk:t.K=2):bar t=kN t.N:=by
 unfold Ad at h
 rw[if_neg (by omega),if_pos hk]at h
 simp only[Bool.and_eq_true,decide_eq_true_eq]at h
 have:t.T=[]:=List.length_eq_zero_iff.1 h.1.1
 show(⟨t.K,t.T,t.N,0⟩:Tkn)=_
 rw[hk,this]
theorem Kj {t:Tkn} (h:Ad t=true) (h1:t.K≠1) (h2:t.K≠2):bar t=kS t.T∧∃b,t.T=[b]∧sgnB b=true:=by
 unfold Ad at h
 rw[if_neg h1,if_neg h2]at h
 split at h
 ·rename_i hk
  simp only[Bool.and_eq_true,decide_eq_true_eq]at h
  obtain⟨⟨p1,p2⟩,p3⟩:=h
  obtain⟨b,hb⟩:=List.length_eq_one_iff.1 p1
  refine⟨?_,b,hb,?_⟩
  ·show(⟨t.K,t.T,t.N,0⟩:Tkn)=_
   rw[hk,p3]
  ·rw[hb]at p2;simpa using p2
 ·cases h
theorem Kk {b:UInt8} (h:sgnB b=true):letB b=false:=by
 have key:∀x:Fin 256,Ep (x.val:Int)=true→Ch (x.val:Int)=false:=by decide+kernel
 exact key ⟨b.toNat,b.toNat_lt⟩ h
theorem Br (w:Bs) (hw:Bx w=true):In (need w) fun _=>[kI w]:=fun l a r hv h=>by
 unfold need at h
 split at h
 ·rename_i q
  cases h
  cases l with
  |nil=>cases q
  |cons t l=>
   obtain⟨v1,v2⟩:=G1 hv
   simp only[hdW,Bool.and_eq_true,decide_eq_true_eq]at q
   refine⟨v2,?_⟩
   rw[List.map_cons]
   by_cases hk:t.K=1
   ·rw[(G2 v1 hk).1,q.2];rfl
   ·obtain⟨_,b,e,hb⟩:=Kj v1 hk q.1
    rw[←q.2,e]at hw
    simp only[Bx,Bool.and_eq_true]at hw
    have:=hw.1.2
    simp only[List.getElem?_cons_zero,Option.getD_some]at this
    rw[Kk hb]at this;cases this
 ·cases h
theorem B2 (w:Bs) (hw:Bx w=false):In (need w) fun _=>[kS w]:=fun l a r hv h=>by
 unfold need at h
 split at h
 ·rename_i q
  cases h
  cases l with
  |nil=>cases q
  |cons t l=>
   obtain⟨v1,v2⟩:=G1 hv
   simp only[hdW,Bool.and_eq_true,decide_eq_true_eq]at q
   refine⟨v2,?_⟩
   rw[List.map_cons]
   by_cases hk:t.K=1
   ·have:=(G2 v1 hk).2
    rw[q.2,hw]at this;cases this
   ·rw[(Kj v1 hk q.1).1,q.2];rfl
 ·cases h
theorem CO:In Bc fun s=>[kI s]:=fun l a r hv h=>by
 cases l with
 |nil=>cases h
 |cons t l=>
  obtain⟨v1,v2⟩:=G1 hv
  simp only[Bc,Jo]at h
  split at h
  ·rename_i hk
   cases h
   exact⟨v2,by rw[List.map_cons,(G2 v1 hk).1];rfl⟩
  ·cases h
theorem TG {l r:List Tkn} {s:Bs} (hv:Vd l) (h:Bc l= .ok s r):Bx s=true∧s≠[]:=by
 cases l with
 |nil=>cases h
 |cons t l=>
  obtain⟨v1,v2⟩:=G1 hv
  simp only[Bc,Jo]at h
  split at h
  ·rename_i hk
   cases h
   have:=(G2 v1 hk).2
   refine⟨this,fun e=>?_⟩
   rw[e]at this;cases this
  ·cases h
theorem Ee:In nmbR fun v=>[kN v]:=fun l a r hv h=>by
 cases l with
 |nil=>cases h
 |cons t l=>
  obtain⟨v1,v2⟩:=G1 hv
  simp only[nmbR]at h
  split at h
  ·rename_i hk
   cases h
   exact⟨v2,by rw[List.map_cons,TF v1 hk.1];rfl⟩
  ·cases h
theorem De {w:Bs} {l:List Tkn} (hw:Bx w=true) (hv:Vd l) (h:hdW w l=true):Vd l.tail∧l.map bar=kI w::l.tail.map bar:=by
 obtain⟨a,b⟩:=Br w hw l () l.tail hv (by unfold need;rw[if_pos h])
 exact⟨a,b⟩
theorem Ln {α:Type} {t:List Tkn→Bool} {one:List Tkn→Rs α} {tk:α→List Tkn} (h:In one tk):In (BA t one) fun l=>l.flatMap tk:=fun l=>by
 have key:∀(f:Nat) (l:List Tkn) a r,Vd l→CI t one f l= .ok a r→Vd r∧l.map bar=a.flatMap tk++r.map bar:=by
  intro f
  induction f with
  |zero=>intro l a r _ e;cases e
  |succ f ih=>
   intro l a r hv e
   rw[CI]at e
   split at e
   ·obtain⟨x,q,h1,h2⟩:=AJ e
    obtain⟨y,q2,h3,h4⟩:=AJ h2
    cases h4
    obtain⟨v1,e1⟩:=h _ _ _ hv h1
    obtain⟨v2,e2⟩:=ih _ _ _ v1 h3
    exact⟨v2,by rw[e1,e2,List.flatMap_cons,List.append_assoc]⟩
   ·cases e;exact⟨hv,rfl⟩
 exact key _ l
theorem in_com {α:Type} {one:List Tkn→Rs α} {tk:α→List Tkn} (h:In one tk):In (comR one) fun a=>kS [44]::tk a:=fun l a r hv e=>by
 obtain⟨_,q,h1,h2⟩:=AJ e
 obtain⟨v1,e1⟩:=B2 [44] (by decide) _ _ _ hv h1
 obtain⟨v2,e2⟩:=h _ _ _ v1 h2
 exact⟨v2,by rw[e1,e2];rfl⟩
theorem Ix {α:Type} {one:List Tkn→Rs α} {tk:α→List Tkn} (h:In one tk):In (CJ one) (comT tk):=fun l a r hv e=>by
 obtain⟨x,q,h1,h2⟩:=AJ e
 obtain⟨y,q2,h3,h4⟩:=AJ h2
 cases h4
 obtain⟨v1,e1⟩:=h _ _ _ hv h1
 obtain⟨v2,e2⟩:=Ln (in_com h) _ _ _ v1 h3
 exact⟨v2,by rw[e1,e2,comT,List.append_assoc]⟩
theorem TH {α:Type} {one:List Tkn→Rs α} {l r:List Tkn} {a:List α} (e:CJ one l= .ok a r):a≠[]:=by
 obtain⟨x,q,h1,h2⟩:=AJ e
 obtain⟨y,q2,h3,h4⟩:=AJ h2
 cases h4
 simp
theorem H8:In setR setT:=fun l a r hv e=>by
 obtain⟨_,r1,h1,e⟩:=AJ e
 obtain⟨x,r2,h2,e⟩:=AJ e
 obtain⟨_,r3,h3,e⟩:=AJ e
 cases e
 obtain⟨v1,e1⟩:=B2 [123] (by decide) _ _ _ hv h1
 obtain⟨v2,e2⟩:=Ix CO _ _ _ v1 h2
 obtain⟨v3,e3⟩:=B2 [125] (by decide) _ _ _ v2 h3
 exact⟨v3,by rw[e1,e2,e3];simp [setT,comT,oneI]⟩
theorem in_sym:In symR symT:=fun l a r hv e=>by
 obtain⟨s,r1,h1,e⟩:=AJ e
 obtain⟨_,r2,h2,e⟩:=AJ e
 obtain⟨v,r3,h3,e⟩:=AJ e
 cases e
 obtain⟨v1,e1⟩:=CO _ _ _ hv h1
 obtain⟨v2,e2⟩:=B2 [61] (by decide) _ _ _ v1 h2
 obtain⟨v3,e3⟩:=Ee _ _ _ v2 h3
 exact⟨v3,by rw[e1,e2,e3];rfl⟩
theorem in_op:In opR fun o=>[kI (opP o)]:=fun l a r hv e=>by
 unfold opR at e
 split at e
 ·rename_i q;cases e;exact De (by decide) hv q
 split at e
 ·rename_i q;cases e;exact De (by decide) hv q
 ·obtain⟨_,r1,h1,e⟩:=AJ e
  cases e
  exact Br _ (by decide) _ _ _ hv h1
theorem op_rng {l r:List Tkn} {o:Int} (e:opR l= .ok o r):1≤o∧o≤3:=by
 unfold opR at e
 split at e
 ·cases e;omega
 split at e
 ·cases e;omega
 ·obtain⟨_,r1,h1,e⟩:=AJ e
  cases e;omega
theorem in_lim:In limR fun p=>limT p.1 p.2:=fun l a r hv e=>by
 unfold limR at e
 split at e
 ·obtain⟨n,r1,h1,e⟩:=AJ e
  cases e
  exact Ee _ _ _ hv h1
 ·obtain⟨n,r1,h1,e⟩:=AJ e
  cases e
  obtain⟨v1,e1⟩:=CO _ _ _ hv h1
  refine⟨v1,?_⟩
  rw[e1]
  simp only[limT]
  rw[if_neg (TG hv h1).2]
theorem Om:In bndR fun b=>bndT opP b.1 b.2.1 b.2.2:=fun l a r hv e=>by
 obtain⟨o,r1,h1,e⟩:=AJ e
 obtain⟨p,r2,h2,e⟩:=AJ e
 cases e
 obtain⟨v1,e1⟩:=in_op _ _ _ hv h1
 obtain⟨v2,e2⟩:=in_lim _ _ _ v1 h2
 exact⟨v2,by rw[e1,e2];rfl⟩
theorem Kl {l r:List Tkn} {b:Int×Int×Bs} (e:bndR l= .ok b r):1≤b.1∧b.1≤3:=by
 obtain⟨o,r1,h1,e⟩:=AJ e
 obtain⟨p,r2,h2,e⟩:=AJ e
 cases e
 exact op_rng h1
def RN (p:List Tkn→Rs DRul) (pre:List Tkn) (P:DRul→Prop):Prop:=∀l a r,Vd l→p l= .ok a r→Vd r∧pre++l.map bar=Au opP false a++r.map bar∧rgl a∧P a
def Fz (x a:DRul):Prop:=a.nm=x.nm∧a.fam=x.fam∧a.set=x.set∧a.oth=x.oth∧a.clue=x.clue
theorem TI (x:DRul):RN (ED x) [kI Bp,kI x.on] (Fz x):=fun l a r hv e=>by
 have fz:∀k ns op n b,Fz x {x with kind:=k,ns:=ns,op:=op,n:=n,byN:=b}:=fun _ _ _ _ _=>⟨rfl,rfl,rfl,rfl,rfl⟩
 unfold ED at e
 split at e
 ·rename_i q
  cases e
  obtain⟨v1,e1⟩:=De (by decide) hv q
  exact⟨v1,by rw[e1];rfl,⟨by simp,by simp,by simp⟩,fz _ _ _ _ _⟩
 split at e
 ·rename_i q
  obtain⟨ss,r1,h1,e⟩:=AJ e
  obtain⟨b,r2,h2,e⟩:=AJ e
  cases e
  obtain⟨v0,e0⟩:=De (by decide) hv q
  obtain⟨v1,e1⟩:=H8 _ _ _ v0 h1
  obtain⟨v2,e2⟩:=Om _ _ _ v1 h2
  exact⟨v2,by rw[e0,e1,e2];simp [Au],⟨by simp,by simp,fun _=>Kl h2⟩,fz _ _ _ _ _⟩
 split at e
 ·rename_i q
  obtain⟨b,r2,h2,e⟩:=AJ e
  cases e
  obtain⟨v0,e0⟩:=De (by decide) hv q
  obtain⟨v2,e2⟩:=Om _ _ _ v0 h2
  exact⟨v2,by rw[e0,e2];simp [Au],⟨by simp,by simp,fun _=>Kl h2⟩,fz _ _ _ _ _⟩
 split at e
 ·rename_i q
  cases e
  obtain⟨v1,e1⟩:=De (by decide) hv q
  exact⟨v1,by rw[e1];rfl,⟨by simp,by simp,by simp⟩,fz _ _ _ _ _⟩
 ·obtain⟨_,r0,h0,e⟩:=AJ e
  obtain⟨ss,r1,h1,e⟩:=AJ e
  obtain⟨_,r2,h2,e⟩:=AJ e
  obtain⟨s,r3,h3,e⟩:=AJ e
  cases e
  obtain⟨v0,e0⟩:=Br _ (by decide) _ _ _ hv h0
  obtain⟨v1,e1⟩:=H8 _ _ _ v0 h1
  obtain⟨v2,e2⟩:=Br _ (by decide) _ _ _ v1 h2
  obtain⟨v3,e3⟩:=CO _ _ _ v2 h3
  exact⟨v3,by rw[e0,e1,e2,e3];simp [Au],⟨by simp,by simp,by simp⟩,fz _ _ _ _ _⟩
theorem TJ (x:DRul):RN (Do x) [] (Fz x):=fun l a r hv e=>by
 have fz:∀on k ns os op n b,Fz x {x with on:=on,kind:=k,ns:=ns,os:=os,op:=op,n:=n,byN:=b}:=fun _ _ _ _ _ _ _=>⟨rfl,rfl,rfl,rfl,rfl⟩
 unfold Do at e
 split at e
 ·rename_i q
  obtain⟨s,r1,h1,e⟩:=AJ e
  obtain⟨v0,e0⟩:=De (by decide) hv q
  obtain⟨v1,e1⟩:=CO _ _ _ v0 h1
  obtain⟨v2,e2,h3,h4⟩:=TI _ _ _ _ v1 e
  exact⟨v2,by rw[e0,e1,←e2];rfl,h3,h4⟩
 split at e
 ·rename_i q
  cases e
  obtain⟨v1,e1⟩:=De (by decide) hv q
  exact⟨v1,by rw[e1];rfl,⟨by simp,by simp,by simp⟩,fz _ _ _ _ _ _ _⟩
 split at e
 ·rename_i q
  obtain⟨n,r1,h1,e⟩:=AJ e
  cases e
  obtain⟨v0,e0⟩:=De (by decide) hv q
  obtain⟨v1,e1⟩:=Ee _ _ _ v0 h1
  exact⟨v1,by rw[e0,e1];rfl,⟨by simp,by simp,by simp⟩,fz _ _ _ _ _ _ _⟩
 split at e
 ·rename_i q
  obtain⟨ss,r1,h1,e⟩:=AJ e
  obtain⟨_,r2,h2,e⟩:=AJ e
  obtain⟨os,r3,h3,e⟩:=AJ e
  cases e
  obtain⟨v0,e0⟩:=De (by decide) hv q
  obtain⟨v1,e1⟩:=H8 _ _ _ v0 h1
  obtain⟨v2,e2⟩:=Br _ (by decide) _ _ _ v1 h2
  obtain⟨v3,e3⟩:=H8 _ _ _ v2 h3
  exact⟨v3,by rw[e0,e1,e2,e3];simp [Au],⟨by simp,by simp,by simp⟩,fz _ _ _ _ _ _ _⟩
 split at e
 ·rename_i q
  obtain⟨ss,r1,h1,e⟩:=AJ e
  cases e
  obtain⟨v0,e0⟩:=De (by decide) hv q
  obtain⟨v1,e1⟩:=H8 _ _ _ v0 h1
  exact⟨v1,by rw[e0,e1];simp [Au],⟨by simp,by simp,by simp⟩,fz _ _ _ _ _ _ _⟩
 split at e
 ·rename_i q
  obtain⟨ss,r1,h1,e⟩:=AJ e
  cases e
  obtain⟨v0,e0⟩:=De (by decide) hv q
  obtain⟨v1,e1⟩:=H8 _ _ _ v0 h1
  exact⟨v1,by rw[e0,e1];simp [Au],⟨by simp,by simp,by simp⟩,fz _ _ _ _ _ _ _⟩
 split at e
 ·rename_i q
  obtain⟨ss,r1,h1,e⟩:=AJ e
  cases e
  obtain⟨v0,e0⟩:=De (by decide) hv q
  obtain⟨v1,e1⟩:=CO _ _ _ v0 h1
  exact⟨v1,by rw[e0,e1];simp [Au],⟨by simp,by simp,by simp⟩,fz _ _ _ _ _ _ _⟩
 split at e
 ·rename_i q
  obtain⟨ss,r1,h1,e⟩:=AJ e
  cases e
  obtain⟨v0,e0⟩:=De (by decide) hv q
  obtain⟨v1,e1⟩:=CO _ _ _ v0 h1
  exact⟨v1,by rw[e0,e1];simp [Au],⟨by simp,by simp,by simp⟩,fz _ _ _ _ _ _ _⟩
 split at e
 ·rename_i q
  obtain⟨b,r1,h1,e⟩:=AJ e
  cases e
  obtain⟨v0,e0⟩:=De (by decide) hv q
  obtain⟨v1,e1⟩:=Om _ _ _ v0 h1
  exact⟨v1,by rw[e0,e1];simp [Au],⟨by simp,by simp,fun _=>Kl h1⟩,fz _ _ _ _ _ _ _⟩
 ·cases e
def rdR (x:DRul):Prop:=rgl x∧x.fam=0∧x.set=0∧x.oth=0∧x.clue=0
theorem TK {l r:List Tkn} {x:DRul} (hv:Vd l) (e:Gx l= .ok x r):Vd r∧kI CN::l.map bar=A1 opP false x++r.map bar∧rdR x:=by
 obtain⟨s,r1,h1,e⟩:=AJ e
 obtain⟨_,r2,h2,e⟩:=AJ e
 obtain⟨y,r3,h3,e⟩:=AJ e
 obtain⟨_,r4,h4,e⟩:=AJ e
 cases e
 obtain⟨v1,e1⟩:=CO _ _ _ hv h1
 obtain⟨v2,e2⟩:=B2 [58] (by decide) _ _ _ v1 h2
 obtain⟨v3,e3,k1,k2,k3,k4,k5,k6⟩:=TJ _ _ _ _ v2 h3
 obtain⟨v4,e4⟩:=B2 [59] (by decide) _ _ _ v3 h4
 rw[List.nil_append]at e3
 refine⟨v4,?_,k1,k3,k4,k5,k6⟩
 rw[e1,e2,e3,e4]
 have:x.nm=s:=k2
 simp [A1,this]
theorem in_clu {l r:List Tkn} {x:DClu} (hv:Vd l) (e:cluR l= .ok x r):Vd r∧kI CK::l.map bar=cluT x++r.map bar∧x.fam=0:=by
 obtain⟨s,r1,h1,e⟩:=AJ e
 obtain⟨_,r2,h2,e⟩:=AJ e
 obtain⟨o,r3,h3,e⟩:=AJ e
 obtain⟨y,r4,h4,e⟩:=AJ e
 obtain⟨_,r5,h5,e⟩:=AJ e
 cases e
 obtain⟨v1,e1⟩:=CO _ _ _ hv h1
 obtain⟨v2,e2⟩:=Br _ (by decide) _ _ _ v1 h2
 obtain⟨v3,e3⟩:=CO _ _ _ v2 h3
 have key:Vd r4∧r3.map bar=cluB x++r4.map bar∧x.fam=0∧x.nm=s∧x.on=o:=by
  split at h4
  ·rename_i q
   cases h4
   obtain⟨p1,p2⟩:=De (by decide) v3 q
   exact⟨p1,p2,rfl,rfl,rfl⟩
  split at h4
  ·rename_i q
   obtain⟨a,q1,g1,h4⟩:=AJ h4
   obtain⟨_,q2,g2,h4⟩:=AJ h4
   obtain⟨b,q3,g3,h4⟩:=AJ h4
   cases h4
   obtain⟨p1,p2⟩:=De (by decide) v3 q
   obtain⟨p3,p4⟩:=Ee _ _ _ p1 g1
   obtain⟨p5,p6⟩:=Br _ (by decide) _ _ _ p3 g2
   obtain⟨p7,p8⟩:=Ee _ _ _ p5 g3
   exact⟨p7,by rw[p2,p4,p6,p8];rfl,rfl,rfl,rfl⟩
  ·obtain⟨_,q1,g1,h4⟩:=AJ h4
   cases h4
   obtain⟨p1,p2⟩:=Br _ (by decide) _ _ _ v3 g1
   exact⟨p1,by rw[p2];rfl,rfl,rfl,rfl⟩
 obtain⟨v4,e4,k1,k2,k3⟩:=key
 obtain⟨v5,e5⟩:=B2 [59] (by decide) _ _ _ v4 h5
 refine⟨v5,?_,k1⟩
 rw[e1,e2,e3,e4,e5]
 simp [cluT,k2,k3]
theorem QL:In Di A7:=fun l a r hv e=>by
 obtain⟨x,r2,h2,e⟩:=AJ e
 obtain⟨_,r3,h3,e⟩:=AJ e
 cases e
 obtain⟨v2,e2⟩:=Ix Ee _ _ _ hv h2
 obtain⟨v3,e3⟩:=B2 [59] (by decide) _ _ _ v2 h3
 exact⟨v3,by rw[e2,e3];simp [A7,comT,oneN]⟩
theorem RO {l r:List Tkn} {x:DReg} (hv:Vd l) (e:regR l= .ok x r):Vd r∧kI Bl::l.map bar=regT x++r.map bar:=by
 obtain⟨s,r1,h1,e⟩:=AJ e
 obtain⟨_,r2,h2,e⟩:=AJ e
 obtain⟨ls,r3,h3,e⟩:=AJ e
 obtain⟨_,r4,h4,e⟩:=AJ e
 cases e
 obtain⟨v1,e1⟩:=CO _ _ _ hv h1
 obtain⟨v2,e2⟩:=B2 [123] (by decide) _ _ _ v1 h2
 obtain⟨v3,e3⟩:=Ln QL _ _ _ v2 h3
 obtain⟨v4,e4⟩:=B2 [125] (by decide) _ _ _ v3 h4
 exact⟨v4,by rw[e1,e2,e3,e4];simp [regT]⟩
theorem Km {α:Type} {w:Bs} {one:List Tkn→Rs α} {tk:α→List Tkn} {P:α→Prop} (hw:Bx w=true) (h:∀l a r,Vd l→one l= .ok a r→Vd r∧kI w::l.map bar=tk a++r.map bar∧P a) {l r:List Tkn} {a:List α} (hv:Vd l) (e:C4 w one l= .ok a r):
  Vd r∧l.map bar=a.flatMap tk++r.map bar∧∀x∈a,P x:=by
 have key:∀(f:Nat) (l:List Tkn) a r,Vd l→CI (hdW w) (Gy w one) f l= .ok a r→Vd r∧l.map bar=a.flatMap tk++r.map bar∧∀x∈a,P x:=by
  intro f
  induction f with
  |zero=>intro l a r _ e;cases e
  |succ f ih=>
   intro l a r hv e
   rw[CI]at e
   split at e
   ·obtain⟨x,q,h1,h2⟩:=AJ e
    obtain⟨y,q2,h3,h4⟩:=AJ h2
    cases h4
    obtain⟨_,q3,h5,h6⟩:=AJ h1
    obtain⟨v0,e0⟩:=Br w hw _ _ _ hv h5
    obtain⟨v1,e1,k1⟩:=h _ _ _ v0 h6
    obtain⟨v2,e2,k2⟩:=ih _ _ _ v1 h3
    refine⟨v2,?_,fun z hz=>?_⟩
    ·rw[e0,List.cons_append,List.nil_append,e1,e2,List.flatMap_cons,List.append_assoc]
    ·rcases List.mem_cons.1 hz with rfl|hz
     ·exact k1
     ·exact k2 z hz
   ·cases e;exact⟨hv,rfl,fun x hx=>by cases hx⟩
 exact key _ l _ _ hv e
theorem QN:In EE fun s=>[FP s]:=fun l a r hv e=>by
 unfold EE at e
 split at e
 ·rename_i q;cases e;exact De (by decide) hv q
 ·obtain⟨_,r1,h1,e⟩:=AJ e
  cases e
  exact Br _ (by decide) _ _ _ hv h1
theorem QO:In EF B4:=fun l a r hv e=>by
 unfold EF at e
 split at e
 ·rename_i q
  obtain⟨v0,e0⟩:=De (by decide) hv q
  obtain⟨v1,e1⟩:=Ix Ee _ _ _ v0 e
  refine⟨v1,?_⟩
  rw[e0,e1]
  unfold B4
  rw[if_neg (TH e)];rfl
 ·cases e;exact⟨hv,rfl⟩
theorem TL {l r:List Tkn} {d:Dcl} (hv:Vd l) (e:Oj l= .ok d r):Vd r∧l.map bar=Jt d++r.map bar:=by
 obtain⟨_,r1,h1,e⟩:=AJ e
 obtain⟨nm,r2,h2,e⟩:=AJ e
 obtain⟨_,r3,h3,e⟩:=AJ e
 obtain⟨v,r4,h4,e⟩:=AJ e
 obtain⟨_,r5,h5,e⟩:=AJ e
 obtain⟨_,r6,h6,e⟩:=AJ e
 obtain⟨sh,r7,h7,e⟩:=AJ e
 obtain⟨w,r8,h8,e⟩:=AJ e
 obtain⟨_,r9,h9,e⟩:=AJ e
 obtain⟨hh,r10,h10,e⟩:=AJ e
 obtain⟨ho,r11,h11,e⟩:=AJ e
 obtain⟨_,r12,h12,e⟩:=AJ e
 cases e
 obtain⟨v1,e1⟩:=Br _ (by decide) _ _ _ hv h1
 obtain⟨v2,e2⟩:=CO _ _ _ v1 h2
 obtain⟨v3,e3⟩:=Br _ (by decide) _ _ _ v2 h3
 obtain⟨v4,e4⟩:=Ee _ _ _ v3 h4
 obtain⟨v5,e5⟩:=B2 _ (by decide) _ _ _ v4 h5
 obtain⟨v6,e6⟩:=Br _ (by decide) _ _ _ v5 h6
 obtain⟨v7,e7⟩:=QN _ _ _ v6 h7
 obtain⟨v8,e8⟩:=Ee _ _ _ v7 h8
 obtain⟨v9,e9⟩:=Br _ (by decide) _ _ _ v8 h9
 obtain⟨v10,e10⟩:=Ee _ _ _ v9 h10
 obtain⟨v11,e11⟩:=QO _ _ _ v10 h11
 obtain⟨v12,e12⟩:=B2 _ (by decide) _ _ _ v11 h12
 exact⟨v12,by rw[e1,e2,e3,e4,e5,e6,e7,e8,e9,e10,e11,e12];simp [Jt]⟩
theorem On {l r:List Tkn} {d:Dcl} (hv:Vd l) (e:C5 l= .ok d r):l.map bar=BP opP false d∧(∀x∈d.ruls,rdR x)∧∀x∈d.clus,x.fam=0:=by
 obtain⟨x,r1,h1,e⟩:=AJ e
 obtain⟨_,r2,h2,e⟩:=AJ e
 have hr:r2=[]∧x=d:=by
  cases r2 with
  |nil=>cases e;exact⟨rfl,rfl⟩
  |cons t q=>cases e
 obtain⟨rfl,rfl⟩:=hr
 obtain⟨d0,r3,h3,h4⟩:=AJ h1
 obtain⟨v3,e3⟩:=TL hv h3
 obtain⟨_,q1,g1,h4⟩:=AJ h4
 obtain⟨ss,q2,g2,h4⟩:=AJ h4
 obtain⟨_,q3,g3,h4⟩:=AJ h4
 obtain⟨rs,q4,g4,h4⟩:=AJ h4
 obtain⟨cs,q5,g5,h4⟩:=AJ h4
 obtain⟨us,q6,g6,h4⟩:=AJ h4
 cases h4
 obtain⟨w1,f1⟩:=Br _ (by decide) _ _ _ v3 g1
 obtain⟨w2,f2⟩:=Ix in_sym _ _ _ w1 g2
 obtain⟨w3,f3⟩:=B2 _ (by decide) _ _ _ w2 g3
 obtain⟨w4,f4,-⟩:=Km (P:=fun _=>True) (by decide) (fun l a r hv h=>⟨(RO hv h).1,(RO hv h).2,trivial⟩) w3 g4
 obtain⟨w5,f5,k5⟩:=Km (by decide) (fun l a r hv h=>in_clu hv h) w4 g5
 obtain⟨w6,f6,k6⟩:=Km (by decide) (fun l a r hv h=>TK hv h) w5 g6
 obtain⟨w7,f7⟩:=B2 _ (by decide) _ _ _ w6 h2
 refine⟨?_,k6,k5⟩
 rw[e3,f1,f2,f3,f4,f5,f6,f7]
 simp [BP,Jt]
end Go.AM
end
section
set_option maxRecDepth 20000
set_option linter.all false
namespace Go.AM
open Go.Proofs Go.Lib
structure PD where
 d:Dcl
 a:Int
 e:Int
def Ff (e:Int) (ts:List Tkn):PD:=match C5 ts with
 | .ok d _=>⟨d,0,0⟩
 | .bad r=>⟨dcl0,plc e r,150⟩
def Bj (src:Bs):PD:=if 65536<src.length then⟨dcl0,0,2⟩else match lx src 0 with
 | .err a=>⟨dcl0,a,100⟩
 | .ok _ ts=>Ff src.length ts
abbrev Mp (w:List Tkn):Bs:=join (w.map B0) [32]
def Cz (w:List Tkn) (d:Dcl):Bs×Int:=if w.all Ad=true then(match C5 w with
 | .ok x _=>if x=C6 d then(Mp w,0)else([],150)
 | .bad _=>([],150))else([],150)
def B5 (d:Dcl):Bs×Int:=Cz (BP opP false d) d
def Ef (d:Dcl):Bs×Int:=Cz (BP opF true d) d
theorem RP {l:List Tkn}:l.all Ad=true↔Vd l:=List.all_eq_true
theorem Oo {w:List Tkn} {d:Dcl} (h:(Cz w d).2=0):Vd w∧C5 w= .ok (C6 d) []∧Cz w d=(Mp w,0):=by
 unfold Cz at h⊢
 split at h
 ·rename_i hv
  rw[if_pos hv]
  cases hd:C5 w with
  |bad r=>rw[hd]at h;cases h
  |ok x r=>
   rw[hd]at h
   simp only at h⊢
   split at h
   ·rename_i hx
    subst hx
    rw[if_pos rfl]
    have:=(TE hd).2
    subst this
    exact⟨RP.1 hv,rfl,rfl⟩
   ·cases h
 ·cases h
theorem Ju {w:List Tkn} {d:Dcl} (h:(Cz w d).2≠0):Cz w d=([],150):=by
 unfold Cz at h⊢
 split at h
 ·rename_i hv
  rw[if_pos hv]
  cases hd:C5 w with
  |bad r=>rfl
  |ok x r=>
   rw[hd]at h
   simp only at h⊢
   split at h
   ·exact absurd rfl h
   ·rename_i hx;rw[if_neg hx]
 ·rename_i hv;rw[if_neg hv]
theorem IA {w:List Tkn} {d:Dcl} (h:(Cz w d).2=0):∀x∈d.ruls,rgl x:=by
 obtain⟨hv,hd,-⟩:=Oo h
 obtain⟨-,h1,-⟩:=On hv hd
 intro x hx
 have:({x with fam:=0,set:=0,oth:=0,clue:=0}:DRul)∈(C6 d).ruls:=List.mem_map.2 ⟨x,hx,rfl⟩
 exact(h1 _ this).1
theorem Mq (d:Dcl):B5 d=Ef d:=by
 unfold B5 Ef
 by_cases hr:∀x∈d.ruls,rgl x
 ·rw[Ol hr]
 ·rw[Ju fun h=>hr (IA h),Ju fun h=>hr (IA h)]
end Go.AM
end
section
set_option maxRecDepth 20000
set_option linter.all false
namespace Go.AM
open Go.Proofs Go.Lib
def wc (t:Tkn):Nat:=if t.K=1 then min t.T.length 32+1 else if t.K=2 then 6 else 2
def wcT (l:List Tkn):Nat:=(l.map wc).sum
theorem Dj:wcT []=0:=rfl
theorem Bm (t:Tkn) (l:List Tkn):wcT (t::l)=wc t+wcT l:=by simp [wcT]
theorem FQ (a b:List Tkn):wcT (a++b)=wcT a+wcT b:=by simp [wcT]
theorem wc_I (s:Bs):wc (kI s)≤33:=by unfold wc;rw[if_pos rfl];omega
theorem wc_N (v:Int):wc (kN v)=6:=rfl
theorem wc_S (s:Bs):wc (kS s)=2:=rfl
theorem Fg {α:Type} {f:α→List Tkn} {b:Nat}:∀{l:List α},(∀x∈l,wcT (f x)≤b)→wcT (l.flatMap f)≤b*l.length
 |[],_=>by simp [wcT]
 |x::r,h=>by
  have h1:=h x List.mem_cons_self
  have h2:=Fg (l:=r) fun y hy=>h y (List.mem_cons_of_mem _ hy)
  rw[List.flatMap_cons,FQ,List.length_cons,Nat.mul_succ];omega
theorem Oq {α:Type} {one:α→List Tkn} {b:Nat} {l:List α} (h:∀x∈l,wcT (one x)≤b):wcT (comT one l)≤(b+2)*l.length:=by
 cases l with
 |nil=>simp [comT,wcT]
 |cons a r=>
  have h1:=h a List.mem_cons_self
  have h2:wcT (r.flatMap fun x=>kS [44]::one x)≤(b+2)*r.length:=Fg fun y hy=>by
   rw[Bm,wc_S]
   have:=h y (List.mem_cons_of_mem _ hy);omega
  rw[comT,FQ,List.length_cons,Nat.mul_succ];omega
theorem TM (l:List Bs):wcT (comT oneI l)≤35*l.length:=Oq fun s _=>by
 have:=wc_I s
 simp only[oneI,Bm,Dj];omega
theorem Or (l:List Int):wcT (comT oneN l)≤8*l.length:=Oq fun s _=>by
 simp only[oneN,Bm,Dj,wc_N];omega
theorem RQ (l:List Bs):wcT (setT l)≤35*l.length+4:=by
 have:=TM l
 simp only[setT,Bm,FQ,Dj,wc_S];omega
theorem wc_lim (n:Int) (b:Bs):wcT (limT n b)≤33:=by
 unfold limT
 split
 ·simp only[Bm,Dj,wc_N];omega
 ·have:=wc_I b
  simp only[Bm,Dj];omega
theorem wc_bnd (o n:Int) (b:Bs):wcT (bndT opP o n b)≤66:=by
 have:=wc_lim n b
 have:=wc_I (opP o)
 simp only[bndT,Bm];omega
theorem wc_ite {c:Prop} [Decidable c] {a b:List Tkn} {m:Nat} (h1:wcT a≤m) (h2:wcT b≤m):wcT (if c then a else b)≤m:=by split<;>assumption
theorem TN (x:DRul) (h1:x.ns.length≤20) (h2:x.os.length≤20):wcT (Au opP false x)≤1480:=by
 have a1:=RQ x.ns
 have a2:=RQ x.os
 have a3:=wc_bnd x.op x.n x.byN
 have a4:=wc_I x.on
 have a5:=wc_I x.byN
 have w:=fun s:Bs=>wc_I s
 unfold Au
 repeat' refine wc_ite ?_ ?_
 all_goals
  simp only[Bm,FQ,Dj,wc_N]
  have b1:=w Bp;have b2:=w D9;have b3:=w CP;have b4:=w wSum;have b5:=w FN;have b6:=w Cm;have b7:=w wBy;have b8:=w Bq;have b9:=w Cw;have b10:=w wNot;have b11:=w Cn
  have b12:=w FK;have b13:=w FL;have b14:=w Cx;have b15:=w FM;have b16:=w Cl
  omega
structure FewS (d:Dcl):Prop where
 ho:d.holes.length≤20
 sy:d.syms.length≤20
 rg:d.regs.length≤6
 cl:d.clus.length≤8
 ru:d.ruls.length≤20
 rgs:∀r∈d.regs,r.ls.length≤20∧∀x∈r.ls,x.length≤20
 rus:∀r∈d.ruls,r.ns.length≤20∧r.os.length≤20
theorem TO {d:Dcl} (h:FewS d):wcT (BP opP false d)≤60000:=by
 have w:=fun s:Bs=>wc_I s
 have hru:wcT (d.ruls.flatMap (A1 opP false))≤1560*d.ruls.length:=Fg fun x hx=>by
  have:=TN x (h.rus x hx).1 (h.rus x hx).2
  have:=w CN;have:=w x.nm
  simp only[A1,Bm,FQ,Dj,wc_S];omega
 have hcl:wcT (d.clus.flatMap cluT)≤250*d.clus.length:=Fg fun x hx=>by
  have:=w CK;have:=w x.nm;have:=w wOn;have:=w x.on;have:=w wSym;have:=w BC;have:=w wTo;have:=w Cm
  unfold cluT cluB
  repeat' split
  all_goals
   simp only[Bm,FQ,Dj,wc_S,wc_N];omega
 have hrg:wcT (d.regs.flatMap regT)≤3320*d.regs.length:=Fg fun x hx=>by
  have h1:=h.rgs x hx
  have h2:wcT (x.ls.flatMap A7)≤162*x.ls.length:=Fg fun y hy=>by
   have:=Or y
   have:=h1.2 y hy
   simp only[A7,Bm,FQ,Dj,wc_S];omega
  have h3:=w Bl;have:=w x.nm
  simp only[regT,Bm,FQ,Dj,wc_S];omega
 have hsy:wcT (comT symT d.syms)≤(41+2)*d.syms.length:=Oq fun x hx=>by
  have:=w x.nm
  simp only[symT,Bm,Dj,wc_S,wc_N];omega
 have hho:wcT (B4 d.holes)≤200:=by
  have:=Or d.holes
  have:=h.ho
  have:=w Eu
  unfold B4
  split
  ·simp [wcT]
  ·simp only[Bm];omega
 have hsh:wc (FP d.sh)≤33:=wc_I _
 have:=h.sy;have:=h.rg;have:=h.cl;have:=h.ru
 have:=w EA;have:=w d.nm;have:=w EW;have:=w Et;have:=w wBy;have:=w EC
 simp only[BP,Jt,Bm,FQ,Dj,wc_S,wc_N]
 have m1:1560*d.ruls.length≤1560*20:=Nat.mul_le_mul_left _ h.ru
 have m2:250*d.clus.length≤250*8:=Nat.mul_le_mul_left _ h.cl
 have m3:3320*d.regs.length≤3320*6:=Nat.mul_le_mul_left _ h.rg
 have m4:(41+2)*d.syms.length≤(41+2)*20:=Nat.mul_le_mul_left _ h.sy
 omega
end Go.AM
end
section
set_option maxRecDepth 20000
set_option linter.all false
namespace Go.AM
open Go.Proofs Go.Lib
def LV (e:Nat) (v:AVal) (H:AD) (l:List AVal):Prop:=
 (l=[]∧∃t,v= .sl t []∧(t= .nil∨t= .exact e))∨(l≠[]∧∃id cap rest,v= .ref id e 0 l.length cap∧hget H id=some (.arr e (l++rest))∧l.length+rest.length=cap)
def RR (e:Nat) (H:AD) (n:Nat) (l:List AVal):AOut→AD→Nat→Prop:=fun o H' n'=>
 (l=[]∧H'=H∧n≤n'∧∃t,o= .ret (.sl t [])∧(t= .nil∨t= .exact e))∨(l≠[]∧n'=n+4∧∃cap rest,o= .ret (.ref (n+2) e 0 l.length cap)∧H'=hset H (n+2) (.arr e (l++rest))∧l.length+rest.length=cap)
theorem AP.out {P:Program} {f:FuncId} {args:List AVal} {H:AD} {n:Nat} {R R':AOut→AD→Nat→Prop} (h:AP P f args H n R)
  (hr:∀o H' n',R o H' n'→∃o2,R' o2 H' n'∧∀g w e,Rel g H' n' w→ERel g o e→ERel g o2 e):AP P f args H n R':=
 ⟨h.1,fun g w vs r v=>(h.2 g w vs r v).mono fun e w' ⟨g',out,H',n',q,he,hR,hn,ht⟩=>
  let ⟨o2,q2,hw⟩:=hr _ _ _ q;⟨g',o2,H',n',q2,hw _ _ _ hR he,hR,hn,ht⟩⟩
theorem AP.seal {P:Program} {f:FuncId} {args:List AVal} {H:AD} {n:Nat} {R R':AOut→AD→Nat→Prop} (h:AP P f args H n R)
  (hr:∀o H' n',R o H' n'→R' o H' n'∨∃id e l,hget H' id=some (.arr e l)∧R' o (hset H' id (.frz e l)) n'):AP P f args H n R':=by
 refine⟨h.1,fun g w vs r v=>(h.2 g w vs r v).mono ?_⟩
 rintro e w' ⟨g',out,H',n',q,he,hR,hn,ht⟩
 rcases hr _ _ _ q with q|⟨id,es,l,h0,q⟩
 ·exact⟨g',out,H',n',q,he,hR,hn,ht⟩
 ·obtain⟨σ',r1,t1⟩:=hR.freeze (m:=n) h0
  refine⟨_,out,_,n',q,?_,r1,hn,ht.trans t1⟩
  cases out<;>cases e<;>first|exact he.elim|skip
  ·exact VRel.mono t1.le _ _ he
  ·obtain⟨v,hv,hr⟩:=he
   exact⟨v,hv,VRel.mono t1.le _ _ hr⟩
def LF (e:Nat) (v:AVal) (H:AD) (l:List AVal):Prop:=
 (l=[]∧∃t,v= .sl t []∧(t= .nil∨t= .exact e))∨(l≠[]∧∃id cap rest,v= .ref id e 0 l.length cap∧hget H id=some (.frz e (l++rest))∧l.length+rest.length=cap)
theorem Ot {e:Nat} {v:AVal} {H:AD} {l:List AVal} (h:LF e v H l) {g:Ghost} {n:Nat} {w:World} {x:Value} (hR:Rel g H n w) (hv:VRel g v x):VRel g (.sl (.none e) l) x:=by
 rcases h with⟨rfl,t,rfl,ht⟩|⟨hne,id,cap,rest,rfl,ho,hc⟩
 ·exact Wk.sl (.inr rfl) _ _ hv
 ·obtain⟨L,h1,h2,rfl⟩:=hv
  obtain⟨L',j1,j2,j3⟩:=hR.obj id _ ho
  rw[h1]at j1;cases j1
  refine .inr ⟨trivial,L.blk,0,cap,⟨none,by simp,.inl rfl⟩,by omega,?_,trivial⟩
  have:=Stab.take l.length _ _ j3
  rw[List.take_left]at this
  exact this
def LvG {α:Type} (enc:α→AVal) (e lo:Nat) (H:AD) (lv:AVal) (qs:List α):Prop:=(lv= .sl .nil []∧qs=[])∨qs≠[]∧∃id rest,lv= .ref id e 0 qs.length (qs.length+rest.length)∧lo≤id∧hget H id=some (.arr e ((qs++rest).map enc))
section
variable {α:Type} {enc:α→AVal} {e lo:Nat}
theorem TP {H:AD} {m b:Nat} {lv z v:AVal} {z0:α} {qs:List α} {q:α} {K:AD→AVal→Prop} (h:LvG enc e lo H lv qs) (hv:v=enc q) (he:0<e) (hz:z.cells.length=e) (hz0:z=enc z0) (hb:Ao (qs.length+1) b) (hm:hget H m=none) (hm2:lo≤m) (hk:qs.length+1≤35184372088832)
  (hK:∀id (rest:List α),lo≤id→(id=m∨∃L,hget H id=some (.arr e L))→K (hset H id (.arr e (((qs++[q])++rest).map enc))) (.ref id e 0 (qs++[q]).length ((qs++[q]).length+rest.length))):N9 H m e b z K lv (some [v]):=by
 subst hv
 subst hz0
 have el:(qs++[q]).length=qs.length+1:=by simp
 rcases h with⟨rfl,rfl⟩|⟨-,id,rest,rfl,h2,h3⟩
 ·rw[FE]
  refine⟨hm,he,hz,.inl rfl,hb,by simp,(fun e=>by cases e),fun _ cap hcap=>?_⟩
  have:=hK m (List.replicate (cap-1) z0) hm2 (.inl rfl)
  simp only[List.nil_append,List.map_cons,List.length_cons,List.length_nil,List.length_replicate,List.cons_append,List.map_replicate]at this hcap⊢
  rw[show 0+1+(cap-1)=cap by omega]at this
  exact this
 ·rw[OA h3]
  refine⟨hm,he,hz,rfl,rfl,hb,hk,rfl,by simp,by omega,fun hr=>?_,fun hr cap' hc=>?_⟩
  ·have:=hK id (rest.drop 1) h2 (.inr ⟨_,h3⟩)
   simp only[List.length_cons,List.length_nil]at hr⊢
   have e1:List.take qs.length ((qs++rest).map enc)=qs.map enc:=by rw[List.map_append,List.take_append_of_le_length (by simp),List.take_of_length_le (by simp)]
   have e2:List.drop (qs.length+(0+1)) ((qs++rest).map enc)=(rest.drop 1).map enc:=by rw[List.map_append,List.drop_append,List.drop_eq_nil_of_le (by simp)];simp
   rw[e1,e2]
   rw[el,List.map_append,List.map_append,List.length_drop,show qs.length+1+(rest.length-1)=qs.length+rest.length by omega]at this
   exact this
  ·have:=hK m (List.replicate (cap'-(qs.length+1)) z0) hm2 (.inl rfl)
   simp only[List.length_cons,List.length_nil]at hr hc⊢
   have e1:List.take qs.length ((qs++rest).map enc)=qs.map enc:=by rw[List.map_append,List.take_append_of_le_length (by simp),List.take_of_length_le (by simp)]
   rw[e1]
   rw[el,List.map_append,List.map_append,List.map_replicate,List.length_replicate,show qs.length+1+(cap'-(qs.length+1))=cap' by omega]at this
   exact this
end
structure VF where
 i:Nat
 H:AD
 n:Nat
theorem BV {P:Program} {T:Tab} {b:Nat} {cx:Nat→AVal} {rx:List (Nat×AOp)} {kp:List Nat} {k:List Item} {Q:AExit→AS→Prop} {s:AS} {d:Option Nat} {sz:Nat} {a x:Opd}:A6 P T b cx ((0,⟨d,none,.st sz a x⟩)::rx) kp k Q s=((lk s.env a).1=true∧(lk s.env x).1=true∧nT (lkv s.env x)∧(lkv s.env x).cells.length=sz∧(stE s.H sz (lkv s.env x) (lkv s.env a)).1∧A6 P T b cx rx kp k Q ({s with H:=(stE s.H sz (lkv s.env x) (lkv s.env a)).2}.put d true (.tup []))):=by
 rw[OC,IQ,LQ]
 simp only[gvb,forall_const,BZ,true_and];rfl
end Go.AM
end
section
set_option maxRecDepth 20000
set_option linter.all false
namespace Go.AM
open Go.Proofs Go.Lib
theorem TQ {H:AD} {n:Nat} (l:List DClu) (hl:few l):AP Tryz.prog 78 [eCls l] H n (RR 6 H n (l.map BI)):=by
 refine AP.fresh l78 fun hf=>a78 (AF AI.tnil (AE ?_))
 have hll:l.length<1000000000:=hl
 cases l with
 |nil=>
  simp only[eE,eC,eN,reduceCtorEq,↓reduceIte,c78]
  refine⟨?_,?_⟩
  ·simp only[eE,eC,eN,reduceCtorEq,Nat.reduceEqDiff,↓reduceIte,Nat.reduceAdd,Nat.reduceLT,FE,Hp,fr1 hf,Ao,Nat.zero_mul,Nat.zero_le]
   exact .inl ⟨rfl,rfl,Nat.le_add_right _ _,.exact 6,rfl,.inr rfl⟩
  ·simp only[eE,eC,eN,reduceCtorEq,↓reduceIte,Bool.not_false]
   exact .inl ⟨rfl,rfl,Nat.le_refl _,.nil,rfl,.inl rfl⟩
 |cons x r=>
  rw[List.length_cons]at hll
  simp only[eE,eC,eN,reduceCtorEq,Nat.reduceEqDiff,↓reduceIte,Nat.reduceAdd,Nat.reduceLeDiff,Nat.reduceMul,Nat.reduceLT,List.length_map,c78,eCls,FE,Hp,fr1 hf]
  refine⟨Ar (by omega) (by decide),by omega,fun cap hcap=>.inr ⟨by simp,rfl,cap,List.replicate (cap-(r.length+1)) (.agg [.str [],.str [],.int .i64 0,.int .i64 0,.int .i64 0,.int .i64 0]),?_,?_,?_⟩⟩
  ·simp
  ·simp
  ·simp;omega
theorem Ou {H:AD} {n:Nat} (l:List DRul) (hl:few l):AP Tryz.prog 79 [eRus l] H n (RR 12 H n (l.map Am)):=by
 refine AP.fresh l79 fun hf=>a79 (AF AI.tnil (AE ?_))
 have hll:l.length<1000000000:=hl
 cases l with
 |nil=>
  simp only[eE,eC,eN,reduceCtorEq,↓reduceIte,c79]
  refine⟨?_,?_⟩
  ·simp only[eE,eC,eN,reduceCtorEq,Nat.reduceEqDiff,↓reduceIte,Nat.reduceAdd,Nat.reduceLT,FE,Hp,fr1 hf,Ao,Nat.zero_mul,Nat.zero_le]
   exact .inl ⟨rfl,rfl,Nat.le_add_right _ _,.exact 12,rfl,.inr rfl⟩
  ·simp only[eE,eC,eN,reduceCtorEq,↓reduceIte,Bool.not_false]
   exact .inl ⟨rfl,rfl,Nat.le_refl _,.nil,rfl,.inl rfl⟩
 |cons x r=>
  rw[List.length_cons]at hll
  simp only[eE,eC,eN,reduceCtorEq,Nat.reduceEqDiff,↓reduceIte,Nat.reduceAdd,Nat.reduceLeDiff,Nat.reduceMul,Nat.reduceLT,List.length_map,c79,eRus,FE,Hp,fr1 hf]
  refine⟨Ar (by omega) (by decide),by omega,fun cap hcap=>.inr ⟨by simp,rfl,cap,List.replicate (cap-(r.length+1)) (.agg [.str [],.str [],.int .i64 0,.int .i64 0,.sl .nil [],.sl .nil [],.int .i64 0,.int .i64 0,.int .i64 0,.int .i64 0,.str [],.int .i64 0]),?_,?_,?_⟩⟩
  ·simp
  ·simp
  ·simp;omega
end Go.AM
end
