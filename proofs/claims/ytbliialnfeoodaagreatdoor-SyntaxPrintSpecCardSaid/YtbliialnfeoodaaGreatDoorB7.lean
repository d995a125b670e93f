/-
  Rules of deduction, plainly: reading them from tokens · Rules of deduction, plainly: reading looks at no places, and at nothing behind a fault · Rules of deduction, plainly: reading looks at nothing behind what it leaves · Rules of deduction, plainly: all lemmas of a text; faults do not stand too early · Rules of deduction, plainly: what is written is read again · Rules of deduction, plainly: names and indices · Rules of deduction, plainly: how long the text of what was read is · Rules of deduction, plainly: parsing what is printed; what is parsed can be printed · Rules of deduction, plainly: the size of what was read, when it is printed · Rules of deduction, plainly: faults stand at their places · Rules of deduction, plainly: less of a lemma, other names · Rules of deduction, plainly: white space and comments.
  Conditions: none beyond those of its parts.
-/
import Derived.Test.YtbliialnfeoodaaGreatDoorB6

section
set_option maxRecDepth 20000
set_option linter.all false
namespace Go.AM
open Go.Proofs Go.Lib
structure Itm where
 k:Int
 n:Int
 ls:List Bs
 cs:List Bs
structure Drf where
 nm:Bs
 lv:Int
 cs:List Bs
 ls:List Bs
 is:List Itm
 c:Bs
 l:Bs
inductive Rs (α:Type) where
 |ok (a:α) (r:List Tkn)
 |bad (r:List Tkn)
def Rs.bd {α β:Type} (x:Rs α) (f:α→List Tkn→Rs β):Rs β:=match x with
 | .ok a r=>f a r
 | .bad r=>.bad r
def hdW (w:Bs):List Tkn→Bool
 |t::_=>decide (t.K≠2)&&decide (t.T=w)
 |[]=>false
def need (w:Bs) (l:List Tkn):Rs Unit:=if hdW w l=true then .ok () l.tail else .bad l
def Jo (k:Int):List Tkn→Rs Tkn
 |t::r=>if t.K=k then .ok t r else .bad (t::r)
 |[]=>.bad []
def Bc (l:List Tkn):Rs Bs:=(Jo 1 l).bd fun t r=>.ok t.T r
structure Cnd where
 k:Int
 cs:List Int
 ls:List Int
 n:Int
structure Prm where
 c:Int
 ls:List Int
structure Lma where
 nm:Bs
 lv:Int
 cs:List Bs
 ls:List Bs
 qs:List Cnd
 ps:List Prm
 c:Int
 l:Int
def idxS (l:List Bs) (s:Bs):Int:=match l.findIdx? (fun x=>decide (x=s))with
 |some k=>k
 |none=>-1
def idxs (l:List Bs) (ss:List Bs):List Int:=ss.map (idxS l)
def resolve (d:Drf):Lma:=⟨d.nm,d.lv,d.cs,d.ls,(d.is.filter fun i=>decide (i.k≠0)).map fun i=>⟨i.k,idxs d.cs i.cs,idxs d.ls i.ls,i.n⟩,
 (d.is.filter fun i=>decide (i.k=0)).map fun i=>⟨(idxs d.cs i.cs)[0]?.getD 0,idxs d.ls i.ls⟩,idxS d.cs d.c,idxS d.ls d.l⟩
def ER {α:Type} [DecidableEq α]:List α→Bool
 |[]=>true
 |x::r=>!(r.any fun y=>decide (y=x))&&ER r
def difI (l:List Int) (n:Nat):Bool:=(l.all fun k=>decide (0≤k)&&decide (k<n))&&ER l
def condOK (q:Cnd) (nc nl:Nat):Bool:=difI q.cs nc&&decide (1≤q.cs.length)&&difI q.ls nl&&
 (if q.k=1∨q.k=4 then decide (2≤q.cs.length)&&decide (q.ls.length=0)&&decide (q.n=0)
  else if q.k=2 then decide (q.ls.length=1)&&decide (q.n=0)
  else if q.k=3 then decide (q.cs.length=2)&&decide (q.ls.length=0)&&decide (1≤q.n)&&decide (q.n≤99)
  else if q.k=5 then decide (q.cs.length=2)&&decide (q.ls.length=0)&&decide (q.n=0)
  else if q.k=6 then decide (1≤q.ls.length)&&decide (0≤q.n)&&decide (q.n≤q.cs.length)
  else false)
structure PL where
 ls:List Lma
 a:Int
 e:Int
end Go.AM
end
section
set_option maxRecDepth 20000
set_option linter.all false
namespace Go.AM
open Go.Proofs Go.Lib
def bar (t:Tkn):Tkn:=⟨t.K,t.T,t.N,0⟩
def Rs.mp {α:Type} (f:Tkn→Tkn):Rs α→Rs α
 | .ok a r=>.ok a (r.map f)
 | .bad r=>.bad (r.map f)
def Nt {α:Type} (p:List Tkn→Rs α):Prop:=∀l,p (l.map bar)=(p l).mp bar
end Go.AM
end
section
set_option maxRecDepth 20000
set_option linter.all false
namespace Go.AM
open Go.Proofs Go.Lib
structure Lc {α:Type} (p:List Tkn→Rs α):Prop where
 ok:∀l a r,p l= .ok a r→∃u,l=u++r∧∀t q,r=t::q→∀q',p (u++t::q')= .ok a (t::q')
 bad:∀l r,p l= .bad r→∃u,l=u++r∧∀t q,r=t::q→∀q',p (u++t::q')= .bad (t::q')
theorem S5 {w:Bs} {l r:List Tkn} {a:Unit} (h:need w l= .ok a r):r.length<l.length:=by
 unfold need at h
 split at h
 ·rename_i hw
  cases h
  cases l with
  |nil=>cases hw
  |cons t l=>simp
 ·cases h
end Go.AM
end
section
set_option maxRecDepth 20000
set_option linter.all false
namespace Go.AM
open Go.Proofs Go.Lib
end Go.AM
end
section
set_option maxRecDepth 20000
set_option linter.all false
namespace Go.AM
open Go.Proofs Go.Lib
abbrev kN (v:Int):Tkn:=⟨2,[],v,0⟩
abbrev kI (s:Bs):Tkn:=⟨1,s,0,0⟩
abbrev kS (s:Bs):Tkn:=⟨3,s,0,0⟩
def itOK (i:Itm):Prop:=(((i.k=1∨i.k=4∨i.k=5)∧i.n=0∧i.ls=[])∨(i.k=2∧i.n=0∧∃a,i.ls=[a])∨(i.k=3∧i.ls=[])∨(i.k=6∧i.ls≠[]))∧i.cs≠[]∨(i.k=0∧i.n=0∧i.ls≠[]∧∃a,i.cs=[a])
structure DrOK (d:Drf):Prop where
 cs:d.cs≠[]
 ls:d.ls≠[]
 is:∀i∈d.is,itOK i
end Go.AM
end
section
set_option maxRecDepth 20000
set_option linter.all false
namespace Go.AM
open Go.Proofs Go.Lib
structure OKL (x:Lma):Prop where
 nm:Bx x.nm=true
 lv:1≤x.lv∧x.lv≤8
 cs:x.cs.all Bx=true∧ER x.cs=true∧1≤x.cs.length∧x.cs.length≤4
 ls:x.ls.all Bx=true∧ER x.ls=true∧1≤x.ls.length∧x.ls.length≤3
 nq:x.qs.length≤6
 c:0≤x.c∧x.c<x.cs.length
 l:0≤x.l∧x.l<x.ls.length
 qs:∀q∈x.qs,condOK q x.cs.length x.ls.length=true
 ps:∀p∈x.ps,difI p.ls x.ls.length=true∧1≤p.ls.length
 pc:difI (x.ps.map (·.c)) x.cs.length=true
structure CndOK (q:Cnd) (nc nl:Nat):Prop where
 cs:difI q.cs nc=true
 ne:1≤q.cs.length
 ls:difI q.ls nl=true
 kind:((q.k=1∨q.k=4)∧2≤q.cs.length∧q.ls.length=0∧q.n=0)∨(q.k=2∧q.ls.length=1∧q.n=0)∨(q.k=3∧q.cs.length=2∧q.ls.length=0∧1≤q.n∧q.n≤99)∨(q.k=5∧q.cs.length=2∧q.ls.length=0∧q.n=0)∨(q.k=6∧1≤q.ls.length∧0≤q.n∧q.n≤q.cs.length)
end Go.AM
end
section
set_option maxRecDepth 20000
set_option linter.all false
namespace Go.AM
open Go.Proofs Go.Lib
end Go.AM
end
section
set_option maxRecDepth 20000
set_option linter.all false
namespace Go.AM
open Go.Proofs Go.Lib
theorem drop_one (a:Int):∀{l:List Int},ER l=true→l.length≤(l.filter fun k=>decide (k≠a)).length+1
 |[],h=>by simp
 |x::r,h=>by
  simp only[ER,Bool.and_eq_true,Bool.not_eq_true']at h
  rw[List.filter_cons]
  split
  ·have:=drop_one a h.2
   simp only[List.length_cons];omega
  ·rename_i hx
   have hx:x=a:=by simpa using hx
   subst hx
   have:r.filter (fun k=>decide (k≠x))=r:=List.filter_eq_self.2 fun y hy=>by
    have:=List.any_eq_false.1 h.1 y hy
    simpa using this
   rw[this];simp
end Go.AM
end
section
set_option maxRecDepth 20000
set_option linter.all false
namespace Go.AM
open Go.Proofs Go.Lib
theorem AJ {α β:Type} {x:Rs α} {f:α→List Tkn→Rs β} {b:β} {r:List Tkn} (h:x.bd f= .ok b r):∃a q,x= .ok a q∧f a q= .ok b r:=by
 cases x with
 |ok a q=>exact⟨a,q,rfl,h⟩
 |bad q=>cases h
end Go.AM
end
section
set_option maxRecDepth 20000
set_option linter.all false
namespace Go.AM
open Go.Proofs Go.Lib
end Go.AM
end
section
set_option maxRecDepth 20000
set_option linter.all false
namespace Go.AM
open Go.Proofs Go.Lib
end Go.AM
end
section
set_option maxRecDepth 20000
set_option linter.all false
namespace Go.AM
open Go.Proofs Go.Lib
structure GapOK (g:Bs):Prop where
 hd:∃c q,g=c::q∧spB c=true
 lx:∀m a,Go.AM.lx (g++m) a=Go.AM.lx m (a+g.length)
end Go.AM
end
