/-
  Declarations: the reference's reader, plainly · Declarations: the reference's reader does what the grammar says · Declarations: the reference's reader, its small steps · Declarations: the reference's reader, its lists · Declarations: the reference's reader, its larger steps · Declarations: the reference's reader, rules · Declarations: the reference's reader, symbols and regions · Declarations: the reference's reader, regions · Declarations: the reference's reader, whole · Declarations: the reference's Parse · Declarations: the reference's tokens · Declarations: the reference's tokens of rules and clues · Declarations: the reference's tokens of a declaration · Declarations: the reference's Tokens · Declarations: the reference's Bare.
  Conditions: none beyond those of its parts.
-/
import Derived.Test.YtbliialnfeoodaaGreatDoorB9
import Derived.Test.YtbliialnfeoodaaGreatDoorB8
import Derived.Test.YtbliialnfeoodaaGreatDoorB5
import Derived.Test.YtbliialnfeoodaaGreatDoorB6

section
set_option maxRecDepth 20000
set_option linter.all false
namespace Go.AM
open Go.Proofs Go.Lib
structure ZS (L:List Tkn) (e:Int) where
 n:Nat
 b:Bool
 le:n≤L.length
def zk {α:Type}:Bool→α→List Tkn→Rs α
 |true,_,r=>.bad r
 |false,a,r=>.ok a r
def gB {α:Type}:Bool→(List Tkn→Rs α)→List Tkn→Rs α
 |true,_,r=>.bad r
 |false,g,r=>g r
section
variable {L:List Tkn} {e:Int} {α β:Type}
def ZS.pl (s:ZS L e):Int:=if s.b=true then plc e (L.drop s.n)else 0
def zfail (s:ZS L e):ZS L e:=⟨s.n,true,s.le⟩
def zhd (f:Tkn→Bool) (s:ZS L e):Bool:=!s.b&&(match L[s.n]? with|some t=>f t|none=>false)
theorem zhd_lt {f:Tkn→Bool} {s:ZS L e} (h:zhd f s=true):s.n<L.length:=by
 unfold zhd at h
 rw[Bool.and_eq_true]at h
 rcases Nat.lt_or_ge s.n L.length with q|q
 ·exact q
 ·rw[List.getElem?_eq_none q]at h;exact absurd h.2 (by simp)
theorem zhd_b {f:Tkn→Bool} {s:ZS L e} (h:zhd f s=true):s.b=false:=by
 unfold zhd at h
 rw[Bool.and_eq_true]at h
 simpa using h.1
def zis (k:Int) (w:Bs):ZS L e→Bool:=zhd fun t=>decide (t.K=k)&&decide (t.T=w)
def zisNm:ZS L e→Bool:=zhd fun t=>decide (t.K=1)
def zisNb:ZS L e→Bool:=zhd fun t=>decide (t.K=2)&&decide (0≤t.N)&&decide (t.N≤65536)
def zone (f:Tkn→Bool) (v:Tkn→α) (z:α) (s:ZS L e):α×ZS L e:=if h:zhd f s=true then(v (L[s.n]'(zhd_lt h)),⟨s.n+1,s.b,zhd_lt h⟩)else(z,zfail s)
def zw (k:Int) (w:Bs):ZS L e→Unit×ZS L e:=zone (fun t=>decide (t.K=k)&&decide (t.T=w)) (fun _=>()) ()
def zname:ZS L e→Bs×ZS L e:=zone (fun t=>decide (t.K=1)) (fun t=>t.T) []
def znum:ZS L e→Int×ZS L e:=zone (fun t=>decide (t.K=2)&&decide (0≤t.N)&&decide (t.N≤65536)) (fun t=>t.N) 0
def zret (a:α) (s:ZS L e):α×ZS L e:=(a,s)
def zbd (f:ZS L e→α×ZS L e) (K:α→ZS L e→β×ZS L e) (s:ZS L e):β×ZS L e:=K (f s).1 (f s).2
def zif (w:Bs) (f g:ZS L e→α×ZS L e) (s:ZS L e):α×ZS L e:=if zis 1 w s=true then f s else g s
def zwhile (t:ZS L e→Bool) (f:ZS L e→α×ZS L e):Nat→ZS L e→List α×ZS L e
 |0,s=>([],s)
 |k+1,s=>if t s=true then((f s).1::(zwhile t f k (f s).2).1,(zwhile t f k (f s).2).2)else([],s)
def zloop (t:ZS L e→Bool) (f:ZS L e→α×ZS L e) (s:ZS L e):List α×ZS L e:=zwhile t f (L.length-s.n+1) s
def Zm (f:ZS L e→α×ZS L e):Prop:=∀s,s.n≤(f s).2.n
theorem Zm.one (f:Tkn→Bool) (v:Tkn→α) (z:α):Zm (zone (L:=L) (e:=e) f v z):=fun s=>by
 unfold zone
 split
 ·exact Nat.le_succ _
 ·exact Nat.le_refl _
def Zr (f:ZS L e→α×ZS L e) (g:List Tkn→Rs α):Prop:=∀s,gB s.b g (L.drop s.n)=zk (f s).2.b (f s).1 (L.drop (f s).2.n)
theorem Zr.fn {f f':ZS L e→α×ZS L e} {g:List Tkn→Rs α} (h:Zr f g) (e:∀s,f s=f' s):Zr f' g:=(funext e:f=f')▸h
theorem Zr.one {p:Tkn→Bool} {v:Tkn→α} {z:α} {g:List Tkn→Rs α} (h1:g []= .bad []) (h2:∀t∈L,∀r,g (t::r)=if p t=true then .ok (v t) r else .bad (t::r)):Zr (zone (L:=L) (e:=e) p v z) g:=fun s=>by
 unfold zone
 by_cases h:zhd p s=true
 ·rw[dif_pos h]
  have hb:=zhd_b h
  have hl:=zhd_lt h
  have hp:p L[s.n]=true:=by
   unfold zhd at h
   rw[List.getElem?_eq_getElem hl,Bool.and_eq_true]at h;exact h.2
  rw[hb,List.drop_eq_getElem_cons hl]
  show g _= .ok _ _
  rw[h2 _ (List.getElem_mem hl),if_pos hp]
 ·rw[dif_neg h]
  show gB s.b g _= .bad _
  cases hb:s.b with
  |true=>rfl
  |false=>
   show g _=_
   rcases Nat.lt_or_ge s.n L.length with hl|hl
   ·rw[List.drop_eq_getElem_cons hl]
    show g _= .bad (L.drop s.n)
    rw[h2 _ (List.getElem_mem hl),if_neg,List.drop_eq_getElem_cons hl]
    intro hp
    exact h (by unfold zhd;rw[hb,List.getElem?_eq_getElem hl];exact hp)
   ·show g (L.drop s.n)= .bad (L.drop s.n)
    rw[List.drop_eq_nil_of_le hl];exact h1
def zlist (f:ZS L e→α×ZS L e):ZS L e→List α×ZS L e:=zbd f fun a=>zbd (zloop (zis 3 [44]) (zbd (zw 3 [44]) fun _=>f)) fun l=>zret (a::l)
def zset:ZS L e→List Bs×ZS L e:=zbd (zw 3 [123]) fun _=>zbd (zlist zname) fun ss=>zbd (zw 3 [125]) fun _=>zret ss
def zshape:ZS L e→Int×ZS L e:=zif wHex (zbd (zw 1 wHex) fun _=>zret 2) (zbd (zw 1 wSquare) fun _=>zret 1)
def zholes (h0:List Int):ZS L e→List Int×ZS L e:=zif wWout (zbd (zw 1 wWout) fun _=>zlist znum) (zret h0)
def zgrid (d:Dcl):ZS L e→Dcl×ZS L e:=zbd (zw 1 wGrid) fun _=>zbd zshape fun sh=>zbd znum fun w=>zbd (zw 1 wBy) fun _=>zbd znum fun h=>zbd (zholes d.holes) fun ho=>zbd (zw 3 [59]) fun _=>zret {d with sh:=sh,w:=w,h:=h,holes:=ho}
def zsym:ZS L e→DSym×ZS L e:=zbd zname fun s=>zbd (zw 3 [61]) fun _=>zbd znum fun v=>zret ⟨s,v⟩
def zsyms:ZS L e→List DSym×ZS L e:=zbd (zw 1 wSyms) fun _=>zbd (zlist zsym) fun l=>zbd (zw 3 [59]) fun _=>zret l
def zrl:ZS L e→List Int×ZS L e:=zbd (zlist znum) fun l=>zbd (zw 3 [59]) fun _=>zret l
def zreg:ZS L e→DReg×ZS L e:=zbd (zw 1 wRegs) fun _=>zbd zname fun s=>zbd (zw 3 [123]) fun _=>zbd (zloop zisNb zrl) fun ls=>zbd (zw 3 [125]) fun _=>zret ⟨s,ls⟩
def zclu:ZS L e→DClu×ZS L e:=zbd (zw 1 wClue) fun _=>zbd zname fun s=>zbd (zw 1 wOn) fun _=>zbd zname fun o=>
 zif wSym (zbd (zw 1 wSym) fun _=>zbd (zw 3 [59]) fun _=>zret ⟨s,o,0,1,0,0⟩)
  (zif wNumber (zbd (zw 1 wNumber) fun _=>zbd znum fun a=>zbd (zw 1 wTo) fun _=>zbd znum fun b=>zbd (zw 3 [59]) fun _=>zret ⟨s,o,0,2,a,b⟩)
   (zbd (zw 1 wRuns) fun _=>zbd (zw 3 [59]) fun _=>zret ⟨s,o,0,3,0,0⟩))
def zop:ZS L e→Int×ZS L e:=zif wIs (zbd (zw 1 wIs) fun _=>zret 1) (zif wMost (zbd (zw 1 wMost) fun _=>zret 2) (zbd (zw 1 wLeast) fun _=>zret 3))
def zlim (x:DRul) (s:ZS L e):DRul×ZS L e:=if zisNm s=true then({x with byN:=(zname s).1},(zname s).2)else({x with n:=(znum s).1},(znum s).2)
def zbound (x:DRul):ZS L e→DRul×ZS L e:=zbd zop fun o=>zlim {x with op:=o}
def zeach (x:DRul):ZS L e→DRul×ZS L e:=
 zif wDiff (zbd (zw 1 wDiff) fun _=>zret {x with kind:=1})
 (zif wCount (zbd (zw 1 wCount) fun _=>zbd zset fun ss=>zbound {x with kind:=2,ns:=ss})
 (zif wSum (zbd (zw 1 wSum) fun _=>zbound {x with kind:=3})
 (zif wRise (zbd (zw 1 wRise) fun _=>zret {x with kind:=4})
 (zbd (zw 1 wRuns) fun _=>zbd zset fun ss=>zbd (zw 1 wBy) fun _=>zbd zname fun s=>zret {x with kind:=5,ns:=ss,byN:=s}))))
def zbody (x:DRul):ZS L e→DRul×ZS L e:=
 zif wEach (zbd (zw 1 wEach) fun _=>zbd zname fun s=>zeach {x with on:=s})
 (zif wUnlike (zbd (zw 1 wUnlike) fun _=>zret {x with kind:=6})
 (zif wApart (zbd (zw 1 wApart) fun _=>zbd znum fun n=>zret {x with kind:=7,n:=n})
 (zif wNot (zbd (zw 1 wNot) fun _=>zbd zset fun ss=>zbd (zw 1 wBeside) fun _=>zbd zset fun os=>zret {x with kind:=8,ns:=ss,os:=os})
 (zif wConn (zbd (zw 1 wConn) fun _=>zbd zset fun ss=>zret {x with kind:=9,ns:=ss})
 (zif wLoop (zbd (zw 1 wLoop) fun _=>zbd zset fun ss=>zret {x with kind:=10,ns:=ss})
 (zif wGiven (zbd (zw 1 wGiven) fun _=>zbd zname fun s=>zret {x with kind:=11,byN:=s})
 (zif wFill (zbd (zw 1 wFill) fun _=>zbd zname fun s=>zret {x with kind:=12,on:=s})
 (zbd (zw 1 wSteps) fun _=>zbound {x with kind:=13}))))))))
def zrule:ZS L e→DRul×ZS L e:=zbd (zw 1 wRule) fun _=>zbd zname fun s=>zbd (zw 3 [58]) fun _=>zbd (zbody {rul0 with nm:=s}) fun x=>zbd (zw 3 [59]) fun _=>zret x
def zend (d:Dcl) (s:ZS L e):Dcl×ZS L e:=if s.n<L.length then(d,if s.b=true then s else zfail s)else(d,s)
def zread:ZS L e→Dcl×ZS L e:=zbd (zw 1 wKind) fun _=>zbd zname fun nm=>zbd (zw 1 wVers) fun _=>zbd znum fun v=>zbd (zw 3 [123]) fun _=>zbd (zgrid ⟨nm,v,0,0,0,[],[],[],[],[]⟩) fun d=>zbd zsyms fun ss=>
 zbd (zloop (zis 1 wRegs) zreg) fun rs=>zbd (zloop (zis 1 wClue) zclu) fun cs=>zbd (zloop (zis 1 wRule) zrule) fun us=>zbd (zw 3 [125]) fun _=>zend {d with syms:=ss,regs:=rs,clus:=cs,ruls:=us}
end
end Go.AM
end
section
set_option maxRecDepth 20000
set_option linter.all false
namespace Go.AM
open Go.Proofs Go.Lib
section
variable {L:List Tkn} {e:Int} {α β:Type}
variable (hv:Vd L)
include hv
omit hv
include hv
end
end Go.AM
end
section
set_option maxRecDepth 20000
set_option linter.all false
namespace Go.AM
open Go.Proofs Go.Lib
theorem scmp_eqZ (s t:Bs):scmp .eql s t=decide (s=t):=rfl
abbrev pvZ {L:List Tkn} {e:Int} (s:ZS L e):AVal:=.agg [.sl (.none 4) (L.map encK),.int .i64 s.n,.int .i64 e,.bool s.b,.int .i64 s.pl]
def decPS (L:List Tkn) (e:Int):AVal→ZS L e
 | .agg [_,.int _ n,_,.bool b,_]=>if h:n.toNat≤L.length then⟨n.toNat,b,h⟩else⟨0,false,Nat.zero_le _⟩
 |_=>⟨0,false,Nat.zero_le _⟩
section
variable {L:List Tkn} {e:Int}
theorem decPS_enc (s:ZS L e):decPS L e (pvZ s)=s:=by
 obtain⟨n,b,h⟩:=s
 show(if h:((n:Int)).toNat≤L.length then _ else _)=_
 rw[dif_pos (by simpa using h)]
 simp
def dZ (L:List Tkn) (e:Int):Dc (ZS L e):=dEx pvZ (decPS L e)
theorem dZ_ok (s:ZS L e):(dZ L e).ok (.agg [.sl (.none 4) (L.map encK),.int .i64 s.n,.int .i64 e,.bool s.b,.int .i64 s.pl])=True:=eq_true (by show pvZ s=pvZ (decPS L e (pvZ s));rw[decPS_enc])
theorem dZ_dec (s:ZS L e):(dZ L e).dec (.agg [.sl (.none 4) (L.map encK),.int .i64 s.n,.int .i64 e,.bool s.b,.int .i64 s.pl])=s:=decPS_enc s
variable (hl:few L)
include hl
omit hl
include hl
omit hl
include hl
end
end Go.AM
end
section
set_option maxRecDepth 20000
set_option linter.all false
namespace Go.AM
open Go.Proofs Go.Lib
section
variable {L:List Tkn} {e:Int}
def Tzs (L:List Tkn) (e:Int):Tab:=tadd 64 (s2 (dZ L e) dS (fun _ _=>True) fun s w=>pvZ (zw 1 w s).2) (tadd 67 (s2 (dZ L e) dS (fun _ _=>True) fun s w=>pvZ (zw 3 w s).2)
 (tadd 69 (s2 (dZ L e) dS (fun _ _=>True) fun s w=>.bool (zis 1 w s)) (tadd 112 (s2 (dZ L e) dS (fun _ _=>True) fun s w=>.bool (zis 3 w s))
 (tadd 107 (s1 (dZ L e) (fun _=>True) fun s=>.bool (zisNm s)) (tadd 109 (s1 (dZ L e) (fun _=>True) fun s=>.bool (zisNb s))
 (tadd 63 (s1 (dZ L e) (fun _=>True) fun s=>.tup [.str (zname s).1,pvZ (zname s).2]) (tadd 65 (s1 (dZ L e) (fun _=>True) fun s=>.tup [.int .i64 (znum s).1,pvZ (znum s).2]) tnil)))))))
variable (a:List AVal) (H:AHeap)
theorem Tzs_w:Tzs L e 64 a H=s2 (dZ L e) dS (fun _ _=>True) (fun s w=>pvZ (zw 1 w s).2) a H:=rfl
theorem Tzs_g:Tzs L e 67 a H=s2 (dZ L e) dS (fun _ _=>True) (fun s w=>pvZ (zw 3 w s).2) a H:=rfl
theorem Tzs_iw:Tzs L e 69 a H=s2 (dZ L e) dS (fun _ _=>True) (fun s w=>.bool (zis 1 w s)) a H:=rfl
theorem Tzs_is:Tzs L e 112 a H=s2 (dZ L e) dS (fun _ _=>True) (fun s w=>.bool (zis 3 w s)) a H:=rfl
theorem Tzs_im:Tzs L e 107 a H=s1 (dZ L e) (fun _=>True) (fun s=>.bool (zisNm s)) a H:=rfl
theorem Tzs_ib:Tzs L e 109 a H=s1 (dZ L e) (fun _=>True) (fun s=>.bool (zisNb s)) a H:=rfl
theorem Tzs_nm:Tzs L e 63 a H=s1 (dZ L e) (fun _=>True) (fun s=>.tup [.str (zname s).1,pvZ (zname s).2]) a H:=rfl
theorem Tzs_nb:Tzs L e 65 a H=s1 (dZ L e) (fun _=>True) (fun s=>.tup [.int .i64 (znum s).1,pvZ (znum s).2]) a H:=rfl
end
structure VZ (L:List Tkn) (e:Int) (α:Type) where
 s:ZS L e
 acc:List α
 tk:Tok
 H:AHeap
 n:Nat
section
variable {L:List Tkn} {e:Int} {α:Type}
abbrev bxZ (s:ZS L e):AObj:=.box [.sl (.none 4) (L.map encK),.int .i64 s.n,.int .i64 e,.bool s.b,.int .i64 s.pl]
structure IZ (t:ZS L e→Bool) (f:ZS L e→α×ZS L e) (es i o lo:Nat) (s1:ZS L e) (zo:List AVal) (v:VZ L e α):Prop where
 eq1:(zloop t f s1).1=v.acc++(zloop t f v.s).1
 eq2:(zloop t f s1).2=(zloop t f v.s).2
 len:v.acc.length≤v.s.n
 fr:Fresh v.H v.n
 hp:hget v.H i=some (bxZ v.s)
 ho:hget v.H o=some (.box zo)
 tok:tkG es lo v.H v.tk
 hn:lo≤v.n
 es:v.tk.esz=es
variable (hl:few L)
include hl
end
end Go.AM
end
section
set_option maxRecDepth 20000
set_option linter.all false
namespace Go.AM
open Go.Proofs Go.Lib
section
variable {L:List Tkn} {e:Int}
def Tzt (L:List Tkn) (e:Int):Tab:=tadd 110 (s1 (dZ L e) (fun _=>True) fun s=>.tup [eIs (zlist znum s).1,pvZ (zlist znum s).2]) (tadd 131 (s1 (dZ L e) (fun _=>True) fun s=>.tup [eSs (zset s).1,pvZ (zset s).2]) (Tzs L e))
variable (a:List AVal) (H:AHeap)
theorem Tzt_ns:Tzt L e 110 a H=s1 (dZ L e) (fun _=>True) (fun s=>.tup [eIs (zlist znum s).1,pvZ (zlist znum s).2]) a H:=rfl
theorem Tzt_st:Tzt L e 131 a H=s1 (dZ L e) (fun _=>True) (fun s=>.tup [eSs (zset s).1,pvZ (zset s).2]) a H:=rfl
theorem Tzt_w:Tzt L e 64 a H=s2 (dZ L e) dS (fun _ _=>True) (fun s w=>pvZ (zw 1 w s).2) a H:=rfl
theorem Tzt_g:Tzt L e 67 a H=s2 (dZ L e) dS (fun _ _=>True) (fun s w=>pvZ (zw 3 w s).2) a H:=rfl
theorem Tzt_iw:Tzt L e 69 a H=s2 (dZ L e) dS (fun _ _=>True) (fun s w=>.bool (zis 1 w s)) a H:=rfl
theorem Tzt_is:Tzt L e 112 a H=s2 (dZ L e) dS (fun _ _=>True) (fun s w=>.bool (zis 3 w s)) a H:=rfl
theorem Tzt_im:Tzt L e 107 a H=s1 (dZ L e) (fun _=>True) (fun s=>.bool (zisNm s)) a H:=rfl
theorem Tzt_ib:Tzt L e 109 a H=s1 (dZ L e) (fun _=>True) (fun s=>.bool (zisNb s)) a H:=rfl
theorem Tzt_nm:Tzt L e 63 a H=s1 (dZ L e) (fun _=>True) (fun s=>.tup [.str (zname s).1,pvZ (zname s).2]) a H:=rfl
theorem Tzt_nb:Tzt L e 65 a H=s1 (dZ L e) (fun _=>True) (fun s=>.tup [.int .i64 (znum s).1,pvZ (znum s).2]) a H:=rfl
end
section
variable {L:List Tkn} {e:Int} (hl:few L)
include hl
end
end Go.AM
end
section
set_option maxRecDepth 20000
set_option linter.all false
namespace Go.AM
open Go.Proofs Go.Lib
section
variable {nm on bn:Bs} {kd fam set oth op vn clue:Int} {ns os:List Bs}
theorem dRu_okX:dRu.ok (.agg [.str nm,.str on,.int .i64 kd,.int .i64 fam,.sl (.none 1) (ns.map .str),.sl (.none 1) (os.map .str),.int .i64 set,.int .i64 oth,.int .i64 op,.int .i64 vn,.str bn,.int .i64 clue])=True:=dRu_ok ⟨nm,on,kd,fam,ns,os,set,oth,op,vn,bn,clue⟩
theorem dRu_decX:dRu.dec (.agg [.str nm,.str on,.int .i64 kd,.int .i64 fam,.sl (.none 1) (ns.map .str),.sl (.none 1) (os.map .str),.int .i64 set,.int .i64 oth,.int .i64 op,.int .i64 vn,.str bn,.int .i64 clue])=⟨nm,on,kd,fam,ns,os,set,oth,op,vn,bn,clue⟩:=dRu_dec ⟨nm,on,kd,fam,ns,os,set,oth,op,vn,bn,clue⟩
theorem dRu_dec0:dRu.dec (.agg [.str nm,.str [],.int .i64 0,.int .i64 0,.sl .nil [],.sl .nil [],.int .i64 0,.int .i64 0,.int .i64 0,.int .i64 0,.str [],.int .i64 0])={rul0 with nm:=nm}:=rfl
theorem dRu_ok0:dRu.ok (.agg [.str nm,.str [],.int .i64 0,.int .i64 0,.sl .nil [],.sl .nil [],.int .i64 0,.int .i64 0,.int .i64 0,.int .i64 0,.str [],.int .i64 0])=True:=eq_true (by
 show Wk _ (encRu (dRu.dec _))
 rw[dRu_dec0]
 exact Wk.agg (.cons (Wk.refl _) (.cons (Wk.refl _) (.cons (Wk.refl _) (.cons (Wk.refl _) (.cons (Wk.sl (.inr rfl)) (.cons (Wk.sl (.inr rfl)) (.cons (Wk.refl _) (.cons (Wk.refl _) (.cons (Wk.refl _) (.cons (Wk.refl _) (.cons (Wk.refl _) (.cons (Wk.refl _) .nil)))))))))))))
end
section
variable {L:List Tkn} {e:Int}
def Tzu (L:List Tkn) (e:Int):Tab:=(tadd 132 (s2 dRu (dZ L e) (fun _ _=>True) (fun x s=>.tup [encRu (zbound x s).1,pvZ (zbound x s).2])) (tadd 111 (s1 (dZ L e) (fun _=>True) (fun s=>.tup [encSy (zsym s).1,pvZ (zsym s).2])) (Tzt L e)))
variable (a:List AVal) (H:AHeap)
end
section
variable {L:List Tkn} {e:Int} (hl:few L)
include hl
end
section
variable {L:List Tkn} {e:Int}
def Tzv (L:List Tkn) (e:Int):Tab:=(tadd 130 (s2 dRu (dZ L e) (fun _ _=>True) (fun x s=>.tup [encRu (zeach x s).1,pvZ (zeach x s).2])) (Tzu L e))
variable (a:List AVal) (H:AHeap)
end
section
variable {L:List Tkn} {e:Int} (hl:few L)
include hl
end
section
variable {L:List Tkn} {e:Int}
def Tzx (L:List Tkn) (e:Int):Tab:=(tadd 114 (s2 dRu (dZ L e) (fun _ _=>True) (fun x s=>.tup [encRu (zbody x s).1,pvZ (zbody x s).2])) (Tzv L e))
variable (a:List AVal) (H:AHeap)
theorem Tzx_by:Tzx L e 114 a H=s2 dRu (dZ L e) (fun _ _=>True) (fun x s=>.tup [encRu (zbody x s).1,pvZ (zbody x s).2]) a H:=rfl
theorem Tzx_ea:Tzx L e 130 a H=s2 dRu (dZ L e) (fun _ _=>True) (fun x s=>.tup [encRu (zeach x s).1,pvZ (zeach x s).2]) a H:=rfl
theorem Tzx_bd:Tzx L e 132 a H=s2 dRu (dZ L e) (fun _ _=>True) (fun x s=>.tup [encRu (zbound x s).1,pvZ (zbound x s).2]) a H:=rfl
theorem Tzx_sy:Tzx L e 111 a H=s1 (dZ L e) (fun _=>True) (fun s=>.tup [encSy (zsym s).1,pvZ (zsym s).2]) a H:=rfl
theorem Tzx_w:Tzx L e 64 a H=s2 (dZ L e) dS (fun _ _=>True) (fun s w=>pvZ (zw 1 w s).2) a H:=rfl
theorem Tzx_g:Tzx L e 67 a H=s2 (dZ L e) dS (fun _ _=>True) (fun s w=>pvZ (zw 3 w s).2) a H:=rfl
theorem Tzx_iw:Tzx L e 69 a H=s2 (dZ L e) dS (fun _ _=>True) (fun s w=>.bool (zis 1 w s)) a H:=rfl
theorem Tzx_is:Tzx L e 112 a H=s2 (dZ L e) dS (fun _ _=>True) (fun s w=>.bool (zis 3 w s)) a H:=rfl
theorem Tzx_im:Tzx L e 107 a H=s1 (dZ L e) (fun _=>True) (fun s=>.bool (zisNm s)) a H:=rfl
theorem Tzx_ib:Tzx L e 109 a H=s1 (dZ L e) (fun _=>True) (fun s=>.bool (zisNb s)) a H:=rfl
theorem Tzx_nm:Tzx L e 63 a H=s1 (dZ L e) (fun _=>True) (fun s=>.tup [.str (zname s).1,pvZ (zname s).2]) a H:=rfl
theorem Tzx_nb:Tzx L e 65 a H=s1 (dZ L e) (fun _=>True) (fun s=>.tup [.int .i64 (znum s).1,pvZ (znum s).2]) a H:=rfl
theorem Tzx_ns:Tzx L e 110 a H=s1 (dZ L e) (fun _=>True) (fun s=>.tup [eIs (zlist znum s).1,pvZ (zlist znum s).2]) a H:=rfl
theorem Tzx_st:Tzx L e 131 a H=s1 (dZ L e) (fun _=>True) (fun s=>.tup [eSs (zset s).1,pvZ (zset s).2]) a H:=rfl
end
section
variable {L:List Tkn} {e:Int} (hl:few L)
include hl
end
end Go.AM
end
section
set_option maxRecDepth 20000
set_option linter.all false
namespace Go.AM
open Go.Proofs Go.Lib
section
variable {L:List Tkn} {e:Int} {α:Type}
theorem IZ.set {t:ZS L e→Bool} {f:ZS L e→α×ZS L e} {es i o lo j:Nat} {s1 sa:ZS L e} {zo cs:List AVal} {acc:List α} {tk:Tok} {H1:AHeap} {n1:Nat} (h:IZ t f es i o lo s1 zo ⟨sa,acc,tk,H1,n1⟩) (h1:j<lo) (h2:j≠i) (h3:j≠o):IZ t f es i o lo s1 zo ⟨sa,acc,tk,hset H1 j (.box cs),n1⟩:=by
 obtain⟨e1,e2,hlen,hfr,hp,ho,htk,hn,hes⟩:=h
 simp only at e1 e2 hlen hfr hp ho htk hn hes
 exact⟨e1,e2,hlen,hfr.hset (Nat.le_refl _) (show j<n1 by omega),by simp only[];rw[hget_hset_ne _ _ _ _ h2];exact hp,by simp only[];rw[hget_hset_ne _ _ _ _ h3];exact ho,htk.set (.inl h1),hn,hes⟩
structure IY (t:ZS L e→Bool) (f:ZS L e→α×ZS L e) (es:Nat) (enc:α→AVal) (mk:AVal→List AVal) (s1:ZS L e) (H0:AHeap) (v:VZ L e α):Prop where
 eq1:(zloop t f s1).1=v.acc++(zloop t f v.s).1
 eq2:(zloop t f s1).2=(zloop t f v.s).2
 len:v.acc.length≤v.s.n
 fr:Fresh v.H v.n
 hp:hget v.H 0=some (bxZ v.s)
 hx:hget v.H 4=some (.box (mk (.sl v.tk (v.acc.map enc))))
 hk1:hget v.H 1=hget H0 1
 hk2:hget v.H 2=hget H0 2
 tok:tkG es 5 v.H v.tk
 hn:5≤v.n
 es:v.tk.esz=es∨v.acc=[]
variable (hl:few L)
include hl
end
end Go.AM
end
section
set_option maxRecDepth 20000
set_option linter.all false
namespace Go.AM
open Go.Proofs Go.Lib
section
variable {L:List Tkn} {e:Int} {α:Type}
variable (hl:few L)
include hl
end
end Go.AM
end
section
set_option maxRecDepth 20000
set_option linter.all false
namespace Go.AM
open Go.Proofs Go.Lib
abbrev encG (d:Dcl):AVal:=.agg [.str d.nm,.int .i64 d.ver,.int .i64 d.sh,.int .i64 d.w,.int .i64 d.h,eIs d.holes,.sl .nil [],.sl .nil [],.sl .nil [],.sl .nil []]
abbrev encG0 (x:Bs×Int):AVal:=.agg [.str x.1,.int .i64 x.2,.int .i64 0,.int .i64 0,.int .i64 0,.sl .nil [],.sl .nil [],.sl .nil [],.sl .nil [],.sl .nil []]
def decG0:AVal→Bs×Int
 | .agg (.str a:: .int _ b::_)=>(a,b)
 |_=>([],0)
def dG0:Dc (Bs×Int):=dEx encG0 decG0
theorem dG0_ok (a:Bs) (b:Int):dG0.ok (.agg [.str a,.int .i64 b,.int .i64 0,.int .i64 0,.int .i64 0,.sl .nil [],.sl .nil [],.sl .nil [],.sl .nil [],.sl .nil []])=True:=eq_true rfl
theorem dG0_dec (a:Bs) (b:Int):dG0.dec (.agg [.str a,.int .i64 b,.int .i64 0,.int .i64 0,.int .i64 0,.sl .nil [],.sl .nil [],.sl .nil [],.sl .nil [],.sl .nil []])=(a,b):=rfl
abbrev dG (x:Bs×Int):Dcl:=⟨x.1,x.2,0,0,0,[],[],[],[],[]⟩
section
variable {L:List Tkn} {e:Int} (hl:few L)
include hl
end
section
variable {L:List Tkn} {e:Int}
def Tzy (L:List Tkn) (e:Int):Tab:=(tadd 66 (s2 dG0 (dZ L e) (fun _ _=>True) (fun x s=>.tup [encG (zgrid (dG x) s).1,pvZ (zgrid (dG x) s).2])) (tadd 73 (s1 (dZ L e) (fun _=>True) (fun s=>pvZ (zfail s))) (tadd 68 (s1 (dZ L e) (fun _=>True) (fun s=>.tup [eSys (zsyms s).1,pvZ (zsyms s).2])) (tadd 70 (s1 (dZ L e) (fun _=>True) (fun s=>.tup [encRg (zreg s).1,pvZ (zreg s).2])) (tadd 71 (s1 (dZ L e) (fun _=>True) (fun s=>.tup [encCl (zclu s).1,pvZ (zclu s).2])) (tadd 72 (s1 (dZ L e) (fun _=>True) (fun s=>.tup [encRu (zrule s).1,pvZ (zrule s).2])) (Tzx L e)))))))
variable (a:List AVal) (H:AHeap)
theorem Tzy_gd:Tzy L e 66 a H=s2 dG0 (dZ L e) (fun _ _=>True) (fun x s=>.tup [encG (zgrid (dG x) s).1,pvZ (zgrid (dG x) s).2]) a H:=rfl
theorem Tzy_fl:Tzy L e 73 a H=s1 (dZ L e) (fun _=>True) (fun s=>pvZ (zfail s)) a H:=rfl
theorem Tzy_ss:Tzy L e 68 a H=s1 (dZ L e) (fun _=>True) (fun s=>.tup [eSys (zsyms s).1,pvZ (zsyms s).2]) a H:=rfl
theorem Tzy_rg:Tzy L e 70 a H=s1 (dZ L e) (fun _=>True) (fun s=>.tup [encRg (zreg s).1,pvZ (zreg s).2]) a H:=rfl
theorem Tzy_cl:Tzy L e 71 a H=s1 (dZ L e) (fun _=>True) (fun s=>.tup [encCl (zclu s).1,pvZ (zclu s).2]) a H:=rfl
theorem Tzy_ru:Tzy L e 72 a H=s1 (dZ L e) (fun _=>True) (fun s=>.tup [encRu (zrule s).1,pvZ (zrule s).2]) a H:=rfl
theorem Tzy_w:Tzy L e 64 a H=s2 (dZ L e) dS (fun _ _=>True) (fun s w=>pvZ (zw 1 w s).2) a H:=rfl
theorem Tzy_g:Tzy L e 67 a H=s2 (dZ L e) dS (fun _ _=>True) (fun s w=>pvZ (zw 3 w s).2) a H:=rfl
theorem Tzy_iw:Tzy L e 69 a H=s2 (dZ L e) dS (fun _ _=>True) (fun s w=>.bool (zis 1 w s)) a H:=rfl
theorem Tzy_nm:Tzy L e 63 a H=s1 (dZ L e) (fun _=>True) (fun s=>.tup [.str (zname s).1,pvZ (zname s).2]) a H:=rfl
theorem Tzy_nb:Tzy L e 65 a H=s1 (dZ L e) (fun _=>True) (fun s=>.tup [.int .i64 (znum s).1,pvZ (znum s).2]) a H:=rfl
end
section
variable {L:List Tkn} {e:Int}
variable (hl:few L) {d:Dcl} {sb:ZS L e} {H:AHeap} {n:Nat} {v0 v1 v2 v3:AVal} {X:List (Nat×Bool×AVal)}
include hl
end
end Go.AM
end
section
set_option maxRecDepth 20000
set_option linter.all false
namespace Go.AM
open Go.Proofs Go.Lib
theorem lexV_allZ (src:Bs):(65536<src.length∧lexV src= .tup [.sl (.none 4) [],.int .i64 0,.int .i64 2]∧parseS src=⟨dcl0,0,2⟩)∨
  (src.length≤65536∧∃ts,Vd ts∧ts.length≤src.length∧parseS src=readS src.length ts∧lexV src= .tup [.sl (.none 4) (ts.map encK),.int .i64 0,.int .i64 0])∨
  (src.length≤65536∧∃a,lexV src= .tup [.sl (.none 4) [],.int .i64 a,.int .i64 100]∧parseS src=⟨dcl0,a,100⟩):=by
 unfold lexV
 split
 ·rename_i h;exact .inl ⟨h,rfl,by unfold parseS;rw[if_pos h]⟩
 ·rename_i h
  rw[lexR_lx]
  cases hr:lx src 0 with
  |ok a ts=>
   obtain⟨-,hv,-,hlen⟩:=lx_ok _ _ _ _ _ rfl hr
   exact .inr (.inl ⟨by omega,ts,all_vd.1 hv,hlen,by unfold parseS;rw[if_neg h,hr],rfl⟩)
  |err a=>exact .inr (.inr ⟨by omega,a,rfl,by unfold parseS;rw[if_neg h,hr]⟩)
def Tzp (L:List Tkn) (e:Int):Tab:=tadd 24 (s1 dS (fun x=>x.length<1000000000) fun x=>lexV x) (tadd 25 (s1 (dZ L e) (fun _=>True) fun s=>.tup [encD (zread s).1,pvZ (zread s).2]) tnil)
theorem Tzp_l {L:List Tkn} {e:Int} (a:List AVal) (H:AHeap):Tzp L e 24 a H=s1 dS (fun x=>x.length<1000000000) (fun x=>lexV x) a H:=rfl
theorem Tzp_r {L:List Tkn} {e:Int} (a:List AVal) (H:AHeap):Tzp L e 25 a H=s1 (dZ L e) (fun _=>True) (fun s=>.tup [encD (zread s).1,pvZ (zread s).2]) a H:=rfl
end Go.AM
end
section
set_option maxRecDepth 20000
set_option linter.all false
namespace Go.AM
open Go.Proofs Go.Lib
abbrev eTk (l:List Tkn):AVal:=.sl (.none 4) (l.map encK)
def Tpa:Tab:=tadd 80 (s2 dKs dS (fun w _=>w.length+1≤900000000) (fun w x=>eTk (w++[kI x]))) (tadd 81 (s2 dKs dS (fun w _=>w.length+1≤900000000) (fun w x=>eTk (w++[kS x]))) (tadd 82 (s2 dKs dI (fun w _=>w.length+1≤900000000) (fun w x=>eTk (w++[kN x]))) (tnil)))
def Tpb:Tab:=tadd 83 (s2 dKs dIs (fun w l=>w.length+(comT oneN l).length≤900000000) (fun w l=>eTk (w++comT oneN l))) (tadd 117 (s2 dKs dSs (fun w l=>w.length+(setT l).length≤900000000) (fun w l=>eTk (w++setT l))) (Tpa))
end Go.AM
end
section
set_option maxRecDepth 20000
set_option linter.all false
namespace Go.AM
open Go.Proofs Go.Lib
def Tpc:Tab:=tadd 116 (s2 dKs dRu (fun w x=>w.length+(bndT opF x.op x.n x.byN).length≤900000000) (fun w x=>eTk (w++bndT opF x.op x.n x.byN))) (Tpb)
end Go.AM
end
section
set_option maxRecDepth 20000
set_option linter.all false
namespace Go.AM
open Go.Proofs Go.Lib
theorem dCl_okX {a b:Bs} {c d e f:Int}:dCl.ok (.agg [.str a,.str b,.int .i64 c,.int .i64 d,.int .i64 e,.int .i64 f])=True:=dCl_ok ⟨a,b,c,d,e,f⟩
theorem dCl_decX {a b:Bs} {c d e f:Int}:dCl.dec (.agg [.str a,.str b,.int .i64 c,.int .i64 d,.int .i64 e,.int .i64 f])=⟨a,b,c,d,e,f⟩:=dCl_dec ⟨a,b,c,d,e,f⟩
def Tpd:Tab:=tadd 85 (s2 dKs dRu (fun w x=>w.length+(bodyT opF true x).length≤900000000) (fun w x=>eTk (w++bodyT opF true x))) (tadd 84 (s2 dKs dCl (fun w x=>w.length+(cluT x).length≤900000000) (fun w x=>eTk (w++cluT x))) (Tpc))
theorem Tpd_Body (a:List AVal) (H:AHeap):Tpd 85 a H=s2 dKs dRu (fun w x=>w.length+(bodyT opF true x).length≤900000000) (fun w x=>eTk (w++bodyT opF true x)) a H:=rfl
theorem Tpd_Clue (a:List AVal) (H:AHeap):Tpd 84 a H=s2 dKs dCl (fun w x=>w.length+(cluT x).length≤900000000) (fun w x=>eTk (w++cluT x)) a H:=rfl
theorem Tpd_Bound (a:List AVal) (H:AHeap):Tpd 116 a H=s2 dKs dRu (fun w x=>w.length+(bndT opF x.op x.n x.byN).length≤900000000) (fun w x=>eTk (w++bndT opF x.op x.n x.byN)) a H:=rfl
theorem Tpd_Numbers (a:List AVal) (H:AHeap):Tpd 83 a H=s2 dKs dIs (fun w l=>w.length+(comT oneN l).length≤900000000) (fun w l=>eTk (w++comT oneN l)) a H:=rfl
theorem Tpd_Set (a:List AVal) (H:AHeap):Tpd 117 a H=s2 dKs dSs (fun w l=>w.length+(setT l).length≤900000000) (fun w l=>eTk (w++setT l)) a H:=rfl
theorem Tpd_Word (a:List AVal) (H:AHeap):Tpd 80 a H=s2 dKs dS (fun w _=>w.length+1≤900000000) (fun w x=>eTk (w++[kI x])) a H:=rfl
theorem Tpd_Sign (a:List AVal) (H:AHeap):Tpd 81 a H=s2 dKs dS (fun w _=>w.length+1≤900000000) (fun w x=>eTk (w++[kS x])) a H:=rfl
theorem Tpd_Number (a:List AVal) (H:AHeap):Tpd 82 a H=s2 dKs dI (fun w _=>w.length+1≤900000000) (fun w x=>eTk (w++[kN x])) a H:=rfl
abbrev eT (w:List Tkn) (X:List (Nat×Bool×AVal)):List (Nat×Bool×AVal):=(1,true,.ptr 0 0)::(3,true,eTk w)::X
abbrev hT (d:Dcl):AHeap:=hset hnil 0 (.box (cellsD d))
section
variable {d:Dcl} {w tot:List Tkn} {X:List (Nat×Bool×AVal)}
end
end Go.AM
end
section
set_option maxRecDepth 20000
set_option linter.all false
namespace Go.AM
open Go.Proofs Go.Lib
end Go.AM
end
section
set_option maxRecDepth 20000
set_option linter.all false
namespace Go.AM
open Go.Proofs Go.Lib
structure VBr where
 i:Nat
 tk:Tok
 H:AHeap
 n:Nat
structure IBr (d:Dcl) (es len:Nat) (v:VBr):Prop where
 hi:v.i≤len
 fr:Fresh v.H v.n
 h0:hget v.H 0=some (.box (cellsD d))
 h1:hget v.H 1=some (.box zB)
 tok:tkG es 2 v.H v.tk
 es:v.tk.esz=es
 hn:2≤v.n
theorem IBr.next {d:Dcl} {es len i n k m:Nat} {tk:Tok} {H:AHeap} {cs:List AVal} (h:IBr d es len ⟨i,tk,H,n⟩) (hlt:i<len) (hk:5<k) (hm:k<m) (hnk:n≤n+k):IBr d es len ⟨i+1,.own (n+k) es,hset (killTok (hset H (n+5) (.box cs)) tk) (n+k) .tok,n+m⟩:=by
 obtain⟨hi,hf,h0,h1,ht,he,hn⟩:=h
 simp only at hi hf h0 h1 ht he hn
 have ht2:tkG es 2 (hset H (n+5) (.box cs)) tk:=ht.set (.inr (.inr (hf _ (by omega))))
 have hf2:Fresh (hset H (n+5) (.box cs)) (n+k):=hf.hset (by omega) (by omega)
 refine⟨hlt,(kill_fresh ht2 hf2).hset (by simp only[];omega) (by simp only[];omega),?_,?_,.inr (.inr ⟨_,rfl,by omega,hget_hset_eq ..⟩),rfl,by simp only[];omega⟩
 ·simp only[]
  rw[hget_hset_ne _ _ _ _ (by omega),kill_get ht2 (.inl (by decide)),hget_hset_ne _ _ _ _ (by omega)];exact h0
 ·simp only[]
  rw[hget_hset_ne _ _ _ _ (by omega),kill_get ht2 (.inl (by decide)),hget_hset_ne _ _ _ _ (by omega)];exact h1
theorem p17 (d:Dcl) (hc:few d.clus) (hr:few d.ruls):Pur Tryz.prog 17 [encD d] (encD (bareD d)):=by
 have hcl:d.clus.length<1000000000:=hc
 have hrl:d.ruls.length<1000000000:=hr
 refine .mk ⟨encD_under 0 d,trivial⟩ (encD_under 0 _) (a17 (ev_awp TabOK.tnil (ev_evK ?_)))
 simp only[eE,eN,reduceCtorEq,Nat.reduceEqDiff,↓reduceIte,Nat.reduceAdd,Nat.reduceLeDiff,Nat.reduceMul,c17]
 refine k_loop (fun v:VBr=>⟨[(1,true,.ptr 0 0),(2,true,.ptr 1 0),(3,true,.sl v.tk (((d.clus.take v.i).map bCl).map encCl)),(4,true,.int .i64 v.i)],v.H,v.n⟩) (IBr d 6 d.clus.length) (fun v=>d.clus.length-v.i)
  ⟨0,.exact 6,hset (hset hnil 0 (.box (cellsD d))) 1 (.box zB),2⟩ rfl ⟨Nat.zero_le _,?_,rfl,rfl,.inr (.inl rfl),rfl,Nat.le_refl _⟩ ?_
 ·intro id hid
  have:2≤id:=hid
  simp only[hget_hset]
  repeat rw[if_neg (by omega)]
  rfl
 rintro⟨i,tk,H1,n1⟩ hI
 have hI2:=hI
 obtain⟨hi,hf,h0,h1,ht,he,hn⟩:=hI2
 simp only at hi hf h0 h1 ht he hn
 by_cases hlt:i<d.clus.length
 case pos=>
  have hg:=List.getElem?_eq_getElem hlt
  have e:=w64_succ (k:=i) (by omega)
  have htk:=List.take_succ_eq_append_getElem hlt
  generalize d.clus[i]=x at hg htk
  have hN:=hI.next (k:=10) (m:=12) (cs:=[.str x.nm,.str x.on,.int .i64 0,.int .i64 x.ty,.int .i64 x.lo,.int .i64 x.hi]) hlt (by decide) (by decide) (by omega)
  have ht2:tkG 6 2 (hset H1 (n1+5) (.box [.str x.nm,.str x.on,.int .i64 0,.int .i64 x.ty,.int .i64 x.lo,.int .i64 x.hi])) tk:=ht.set (.inr (.inr (hf _ (by omega))))
  have q1:appOK (hset H1 (n1+5) (.box [.str x.nm,.str x.on,.int .i64 0,.int .i64 x.ty,.int .i64 x.lo,.int .i64 x.hi])) 6 tk=True:=eq_true ht2.app
  have hml:((d.clus.take i).map bCl).length=i:=by rw[List.length_map,List.length_take];omega
  have hml2:(d.clus.take i).length=i:=by rw[List.length_take];omega
  have q2:(i≤35184372088831)=True:=eq_true (by omega)
  have q3:small (i+1) 64=True:=eq_true (small_of (by omega) (by decide))
  have y0:(n1+5=0)=False:=eq_false (by omega)
  have y1:(n1+5=n1+10)=False:=eq_false (by omega)
  simp only[eE,eC,eN,reduceCtorEq,Nat.reduceEqDiff,↓reduceIte,Nat.reduceAdd,Nat.reduceLeDiff,Nat.reduceMul,Nat.reduceLT,Int.reduceEq,hset_hset,Option.getD_some,Int.toNat_natCast,Int.natCast_nonneg,List.length_map,List.getElem?_map,lt_T hlt,h0,hg,e,hml,q1,q2,q3,y1,fr1 hf]
  exact .mk ⟨i+1,.own (n1+10) 6,_,n1+12⟩ (by rw[htk];simp [bCl]) hN (by simp only[];omega)
 have hie:i=d.clus.length:=by omega
 subst hie
 simp only[List.take_length]
 simp only[eE,eC,eN,Nat.reduceEqDiff,↓reduceIte,Nat.reduceAdd,Nat.reduceLeDiff,Nat.reduceMul,List.length_map,lt_F hlt,h0]
 refine k_loop (fun v:VBr=>⟨[(1,true,.ptr 0 0),(2,true,.ptr 1 0),(3,true,.sl tk ((d.clus.map bCl).map encCl)),(6,true,.sl v.tk (((d.ruls.take v.i).map bRu).map encRu)),(7,true,.int .i64 v.i)],v.H,v.n⟩) (IBr d 12 d.ruls.length) (fun v=>d.ruls.length-v.i)
  ⟨0,.exact 12,H1,n1⟩ rfl ⟨Nat.zero_le _,hf,h0,h1,.inr (.inl rfl),rfl,hn⟩ ?_
 clear hlt hI hi
 rintro⟨i,tk2,H2,n2⟩ hI
 have hI2:=hI
 obtain⟨hi,hf2,h02,h12,ht2,he2,hn2⟩:=hI2
 simp only at hi hf2 h02 h12 ht2 he2 hn2
 by_cases hlt:i<d.ruls.length
 case pos=>
  have hg:=List.getElem?_eq_getElem hlt
  have e:=w64_succ (k:=i) (by omega)
  have htk:=List.take_succ_eq_append_getElem hlt
  generalize d.ruls[i]=x at hg htk
  have hN:=hI.next (k:=10) (m:=12) (cs:=cellsRu (bRu x)) hlt (by decide) (by decide) (by omega)
  have ht3:tkG 12 2 (hset H2 (n2+5) (.box (cellsRu (bRu x)))) tk2:=ht2.set (.inr (.inr (hf2 _ (by omega))))
  have q1:appOK (hset H2 (n2+5) (.box (cellsRu (bRu x)))) 12 tk2=True:=eq_true ht3.app
  have hml:((d.ruls.take i).map bRu).length=i:=by rw[List.length_map,List.length_take];omega
  have hml2:(d.ruls.take i).length=i:=by rw[List.length_take];omega
  have q2:(i≤35184372088831)=True:=eq_true (by omega)
  have q3:small (i+1) 152=True:=eq_true (small_of (by omega) (by decide))
  have y0:(n2+5=0)=False:=eq_false (by omega)
  have y1:(n2+5=n2+10)=False:=eq_false (by omega)
  simp only[bRu]at q1
  simp only[eE,eC,eN,reduceCtorEq,Nat.reduceEqDiff,↓reduceIte,Nat.reduceAdd,Nat.reduceLeDiff,Nat.reduceMul,Nat.reduceLT,Int.reduceEq,hset_hset,Option.getD_some,Int.toNat_natCast,Int.natCast_nonneg,List.length_map,List.getElem?_map,lt_T hlt,h02,hg,e,hml,q1,q2,q3,y1,fr1 hf2]
  exact .mk ⟨i+1,.own (n2+10) 12,_,n2+12⟩ (by rw[htk];simp [bRu]) hN (by simp only[];omega)
 have hie:i=d.ruls.length:=by omega
 subst hie
 simp only[List.take_length]
 simp only[eE,eC,eN,reduceCtorEq,Nat.reduceEqDiff,↓reduceIte,Nat.reduceAdd,Nat.reduceLeDiff,rcell,hset_hset,List.length_map,lt_F hlt,h02,h12]
 exact Wk.agg (.cons (Wk.refl _) (.cons (Wk.refl _) (.cons (Wk.refl _) (.cons (Wk.refl _) (.cons (Wk.refl _) (.cons (Wk.refl _) (.cons (Wk.refl _) (.cons (Wk.refl _) (.cons (Wk.sl (.inl he)) (.cons (Wk.sl (.inl he2)) .nil))))))))))
end Go.AM
end
