/-
  Declarations: the reference's reader, plainly · Declarations: the reference's reader does what the grammar says · Declarations: the reference's reader, its small steps · Declarations: the reference's reader, its lists · Declarations: the reference's reader, its larger steps · Declarations: the reference's reader, rules · Declarations: the reference's reader, symbols and regions · Declarations: the reference's reader, regions · Declarations: the reference's reader, whole · Declarations: the reference's Parse · Declarations: the reference's tokens · Declarations: the reference's tokens of rules and clues · Declarations: the reference's tokens of a declaration · Declarations: the reference's Tokens · Declarations: the reference's Bare.
  Conditions: none beyond those of its parts.
-/
import Derived.Test.YtbliialnfeoodaaGreatDoorB9
import Derived.Test.YtbliialnfeoodaaGreatDoorB8
import Derived.Test.YtbliialnfeoodaaGreatDoorB5
import Derived.Test.YtbliialnfeoodaaGreatDoorB6

section
set_option maxRecDepth 20000
set_option linter.all false
namespace Go.AM
open Go.Proofs Go.Lib
structure ZS (L:List Tkn) (e:Int) where
 n:Nat
 b:Bool
 le:n≤L.length
def zk {α:Type}:Bool→α→List Tkn→Rs α
 |true,_,r=>.bad r
 |false,a,r=>.ok a r
def gB {α:Type}:Bool→(List Tkn→Rs α)→List Tkn→Rs α
 |true,_,r=>.bad r
 |false,g,r=>g r
section
variable {L:List Tkn} {e:Int} {α β:Type}
def ZS.pl (s:ZS L e):Int:=if s.b=true then plc e (L.drop s.n)else 0
def zfail (s:ZS L e):ZS L e:=⟨s.n,true,s.le⟩
def zhd (f:Tkn→Bool) (s:ZS L e):Bool:=!s.b&&(match L[s.n]? with|some t=>f t|none=>false)
theorem zhd_lt {f:Tkn→Bool} {s:ZS L e} (h:zhd f s=true):s.n<L.length:=by
 unfold zhd at h
 rw[Bool.and_eq_true]at h
 rcases Nat.lt_or_ge s.n L.length with q|q
 ·exact q
 ·rw[List.getElem?_eq_none q]at h;exact absurd h.2 (by simp)
theorem zhd_b {f:Tkn→Bool} {s:ZS L e} (h:zhd f s=true):s.b=false:=by
 unfold zhd at h
 rw[Bool.and_eq_true]at h
 simpa using h.1
def zis (k:Int) (w:Bs):ZS L e→Bool:=zhd fun t=>decide (t.K=k)&&decide (t.T=w)
def zisNm:ZS L e→Bool:=zhd fun t=>decide (t.K=1)
def zisNb:ZS L e→Bool:=zhd fun t=>decide (t.K=2)&&decide (0≤t.N)&&decide (t.N≤65536)
def zone (f:Tkn→Bool) (v:Tkn→α) (z:α) (s:ZS L e):α×ZS L e:=if h:zhd f s=true then(v (L[s.n]'(zhd_lt h)),⟨s.n+1,s.b,zhd_lt h⟩)else(z,zfail s)
def zw (k:Int) (w:Bs):ZS L e→Unit×ZS L e:=zone (fun t=>decide (t.K=k)&&decide (t.T=w)) (fun _=>()) ()
def zname:ZS L e→Bs×ZS L e:=zone (fun t=>decide (t.K=1)) (fun t=>t.T) []
def znum:ZS L e→Int×ZS L e:=zone (fun t=>decide (t.K=2)&&decide (0≤t.N)&&decide (t.N≤65536)) (fun t=>t.N) 0
def zret (a:α) (s:ZS L e):α×ZS L e:=(a,s)
def zbd (f:ZS L e→α×ZS L e) (K:α→ZS L e→β×ZS L e) (s:ZS L e):β×ZS L e:=K (f s).1 (f s).2
def zif (w:Bs) (f g:ZS L e→α×ZS L e) (s:ZS L e):α×ZS L e:=if zis 1 w s=true then f s else g s
def zwhile (t:ZS L e→Bool) (f:ZS L e→α×ZS L e):Nat→ZS L e→List α×ZS L e
 |0,s=>([],s)
 |k+1,s=>if t s=true then((f s).1::(zwhile t f k (f s).2).1,(zwhile t f k (f s).2).2)else([],s)
def zloop (t:ZS L e→Bool) (f:ZS L e→α×ZS L e) (s:ZS L e):List α×ZS L e:=zwhile t f (L.length-s.n+1) s
def Zm (f:ZS L e→α×ZS L e):Prop:=∀s,s.n≤(f s).2.n
def Zi (t:ZS L e→Bool) (f:ZS L e→α×ZS L e):Prop:=∀s,t s=true→s.n<(f s).2.n
theorem zwhile_fuel {t:ZS L e→Bool} {f:ZS L e→α×ZS L e} (h:Zi t f):∀(k j:Nat) (s:ZS L e),L.length-s.n<k→L.length-s.n<j→zwhile t f k s=zwhile t f j s
 |0,_,_,h1,_=>by omega
 |_+1,0,_,_,h2=>by omega
 |k+1,j+1,s,h1,h2=>by
  unfold zwhile
  by_cases hs:t s=true
  ·rw[if_pos hs,if_pos hs]
   have h3:=h s hs
   have h4:=(f s).2.le
   rw[zwhile_fuel h k j (f s).2 (by omega) (by omega)]
  ·rw[if_neg hs,if_neg hs]
theorem zloop_yes {t:ZS L e→Bool} {f:ZS L e→α×ZS L e} (h:Zi t f) {s:ZS L e} (hs:t s=true):zloop t f s=((f s).1::(zloop t f (f s).2).1,(zloop t f (f s).2).2):=by
 have h3:=h s hs
 have h4:=(f s).2.le
 unfold zloop
 rw[zwhile,if_pos hs,zwhile_fuel h (L.length-s.n) (L.length-(f s).2.n+1) (f s).2 (by omega) (by omega)]
theorem zloop_no {t:ZS L e→Bool} {f:ZS L e→α×ZS L e} {s:ZS L e} (hs:¬t s=true):zloop t f s=([],s):=by
 unfold zloop
 rw[zwhile,if_neg hs]
theorem Zm.one (f:Tkn→Bool) (v:Tkn→α) (z:α):Zm (zone (L:=L) (e:=e) f v z):=fun s=>by
 unfold zone
 split
 ·exact Nat.le_succ _
 ·exact Nat.le_refl _
theorem Zm.ret (a:α):Zm (zret (L:=L) (e:=e) a):=fun s=>Nat.le_refl _
theorem Zm.bd {f:ZS L e→α×ZS L e} {K:α→ZS L e→β×ZS L e} (h:Zm f) (k:∀a,Zm (K a)):Zm (zbd f K):=fun s=>Nat.le_trans (h s) (k _ _)
theorem Zm.if {w:Bs} {f g:ZS L e→α×ZS L e} (h:Zm f) (k:Zm g):Zm (zif w f g):=fun s=>by
 unfold zif
 split
 ·exact h s
 ·exact k s
theorem Zm.loop {t:ZS L e→Bool} {f:ZS L e→α×ZS L e} (h:Zm f):Zm (zloop t f):=fun s=>by
 have:∀k (s:ZS L e),s.n≤(zwhile t f k s).2.n:=fun k=>by
  induction k with
  |zero=>intro s;exact Nat.le_refl _
  |succ k ih=>
   intro s
   unfold zwhile
   split
   ·exact Nat.le_trans (h s) (ih _)
   ·exact Nat.le_refl _
 exact this _ s
def Zr (f:ZS L e→α×ZS L e) (g:List Tkn→Rs α):Prop:=∀s,gB s.b g (L.drop s.n)=zk (f s).2.b (f s).1 (L.drop (f s).2.n)
theorem Zr.ret (a:α):Zr (zret (L:=L) (e:=e) a) (Rs.ok a):=fun s=>by
 show gB s.b _ _=zk s.b a (L.drop s.n)
 cases s.b<;>rfl
theorem Zr.bd {f:ZS L e→α×ZS L e} {g:List Tkn→Rs α} {K:α→ZS L e→β×ZS L e} {G:α→List Tkn→Rs β} (h:Zr f g) (k:∀a,Zr (K a) (G a)):Zr (zbd f K) fun l=>(g l).bd (G):=fun s=>by
 have h1:=h s
 have h2:=k (f s).1 (f s).2
 have e1:gB s.b (fun l=>(g l).bd G) (L.drop s.n)=(gB s.b g (L.drop s.n)).bd G:=by cases s.b<;>rfl
 rw[e1,h1]
 unfold zbd
 rw[←h2]
 cases (f s).2.b<;>rfl
theorem Zr.eq {f:ZS L e→α×ZS L e} {g g':List Tkn→Rs α} (h:Zr f g) (e:∀l,g l=g' l):Zr f g':=(funext e:g=g')▸h
theorem Zr.fn {f f':ZS L e→α×ZS L e} {g:List Tkn→Rs α} (h:Zr f g) (e:∀s,f s=f' s):Zr f' g:=(funext e:f=f')▸h
theorem Zr.one {p:Tkn→Bool} {v:Tkn→α} {z:α} {g:List Tkn→Rs α} (h1:g []= .bad []) (h2:∀t∈L,∀r,g (t::r)=if p t=true then .ok (v t) r else .bad (t::r)):Zr (zone (L:=L) (e:=e) p v z) g:=fun s=>by
 unfold zone
 by_cases h:zhd p s=true
 ·rw[dif_pos h]
  have hb:=zhd_b h
  have hl:=zhd_lt h
  have hp:p L[s.n]=true:=by
   unfold zhd at h
   rw[List.getElem?_eq_getElem hl,Bool.and_eq_true]at h;exact h.2
  rw[hb,List.drop_eq_getElem_cons hl]
  show g _= .ok _ _
  rw[h2 _ (List.getElem_mem hl),if_pos hp]
 ·rw[dif_neg h]
  show gB s.b g _= .bad _
  cases hb:s.b with
  |true=>rfl
  |false=>
   show g _=_
   rcases Nat.lt_or_ge s.n L.length with hl|hl
   ·rw[List.drop_eq_getElem_cons hl]
    show g _= .bad (L.drop s.n)
    rw[h2 _ (List.getElem_mem hl),if_neg,List.drop_eq_getElem_cons hl]
    intro hp
    exact h (by unfold zhd;rw[hb,List.getElem?_eq_getElem hl];exact hp)
   ·show g (L.drop s.n)= .bad (L.drop s.n)
    rw[List.drop_eq_nil_of_le hl];exact h1
theorem Zr.loop {t:ZS L e→Bool} {f:ZS L e→α×ZS L e} {t':List Tkn→Bool} {g:List Tkn→Rs α} (ht:∀s,t s=(!s.b&&t' (L.drop s.n))) (h:Zr f g) (hi:Zi t f) (hL:Lt g):Zr (zloop t f) (whileR t' g):=by
 have key:∀(k:Nat) (s:ZS L e),L.length-s.n=k→gB s.b (whileR t' g) (L.drop s.n)=zk (zloop t f s).2.b (zloop t f s).1 (L.drop (zloop t f s).2.n):=fun k=>by
  induction k using Nat.strongRecOn with
  |_ k ih=>
   intro s hk
   by_cases hs:t s=true
   ·rw[zloop_yes hi hs]
    have h1:=hi s hs
    have h2:=(f s).2.le
    have h3:=ih (L.length-(f s).2.n) (by omega) (f s).2 rfl
    have h4:=h s
    have h5:s.b=false∧t' (L.drop s.n)=true:=by
     have:=ht s
     rw[hs]at this
     cases hb:s.b with
     |true=>rw[hb]at this;cases this
     |false=>rw[hb]at this;exact⟨rfl,by simpa using this.symm⟩
    rw[h5.1]at h4⊢
    show whileR t' g _=_
    rw[whl_yes hL h5.2]
    change g (L.drop s.n)=_ at h4
    rw[h4]
    cases hb:(f s).2.b with
    |true=>
     rw[hb]at h3
     change Rs.bad _=_ at h3
     show Rs.bad _=_
     cases hb2:(zloop t f (f s).2).2.b with
     |true=>rw[hb2]at h3;injection h3 with h3;rw[h3];rfl
     |false=>rw[hb2]at h3;cases h3
    |false=>
     rw[hb]at h3
     change whileR t' g _=_ at h3
     show(whileR t' g _).bd _=_
     rw[h3]
     cases (zloop t f (f s).2).2.b<;>rfl
   ·rw[zloop_no hs]
    cases hb:s.b with
    |true=>rfl
    |false=>
     have:=ht s
     rw[hb,Bool.not_false,Bool.true_and]at this
     show whileR t' g _= .ok [] _
     exact whl_no hL (by rw[←this];simpa using hs)
 exact fun s=>key _ s rfl
theorem Zr.if {w:Bs} {f f':ZS L e→α×ZS L e} {g g':List Tkn→Rs α} (ht:∀s:ZS L e,zis 1 w s=(!s.b&&hdW w (L.drop s.n))) (h:Zr f fun l=>(need w l).bd fun _ r=>g r) (h':Zr f' g'):Zr (zif w f f') fun l=>if hdW w l=true then g l.tail else g' l:=fun s=>by
 unfold zif
 have h0:=ht s
 by_cases hs:zis 1 w s=true
 ·rw[if_pos hs]
  rw[hs]at h0
  have h5:s.b=false∧hdW w (L.drop s.n)=true:=by
   cases hb:s.b with
   |true=>rw[hb]at h0;cases h0
   |false=>rw[hb]at h0;exact⟨rfl,by simpa using h0.symm⟩
  rw[←h s,h5.1]
  show(if _ then _ else _)=(need w _).bd _
  unfold need
  rw[if_pos h5.2,if_pos h5.2];rfl
 ·rw[if_neg hs,←h' s]
  cases hb:s.b with
  |true=>rfl
  |false=>
   rw[hb,Bool.not_false,Bool.true_and]at h0
   show(if _ then _ else _)=_
   rw[if_neg (by rw[←h0];exact hs)];rfl
def zlist (f:ZS L e→α×ZS L e):ZS L e→List α×ZS L e:=zbd f fun a=>zbd (zloop (zis 3 [44]) (zbd (zw 3 [44]) fun _=>f)) fun l=>zret (a::l)
def zset:ZS L e→List Bs×ZS L e:=zbd (zw 3 [123]) fun _=>zbd (zlist zname) fun ss=>zbd (zw 3 [125]) fun _=>zret ss
def zshape:ZS L e→Int×ZS L e:=zif wHex (zbd (zw 1 wHex) fun _=>zret 2) (zbd (zw 1 wSquare) fun _=>zret 1)
def zholes (h0:List Int):ZS L e→List Int×ZS L e:=zif wWout (zbd (zw 1 wWout) fun _=>zlist znum) (zret h0)
def zgrid (d:Dcl):ZS L e→Dcl×ZS L e:=zbd (zw 1 wGrid) fun _=>zbd zshape fun sh=>zbd znum fun w=>zbd (zw 1 wBy) fun _=>zbd znum fun h=>zbd (zholes d.holes) fun ho=>zbd (zw 3 [59]) fun _=>zret {d with sh:=sh,w:=w,h:=h,holes:=ho}
def zsym:ZS L e→DSym×ZS L e:=zbd zname fun s=>zbd (zw 3 [61]) fun _=>zbd znum fun v=>zret ⟨s,v⟩
def zsyms:ZS L e→List DSym×ZS L e:=zbd (zw 1 wSyms) fun _=>zbd (zlist zsym) fun l=>zbd (zw 3 [59]) fun _=>zret l
def zrl:ZS L e→List Int×ZS L e:=zbd (zlist znum) fun l=>zbd (zw 3 [59]) fun _=>zret l
def zreg:ZS L e→DReg×ZS L e:=zbd (zw 1 wRegs) fun _=>zbd zname fun s=>zbd (zw 3 [123]) fun _=>zbd (zloop zisNb zrl) fun ls=>zbd (zw 3 [125]) fun _=>zret ⟨s,ls⟩
def zclu:ZS L e→DClu×ZS L e:=zbd (zw 1 wClue) fun _=>zbd zname fun s=>zbd (zw 1 wOn) fun _=>zbd zname fun o=>
 zif wSym (zbd (zw 1 wSym) fun _=>zbd (zw 3 [59]) fun _=>zret ⟨s,o,0,1,0,0⟩)
  (zif wNumber (zbd (zw 1 wNumber) fun _=>zbd znum fun a=>zbd (zw 1 wTo) fun _=>zbd znum fun b=>zbd (zw 3 [59]) fun _=>zret ⟨s,o,0,2,a,b⟩)
   (zbd (zw 1 wRuns) fun _=>zbd (zw 3 [59]) fun _=>zret ⟨s,o,0,3,0,0⟩))
def zop:ZS L e→Int×ZS L e:=zif wIs (zbd (zw 1 wIs) fun _=>zret 1) (zif wMost (zbd (zw 1 wMost) fun _=>zret 2) (zbd (zw 1 wLeast) fun _=>zret 3))
def zlim (x:DRul) (s:ZS L e):DRul×ZS L e:=if zisNm s=true then({x with byN:=(zname s).1},(zname s).2)else({x with n:=(znum s).1},(znum s).2)
def zbound (x:DRul):ZS L e→DRul×ZS L e:=zbd zop fun o=>zlim {x with op:=o}
def zeach (x:DRul):ZS L e→DRul×ZS L e:=
 zif wDiff (zbd (zw 1 wDiff) fun _=>zret {x with kind:=1})
 (zif wCount (zbd (zw 1 wCount) fun _=>zbd zset fun ss=>zbound {x with kind:=2,ns:=ss})
 (zif wSum (zbd (zw 1 wSum) fun _=>zbound {x with kind:=3})
 (zif wRise (zbd (zw 1 wRise) fun _=>zret {x with kind:=4})
 (zbd (zw 1 wRuns) fun _=>zbd zset fun ss=>zbd (zw 1 wBy) fun _=>zbd zname fun s=>zret {x with kind:=5,ns:=ss,byN:=s}))))
def zbody (x:DRul):ZS L e→DRul×ZS L e:=
 zif wEach (zbd (zw 1 wEach) fun _=>zbd zname fun s=>zeach {x with on:=s})
 (zif wUnlike (zbd (zw 1 wUnlike) fun _=>zret {x with kind:=6})
 (zif wApart (zbd (zw 1 wApart) fun _=>zbd znum fun n=>zret {x with kind:=7,n:=n})
 (zif wNot (zbd (zw 1 wNot) fun _=>zbd zset fun ss=>zbd (zw 1 wBeside) fun _=>zbd zset fun os=>zret {x with kind:=8,ns:=ss,os:=os})
 (zif wConn (zbd (zw 1 wConn) fun _=>zbd zset fun ss=>zret {x with kind:=9,ns:=ss})
 (zif wLoop (zbd (zw 1 wLoop) fun _=>zbd zset fun ss=>zret {x with kind:=10,ns:=ss})
 (zif wGiven (zbd (zw 1 wGiven) fun _=>zbd zname fun s=>zret {x with kind:=11,byN:=s})
 (zif wFill (zbd (zw 1 wFill) fun _=>zbd zname fun s=>zret {x with kind:=12,on:=s})
 (zbd (zw 1 wSteps) fun _=>zbound {x with kind:=13}))))))))
def zrule:ZS L e→DRul×ZS L e:=zbd (zw 1 wRule) fun _=>zbd zname fun s=>zbd (zw 3 [58]) fun _=>zbd (zbody {rul0 with nm:=s}) fun x=>zbd (zw 3 [59]) fun _=>zret x
def zend (d:Dcl) (s:ZS L e):Dcl×ZS L e:=if s.n<L.length then(d,if s.b=true then s else zfail s)else(d,s)
def zread:ZS L e→Dcl×ZS L e:=zbd (zw 1 wKind) fun _=>zbd zname fun nm=>zbd (zw 1 wVers) fun _=>zbd znum fun v=>zbd (zw 3 [123]) fun _=>zbd (zgrid ⟨nm,v,0,0,0,[],[],[],[],[]⟩) fun d=>zbd zsyms fun ss=>
 zbd (zloop (zis 1 wRegs) zreg) fun rs=>zbd (zloop (zis 1 wClue) zclu) fun cs=>zbd (zloop (zis 1 wRule) zrule) fun us=>zbd (zw 3 [125]) fun _=>zend {d with syms:=ss,regs:=rs,clus:=cs,ruls:=us}
end
end Go.AM
end
section
set_option maxRecDepth 20000
set_option linter.all false
namespace Go.AM
open Go.Proofs Go.Lib
section
variable {L:List Tkn} {e:Int} {α β:Type}
theorem hd_1 {t:Tkn} (hv:validS t=true) {w:Bs} (hw:nameS w=true) (r:List Tkn):(decide (t.K=1)&&decide (t.T=w))=hdW w (t::r):=by
 rw[Bool.eq_iff_iff]
 simp only[hdW,Bool.and_eq_true,decide_eq_true_eq]
 constructor
 ·rintro⟨h1,h2⟩;exact⟨by omega,h2⟩
 ·rintro⟨h1,h2⟩
  refine⟨?_,h2⟩
  rcases Classical.em (t.K=1)with hk|hk
  ·exact hk
  ·obtain⟨_,b,eb,hb⟩:=valid_3 hv hk h1
   rw[←h2,eb]at hw
   simp only[nameS,Bool.and_eq_true]at hw
   have:=hw.1.2
   simp only[List.getElem?_cons_zero,Option.getD_some]at this
   rw[sgn_let hb]at this;cases this
theorem hd_3 {t:Tkn} (hv:validS t=true) {b:UInt8} (hb:sgnB b=true) (r:List Tkn):(decide (t.K=3)&&decide (t.T=[b]))=hdW [b] (t::r):=by
 rw[Bool.eq_iff_iff]
 simp only[hdW,Bool.and_eq_true,decide_eq_true_eq]
 constructor
 ·rintro⟨h1,h2⟩;exact⟨by omega,h2⟩
 ·rintro⟨h1,h2⟩
  refine⟨?_,h2⟩
  rcases Classical.em (t.K=1)with hk|hk
  ·have:=(valid_1 hv hk).2
   rw[h2]at this
   simp only[nameS,Bool.and_eq_true]at this
   have:=this.1.2
   simp only[List.getElem?_cons_zero,Option.getD_some]at this
   rw[sgn_let hb]at this;cases this
  ·unfold validS at hv
   rw[if_neg hk,if_neg h1]at hv
   split at hv
   ·assumption
   ·cases hv
variable (hv:Vd L)
include hv
theorem zr_word (w:Bs) (hw:nameS w=true):Zr (zw (L:=L) (e:=e) 1 w) (need w):=Zr.one rfl fun t ht r=>by
 rw[hd_1 (hv t ht) hw r];rfl
theorem zr_sign (b:UInt8) (hb:sgnB b=true):Zr (zw (L:=L) (e:=e) 3 [b]) (need [b]):=Zr.one rfl fun t ht r=>by
 rw[hd_3 (hv t ht) hb r];rfl
theorem zhd_eq {p:Tkn→Bool} {t':List Tkn→Bool} (h0:t' []=false) (h:∀t∈L,∀r,p t=t' (t::r)) (s:ZS L e):zhd p s=(!s.b&&t' (L.drop s.n)):=by
 unfold zhd
 rcases Nat.lt_or_ge s.n L.length with hl|hl
 ·rw[List.getElem?_eq_getElem hl,List.drop_eq_getElem_cons hl,←h _ (List.getElem_mem hl)]
 ·rw[List.getElem?_eq_none hl,List.drop_eq_nil_of_le hl,h0]
theorem zis_word (w:Bs) (hw:nameS w=true) (s:ZS L e):zis 1 w s=(!s.b&&hdW w (L.drop s.n)):=zhd_eq hv rfl (fun t ht r=>hd_1 (hv t ht) hw r) s
theorem zis_sign (b:UInt8) (hb:sgnB b=true) (s:ZS L e):zis 3 [b] s=(!s.b&&hdW [b] (L.drop s.n)):=zhd_eq hv rfl (fun t ht r=>hd_3 (hv t ht) hb r) s
theorem num_hd {t:Tkn} (ht:t∈L) (r:List Tkn):(decide (t.K=2)&&decide (0≤t.N)&&decide (t.N≤65536))=isNumT (t::r):=by
 rw[Bool.eq_iff_iff]
 simp only[isNumT,Bool.and_eq_true,decide_eq_true_eq]
 exact⟨fun⟨⟨a,b⟩,c⟩=>⟨a,c⟩,fun⟨a,c⟩=>⟨⟨a,(valid_num (hv t ht) a).1⟩,c⟩⟩
theorem zis_num (s:ZS L e):zisNb s=(!s.b&&isNumT (L.drop s.n)):=zhd_eq hv rfl (fun t ht r=>num_hd hv ht r) s
theorem zr_num:Zr (znum (L:=L) (e:=e)) nmbR:=Zr.one rfl fun t ht r=>by
 rw[num_hd hv ht r]
 simp [isNumT,nmbR]
omit hv in
theorem zr_name:Zr (zname (L:=L) (e:=e)) nameR:=Zr.one rfl fun t ht r=>by
 unfold nameR kindR
 by_cases hk:t.K=1
 ·simp [hk,Rs.bd]
 ·simp [hk,Rs.bd]
omit hv in
theorem zi_bd {k:Int} {w:Bs} {f:ZS L e→α×ZS L e} (h:Zm f):Zi (zis k w) (zbd (zw k w) fun _=>f):=fun s hs=>by
 have h1:(zw k w s).2.n=s.n+1:=by
  unfold zw zone
  rw[dif_pos (show zhd _ s=true from hs)]
 exact Nat.lt_of_lt_of_le (by omega) (h (zw k w s).2)
theorem zr_list {f:ZS L e→α×ZS L e} {g:List Tkn→Rs α} (h:Zr f g) (hm:Zm f) (hL:Lt g):Zr (zlist f) (listR g):=
 Zr.bd h fun a=>Zr.bd (Zr.loop (zis_sign hv 44 rfl) (Zr.bd (zr_sign hv 44 rfl) fun _=>h) (zi_bd hm) (com_Lt hL.le)) fun l=>Zr.ret _
omit hv
theorem zm_w {k:Int} {w:Bs}:Zm (zw (L:=L) (e:=e) k w):=Zm.one _ _ _
theorem zm_name:Zm (zname (L:=L) (e:=e)):=Zm.one _ _ _
theorem zm_num:Zm (znum (L:=L) (e:=e)):=Zm.one _ _ _
theorem zm_list {f:ZS L e→α×ZS L e} (h:Zm f):Zm (zlist f):=h.bd fun _=>(Zm.loop (zm_w.bd fun _=>h)).bd fun _=>Zm.ret _
theorem zm_set:Zm (zset (L:=L) (e:=e)):=zm_w.bd fun _=>(zm_list zm_name).bd fun _=>zm_w.bd fun _=>Zm.ret _
theorem zm_sym:Zm (zsym (L:=L) (e:=e)):=zm_name.bd fun _=>zm_w.bd fun _=>zm_num.bd fun _=>Zm.ret _
theorem zm_rl:Zm (zrl (L:=L) (e:=e)):=(zm_list zm_num).bd fun _=>zm_w.bd fun _=>Zm.ret _
theorem zi_rl:Zi (zisNb (L:=L) (e:=e)) zrl:=fun s hs=>by
 have h1:(znum s).2.n=s.n+1:=by
  unfold znum zone
  rw[dif_pos (show zhd _ s=true from hs)]
 have h2:(znum s).2.n≤(zlist znum s).2.n:=((Zm.loop (zm_w.bd fun _=>zm_num)).bd fun l=>Zm.ret ((znum s).1::l)) (znum s).2
 have h3:(zlist znum s).2.n≤(zrl s).2.n:=(zm_w.bd fun _=>Zm.ret _) (zlist znum s).2
 omega
theorem zm_reg:Zm (zbd zname fun s=>zbd (zw (L:=L) (e:=e) 3 [123]) fun _=>zbd (zloop zisNb zrl) fun ls=>zbd (zw 3 [125]) fun _=>zret (⟨s,ls⟩:DReg)):=zm_name.bd fun _=>zm_w.bd fun _=>(Zm.loop zm_rl).bd fun _=>zm_w.bd fun _=>Zm.ret _
theorem zm_clu:Zm (zbd zname fun s=>zbd (zw (L:=L) (e:=e) 1 wOn) fun _=>zbd zname fun o=>
 zif wSym (zbd (zw 1 wSym) fun _=>zbd (zw 3 [59]) fun _=>zret (⟨s,o,0,1,0,0⟩:DClu))
  (zif wNumber (zbd (zw 1 wNumber) fun _=>zbd znum fun a=>zbd (zw 1 wTo) fun _=>zbd znum fun b=>zbd (zw 3 [59]) fun _=>zret ⟨s,o,0,2,a,b⟩)
   (zbd (zw 1 wRuns) fun _=>zbd (zw 3 [59]) fun _=>zret ⟨s,o,0,3,0,0⟩))):=
 zm_name.bd fun _=>zm_w.bd fun _=>zm_name.bd fun _=>Zm.if (zm_w.bd fun _=>zm_w.bd fun _=>Zm.ret _) (Zm.if (zm_w.bd fun _=>zm_num.bd fun _=>zm_w.bd fun _=>zm_num.bd fun _=>zm_w.bd fun _=>Zm.ret _) (zm_w.bd fun _=>zm_w.bd fun _=>Zm.ret _))
theorem zm_op:Zm (zop (L:=L) (e:=e)):=Zm.if (zm_w.bd fun _=>Zm.ret _) (Zm.if (zm_w.bd fun _=>Zm.ret _) (zm_w.bd fun _=>Zm.ret _))
theorem zm_lim (x:DRul):Zm (zlim (L:=L) (e:=e) x):=fun s=>by
 unfold zlim
 split
 ·exact zm_name s
 ·exact zm_num s
theorem zm_bound (x:DRul):Zm (zbound (L:=L) (e:=e) x):=zm_op.bd fun _=>zm_lim _
theorem zm_each (x:DRul):Zm (zeach (L:=L) (e:=e) x):=Zm.if (zm_w.bd fun _=>Zm.ret _) (Zm.if (zm_w.bd fun _=>zm_set.bd fun _=>zm_bound _) (Zm.if (zm_w.bd fun _=>zm_bound _) (Zm.if (zm_w.bd fun _=>Zm.ret _) (zm_w.bd fun _=>zm_set.bd fun _=>zm_w.bd fun _=>zm_name.bd fun _=>Zm.ret _))))
theorem zm_body (x:DRul):Zm (zbody (L:=L) (e:=e) x):=Zm.if (zm_w.bd fun _=>zm_name.bd fun _=>zm_each _) (Zm.if (zm_w.bd fun _=>Zm.ret _) (Zm.if (zm_w.bd fun _=>zm_num.bd fun _=>Zm.ret _) (Zm.if (zm_w.bd fun _=>zm_set.bd fun _=>zm_w.bd fun _=>zm_set.bd fun _=>Zm.ret _) (Zm.if (zm_w.bd fun _=>zm_set.bd fun _=>Zm.ret _) (Zm.if (zm_w.bd fun _=>zm_set.bd fun _=>Zm.ret _) (Zm.if (zm_w.bd fun _=>zm_name.bd fun _=>Zm.ret _) (Zm.if (zm_w.bd fun _=>zm_name.bd fun _=>Zm.ret _) (zm_w.bd fun _=>zm_bound _))))))))
theorem zm_rule:Zm (zbd (zname (L:=L) (e:=e)) fun s=>zbd (zw 3 [58]) fun _=>zbd (zbody {rul0 with nm:=s}) fun x=>zbd (zw 3 [59]) fun _=>zret x):=zm_name.bd fun _=>zm_w.bd fun _=>(zm_body _).bd fun _=>zm_w.bd fun _=>Zm.ret _
include hv
theorem zr_set:Zr (zset (L:=L) (e:=e)) setR:=Zr.bd (zr_sign hv 123 rfl) fun _=>Zr.bd (zr_list hv zr_name zm_name name_Lt) fun _=>Zr.bd (zr_sign hv 125 rfl) fun _=>Zr.ret _
theorem zr_sym:Zr (zsym (L:=L) (e:=e)) symR:=Zr.bd zr_name fun _=>Zr.bd (zr_sign hv 61 rfl) fun _=>Zr.bd (zr_num hv) fun _=>Zr.ret _
theorem zr_rl:Zr (zrl (L:=L) (e:=e)) rlistR:=Zr.bd (zr_list hv (zr_num hv) zm_num num_Lt) fun _=>Zr.bd (zr_sign hv 59 rfl) fun _=>Zr.ret _
theorem zr_reg:Zr (zreg (L:=L) (e:=e)) (behind wRegs regR):=Zr.bd (zr_word hv wRegs rfl) fun _=>Zr.bd zr_name fun _=>Zr.bd (zr_sign hv 123 rfl) fun _=>Zr.bd (Zr.loop (zis_num hv) (zr_rl hv) zi_rl rlist_Lt) fun _=>Zr.bd (zr_sign hv 125 rfl) fun _=>Zr.ret _
theorem zr_op:Zr (zop (L:=L) (e:=e)) opR:=Zr.if (g:=Rs.ok 1) (zis_word hv _ rfl) (Zr.bd (zr_word hv _ rfl) fun _=>Zr.ret _) (Zr.if (g:=Rs.ok 2) (zis_word hv _ rfl) (Zr.bd (zr_word hv _ rfl) fun _=>Zr.ret _) (Zr.bd (zr_word hv _ rfl) fun _=>Zr.ret _))
theorem zr_shape:Zr (zshape (L:=L) (e:=e)) shapeR:=Zr.if (g:=Rs.ok 2) (zis_word hv _ rfl) (Zr.bd (zr_word hv _ rfl) fun _=>Zr.ret _) (Zr.bd (zr_word hv _ rfl) fun _=>Zr.ret _)
theorem zr_holes:Zr (zholes (L:=L) (e:=e) []) holesR:=Zr.if (zis_word hv _ rfl) (Zr.bd (zr_word hv _ rfl) fun _=>zr_list hv (zr_num hv) zm_num num_Lt) (Zr.ret _)
theorem zr_lim (x:DRul) (h1:x.n=0) (h2:x.byN=[]):Zr (zlim (L:=L) (e:=e) x) fun l=>(limR l).bd fun p r=>.ok {x with n:=p.1,byN:=p.2} r:=fun s=>by
 have ha:=zr_name s
 have hb:=zr_num hv s
 unfold zlim
 by_cases hn:zisNm s=true
 ·rw[if_pos hn]
  have hlt:=zhd_lt hn
  have hbb:=zhd_b hn
  have hk:L[s.n].K=1:=by
   unfold zisNm zhd at hn
   rw[List.getElem?_eq_getElem hlt,Bool.and_eq_true,decide_eq_true_eq]at hn;exact hn.2
  rw[hbb]at ha⊢
  change nameR _=_ at ha
  show(limR _).bd _=_
  have hq:isNumT (L.drop s.n)=false:=by rw[List.drop_eq_getElem_cons hlt];simp [isNumT,hk]
  unfold limR
  rw[hq,if_neg (by decide),ha]
  cases (zname s).2.b with
  |true=>rfl
  |false=>show Rs.ok _ _=Rs.ok _ _;cases x;simp_all
 ·rw[if_neg hn]
  cases hbb:s.b with
  |true=>
   rw[hbb]at hb
   change Rs.bad _=_ at hb
   show Rs.bad _=_
   cases hc:(znum s).2.b with
   |true=>rw[hc]at hb;injection hb with hb;rw[hb];rfl
   |false=>rw[hc]at hb;cases hb
  |false=>
   rw[hbb]at hb ha
   change nmbR _=_ at hb
   show(limR _).bd _=_
   unfold limR
   by_cases hq:isNumT (L.drop s.n)=true
   ·rw[if_pos hq,hb]
    cases (znum s).2.b with
    |true=>rfl
    |false=>show Rs.ok _ _=Rs.ok _ _;cases x;simp_all
   ·rw[if_neg hq]
    have hnn:nameR (L.drop s.n)= .bad (L.drop s.n):=by
     rcases Nat.lt_or_ge s.n L.length with hl|hl
     ·rw[List.drop_eq_getElem_cons hl]
      have:¬L[s.n].K=1:=fun hk=>hn (by unfold zisNm zhd;rw[hbb,List.getElem?_eq_getElem hl];simp [hk])
      simp [nameR,kindR,this,Rs.bd]
     ·rw[List.drop_eq_nil_of_le hl];rfl
    have hmm:nmbR (L.drop s.n)= .bad (L.drop s.n):=by
     rcases Nat.lt_or_ge s.n L.length with hl|hl
     ·rw[List.drop_eq_getElem_cons hl]at hq⊢
      simp only[isNumT,Bool.and_eq_true,decide_eq_true_eq]at hq
      simp [nmbR,hq]
     ·rw[List.drop_eq_nil_of_le hl];rfl
    rw[hnn]
    rw[hmm]at hb
    show Rs.bad _=_
    cases hc:(znum s).2.b with
    |true=>rw[hc]at hb;injection hb with hb;rw[hb];rfl
    |false=>rw[hc]at hb;cases hb
theorem zr_bound (x:DRul) (h1:x.n=0) (h2:x.byN=[]):Zr (zbound (L:=L) (e:=e) x) fun l=>(bndR l).bd fun b r=>.ok {x with op:=b.1,n:=b.2.1,byN:=b.2.2} r:=
 (Zr.bd (zr_op hv) fun o=>zr_lim hv {x with op:=o} h1 h2).eq fun l=>by
  unfold bndR
  rw[bd_assoc]
  congr 1
  funext o r
  rw[bd_assoc]
  rfl
theorem zr_each (x:DRul) (h1:x.n=0) (h2:x.byN=[]):Zr (zeach (L:=L) (e:=e) x) (eachR x):=
 Zr.if (g:=Rs.ok _) (zis_word hv _ rfl) (Zr.bd (zr_word hv _ rfl) fun _=>Zr.ret _)
 (Zr.if (zis_word hv _ rfl) (Zr.bd (zr_word hv _ rfl) fun _=>Zr.bd (zr_set hv) fun ss=>zr_bound hv {x with kind:=2,ns:=ss} h1 h2)
 (Zr.if (zis_word hv _ rfl) (Zr.bd (zr_word hv _ rfl) fun _=>zr_bound hv {x with kind:=3} h1 h2)
 (Zr.if (g:=Rs.ok _) (zis_word hv _ rfl) (Zr.bd (zr_word hv _ rfl) fun _=>Zr.ret _)
 (Zr.bd (zr_word hv _ rfl) fun _=>Zr.bd (zr_set hv) fun _=>Zr.bd (zr_word hv _ rfl) fun _=>Zr.bd zr_name fun _=>Zr.ret _))))
theorem zr_steps (x:DRul) (h1:x.n=0) (h2:x.byN=[]):Zr (zbd (zw (L:=L) (e:=e) 1 wSteps) fun _=>zbound {x with kind:=13}) fun l=>if hdW wSteps l=true then(bndR l.tail).bd fun b r=>.ok {x with kind:=13,op:=b.1,n:=b.2.1,byN:=b.2.2} r else .bad l:=
 (Zr.bd (zr_word hv wSteps rfl) fun _=>zr_bound hv {x with kind:=13} h1 h2).eq fun l=>by
  unfold need
  by_cases hw:hdW wSteps l=true
  ·rw[if_pos hw,if_pos hw];rfl
  ·rw[if_neg hw,if_neg hw];rfl
theorem zr_body (x:DRul) (h1:x.n=0) (h2:x.byN=[]):Zr (zbody (L:=L) (e:=e) x) (bodyR x):=
 Zr.if (zis_word hv wEach rfl) (Zr.bd (zr_word hv wEach rfl) fun _=>Zr.bd zr_name fun s=>zr_each hv {x with on:=s} h1 h2)
 (Zr.if (g:=Rs.ok _) (zis_word hv wUnlike rfl) (Zr.bd (zr_word hv wUnlike rfl) fun _=>Zr.ret {x with kind:=6})
 (Zr.if (zis_word hv wApart rfl) (Zr.bd (zr_word hv wApart rfl) fun _=>Zr.bd (zr_num hv) fun n=>Zr.ret {x with kind:=7,n:=n})
 (Zr.if (zis_word hv wNot rfl) (Zr.bd (zr_word hv wNot rfl) fun _=>Zr.bd (zr_set hv) fun ss=>Zr.bd (zr_word hv wBeside rfl) fun _=>Zr.bd (zr_set hv) fun os=>Zr.ret {x with kind:=8,ns:=ss,os:=os})
 (Zr.if (zis_word hv wConn rfl) (Zr.bd (zr_word hv wConn rfl) fun _=>Zr.bd (zr_set hv) fun ss=>Zr.ret {x with kind:=9,ns:=ss})
 (Zr.if (zis_word hv wLoop rfl) (Zr.bd (zr_word hv wLoop rfl) fun _=>Zr.bd (zr_set hv) fun ss=>Zr.ret {x with kind:=10,ns:=ss})
 (Zr.if (zis_word hv wGiven rfl) (Zr.bd (zr_word hv wGiven rfl) fun _=>Zr.bd zr_name fun s=>Zr.ret {x with kind:=11,byN:=s})
 (Zr.if (zis_word hv wFill rfl) (Zr.bd (zr_word hv wFill rfl) fun _=>Zr.bd zr_name fun s=>Zr.ret {x with kind:=12,on:=s})
 (zr_steps hv x h1 h2))))))))
theorem zr_rule:Zr (zrule (L:=L) (e:=e)) (behind wRule ruleR):=Zr.bd (zr_word hv wRule rfl) fun _=>Zr.bd zr_name fun s=>Zr.bd (zr_sign hv 58 rfl) fun _=>Zr.bd (zr_body hv {rul0 with nm:=s} rfl rfl) fun _=>Zr.bd (zr_sign hv 59 rfl) fun _=>Zr.ret _
theorem zr_clu3 (s o:Bs):Zr (zbd (zw (L:=L) (e:=e) 1 wRuns) fun _=>zbd (zw 3 [59]) fun _=>zret (⟨s,o,0,3,0,0⟩:DClu)) fun l=>(need wRuns l).bd fun _ l=>(need [59] l).bd fun _ r=>Rs.ok (⟨s,o,0,3,0,0⟩:DClu) r:=
 Zr.bd (zr_word hv wRuns rfl) fun _=>Zr.bd (zr_sign hv 59 rfl) fun _=>Zr.ret (⟨s,o,0,3,0,0⟩:DClu)
theorem zr_clu2 (s o:Bs):Zr (zbd (zw (L:=L) (e:=e) 1 wNumber) fun _=>zbd znum fun a=>zbd (zw 1 wTo) fun _=>zbd znum fun b=>zbd (zw 3 [59]) fun _=>zret (⟨s,o,0,2,a,b⟩:DClu)) fun l=>(need wNumber l).bd fun _ l=>(nmbR l).bd fun a l=>(need wTo l).bd fun _ l=>(nmbR l).bd fun b l=>(need [59] l).bd fun _ r=>Rs.ok (⟨s,o,0,2,a,b⟩:DClu) r:=
 Zr.bd (zr_word hv wNumber rfl) fun _=>Zr.bd (zr_num hv) fun a=>Zr.bd (zr_word hv wTo rfl) fun _=>Zr.bd (zr_num hv) fun b=>Zr.bd (zr_sign hv 59 rfl) fun _=>Zr.ret (⟨s,o,0,2,a,b⟩:DClu)
theorem zr_clu1 (s o:Bs):Zr (zbd (zw (L:=L) (e:=e) 1 wSym) fun _=>zbd (zw 3 [59]) fun _=>zret (⟨s,o,0,1,0,0⟩:DClu)) fun l=>(need wSym l).bd fun _ l=>(need [59] l).bd fun _ r=>Rs.ok (⟨s,o,0,1,0,0⟩:DClu) r:=
 Zr.bd (zr_word hv wSym rfl) fun _=>Zr.bd (zr_sign hv 59 rfl) fun _=>Zr.ret (⟨s,o,0,1,0,0⟩:DClu)
theorem zr_cluB (s o:Bs):Zr (zif wSym (zbd (zw (L:=L) (e:=e) 1 wSym) fun _=>zbd (zw 3 [59]) fun _=>zret (⟨s,o,0,1,0,0⟩:DClu))
  (zif wNumber (zbd (zw 1 wNumber) fun _=>zbd znum fun a=>zbd (zw 1 wTo) fun _=>zbd znum fun b=>zbd (zw 3 [59]) fun _=>zret ⟨s,o,0,2,a,b⟩)
   (zbd (zw 1 wRuns) fun _=>zbd (zw 3 [59]) fun _=>zret ⟨s,o,0,3,0,0⟩)))
 fun r=>(if hdW wSym r=true then Rs.ok (⟨s,o,0,1,0,0⟩:DClu) r.tail else if hdW wNumber r=true then(nmbR r.tail).bd fun a r=>(need wTo r).bd fun _ r=>(nmbR r).bd fun b r=>.ok ⟨s,o,0,2,a,b⟩ r
  else(need wRuns r).bd fun _ r=>.ok ⟨s,o,0,3,0,0⟩ r).bd fun x r=>(need [59] r).bd fun _ r=>.ok x r:=
 Zr.eq (Zr.if (zis_word hv wSym rfl) (zr_clu1 hv s o) (Zr.if (zis_word hv wNumber rfl) (zr_clu2 hv s o) (zr_clu3 hv s o))) fun r=>by
 by_cases w1:hdW wSym r=true
 ·rw[if_pos w1,if_pos w1];rfl
 ·rw[if_neg w1,if_neg w1]
  by_cases w2:hdW wNumber r=true
  ·rw[if_pos w2,if_pos w2]
   simp only[bd_assoc,bd_okk]
  ·rw[if_neg w2,if_neg w2]
   simp only[bd_assoc,bd_okk]
theorem zr_clu:Zr (zclu (L:=L) (e:=e)) (behind wClue cluR):=
 Zr.bd (zr_word hv wClue rfl) fun _=>Zr.bd zr_name fun s=>Zr.bd (zr_word hv wOn rfl) fun _=>Zr.bd zr_name fun o=>zr_cluB hv s o
theorem zr_end (d:Dcl):Zr (zend (L:=L) (e:=e) d) (endR d):=fun s=>by
 unfold zend
 rcases Nat.lt_or_ge s.n L.length with hl|hl
 ·rw[if_pos hl,List.drop_eq_getElem_cons hl]
  cases hb:s.b with
  |true=>
   rw[if_pos rfl]
   show Rs.bad _=zk s.b _ _
   rw[hb,List.drop_eq_getElem_cons hl];rfl
  |false=>
   rw[if_neg (by decide)]
   show Rs.bad _=Rs.bad (L.drop s.n)
   rw[List.drop_eq_getElem_cons hl]
 ·rw[if_neg (by omega),List.drop_eq_nil_of_le hl]
  show gB s.b (endR d) []=zk s.b d []
  cases s.b<;>rfl
theorem zr_grid (d:Dcl) (hh:d.holes=[]):Zr (zgrid (L:=L) (e:=e) d) fun l=>(need wGrid l).bd fun _ r=>(shapeR r).bd fun sh r=>(nmbR r).bd fun w r=>(need wBy r).bd fun _ r=>(nmbR r).bd fun h r=>(holesR r).bd fun ho r=>(need [59] r).bd fun _ r=>.ok {d with sh:=sh,w:=w,h:=h,holes:=ho} r:=by
 unfold zgrid
 rw[hh]
 exact Zr.bd (zr_word hv _ rfl) fun _=>Zr.bd (zr_shape hv) fun _=>Zr.bd (zr_num hv) fun _=>Zr.bd (zr_word hv _ rfl) fun _=>Zr.bd (zr_num hv) fun _=>Zr.bd (zr_holes hv) fun _=>Zr.bd (zr_sign hv 59 rfl) fun _=>Zr.ret _
theorem zr_syms:Zr (zsyms (L:=L) (e:=e)) fun l=>(need wSyms l).bd fun _ r=>(listR symR r).bd fun ss r=>(need [59] r).bd fun _ r=>.ok ss r:=
 Zr.bd (zr_word hv _ rfl) fun _=>Zr.bd (zr_list hv (zr_sym hv) zm_sym sym_Lt) fun _=>Zr.bd (zr_sign hv 59 rfl) fun _=>Zr.ret _
theorem zr_read:Zr (zread (L:=L) (e:=e)) declR:=(Zr.bd (zr_word hv wKind rfl) fun _=>Zr.bd zr_name fun nm=>Zr.bd (zr_word hv wVers rfl) fun _=>Zr.bd (zr_num hv) fun v=>Zr.bd (zr_sign hv 123 rfl) fun _=>Zr.bd (zr_grid hv ⟨nm,v,0,0,0,[],[],[],[],[]⟩ rfl) fun d=>Zr.bd (zr_syms hv) fun ss=>
 Zr.bd (Zr.loop (zis_word hv _ rfl) (zr_reg hv) (zi_bd zm_reg) (behind_Lt _ reg_Lt.le)) fun rs=>Zr.bd (Zr.loop (zis_word hv _ rfl) (zr_clu hv) (zi_bd zm_clu) (behind_Lt _ clu_Lt.le)) fun cs=>Zr.bd (Zr.loop (zis_word hv _ rfl) (zr_rule hv) (zi_bd zm_rule) (behind_Lt _ rule_Lt.le)) fun us=>
 Zr.bd (zr_sign hv 125 rfl) fun _=>zr_end hv {d with syms:=ss,regs:=rs,clus:=cs,ruls:=us}).eq fun l=>by
 unfold declR declO headR bodyD manyR
 simp only[bd_assoc,bd_okk]
end
end Go.AM
end
section
set_option maxRecDepth 20000
set_option linter.all false
namespace Go.AM
open Go.Proofs Go.Lib
theorem scmp_eqZ (s t:Bs):scmp .eql s t=decide (s=t):=rfl
abbrev pvZ {L:List Tkn} {e:Int} (s:ZS L e):AVal:=.agg [.sl (.none 4) (L.map encK),.int .i64 s.n,.int .i64 e,.bool s.b,.int .i64 s.pl]
def decPS (L:List Tkn) (e:Int):AVal→ZS L e
 | .agg [_,.int _ n,_,.bool b,_]=>if h:n.toNat≤L.length then⟨n.toNat,b,h⟩else⟨0,false,Nat.zero_le _⟩
 |_=>⟨0,false,Nat.zero_le _⟩
section
variable {L:List Tkn} {e:Int}
theorem decPS_enc (s:ZS L e):decPS L e (pvZ s)=s:=by
 obtain⟨n,b,h⟩:=s
 show(if h:((n:Int)).toNat≤L.length then _ else _)=_
 rw[dif_pos (by simpa using h)]
 simp
def dZ (L:List Tkn) (e:Int):Dc (ZS L e):=dEx pvZ (decPS L e)
theorem dZ_ok (s:ZS L e):(dZ L e).ok (.agg [.sl (.none 4) (L.map encK),.int .i64 s.n,.int .i64 e,.bool s.b,.int .i64 s.pl])=True:=eq_true (by show pvZ s=pvZ (decPS L e (pvZ s));rw[decPS_enc])
theorem dZ_dec (s:ZS L e):(dZ L e).dec (.agg [.sl (.none 4) (L.map encK),.int .i64 s.n,.int .i64 e,.bool s.b,.int .i64 s.pl])=s:=decPS_enc s
theorem pvZ_under (k:Nat) (s:ZS L e):(pvZ s).under k:=⟨⟨trivial,encK_under k L⟩,trivial,trivial,trivial,trivial,trivial⟩
variable (hl:few L)
include hl
theorem p73 (s:ZS L e):Pur Tryz.prog 73 [pvZ s] (pvZ (zfail s)):=by
 refine .mk ⟨pvZ_under 0 s,trivial⟩ (pvZ_under 0 _) (a73 (ev_awp TabOK.tnil (ev_evK ?_)))
 obtain⟨n,b,h⟩:=s
 have hl':L.length<1000000000:=hl
 cases b with
 |true=>
  simp only[eE,eC,eN,reduceCtorEq,Nat.reduceEqDiff,↓reduceIte,Nat.reduceAdd,Nat.reduceLeDiff,rcell,c73]
  exact Wk.refl _
 |false=>
  by_cases hlt:n<L.length
  ·have hg:=List.getElem?_eq_getElem hlt
   simp only[eE,eC,eN,reduceCtorEq,Nat.reduceEqDiff,↓reduceIte,Nat.reduceAdd,Nat.reduceLeDiff,rcell,Option.getD_some,Int.toNat_natCast,Int.natCast_nonneg,List.length_map,List.getElem?_map,c73,lt_T hlt,hg]
   have:plc e (L.drop n)=L[n].A:=by rw[List.drop_eq_getElem_cons hlt];rfl
   show Wk _ (.agg [_,_,_,_,.int .i64 (plc e (L.drop n))])
   rw[this];exact Wk.refl _
  ·simp only[eE,eC,eN,reduceCtorEq,Nat.reduceEqDiff,↓reduceIte,Nat.reduceAdd,Nat.reduceLeDiff,rcell,List.length_map,c73,lt_F hlt]
   have:plc e (L.drop n)=e:=by rw[List.drop_eq_nil_of_le (by omega)];rfl
   show Wk _ (.agg [_,_,_,_,.int .i64 (plc e (L.drop n))])
   rw[this];exact Wk.refl _
theorem p113 (s:ZS L e) (k:Int) (w:Bs):Pur Tryz.prog 113 [pvZ s,.int .i64 k,.str w] (.bool (zis k w s)):=by
 refine .mk ⟨pvZ_under 0 s,trivial,trivial,trivial⟩ trivial (a113 (ev_awp TabOK.tnil (ev_evK ?_)))
 obtain⟨n,b,h⟩:=s
 have hl':L.length<1000000000:=hl
 cases b with
 |true=>
  simp only[eE,eC,eN,reduceCtorEq,Nat.reduceEqDiff,↓reduceIte,Nat.reduceAdd,Nat.reduceLeDiff,Bool.not_true,Int.toNat_natCast,Int.natCast_nonneg,List.length_map,List.getElem?_map,scmp_eqZ,c113]
  rfl
 |false=>
  by_cases hlt:n<L.length
  ·have hg:=List.getElem?_eq_getElem hlt
   simp only[eE,eC,eN,reduceCtorEq,Nat.reduceEqDiff,↓reduceIte,Nat.reduceAdd,Nat.reduceLeDiff,Bool.not_false,Option.getD_some,Int.toNat_natCast,Int.natCast_nonneg,List.length_map,List.getElem?_map,scmp_eqZ,c113,lt_T hlt,hg]
   simp [zis,zhd,hg]
  ·simp only[eE,eC,eN,reduceCtorEq,Nat.reduceEqDiff,↓reduceIte,Nat.reduceAdd,Nat.reduceLeDiff,Bool.not_false,Int.toNat_natCast,Int.natCast_nonneg,List.length_map,List.getElem?_map,scmp_eqZ,c113,lt_F hlt]
   have hg:=List.getElem?_eq_none (Nat.le_of_not_lt hlt)
   simp [zis,zhd,hg]
theorem p107 (s:ZS L e):Pur Tryz.prog 107 [pvZ s] (.bool (zisNm s)):=by
 refine .mk ⟨pvZ_under 0 s,trivial⟩ trivial (a107 (ev_awp TabOK.tnil (ev_evK ?_)))
 obtain⟨n,b,h⟩:=s
 have hl':L.length<1000000000:=hl
 cases b with
 |true=>
  simp only[eE,eC,eN,Nat.reduceEqDiff,↓reduceIte,Nat.reduceAdd,Nat.reduceLeDiff,Bool.not_true,Int.toNat_natCast,Int.natCast_nonneg,List.length_map,List.getElem?_map,c107]
  rfl
 |false=>
  by_cases hlt:n<L.length
  ·have hg:=List.getElem?_eq_getElem hlt
   simp only[eE,eC,eN,reduceCtorEq,Nat.reduceEqDiff,↓reduceIte,Nat.reduceAdd,Nat.reduceLeDiff,Bool.not_false,Option.getD_some,Int.toNat_natCast,Int.natCast_nonneg,List.length_map,List.getElem?_map,c107,lt_T hlt,hg]
   simp [zisNm,zhd,hg]
  ·simp only[eE,eC,eN,reduceCtorEq,Nat.reduceEqDiff,↓reduceIte,Nat.reduceAdd,Nat.reduceLeDiff,Bool.not_false,Int.toNat_natCast,Int.natCast_nonneg,List.length_map,List.getElem?_map,c107,lt_F hlt]
   have hg:=List.getElem?_eq_none (Nat.le_of_not_lt hlt)
   simp [zisNm,zhd,hg]
theorem p109 (s:ZS L e):Pur Tryz.prog 109 [pvZ s] (.bool (zisNb s)):=by
 refine .mk ⟨pvZ_under 0 s,trivial⟩ trivial (a109 (ev_awp TabOK.tnil (ev_evK ?_)))
 obtain⟨n,b,h⟩:=s
 have hl':L.length<1000000000:=hl
 cases b with
 |true=>
  simp only[eE,eC,eN,Nat.reduceEqDiff,↓reduceIte,Nat.reduceAdd,Nat.reduceLeDiff,Bool.not_true,Int.toNat_natCast,Int.natCast_nonneg,List.length_map,List.getElem?_map,c109]
  rfl
 |false=>
  by_cases hlt:n<L.length
  ·have hg:=List.getElem?_eq_getElem hlt
   simp only[eE,eC,eN,reduceCtorEq,Nat.reduceEqDiff,↓reduceIte,Nat.reduceAdd,Nat.reduceLeDiff,Bool.not_false,Option.getD_some,Int.toNat_natCast,Int.natCast_nonneg,List.length_map,List.getElem?_map,c109,lt_T hlt,hg]
   simp [zisNb,zhd,hg]
  ·simp only[eE,eC,eN,reduceCtorEq,Nat.reduceEqDiff,↓reduceIte,Nat.reduceAdd,Nat.reduceLeDiff,Bool.not_false,Int.toNat_natCast,Int.natCast_nonneg,List.length_map,List.getElem?_map,c109,lt_F hlt]
   have hg:=List.getElem?_eq_none (Nat.le_of_not_lt hlt)
   simp [zisNb,zhd,hg]
omit hl
def Tzn (L:List Tkn) (e:Int):Tab:=tadd 113 (s3 (dZ L e) dI dS (fun _ _ _=>True) fun s k w=>.bool (zis k w s)) (tadd 73 (s1 (dZ L e) (fun _=>True) fun s=>pvZ (zfail s)) (tadd 107 (s1 (dZ L e) (fun _=>True) fun s=>.bool (zisNm s)) (tadd 109 (s1 (dZ L e) (fun _=>True) fun s=>.bool (zisNb s)) tnil)))
theorem Tzn_ok (hl:few L):TabOK Tryz.prog (Tzn L e):=(((TabOK.tnil.add (q1 fun s _=>p109 hl s)).add (q1 fun s _=>p107 hl s)).add (q1 fun s _=>p73 hl s)).add (q3 fun s k w _=>p113 hl s k w)
theorem Tzn_n (a:List AVal) (H:AHeap):Tzn L e 113 a H=s3 (dZ L e) dI dS (fun _ _ _=>True) (fun s k w=>.bool (zis k w s)) a H:=rfl
theorem Tzn_f (a:List AVal) (H:AHeap):Tzn L e 73 a H=s1 (dZ L e) (fun _=>True) (fun s=>pvZ (zfail s)) a H:=rfl
theorem Tzn_m (a:List AVal) (H:AHeap):Tzn L e 107 a H=s1 (dZ L e) (fun _=>True) (fun s=>.bool (zisNm s)) a H:=rfl
theorem Tzn_b (a:List AVal) (H:AHeap):Tzn L e 109 a H=s1 (dZ L e) (fun _=>True) (fun s=>.bool (zisNb s)) a H:=rfl
include hl
theorem p69 (s:ZS L e) (w:Bs):Pur Tryz.prog 69 [pvZ s,.str w] (.bool (zis 1 w s)):=by
 refine .mk ⟨pvZ_under 0 s,trivial,trivial⟩ trivial (a69 (ev_awp (Tzn_ok (L:=L) (e:=e) hl) (ev_evK ?_)))
 simp only[eE,eN,reduceCtorEq,Nat.reduceEqDiff,↓reduceIte,Nat.reduceAdd,c69,Tzn_n,s3,dZ_ok,dZ_dec,dI_ok,dI_dec,dS_ok,dS_dec]
theorem p112 (s:ZS L e) (w:Bs):Pur Tryz.prog 112 [pvZ s,.str w] (.bool (zis 3 w s)):=by
 refine .mk ⟨pvZ_under 0 s,trivial,trivial⟩ trivial (a112 (ev_awp (Tzn_ok (L:=L) (e:=e) hl) (ev_evK ?_)))
 simp only[eE,eN,reduceCtorEq,Nat.reduceEqDiff,↓reduceIte,Nat.reduceAdd,c112,Tzn_n,s3,dZ_ok,dZ_dec,dI_ok,dI_dec,dS_ok,dS_dec]
theorem one_yes {α:Type} {f:Tkn→Bool} {v:Tkn→α} {z:α} {s:ZS L e} (h:zhd f s=true):zone f v z s=(v (L[s.n]'(zhd_lt h)),⟨s.n+1,s.b,zhd_lt h⟩):=dif_pos h
theorem one_no {α:Type} {f:Tkn→Bool} {v:Tkn→α} {z:α} {s:ZS L e} (h:zhd f s=false):zone f v z s=(z,zfail s):=dif_neg (by rw[h];decide)
theorem p108 (s:ZS L e) (k:Int) (w:Bs):Pur Tryz.prog 108 [pvZ s,.int .i64 k,.str w] (pvZ (zw k w s).2):=by
 refine .mk ⟨pvZ_under 0 s,trivial,trivial,trivial⟩ (pvZ_under 0 _) (a108 (ev_awp (Tzn_ok (L:=L) (e:=e) hl) (ev_evK ?_)))
 have hl':L.length<1000000000:=hl
 have hle:=s.le
 cases hz:zis k w s with
 |true=>
  have hlt:=zhd_lt hz
  have hb:=zhd_b hz
  have hw:zw k w s=((),⟨s.n+1,s.b,hlt⟩):=one_yes hl hz
  have e1:=w64_succ (k:=s.n) (by omega)
  rw[hw]
  simp only[eE,eC,eN,reduceCtorEq,Nat.reduceEqDiff,↓reduceIte,Nat.reduceAdd,Nat.reduceLeDiff,Int.reduceEq,Bool.not_true,rcell,c108,Tzn_n,s3,dZ_ok,dZ_dec,dI_ok,dI_dec,dS_ok,dS_dec,hz,e1]
  have:s.pl=(⟨s.n+1,s.b,hlt⟩:ZS L e).pl:=by unfold ZS.pl;rw[hb];rfl
  rw[this];exact Wk.refl _
 |false=>
  have hw:zw k w s=((),zfail s):=one_no hl hz
  rw[hw]
  simp only[eE,eC,eN,reduceCtorEq,Nat.reduceEqDiff,↓reduceIte,Nat.reduceAdd,Bool.not_false,rcell,c108,Tzn_n,Tzn_f,s1,s3,dZ_ok,dZ_dec,dI_ok,dI_dec,dS_ok,dS_dec,hz]
  exact Wk.refl _
theorem p63 (s:ZS L e):Pur Tryz.prog 63 [pvZ s] (.tup [.str (zname s).1,pvZ (zname s).2]):=by
 refine .mk ⟨pvZ_under 0 s,trivial⟩ ⟨trivial,pvZ_under 0 _,trivial⟩ (a63 (ev_awp (Tzn_ok (L:=L) (e:=e) hl) (ev_evK ?_)))
 have hl':L.length<1000000000:=hl
 cases hz:zisNm s with
 |true=>
  have hlt:=zhd_lt hz
  have hb:=zhd_b hz
  have hg:=List.getElem?_eq_getElem hlt
  have hw:zname s=(L[s.n].T,⟨s.n+1,s.b,hlt⟩):=one_yes hl hz
  have e1:=w64_succ (k:=s.n) (by omega)
  rw[hw]
  simp only[eE,eC,eN,reduceCtorEq,Nat.reduceEqDiff,↓reduceIte,Nat.reduceAdd,Nat.reduceLeDiff,Int.reduceEq,Bool.not_true,rcell,Option.getD_some,Int.toNat_natCast,Int.natCast_nonneg,List.length_map,List.getElem?_map,c63,Tzn_m,s1,dZ_ok,dZ_dec,hz,lt_T hlt,hg,e1]
  have:s.pl=(⟨s.n+1,s.b,hlt⟩:ZS L e).pl:=by unfold ZS.pl;rw[hb];rfl
  rw[this];exact Wk.refl _
 |false=>
  have hw:zname s=([],zfail s):=one_no hl hz
  rw[hw]
  simp only[eE,eC,eN,reduceCtorEq,Nat.reduceEqDiff,↓reduceIte,Nat.reduceAdd,Bool.not_false,rcell,c63,Tzn_m,Tzn_f,s1,dZ_ok,dZ_dec,hz]
  exact Wk.refl _
theorem p65 (s:ZS L e):Pur Tryz.prog 65 [pvZ s] (.tup [.int .i64 (znum s).1,pvZ (znum s).2]):=by
 refine .mk ⟨pvZ_under 0 s,trivial⟩ ⟨trivial,pvZ_under 0 _,trivial⟩ (a65 (ev_awp (Tzn_ok (L:=L) (e:=e) hl) (ev_evK ?_)))
 have hl':L.length<1000000000:=hl
 cases hz:zisNb s with
 |true=>
  have hlt:=zhd_lt hz
  have hb:=zhd_b hz
  have hg:=List.getElem?_eq_getElem hlt
  have hw:znum s=(L[s.n].N,⟨s.n+1,s.b,hlt⟩):=one_yes hl hz
  have e1:=w64_succ (k:=s.n) (by omega)
  rw[hw]
  simp only[eE,eC,eN,reduceCtorEq,Nat.reduceEqDiff,↓reduceIte,Nat.reduceAdd,Nat.reduceLeDiff,Int.reduceEq,Bool.not_true,rcell,Option.getD_some,Int.toNat_natCast,Int.natCast_nonneg,List.length_map,List.getElem?_map,c65,Tzn_b,s1,dZ_ok,dZ_dec,hz,lt_T hlt,hg,e1]
  have:s.pl=(⟨s.n+1,s.b,hlt⟩:ZS L e).pl:=by unfold ZS.pl;rw[hb];rfl
  rw[this];exact Wk.refl _
 |false=>
  have hw:znum s=(0,zfail s):=one_no hl hz
  rw[hw]
  simp only[eE,eC,eN,reduceCtorEq,Nat.reduceEqDiff,↓reduceIte,Nat.reduceAdd,Bool.not_false,rcell,c65,Tzn_b,Tzn_f,s1,dZ_ok,dZ_dec,hz]
  exact Wk.refl _
omit hl
def Tze (L:List Tkn) (e:Int):Tab:=tadd 108 (s3 (dZ L e) dI dS (fun _ _ _=>True) fun s k w=>pvZ (zw k w s).2) tnil
theorem Tze_ok (hl:few L):TabOK Tryz.prog (Tze L e):=TabOK.tnil.add (q3 fun s k w _=>p108 hl s k w)
theorem Tze_e (a:List AVal) (H:AHeap):Tze L e 108 a H=s3 (dZ L e) dI dS (fun _ _ _=>True) (fun s k w=>pvZ (zw k w s).2) a H:=rfl
include hl
theorem p64 (s:ZS L e) (w:Bs):Pur Tryz.prog 64 [pvZ s,.str w] (pvZ (zw 1 w s).2):=by
 refine .mk ⟨pvZ_under 0 s,trivial,trivial⟩ (pvZ_under 0 _) (a64 (ev_awp (Tze_ok (L:=L) (e:=e) hl) (ev_evK ?_)))
 simp only[eE,eN,reduceCtorEq,Nat.reduceEqDiff,↓reduceIte,Nat.reduceAdd,rcell,c64,Tze_e,s3,dZ_ok,dZ_dec,dI_ok,dI_dec,dS_ok,dS_dec]
 exact Wk.refl _
theorem p67 (s:ZS L e) (w:Bs):Pur Tryz.prog 67 [pvZ s,.str w] (pvZ (zw 3 w s).2):=by
 refine .mk ⟨pvZ_under 0 s,trivial,trivial⟩ (pvZ_under 0 _) (a67 (ev_awp (Tze_ok (L:=L) (e:=e) hl) (ev_evK ?_)))
 simp only[eE,eN,reduceCtorEq,Nat.reduceEqDiff,↓reduceIte,Nat.reduceAdd,rcell,c67,Tze_e,s3,dZ_ok,dZ_dec,dI_ok,dI_dec,dS_ok,dS_dec]
 exact Wk.refl _
end
end Go.AM
end
section
set_option maxRecDepth 20000
set_option linter.all false
namespace Go.AM
open Go.Proofs Go.Lib
section
variable {L:List Tkn} {e:Int}
def Tzs (L:List Tkn) (e:Int):Tab:=tadd 64 (s2 (dZ L e) dS (fun _ _=>True) fun s w=>pvZ (zw 1 w s).2) (tadd 67 (s2 (dZ L e) dS (fun _ _=>True) fun s w=>pvZ (zw 3 w s).2)
 (tadd 69 (s2 (dZ L e) dS (fun _ _=>True) fun s w=>.bool (zis 1 w s)) (tadd 112 (s2 (dZ L e) dS (fun _ _=>True) fun s w=>.bool (zis 3 w s))
 (tadd 107 (s1 (dZ L e) (fun _=>True) fun s=>.bool (zisNm s)) (tadd 109 (s1 (dZ L e) (fun _=>True) fun s=>.bool (zisNb s))
 (tadd 63 (s1 (dZ L e) (fun _=>True) fun s=>.tup [.str (zname s).1,pvZ (zname s).2]) (tadd 65 (s1 (dZ L e) (fun _=>True) fun s=>.tup [.int .i64 (znum s).1,pvZ (znum s).2]) tnil)))))))
theorem Tzs_ok (hl:few L):TabOK Tryz.prog (Tzs L e):=(((((((TabOK.tnil.add (q1 fun s _=>p65 hl s)).add (q1 fun s _=>p63 hl s)).add (q1 fun s _=>p109 hl s)).add (q1 fun s _=>p107 hl s)).add (q2 fun s w _=>p112 hl s w)).add (q2 fun s w _=>p69 hl s w)).add (q2 fun s w _=>p67 hl s w)).add (q2 fun s w _=>p64 hl s w)
variable (a:List AVal) (H:AHeap)
theorem Tzs_w:Tzs L e 64 a H=s2 (dZ L e) dS (fun _ _=>True) (fun s w=>pvZ (zw 1 w s).2) a H:=rfl
theorem Tzs_g:Tzs L e 67 a H=s2 (dZ L e) dS (fun _ _=>True) (fun s w=>pvZ (zw 3 w s).2) a H:=rfl
theorem Tzs_iw:Tzs L e 69 a H=s2 (dZ L e) dS (fun _ _=>True) (fun s w=>.bool (zis 1 w s)) a H:=rfl
theorem Tzs_is:Tzs L e 112 a H=s2 (dZ L e) dS (fun _ _=>True) (fun s w=>.bool (zis 3 w s)) a H:=rfl
theorem Tzs_im:Tzs L e 107 a H=s1 (dZ L e) (fun _=>True) (fun s=>.bool (zisNm s)) a H:=rfl
theorem Tzs_ib:Tzs L e 109 a H=s1 (dZ L e) (fun _=>True) (fun s=>.bool (zisNb s)) a H:=rfl
theorem Tzs_nm:Tzs L e 63 a H=s1 (dZ L e) (fun _=>True) (fun s=>.tup [.str (zname s).1,pvZ (zname s).2]) a H:=rfl
theorem Tzs_nb:Tzs L e 65 a H=s1 (dZ L e) (fun _=>True) (fun s=>.tup [.int .i64 (znum s).1,pvZ (znum s).2]) a H:=rfl
end
structure VZ (L:List Tkn) (e:Int) (α:Type) where
 s:ZS L e
 acc:List α
 tk:Tok
 H:AHeap
 n:Nat
section
variable {L:List Tkn} {e:Int} {α:Type}
abbrev bxZ (s:ZS L e):AObj:=.box [.sl (.none 4) (L.map encK),.int .i64 s.n,.int .i64 e,.bool s.b,.int .i64 s.pl]
structure IZ (t:ZS L e→Bool) (f:ZS L e→α×ZS L e) (es i o lo:Nat) (s1:ZS L e) (zo:List AVal) (v:VZ L e α):Prop where
 eq1:(zloop t f s1).1=v.acc++(zloop t f v.s).1
 eq2:(zloop t f s1).2=(zloop t f v.s).2
 len:v.acc.length≤v.s.n
 fr:Fresh v.H v.n
 hp:hget v.H i=some (bxZ v.s)
 ho:hget v.H o=some (.box zo)
 tok:tkG es lo v.H v.tk
 hn:lo≤v.n
 es:v.tk.esz=es
abbrev zP:List AVal:=[.sl .nil [],.int .i64 0,.int .i64 0,.bool false,.int .i64 0]
theorem IZ.next {t:ZS L e→Bool} {f:ZS L e→α×ZS L e} {es i o lo k m:Nat} {s1 sa:ZS L e} {zo:List AVal} {acc:List α} {tk:Tok} {H1:AHeap} {n1:Nat} (h:IZ t f es i o lo s1 zo ⟨sa,acc,tk,H1,n1⟩) (hi:Zi t f) (hs:t sa=true) (h1:i<lo) (h2:o<lo) (h3:i≠o) (hk:k<m) (hlk:n1≤n1+k):
  IZ t f es i o lo s1 zo ⟨(f sa).2,acc++[(f sa).1],.own (n1+k) es,hset (killTok (hset H1 i (bxZ (f sa).2)) tk) (n1+k) .tok,n1+m⟩:=by
 obtain⟨e1,e2,hlen,hfr,hp,ho,htk,hn,hes⟩:=h
 simp only at e1 e2 hlen hfr hp ho htk hn hes
 rw[zloop_yes hi hs]at e1 e2
 have hg:=hi sa hs
 have hil:i<n1:=hfr.lt hp
 have ht2:tkG es lo (hset H1 i (bxZ (f sa).2)) tk:=htk.set (.inl h1)
 refine⟨by rw[e1];simp,e2,by simp only[List.length_append,List.length_cons,List.length_nil];omega,(kill_fresh ht2 (hfr.hset (Nat.le_refl _) hil)).hset (by simp only[];omega) (by simp only[];omega),?_,?_,.inr (.inr ⟨_,rfl,by omega,hget_hset_eq ..⟩),by simp only[];omega,rfl⟩
 ·simp only[]
  rw[hget_hset_ne _ _ _ _ (by omega),kill_get ht2 (.inl h1)];exact hget_hset_eq ..
 ·simp only[]
  rw[hget_hset_ne _ _ _ _ (by omega),kill_get ht2 (.inl h2),hget_hset_ne _ _ _ _ h3];exact ho
variable (hl:few L)
include hl
theorem p110 (s:ZS L e):Pur Tryz.prog 110 [pvZ s] (.tup [eIs (zlist znum s).1,pvZ (zlist znum s).2]):=by
 refine .mk ⟨pvZ_under 0 s,trivial⟩ ⟨eIs_under 0 _,pvZ_under 0 _,trivial⟩ (a110 (ev_awp (Tzs_ok (L:=L) (e:=e) hl) (ev_evK ?_)))
 have hl':L.length<1000000000:=hl
 simp only[eE,eN,reduceCtorEq,Nat.reduceEqDiff,↓reduceIte,Nat.reduceAdd,Nat.reduceLeDiff,Nat.reduceMul,Nat.reduceLT,Tzs_nb,s1,dZ_ok,dZ_dec,Option.getD_some,List.getElem?_cons_zero,List.getElem?_cons_succ,c110]
 refine k_loop (fun v:VZ L e Int=>⟨[(3,true,.ptr 2 0),(5,true,.ptr 8 0),(6,true,.sl v.tk ((((znum s).1::v.acc)).map eI))],v.H,v.n⟩)
  (IZ (zis 3 [44]) (zbd (zw 3 [44]) fun _=>znum) 1 8 2 9 (znum s).2 zP) (fun v=>L.length-v.s.n)
  ⟨(znum s).2,[],.exact 1,hset (hset (hset (hset hnil 0 (bxZ s)) 2 (.box zP)) 8 (.box zP)) 8 (bxZ (znum s).2),11⟩ rfl ⟨rfl,rfl,Nat.zero_le _,?_,rfl,rfl,.inr (.inl rfl),Nat.le_add_left 9 2,rfl⟩ ?_
 ·intro id hid
  have:11≤id:=hid
  simp only[hget_hset]
  repeat rw[if_neg (by omega)]
  rfl
 rintro⟨sa,acc,tk,H1,n1⟩ hI
 have hI2:=hI
 obtain⟨e1,e2,hlen,hfr,hp,ho,htk,hn,hes⟩:=hI2
 simp only at e1 e2 hlen hfr hp ho htk hn hes
 have hi:=zi_bd (k:=3) (w:=[44]) (f:=znum (L:=L) (e:=e)) zm_num
 have hle:=sa.le
 have ez:zlist znum s=((znum s).1::(zloop (zis 3 [44]) (zbd (zw 3 [44]) fun _=>znum) (znum s).2).1,(zloop (zis 3 [44]) (zbd (zw 3 [44]) fun _=>znum) (znum s).2).2):=rfl
 by_cases hs:zis 3 [44] sa=true
 case neg=>
  have hs':zis 3 [44] sa=false:=by simpa using hs
  rw[zloop_no hs]at e1 e2
  rw[List.append_nil]at e1
  rw[ez,e1,e2]
  simp only[eE,eC,eN,Nat.reduceEqDiff,↓reduceIte,Nat.reduceAdd,rcell,Tzs_is,s2,dZ_ok,dZ_dec,dS_ok,dS_dec,hp,ho,hs']
  exact Wk.tup (.cons (Wk.sl (.inl hes)) (.cons (Wk.refl _) .nil))
 have h2:=hi sa hs
 have h3:=(zbd (zw 3 [44]) (fun _=>znum) sa).2.le
 have ht2:tkG 1 9 (hset H1 8 (bxZ (znum (zw 3 [44] sa).2).2)) tk:=htk.set (.inl (by decide))
 have q1:appOK (hset H1 8 (bxZ (znum (zw 3 [44] sa).2).2)) 1 tk=True:=eq_true ht2.app
 have q2:(acc.length≤35184372088830)=True:=eq_true (by omega)
 have q3:small (acc.length+2) 8=True:=eq_true (small_of (by omega) (by decide))
 have q4:(n1=5)=False:=eq_false (by omega)
 simp only[eE,eC,eN,reduceCtorEq,Nat.reduceEqDiff,↓reduceIte,Nat.reduceAdd,Nat.reduceLeDiff,Nat.reduceMul,Nat.reduceLT,Tzs_g,Tzs_is,Tzs_nb,s1,s2,dZ_ok,dZ_dec,dS_ok,dS_dec,Option.getD_some,List.length_map,List.getElem?_cons_zero,List.getElem?_cons_succ,hp,hs,q1,q2,q3,q4,fr1 hfr]
 exact .mk ⟨_,acc++[(znum (zw 3 [44] sa).2).1],.own (n1+3) 1,hset (killTok (hset H1 8 (bxZ (znum (zw 3 [44] sa).2).2)) tk) (n1+3) .tok,n1+5⟩ (by simp only[List.map_append,List.map_cons,List.map_nil]) (hI.next hi hs (by decide) (by decide) (by decide) (by decide) (by omega)) (by simp only[];omega)
theorem p131 (s:ZS L e):Pur Tryz.prog 131 [pvZ s] (.tup [eSs (zset s).1,pvZ (zset s).2]):=by
 refine .mk ⟨pvZ_under 0 s,trivial⟩ ⟨eSs_under 0 _,pvZ_under 0 _,trivial⟩ (a131 (ev_awp (Tzs_ok (L:=L) (e:=e) hl) (ev_evK ?_)))
 have hl':L.length<1000000000:=hl
 simp only[eE,eN,reduceCtorEq,Nat.reduceEqDiff,↓reduceIte,Nat.reduceAdd,Nat.reduceLeDiff,Nat.reduceMul,Nat.reduceLT,Tzs_g,Tzs_nm,s1,s2,dZ_ok,dZ_dec,dS_ok,dS_dec,Option.getD_some,List.getElem?_cons_zero,List.getElem?_cons_succ,c131]
 refine k_loop (fun v:VZ L e Bs=>⟨[(3,true,.ptr 2 0),(5,true,.ptr 9 0),(6,true,.sl v.tk ((((zname (zw 3 [123] s).2).1::v.acc)).map .str))],v.H,v.n⟩)
  (IZ (zis 3 [44]) (zbd (zw 3 [44]) fun _=>zname) 1 9 2 10 (zname (zw 3 [123] s).2).2 zP) (fun v=>L.length-v.s.n)
  ⟨(zname (zw 3 [123] s).2).2,[],.exact 1,hset (hset (hset (hset hnil 0 (bxZ s)) 2 (.box zP)) 9 (.box zP)) 9 (bxZ (zname (zw 3 [123] s).2).2),12⟩ rfl ⟨rfl,rfl,Nat.zero_le _,?_,rfl,rfl,.inr (.inl rfl),Nat.le_add_left 10 2,rfl⟩ ?_
 ·intro id hid
  have:12≤id:=hid
  simp only[hget_hset]
  repeat rw[if_neg (by omega)]
  rfl
 rintro⟨sa,acc,tk,H1,n1⟩ hI
 have hI2:=hI
 obtain⟨e1,e2,hlen,hfr,hp,ho,htk,hn,hes⟩:=hI2
 simp only at e1 e2 hlen hfr hp ho htk hn hes
 have hi:=zi_bd (k:=3) (w:=[44]) (f:=zname (L:=L) (e:=e)) zm_name
 have hle:=sa.le
 have ez:zset s=((zname (zw 3 [123] s).2).1::(zloop (zis 3 [44]) (zbd (zw 3 [44]) fun _=>zname) (zname (zw 3 [123] s).2).2).1,(zw 3 [125] (zloop (zis 3 [44]) (zbd (zw 3 [44]) fun _=>zname) (zname (zw 3 [123] s).2).2).2).2):=rfl
 by_cases hs:zis 3 [44] sa=true
 case neg=>
  have hs':zis 3 [44] sa=false:=by simpa using hs
  rw[zloop_no hs]at e1 e2
  rw[List.append_nil]at e1
  rw[ez,e1,e2]
  simp only[eE,eC,eN,Nat.reduceEqDiff,↓reduceIte,Nat.reduceAdd,rcell,Tzs_g,Tzs_is,s2,dZ_ok,dZ_dec,dS_ok,dS_dec,hp,ho,hs']
  exact Wk.tup (.cons (Wk.sl (.inl hes)) (.cons (Wk.refl _) .nil))
 have h2:=hi sa hs
 have h3:=(zbd (zw 3 [44]) (fun _=>zname) sa).2.le
 have ht2:tkG 1 10 (hset H1 9 (bxZ (zname (zw 3 [44] sa).2).2)) tk:=htk.set (.inl (by decide))
 have q1:appOK (hset H1 9 (bxZ (zname (zw 3 [44] sa).2).2)) 1 tk=True:=eq_true ht2.app
 have q2:(acc.length≤35184372088830)=True:=eq_true (by omega)
 have q3:small (acc.length+2) 16=True:=eq_true (small_of (by omega) (by decide))
 have q4:(n1=6)=False:=eq_false (by omega)
 simp only[eE,eC,eN,reduceCtorEq,Nat.reduceEqDiff,↓reduceIte,Nat.reduceAdd,Nat.reduceLeDiff,Nat.reduceMul,Nat.reduceLT,Tzs_g,Tzs_is,Tzs_nm,s1,s2,dZ_ok,dZ_dec,dS_ok,dS_dec,Option.getD_some,List.length_map,List.getElem?_cons_zero,List.getElem?_cons_succ,hp,hs,q1,q2,q3,q4,fr1 hfr]
 exact .mk ⟨_,acc++[(zname (zw 3 [44] sa).2).1],.own (n1+3) 1,hset (killTok (hset H1 9 (bxZ (zname (zw 3 [44] sa).2).2)) tk) (n1+3) .tok,n1+5⟩ (by simp only[List.map_append,List.map_cons,List.map_nil]) (hI.next hi hs (by decide) (by decide) (by decide) (by decide) (by omega)) (by simp only[];omega)
end
end Go.AM
end
section
set_option maxRecDepth 20000
set_option linter.all false
namespace Go.AM
open Go.Proofs Go.Lib
section
variable {L:List Tkn} {e:Int}
def Tzt (L:List Tkn) (e:Int):Tab:=tadd 110 (s1 (dZ L e) (fun _=>True) fun s=>.tup [eIs (zlist znum s).1,pvZ (zlist znum s).2]) (tadd 131 (s1 (dZ L e) (fun _=>True) fun s=>.tup [eSs (zset s).1,pvZ (zset s).2]) (Tzs L e))
theorem Tzt_ok (hl:few L):TabOK Tryz.prog (Tzt L e):=((Tzs_ok hl).add (q1 fun s _=>p131 hl s)).add (q1 fun s _=>p110 hl s)
variable (a:List AVal) (H:AHeap)
theorem Tzt_ns:Tzt L e 110 a H=s1 (dZ L e) (fun _=>True) (fun s=>.tup [eIs (zlist znum s).1,pvZ (zlist znum s).2]) a H:=rfl
theorem Tzt_st:Tzt L e 131 a H=s1 (dZ L e) (fun _=>True) (fun s=>.tup [eSs (zset s).1,pvZ (zset s).2]) a H:=rfl
theorem Tzt_w:Tzt L e 64 a H=s2 (dZ L e) dS (fun _ _=>True) (fun s w=>pvZ (zw 1 w s).2) a H:=rfl
theorem Tzt_g:Tzt L e 67 a H=s2 (dZ L e) dS (fun _ _=>True) (fun s w=>pvZ (zw 3 w s).2) a H:=rfl
theorem Tzt_iw:Tzt L e 69 a H=s2 (dZ L e) dS (fun _ _=>True) (fun s w=>.bool (zis 1 w s)) a H:=rfl
theorem Tzt_is:Tzt L e 112 a H=s2 (dZ L e) dS (fun _ _=>True) (fun s w=>.bool (zis 3 w s)) a H:=rfl
theorem Tzt_im:Tzt L e 107 a H=s1 (dZ L e) (fun _=>True) (fun s=>.bool (zisNm s)) a H:=rfl
theorem Tzt_ib:Tzt L e 109 a H=s1 (dZ L e) (fun _=>True) (fun s=>.bool (zisNb s)) a H:=rfl
theorem Tzt_nm:Tzt L e 63 a H=s1 (dZ L e) (fun _=>True) (fun s=>.tup [.str (zname s).1,pvZ (zname s).2]) a H:=rfl
theorem Tzt_nb:Tzt L e 65 a H=s1 (dZ L e) (fun _=>True) (fun s=>.tup [.int .i64 (znum s).1,pvZ (znum s).2]) a H:=rfl
end
section
variable {L:List Tkn} {e:Int} (hl:few L)
include hl
theorem p111 (s:ZS L e):Pur Tryz.prog 111 [pvZ s] (.tup [encSy (zsym s).1,pvZ (zsym s).2]):=by
 refine .mk ⟨pvZ_under 0 s,trivial⟩ ⟨encSy_under 0 _,pvZ_under 0 _,trivial⟩ (a111 (ev_awp (Tzt_ok (L:=L) (e:=e) hl) (ev_evK ?_)))
 simp only[eE,eN,eX,reduceCtorEq,Nat.reduceEqDiff,↓reduceIte,Nat.reduceAdd,Nat.reduceLeDiff,Nat.reduceLT,Nat.reduceMod,Nat.reduceSub,Nat.reduceDiv,rx_st0,rcell,Tzt_g,Tzt_nm,Tzt_nb,s1,s2,dZ_ok,dZ_dec,dS_ok,dS_dec,hset_hset,Option.getD_some,List.getElem?_cons_zero,List.getElem?_cons_succ,c111]
 exact Wk.refl _
theorem p71 (s:ZS L e):Pur Tryz.prog 71 [pvZ s] (.tup [encCl (zclu s).1,pvZ (zclu s).2]):=by
 refine .mk ⟨pvZ_under 0 s,trivial⟩ ⟨encCl_under 0 _,pvZ_under 0 _,trivial⟩ (a71 (ev_awp (Tzt_ok (L:=L) (e:=e) hl) (ev_evK ?_)))
 simp only[eE,eC,eN,reduceCtorEq,Nat.reduceEqDiff,↓reduceIte,Nat.reduceAdd,Nat.reduceLeDiff,Nat.reduceLT,Tzt_w,Tzt_iw,Tzt_nm,s1,s2,dZ_ok,dZ_dec,dS_ok,dS_dec,hset_hset,Option.getD_some,List.getElem?_cons_zero,List.getElem?_cons_succ,c71]
 generalize h1:zis 1 wSym _=b1
 cases b1
 ·simp only[eE,eC,eN,Nat.reduceEqDiff,↓reduceIte,Nat.reduceAdd,Tzt_iw,s2,dZ_ok,dZ_dec,dS_ok,dS_dec]
  generalize h2:zis 1 wNumber _=b2
  cases b2
  ·simp only[eE,eC,eN,reduceCtorEq,Nat.reduceEqDiff,↓reduceIte,Nat.reduceAdd,Nat.reduceLeDiff,rcell,Tzt_w,Tzt_g,s2,dZ_ok,dZ_dec,dS_ok,dS_dec]
   simp only[zclu,zbd,zif,zret,h1,h2,Bool.false_eq_true,if_false]
   exact Wk.refl _
  ·simp only[eE,eC,eN,reduceCtorEq,Nat.reduceEqDiff,↓reduceIte,Nat.reduceAdd,Nat.reduceLeDiff,Nat.reduceLT,rcell,Tzt_w,Tzt_g,Tzt_nb,s1,s2,dZ_ok,dZ_dec,dS_ok,dS_dec,hset_hset,Option.getD_some,List.getElem?_cons_zero,List.getElem?_cons_succ]
   simp only[zclu,zbd,zif,zret,h1,h2,Bool.false_eq_true,if_false,if_true]
   exact Wk.refl _
 ·simp only[eE,eC,eN,reduceCtorEq,Nat.reduceEqDiff,↓reduceIte,Nat.reduceAdd,Nat.reduceLeDiff,rcell,Tzt_w,Tzt_g,s2,dZ_ok,dZ_dec,dS_ok,dS_dec]
  simp only[zclu,zbd,zif,zret,h1,if_true]
  exact Wk.refl _
theorem p132 (x:DRul) (s:ZS L e):Pur Tryz.prog 132 [encRu x,pvZ s] (.tup [encRu (zbound x s).1,pvZ (zbound x s).2]):=by
 refine .mk ⟨encRu_under 0 x,pvZ_under 0 s,trivial⟩ ⟨encRu_under 0 _,pvZ_under 0 _,trivial⟩ (a132 (ev_awp (Tzt_ok (L:=L) (e:=e) hl) (ev_evK ?_)))
 cases h1:zis 1 wIs s
 ·cases h2:zis 1 wMost s
  ·cases h3:zisNm (zw 1 wLeast s).2
   ·simp only[eE,eC,eN,eX,reduceCtorEq,Nat.reduceEqDiff,↓reduceIte,Nat.reduceAdd,Nat.reduceLeDiff,Nat.reduceLT,Nat.reduceMod,Nat.reduceSub,Nat.reduceDiv,rx_st0,rcell,Tzt_w,Tzt_iw,Tzt_im,Tzt_nb,s1,s2,dZ_ok,dZ_dec,dS_ok,dS_dec,Option.getD_some,List.getElem?_cons_zero,List.getElem?_cons_succ,c132,h1,h2,h3]
    simp only[zbound,zop,zlim,zbd,zif,zret,h1,h2,h3,Bool.false_eq_true,if_false]
    exact Wk.refl _
   ·simp only[eE,eC,eN,eX,reduceCtorEq,Nat.reduceEqDiff,↓reduceIte,Nat.reduceAdd,Nat.reduceLeDiff,Nat.reduceLT,Nat.reduceMod,Nat.reduceSub,Nat.reduceDiv,rx_st0,rcell,Tzt_w,Tzt_iw,Tzt_im,Tzt_nm,s1,s2,dZ_ok,dZ_dec,dS_ok,dS_dec,Option.getD_some,List.getElem?_cons_zero,List.getElem?_cons_succ,c132,h1,h2,h3]
    simp only[zbound,zop,zlim,zbd,zif,zret,h1,h2,h3,Bool.false_eq_true,if_false,if_true]
    exact Wk.refl _
  ·cases h3:zisNm (zw 1 wMost s).2
   ·simp only[eE,eC,eN,eX,reduceCtorEq,Nat.reduceEqDiff,↓reduceIte,Nat.reduceAdd,Nat.reduceLeDiff,Nat.reduceLT,Nat.reduceMod,Nat.reduceSub,Nat.reduceDiv,rx_st0,rcell,Tzt_w,Tzt_iw,Tzt_im,Tzt_nb,s1,s2,dZ_ok,dZ_dec,dS_ok,dS_dec,Option.getD_some,List.getElem?_cons_zero,List.getElem?_cons_succ,c132,h1,h2,h3]
    simp only[zbound,zop,zlim,zbd,zif,zret,h1,h2,h3,Bool.false_eq_true,if_false,if_true]
    exact Wk.refl _
   ·simp only[eE,eC,eN,eX,reduceCtorEq,Nat.reduceEqDiff,↓reduceIte,Nat.reduceAdd,Nat.reduceLeDiff,Nat.reduceLT,Nat.reduceMod,Nat.reduceSub,Nat.reduceDiv,rx_st0,rcell,Tzt_w,Tzt_iw,Tzt_im,Tzt_nm,s1,s2,dZ_ok,dZ_dec,dS_ok,dS_dec,Option.getD_some,List.getElem?_cons_zero,List.getElem?_cons_succ,c132,h1,h2,h3]
    simp only[zbound,zop,zlim,zbd,zif,zret,h1,h2,h3,Bool.false_eq_true,if_false,if_true]
    exact Wk.refl _
 ·cases h3:zisNm (zw 1 wIs s).2
  ·simp only[eE,eC,eN,eX,reduceCtorEq,Nat.reduceEqDiff,↓reduceIte,Nat.reduceAdd,Nat.reduceLeDiff,Nat.reduceLT,Nat.reduceMod,Nat.reduceSub,Nat.reduceDiv,rx_st0,rcell,Tzt_w,Tzt_iw,Tzt_im,Tzt_nb,s1,s2,dZ_ok,dZ_dec,dS_ok,dS_dec,Option.getD_some,List.getElem?_cons_zero,List.getElem?_cons_succ,c132,h1,h3]
   simp only[zbound,zop,zlim,zbd,zif,zret,h1,h3,Bool.false_eq_true,if_false,if_true]
   exact Wk.refl _
  ·simp only[eE,eC,eN,eX,reduceCtorEq,Nat.reduceEqDiff,↓reduceIte,Nat.reduceAdd,Nat.reduceLeDiff,Nat.reduceLT,Nat.reduceMod,Nat.reduceSub,Nat.reduceDiv,rx_st0,rcell,Tzt_w,Tzt_iw,Tzt_im,Tzt_nm,s1,s2,dZ_ok,dZ_dec,dS_ok,dS_dec,Option.getD_some,List.getElem?_cons_zero,List.getElem?_cons_succ,c132,h1,h3]
   simp only[zbound,zop,zlim,zbd,zif,zret,h1,h3,if_true]
   exact Wk.refl _
end
end Go.AM
end
section
set_option maxRecDepth 20000
set_option linter.all false
namespace Go.AM
open Go.Proofs Go.Lib
section
variable {nm on bn:Bs} {kd fam set oth op vn clue:Int} {ns os:List Bs}
theorem dRu_okX:dRu.ok (.agg [.str nm,.str on,.int .i64 kd,.int .i64 fam,.sl (.none 1) (ns.map .str),.sl (.none 1) (os.map .str),.int .i64 set,.int .i64 oth,.int .i64 op,.int .i64 vn,.str bn,.int .i64 clue])=True:=dRu_ok ⟨nm,on,kd,fam,ns,os,set,oth,op,vn,bn,clue⟩
theorem dRu_decX:dRu.dec (.agg [.str nm,.str on,.int .i64 kd,.int .i64 fam,.sl (.none 1) (ns.map .str),.sl (.none 1) (os.map .str),.int .i64 set,.int .i64 oth,.int .i64 op,.int .i64 vn,.str bn,.int .i64 clue])=⟨nm,on,kd,fam,ns,os,set,oth,op,vn,bn,clue⟩:=dRu_dec ⟨nm,on,kd,fam,ns,os,set,oth,op,vn,bn,clue⟩
theorem dRu_dec0:dRu.dec (.agg [.str nm,.str [],.int .i64 0,.int .i64 0,.sl .nil [],.sl .nil [],.int .i64 0,.int .i64 0,.int .i64 0,.int .i64 0,.str [],.int .i64 0])={rul0 with nm:=nm}:=rfl
theorem dRu_ok0:dRu.ok (.agg [.str nm,.str [],.int .i64 0,.int .i64 0,.sl .nil [],.sl .nil [],.int .i64 0,.int .i64 0,.int .i64 0,.int .i64 0,.str [],.int .i64 0])=True:=eq_true (by
 show Wk _ (encRu (dRu.dec _))
 rw[dRu_dec0]
 exact Wk.agg (.cons (Wk.refl _) (.cons (Wk.refl _) (.cons (Wk.refl _) (.cons (Wk.refl _) (.cons (Wk.sl (.inr rfl)) (.cons (Wk.sl (.inr rfl)) (.cons (Wk.refl _) (.cons (Wk.refl _) (.cons (Wk.refl _) (.cons (Wk.refl _) (.cons (Wk.refl _) (.cons (Wk.refl _) .nil)))))))))))))
end
section
variable {L:List Tkn} {e:Int}
def Tzu (L:List Tkn) (e:Int):Tab:=(tadd 132 (s2 dRu (dZ L e) (fun _ _=>True) (fun x s=>.tup [encRu (zbound x s).1,pvZ (zbound x s).2])) (tadd 111 (s1 (dZ L e) (fun _=>True) (fun s=>.tup [encSy (zsym s).1,pvZ (zsym s).2])) (Tzt L e)))
theorem Tzu_ok (hl:few L):TabOK Tryz.prog (Tzu L e):=(((Tzt_ok hl).add (q1 fun s _=>p111 hl s)).add (q2 fun x s _=>p132 hl x s))
variable (a:List AVal) (H:AHeap)
theorem Tzu_bd:Tzu L e 132 a H=s2 dRu (dZ L e) (fun _ _=>True) (fun x s=>.tup [encRu (zbound x s).1,pvZ (zbound x s).2]) a H:=rfl
theorem Tzu_w:Tzu L e 64 a H=s2 (dZ L e) dS (fun _ _=>True) (fun s w=>pvZ (zw 1 w s).2) a H:=rfl
theorem Tzu_iw:Tzu L e 69 a H=s2 (dZ L e) dS (fun _ _=>True) (fun s w=>.bool (zis 1 w s)) a H:=rfl
theorem Tzu_nm:Tzu L e 63 a H=s1 (dZ L e) (fun _=>True) (fun s=>.tup [.str (zname s).1,pvZ (zname s).2]) a H:=rfl
theorem Tzu_st:Tzu L e 131 a H=s1 (dZ L e) (fun _=>True) (fun s=>.tup [eSs (zset s).1,pvZ (zset s).2]) a H:=rfl
end
section
variable {L:List Tkn} {e:Int} (hl:few L)
include hl
theorem p130 (x:DRul) (s:ZS L e):Pur Tryz.prog 130 [encRu x,pvZ s] (.tup [encRu (zeach x s).1,pvZ (zeach x s).2]):=by
 refine .mk ⟨encRu_under 0 x,pvZ_under 0 s,trivial⟩ ⟨encRu_under 0 _,pvZ_under 0 _,trivial⟩ (a130 (ev_awp (Tzu_ok (L:=L) (e:=e) hl) (ev_evK ?_)))
 cases h0:zis 1 wDiff s with
 |false=>
  cases h1:zis 1 wCount s with
  |false=>
   cases h2:zis 1 wSum s with
   |false=>
    cases h3:zis 1 wRise s with
    |false=>
     simp only[eE,eC,eN,eX,reduceCtorEq,Nat.reduceEqDiff,↓reduceIte,Nat.reduceAdd,Nat.reduceLeDiff,Nat.reduceLT,Nat.reduceMod,Nat.reduceSub,Nat.reduceDiv,rx_st0,rcell,s1,s2,dZ_ok,dZ_dec,dS_ok,dS_dec,hset_hset,Option.getD_some,List.getElem?_cons_zero,List.getElem?_cons_succ,Tzu_w,Tzu_iw,Tzu_nm,Tzu_st,c130,h0,h1,h2,h3]
     simp only[zeach,zbd,zif,zret,h0,h1,h2,h3,Bool.false_eq_true,if_false]
     exact Wk.refl _
    |true=>
     simp only[eE,eC,eN,reduceCtorEq,Nat.reduceEqDiff,↓reduceIte,Nat.reduceAdd,Nat.reduceLeDiff,rcell,s2,dZ_ok,dZ_dec,dS_ok,dS_dec,Tzu_w,Tzu_iw,c130,h0,h1,h2,h3]
     simp only[zeach,zbd,zif,zret,h0,h1,h2,h3,Bool.false_eq_true,if_false,if_true]
     exact Wk.refl _
   |true=>
    simp only[eE,eC,eN,reduceCtorEq,Nat.reduceEqDiff,↓reduceIte,Nat.reduceAdd,Nat.reduceLeDiff,Nat.reduceLT,rcell,s2,dZ_ok,dZ_dec,dS_ok,dS_dec,dRu_okX,dRu_decX,Option.getD_some,List.getElem?_cons_zero,List.getElem?_cons_succ,Tzu_bd,Tzu_w,Tzu_iw,c130,h0,h1,h2]
    simp only[zeach,zbd,zif,zret,h0,h1,h2,Bool.false_eq_true,if_false,if_true]
    exact Wk.refl _
  |true=>
   simp only[eE,eC,eN,reduceCtorEq,Nat.reduceEqDiff,↓reduceIte,Nat.reduceAdd,Nat.reduceLeDiff,Nat.reduceLT,rcell,s1,s2,dZ_ok,dZ_dec,dS_ok,dS_dec,dRu_okX,dRu_decX,hset_hset,Option.getD_some,List.getElem?_cons_zero,List.getElem?_cons_succ,Tzu_bd,Tzu_w,Tzu_iw,Tzu_st,c130,h0,h1]
   simp only[zeach,zbd,zif,zret,h0,h1,Bool.false_eq_true,if_false,if_true]
   exact Wk.refl _
 |true=>
  simp only[eE,eC,eN,reduceCtorEq,Nat.reduceEqDiff,↓reduceIte,Nat.reduceAdd,Nat.reduceLeDiff,rcell,s2,dZ_ok,dZ_dec,dS_ok,dS_dec,Tzu_w,Tzu_iw,c130,h0]
  simp only[zeach,zbd,zif,zret,h0,if_true]
  exact Wk.refl _
end
section
variable {L:List Tkn} {e:Int}
def Tzv (L:List Tkn) (e:Int):Tab:=(tadd 130 (s2 dRu (dZ L e) (fun _ _=>True) (fun x s=>.tup [encRu (zeach x s).1,pvZ (zeach x s).2])) (Tzu L e))
theorem Tzv_ok (hl:few L):TabOK Tryz.prog (Tzv L e):=((Tzu_ok hl).add (q2 fun x s _=>p130 hl x s))
variable (a:List AVal) (H:AHeap)
theorem Tzv_ea:Tzv L e 130 a H=s2 dRu (dZ L e) (fun _ _=>True) (fun x s=>.tup [encRu (zeach x s).1,pvZ (zeach x s).2]) a H:=rfl
theorem Tzv_bd:Tzv L e 132 a H=s2 dRu (dZ L e) (fun _ _=>True) (fun x s=>.tup [encRu (zbound x s).1,pvZ (zbound x s).2]) a H:=rfl
theorem Tzv_w:Tzv L e 64 a H=s2 (dZ L e) dS (fun _ _=>True) (fun s w=>pvZ (zw 1 w s).2) a H:=rfl
theorem Tzv_iw:Tzv L e 69 a H=s2 (dZ L e) dS (fun _ _=>True) (fun s w=>.bool (zis 1 w s)) a H:=rfl
theorem Tzv_nm:Tzv L e 63 a H=s1 (dZ L e) (fun _=>True) (fun s=>.tup [.str (zname s).1,pvZ (zname s).2]) a H:=rfl
theorem Tzv_nb:Tzv L e 65 a H=s1 (dZ L e) (fun _=>True) (fun s=>.tup [.int .i64 (znum s).1,pvZ (znum s).2]) a H:=rfl
theorem Tzv_st:Tzv L e 131 a H=s1 (dZ L e) (fun _=>True) (fun s=>.tup [eSs (zset s).1,pvZ (zset s).2]) a H:=rfl
end
section
variable {L:List Tkn} {e:Int} (hl:few L)
include hl
theorem p114 (x:DRul) (s:ZS L e):Pur Tryz.prog 114 [encRu x,pvZ s] (.tup [encRu (zbody x s).1,pvZ (zbody x s).2]):=by
 refine .mk ⟨encRu_under 0 x,pvZ_under 0 s,trivial⟩ ⟨encRu_under 0 _,pvZ_under 0 _,trivial⟩ (a114 (ev_awp (Tzv_ok (L:=L) (e:=e) hl) (ev_evK ?_)))
 cases h0:zis 1 wEach s with
 |false=>
  cases h1:zis 1 wUnlike s with
  |false=>
   cases h2:zis 1 wApart s with
   |false=>
    cases h3:zis 1 wNot s with
    |false=>
     cases h4:zis 1 wConn s with
     |false=>
      cases h5:zis 1 wLoop s with
      |false=>
       cases h6:zis 1 wGiven s with
       |false=>
        cases h7:zis 1 wFill s with
        |false=>
         simp only[eE,eC,eN,reduceCtorEq,Nat.reduceEqDiff,↓reduceIte,Nat.reduceAdd,Nat.reduceLeDiff,Nat.reduceLT,rcell,s2,dZ_ok,dZ_dec,dS_ok,dS_dec,dRu_okX,dRu_decX,Option.getD_some,List.getElem?_cons_zero,List.getElem?_cons_succ,Tzv_bd,Tzv_w,Tzv_iw,c114,h0,h1,h2,h3,h4,h5,h6,h7]
         simp only[zbody,zbd,zif,zret,h0,h1,h2,h3,h4,h5,h6,h7,Bool.false_eq_true,if_false]
         exact Wk.refl _
        |true=>
         simp only[eE,eC,eN,eX,reduceCtorEq,Nat.reduceEqDiff,↓reduceIte,Nat.reduceAdd,Nat.reduceLeDiff,Nat.reduceLT,Nat.reduceMod,Nat.reduceSub,Nat.reduceDiv,rx_st0,rcell,s1,s2,dZ_ok,dZ_dec,dS_ok,dS_dec,hset_hset,Option.getD_some,List.getElem?_cons_zero,List.getElem?_cons_succ,Tzv_w,Tzv_iw,Tzv_nm,c114,h0,h1,h2,h3,h4,h5,h6,h7]
         simp only[zbody,zbd,zif,zret,h0,h1,h2,h3,h4,h5,h6,h7,Bool.false_eq_true,if_false,if_true]
         exact Wk.refl _
       |true=>
        simp only[eE,eC,eN,eX,reduceCtorEq,Nat.reduceEqDiff,↓reduceIte,Nat.reduceAdd,Nat.reduceLeDiff,Nat.reduceLT,Nat.reduceMod,Nat.reduceSub,Nat.reduceDiv,rx_st0,rcell,s1,s2,dZ_ok,dZ_dec,dS_ok,dS_dec,hset_hset,Option.getD_some,List.getElem?_cons_zero,List.getElem?_cons_succ,Tzv_w,Tzv_iw,Tzv_nm,c114,h0,h1,h2,h3,h4,h5,h6]
        simp only[zbody,zbd,zif,zret,h0,h1,h2,h3,h4,h5,h6,Bool.false_eq_true,if_false,if_true]
        exact Wk.refl _
      |true=>
       simp only[eE,eC,eN,eX,reduceCtorEq,Nat.reduceEqDiff,↓reduceIte,Nat.reduceAdd,Nat.reduceLeDiff,Nat.reduceLT,Nat.reduceMod,Nat.reduceSub,Nat.reduceDiv,rx_st0,rcell,s1,s2,dZ_ok,dZ_dec,dS_ok,dS_dec,hset_hset,Option.getD_some,List.getElem?_cons_zero,List.getElem?_cons_succ,Tzv_w,Tzv_iw,Tzv_st,c114,h0,h1,h2,h3,h4,h5]
       simp only[zbody,zbd,zif,zret,h0,h1,h2,h3,h4,h5,Bool.false_eq_true,if_false,if_true]
       exact Wk.refl _
     |true=>
      simp only[eE,eC,eN,eX,reduceCtorEq,Nat.reduceEqDiff,↓reduceIte,Nat.reduceAdd,Nat.reduceLeDiff,Nat.reduceLT,Nat.reduceMod,Nat.reduceSub,Nat.reduceDiv,rx_st0,rcell,s1,s2,dZ_ok,dZ_dec,dS_ok,dS_dec,hset_hset,Option.getD_some,List.getElem?_cons_zero,List.getElem?_cons_succ,Tzv_w,Tzv_iw,Tzv_st,c114,h0,h1,h2,h3,h4]
      simp only[zbody,zbd,zif,zret,h0,h1,h2,h3,h4,Bool.false_eq_true,if_false,if_true]
      exact Wk.refl _
    |true=>
     simp only[eE,eC,eN,eX,reduceCtorEq,Nat.reduceEqDiff,↓reduceIte,Nat.reduceAdd,Nat.reduceLeDiff,Nat.reduceLT,Nat.reduceMod,Nat.reduceSub,Nat.reduceDiv,rx_st0,rcell,s1,s2,dZ_ok,dZ_dec,dS_ok,dS_dec,hset_hset,Option.getD_some,List.getElem?_cons_zero,List.getElem?_cons_succ,Tzv_w,Tzv_iw,Tzv_st,c114,h0,h1,h2,h3]
     simp only[zbody,zbd,zif,zret,h0,h1,h2,h3,Bool.false_eq_true,if_false,if_true]
     exact Wk.refl _
   |true=>
    simp only[eE,eC,eN,eX,reduceCtorEq,Nat.reduceEqDiff,↓reduceIte,Nat.reduceAdd,Nat.reduceLeDiff,Nat.reduceLT,Nat.reduceMod,Nat.reduceSub,Nat.reduceDiv,rx_st0,rcell,s1,s2,dZ_ok,dZ_dec,dS_ok,dS_dec,hset_hset,Option.getD_some,List.getElem?_cons_zero,List.getElem?_cons_succ,Tzv_w,Tzv_iw,Tzv_nb,c114,h0,h1,h2]
    simp only[zbody,zbd,zif,zret,h0,h1,h2,Bool.false_eq_true,if_false,if_true]
    exact Wk.refl _
  |true=>
   simp only[eE,eC,eN,reduceCtorEq,Nat.reduceEqDiff,↓reduceIte,Nat.reduceAdd,Nat.reduceLeDiff,rcell,s2,dZ_ok,dZ_dec,dS_ok,dS_dec,Tzv_w,Tzv_iw,c114,h0,h1]
   simp only[zbody,zbd,zif,zret,h0,h1,Bool.false_eq_true,if_false,if_true]
   exact Wk.refl _
 |true=>
  simp only[eE,eC,eN,reduceCtorEq,Nat.reduceEqDiff,↓reduceIte,Nat.reduceAdd,Nat.reduceLeDiff,Nat.reduceLT,rcell,s1,s2,dZ_ok,dZ_dec,dS_ok,dS_dec,dRu_okX,dRu_decX,Option.getD_some,List.getElem?_cons_zero,List.getElem?_cons_succ,Tzv_ea,Tzv_w,Tzv_iw,Tzv_nm,c114,h0]
  simp only[zbody,zbd,zif,zret,h0,if_true]
  exact Wk.refl _
end
section
variable {L:List Tkn} {e:Int}
def Tzx (L:List Tkn) (e:Int):Tab:=(tadd 114 (s2 dRu (dZ L e) (fun _ _=>True) (fun x s=>.tup [encRu (zbody x s).1,pvZ (zbody x s).2])) (Tzv L e))
theorem Tzx_ok (hl:few L):TabOK Tryz.prog (Tzx L e):=((Tzv_ok hl).add (q2 fun x s _=>p114 hl x s))
variable (a:List AVal) (H:AHeap)
theorem Tzx_by:Tzx L e 114 a H=s2 dRu (dZ L e) (fun _ _=>True) (fun x s=>.tup [encRu (zbody x s).1,pvZ (zbody x s).2]) a H:=rfl
theorem Tzx_ea:Tzx L e 130 a H=s2 dRu (dZ L e) (fun _ _=>True) (fun x s=>.tup [encRu (zeach x s).1,pvZ (zeach x s).2]) a H:=rfl
theorem Tzx_bd:Tzx L e 132 a H=s2 dRu (dZ L e) (fun _ _=>True) (fun x s=>.tup [encRu (zbound x s).1,pvZ (zbound x s).2]) a H:=rfl
theorem Tzx_sy:Tzx L e 111 a H=s1 (dZ L e) (fun _=>True) (fun s=>.tup [encSy (zsym s).1,pvZ (zsym s).2]) a H:=rfl
theorem Tzx_w:Tzx L e 64 a H=s2 (dZ L e) dS (fun _ _=>True) (fun s w=>pvZ (zw 1 w s).2) a H:=rfl
theorem Tzx_g:Tzx L e 67 a H=s2 (dZ L e) dS (fun _ _=>True) (fun s w=>pvZ (zw 3 w s).2) a H:=rfl
theorem Tzx_iw:Tzx L e 69 a H=s2 (dZ L e) dS (fun _ _=>True) (fun s w=>.bool (zis 1 w s)) a H:=rfl
theorem Tzx_is:Tzx L e 112 a H=s2 (dZ L e) dS (fun _ _=>True) (fun s w=>.bool (zis 3 w s)) a H:=rfl
theorem Tzx_im:Tzx L e 107 a H=s1 (dZ L e) (fun _=>True) (fun s=>.bool (zisNm s)) a H:=rfl
theorem Tzx_ib:Tzx L e 109 a H=s1 (dZ L e) (fun _=>True) (fun s=>.bool (zisNb s)) a H:=rfl
theorem Tzx_nm:Tzx L e 63 a H=s1 (dZ L e) (fun _=>True) (fun s=>.tup [.str (zname s).1,pvZ (zname s).2]) a H:=rfl
theorem Tzx_nb:Tzx L e 65 a H=s1 (dZ L e) (fun _=>True) (fun s=>.tup [.int .i64 (znum s).1,pvZ (znum s).2]) a H:=rfl
theorem Tzx_ns:Tzx L e 110 a H=s1 (dZ L e) (fun _=>True) (fun s=>.tup [eIs (zlist znum s).1,pvZ (zlist znum s).2]) a H:=rfl
theorem Tzx_st:Tzx L e 131 a H=s1 (dZ L e) (fun _=>True) (fun s=>.tup [eSs (zset s).1,pvZ (zset s).2]) a H:=rfl
end
section
variable {L:List Tkn} {e:Int} (hl:few L)
include hl
theorem p72 (s:ZS L e):Pur Tryz.prog 72 [pvZ s] (.tup [encRu (zrule s).1,pvZ (zrule s).2]):=by
 refine .mk ⟨pvZ_under 0 s,trivial⟩ ⟨encRu_under 0 _,pvZ_under 0 _,trivial⟩ (a72 (ev_awp (Tzx_ok (L:=L) (e:=e) hl) (ev_evK ?_)))
 simp only[eE,eN,reduceCtorEq,Nat.reduceEqDiff,↓reduceIte,Nat.reduceAdd,Nat.reduceLeDiff,Nat.reduceLT,rcell,s1,s2,dZ_ok,dZ_dec,dS_ok,dS_dec,dRu_ok0,dRu_dec0,hset_hset,Option.getD_some,List.getElem?_cons_zero,List.getElem?_cons_succ,Tzx_by,Tzx_w,Tzx_g,Tzx_nm,c72]
 simp only[zrule,zbd,zret]
 exact Wk.refl _
end
end Go.AM
end
section
set_option maxRecDepth 20000
set_option linter.all false
namespace Go.AM
open Go.Proofs Go.Lib
section
variable {L:List Tkn} {e:Int} {α:Type}
theorem IZ.set {t:ZS L e→Bool} {f:ZS L e→α×ZS L e} {es i o lo j:Nat} {s1 sa:ZS L e} {zo cs:List AVal} {acc:List α} {tk:Tok} {H1:AHeap} {n1:Nat} (h:IZ t f es i o lo s1 zo ⟨sa,acc,tk,H1,n1⟩) (h1:j<lo) (h2:j≠i) (h3:j≠o):IZ t f es i o lo s1 zo ⟨sa,acc,tk,hset H1 j (.box cs),n1⟩:=by
 obtain⟨e1,e2,hlen,hfr,hp,ho,htk,hn,hes⟩:=h
 simp only at e1 e2 hlen hfr hp ho htk hn hes
 exact⟨e1,e2,hlen,hfr.hset (Nat.le_refl _) (show j<n1 by omega),by simp only[];rw[hget_hset_ne _ _ _ _ h2];exact hp,by simp only[];rw[hget_hset_ne _ _ _ _ h3];exact ho,htk.set (.inl h1),hn,hes⟩
structure IY (t:ZS L e→Bool) (f:ZS L e→α×ZS L e) (es:Nat) (enc:α→AVal) (mk:AVal→List AVal) (s1:ZS L e) (H0:AHeap) (v:VZ L e α):Prop where
 eq1:(zloop t f s1).1=v.acc++(zloop t f v.s).1
 eq2:(zloop t f s1).2=(zloop t f v.s).2
 len:v.acc.length≤v.s.n
 fr:Fresh v.H v.n
 hp:hget v.H 0=some (bxZ v.s)
 hx:hget v.H 4=some (.box (mk (.sl v.tk (v.acc.map enc))))
 hk1:hget v.H 1=hget H0 1
 hk2:hget v.H 2=hget H0 2
 tok:tkG es 5 v.H v.tk
 hn:5≤v.n
 es:v.tk.esz=es∨v.acc=[]
theorem IY.next {t:ZS L e→Bool} {f:ZS L e→α×ZS L e} {es m n3:Nat} {enc:α→AVal} {mk:AVal→List AVal} {s1 sa:ZS L e} {H0 H1 H2:AHeap} {acc:List α} {tk:Tok} {n1:Nat} (h:IY t f es enc mk s1 H0 ⟨sa,acc,tk,H1,n1⟩) (hi:Zi t f) (hs:t sa=true)
  (ha:∀id,id<5→hget H2 id=hget H1 id) (ht:tkG es 5 H2 tk) (hf:Fresh H2 m) (hm:m<n3) (hm5:5≤m):
  IY t f es enc mk s1 H0 ⟨(f sa).2,acc++[(f sa).1],.own m es,hset (hset (hset (killTok H2 tk) m .tok) 4 (.box (mk (.sl (.own m es) ((acc++[(f sa).1]).map enc))))) 0 (bxZ (f sa).2),n3⟩:=by
 obtain⟨e1,e2,hlen,hfr,hp,hx,hk1,hk2,htk,hn,hes⟩:=h
 simp only at e1 e2 hlen hfr hp hx hk1 hk2 htk hn hes
 rw[zloop_yes hi hs]at e1 e2
 have hg:=hi sa hs
 refine⟨by rw[e1];simp,e2,by simp only[List.length_append,List.length_cons,List.length_nil];omega,(((kill_fresh ht hf).hset (by simp only[];omega) (by simp only[];omega)).hset (Nat.le_refl _) (by simp only[];omega)).hset (Nat.le_refl _) (by simp only[];omega),hget_hset_eq ..,?_,?_,?_,.inr (.inr ⟨m,rfl,hm5,?_⟩),by simp only[];omega,.inl rfl⟩
 ·simp only[]
  rw[hget_hset_ne _ _ _ _ (by decide)];exact hget_hset_eq ..
 ·simp only[]
  rw[hget_hset_ne _ _ _ _ (by decide),hget_hset_ne _ _ _ _ (by decide),hget_hset_ne _ _ _ _ (by omega),kill_get ht (.inl (by decide)),ha 1 (by decide)];exact hk1
 ·simp only[]
  rw[hget_hset_ne _ _ _ _ (by decide),hget_hset_ne _ _ _ _ (by decide),hget_hset_ne _ _ _ _ (by omega),kill_get ht (.inl (by decide)),ha 2 (by decide)];exact hk2
 ·simp only[]
  rw[hget_hset_ne _ _ _ _ (by omega),hget_hset_ne _ _ _ _ (by omega)];exact hget_hset_eq ..
variable (hl:few L)
include hl
theorem p68 (s:ZS L e):Pur Tryz.prog 68 [pvZ s] (.tup [eSys (zsyms s).1,pvZ (zsyms s).2]):=by
 refine .mk ⟨pvZ_under 0 s,trivial⟩ ⟨⟨trivial,unders_map (encSy_under 0) _⟩,pvZ_under 0 _,trivial⟩ (a68 (ev_awp (Tzx_ok (L:=L) (e:=e) hl) (ev_evK ?_)))
 have hl':L.length<1000000000:=hl
 simp only[eE,eN,reduceCtorEq,Nat.reduceEqDiff,↓reduceIte,Nat.reduceAdd,Nat.reduceLeDiff,Nat.reduceMul,Nat.reduceLT,Tzx_sy,Tzx_w,s1,s2,dZ_ok,dZ_dec,dS_ok,dS_dec,Option.getD_some,List.getElem?_cons_zero,List.getElem?_cons_succ,c68]
 generalize hs0:(zw 1 wSyms s).2=s0
 refine k_loop (fun v:VZ L e DSym=>⟨[(3,true,.ptr 2 0),(4,true,.ptr 9 0),(5,true,.ptr 10 0),(6,true,.sl v.tk ((((zsym s0).1::v.acc)).map encSy))],v.H,v.n⟩)
  (fun v=>IZ (zis 3 [44]) (zbd (zw 3 [44]) fun _=>zsym) 2 10 2 11 (zsym s0).2 zP v∧∃a b,hget v.H 9=some (.box [a,b])) (fun v=>L.length-v.s.n)
  ⟨(zsym s0).2,[],.exact 2,hset (hset (hset (hset (hset (hset hnil 0 (bxZ s)) 2 (.box zP)) 9 (.box [.str [],.int .i64 0])) 10 (.box zP)) 9 (.box [.str (zsym s0).1.nm,.int .i64 (zsym s0).1.v])) 10 (bxZ (zsym s0).2),13⟩ rfl ⟨⟨rfl,rfl,Nat.zero_le _,?_,rfl,rfl,.inr (.inl rfl),Nat.le_add_left 11 2,rfl⟩,_,_,rfl⟩ ?_
 ·intro id hid
  have:13≤id:=hid
  simp only[hget_hset]
  repeat rw[if_neg (by omega)]
  rfl
 rintro⟨sa,acc,tk,H1,n1⟩ ⟨hI,c1',c2',h9⟩
 have hI2:=hI
 obtain⟨e1,e2,hlen,hfr,hp,ho,htk,hn,hes⟩:=hI2
 simp only at e1 e2 hlen hfr hp ho htk hn hes h9
 have hi:=zi_bd (k:=3) (w:=[44]) (f:=zsym (L:=L) (e:=e)) zm_sym
 have hle:=sa.le
 have ez:zsyms s=((zsym s0).1::(zloop (zis 3 [44]) (zbd (zw 3 [44]) fun _=>zsym) (zsym s0).2).1,(zw 3 [59] (zloop (zis 3 [44]) (zbd (zw 3 [44]) fun _=>zsym) (zsym s0).2).2).2):=by subst hs0;rfl
 by_cases hs:zis 3 [44] sa=true
 case neg=>
  have hs':zis 3 [44] sa=false:=by simpa using hs
  rw[zloop_no hs]at e1 e2
  rw[List.append_nil]at e1
  rw[ez,e1,e2]
  simp only[eE,eC,eN,Nat.reduceEqDiff,↓reduceIte,Nat.reduceAdd,rcell,Tzx_g,Tzx_is,s2,dZ_ok,dZ_dec,dS_ok,dS_dec,hp,ho,hs']
  exact Wk.tup (.cons (Wk.sl (.inl hes)) (.cons (Wk.refl _) .nil))
 have h2:=hi sa hs
 have h3:=(zbd (zw 3 [44]) (fun _=>zsym) sa).2.le
 generalize hy:zsym (zw 3 [44] sa).2=y at*
 have hI3:=hI.set (j:=9) (cs:=[.str y.1.nm,.int .i64 y.1.v]) (by decide) (by decide) (by decide)
 have ht1:tkG 2 11 (hset H1 9 (.box [.str y.1.nm,.int .i64 y.1.v])) tk:=htk.set (.inl (by decide))
 have ht2:tkG 2 11 (hset (hset H1 9 (.box [.str y.1.nm,.int .i64 y.1.v])) 10 (bxZ y.2)) tk:=ht1.set (.inl (by decide))
 have q1:appOK (hset (hset H1 9 (.box [.str y.1.nm,.int .i64 y.1.v])) 10 (bxZ y.2)) 2 tk=True:=eq_true ht2.app
 have q2:(acc.length≤35184372088830)=True:=eq_true (by omega)
 have q3:small (acc.length+2) 24=True:=eq_true (small_of (by omega) (by decide))
 have q4:(n1=7)=False:=eq_false (by omega)
 have q5:(n1=6)=False:=eq_false (by omega)
 have hN:=hI3.next (k:=3) (m:=5) hi hs (by decide) (by decide) (by decide) (by decide) (by omega)
 have hy2:zbd (zw 3 [44]) (fun _=>zsym) sa=y:=hy
 rw[hy2]at hN h2 h3
 have ht3:=ht2.app
 have k9:hget (hset (killTok (hset (hset H1 9 (.box [.str y.1.nm,.int .i64 y.1.v])) 10 (bxZ y.2)) tk) (n1+3) .tok) 9=some (.box [.str y.1.nm,.int .i64 y.1.v]):=by
  rw[hget_hset_ne _ _ _ _ (by omega),kill_get ht2 (.inl (by decide)),hget_hset_ne _ _ _ _ (by decide)];exact hget_hset_eq ..
 simp only[eE,eC,eN,reduceCtorEq,Nat.reduceEqDiff,↓reduceIte,Nat.reduceAdd,Nat.reduceLeDiff,Nat.reduceMul,Nat.reduceLT,Tzx_sy,Tzx_g,Tzx_is,s1,s2,dZ_ok,dZ_dec,dS_ok,dS_dec,Option.getD_some,List.length_map,List.getElem?_cons_zero,List.getElem?_cons_succ,hp,hs,h9,hy,q1,q2,q3,q4,q5,fr1 hfr]
 exact .mk ⟨_,acc++[y.1],.own (n1+3) 2,hset (killTok (hset (hset H1 9 (.box [.str y.1.nm,.int .i64 y.1.v])) 10 (bxZ y.2)) tk) (n1+3) .tok,n1+5⟩ (by simp only[List.map_append,List.map_cons,List.map_nil]) ⟨hN,_,_,k9⟩ (by simp only[];omega)
end
end Go.AM
end
section
set_option maxRecDepth 20000
set_option linter.all false
namespace Go.AM
open Go.Proofs Go.Lib
section
variable {L:List Tkn} {e:Int} {α:Type}
variable (hl:few L)
include hl
theorem p70 (s:ZS L e):Pur Tryz.prog 70 [pvZ s] (.tup [encRg (zreg s).1,pvZ (zreg s).2]):=by
 refine .mk ⟨pvZ_under 0 s,trivial⟩ ⟨encRg_under 0 _,pvZ_under 0 _,trivial⟩ (a70 (ev_awp (Tzx_ok (L:=L) (e:=e) hl) (ev_evK ?_)))
 have hl':L.length<1000000000:=hl
 simp only[eE,eN,reduceCtorEq,Nat.reduceEqDiff,↓reduceIte,Nat.reduceAdd,Nat.reduceLeDiff,Nat.reduceLT,Tzx_w,Tzx_g,Tzx_nm,s1,s2,dZ_ok,dZ_dec,dS_ok,dS_dec,hset_hset,Option.getD_some,List.getElem?_cons_zero,List.getElem?_cons_succ,c70]
 generalize hs0:(zname (zw 1 wRegs s).2).2=s0
 generalize hn0:(zname (zw 1 wRegs s).2).1=nm
 generalize hs3:(zw 3 [123] s0).2=sb
 generalize hH0:hset _ 0 (bxZ sb)=H0
 have k1:hget H0 1=some (.box [.str [],.sl .nil []]):=by rw[←hH0];rfl
 have k2:hget H0 2=some (.box zP):=by rw[←hH0];rfl
 have k4:hget H0 4=some (.box [.str nm,.sl .nil []]):=by rw[←hH0];rfl
 have k0:hget H0 0=some (bxZ sb):=by rw[←hH0];exact hget_hset_eq ..
 have kf:Fresh H0 6:=by
  intro id hid
  rw[←hH0]
  simp only[hget_hset]
  repeat rw[if_neg (by omega)]
  rfl
 clear hH0
 refine k_loop (fun v:VZ L e (List Int)=>⟨[(1,true,.ptr 0 0),(2,true,.ptr 1 0),(3,true,.ptr 2 0),(4,true,.ptr 4 0)],v.H,v.n⟩)
  (IY zisNb zrl 1 eIs (fun l=>[.str nm,l]) sb H0) (fun v=>L.length-v.s.n)
  ⟨sb,[],.nil,H0,6⟩ rfl ⟨rfl,rfl,Nat.zero_le _,kf,k0,k4,rfl,rfl,.inl rfl,Nat.le_add_left 5 1,.inr rfl⟩ ?_
 rintro⟨sa,acc,tk,H1,n1⟩ hI
 have hI2:=hI
 obtain⟨e1,e2,hlen,hfr,hp,hx,hk1,hk2,htk,hn,hes⟩:=hI2
 simp only at e1 e2 hlen hfr hp hx hk1 hk2 htk hn hes
 rw[k1]at hk1
 rw[k2]at hk2
 have hi:=zi_rl (L:=L) (e:=e)
 have hle:=sa.le
 have ez:zreg s=(⟨nm,(zloop zisNb zrl sb).1⟩,(zw 3 [125] (zloop zisNb zrl sb).2).2):=by subst hs3 hn0 hs0;rfl
 by_cases hs:zisNb sa=true
 case neg=>
  have hs':zisNb sa=false:=by simpa using hs
  rw[zloop_no hs]at e1 e2
  rw[List.append_nil]at e1
  rw[ez,e1,e2]
  simp only[eE,eC,eN,Nat.reduceEqDiff,↓reduceIte,Nat.reduceAdd,rcell,Tzx_g,Tzx_ib,s1,s2,dZ_ok,dZ_dec,dS_ok,dS_dec,hp,hx,hk1,hk2,hs']
  exact Wk.tup (.cons (Wk.agg (.cons (Wk.refl _) (.cons (Wk.sl (hes.imp id fun q=>by rw[q];rfl)) .nil))) (.cons (Wk.refl _) .nil))
 have h2:=hi sa hs
 have h3:=(zrl sa).2.le
 have hz:zrl sa=((zlist znum sa).1,(zw 3 [59] (zlist znum sa).2).2):=rfl
 generalize hy:zlist znum sa=y at hz
 rw[hz]at h2 h3
 simp only at h2 h3
 have ht2:tkG 1 5 (hset H1 (n1+5) (bxZ y.2)) tk:=htk.set (.inr (.inr (hfr _ (by omega))))
 have hf2:Fresh (hset H1 (n1+5) (bxZ y.2)) (n1+12):=hfr.hset (by omega) (by omega)
 have q1:appOK (hset H1 (n1+5) (bxZ y.2)) 1 tk=True:=eq_true ht2.app
 have q2:(acc.length≤35184372088831)=True:=eq_true (by omega)
 have q3:small (acc.length+1) 24=True:=eq_true (small_of (by omega) (by decide))
 have y4:(n1+5=4)=False:=eq_false (by omega)
 have y4':(4=n1+5)=False:=eq_false (by omega)
 have y0:(n1+5=0)=False:=eq_false (by omega)
 have y12:(n1+12=4)=False:=eq_false (by omega)
 have y512:(n1+5=n1+12)=False:=eq_false (by omega)
 have y125:(n1+12=n1+5)=False:=eq_false (by omega)
 have kk4:hget (killTok (hset H1 (n1+5) (bxZ y.2)) tk) 4=some (.box [.str nm,.sl tk (acc.map eIs)]):=by
  rw[kill_get ht2 (.inl (by decide)),hget_hset_ne _ _ _ _ (by omega)];exact hx
 have kk0:hget (killTok (hset H1 (n1+5) (bxZ y.2)) tk) 0=some (bxZ sa):=by
  rw[kill_get ht2 (.inl (by decide)),hget_hset_ne _ _ _ _ (by omega)];exact hp
 have kk5:hget (killTok (hset H1 (n1+5) (bxZ y.2)) tk) (n1+5)=some (bxZ y.2):=by
  rw[kill_get ht2 (.inr ⟨_,hget_hset_eq ..⟩)];exact hget_hset_eq ..
 have hN:=hI.next (H2:=hset H1 (n1+5) (bxZ y.2)) (m:=n1+12) (n3:=n1+15) hi hs (fun id hid=>by rw[hget_hset_ne _ _ _ _ (by omega)]) ht2 hf2 (by omega) (by omega)
 rw[hz]at hN
 simp only[eE,eC,eN,reduceCtorEq,Nat.reduceEqDiff,↓reduceIte,Nat.reduceAdd,Nat.reduceLeDiff,Nat.reduceMul,Nat.reduceLT,Tzx_g,Tzx_ib,Tzx_ns,s1,s2,dZ_ok,dZ_dec,dS_ok,dS_dec,hset_hset,Option.getD_some,List.length_map,List.getElem?_cons_zero,List.getElem?_cons_succ,hp,hx,hs,hy,q1,q2,q3,y4,y4',y12,y512,y125,kk4,kk5,kk0,fr1 hfr]
 exact .mk ⟨(zw 3 [59] y.2).2,acc++[y.1],.own (n1+12) 1,_,n1+15⟩ (by simp only[List.map_append,List.map_cons,List.map_nil]) hN (by simp only[];omega)
end
end Go.AM
end
section
set_option maxRecDepth 20000
set_option linter.all false
namespace Go.AM
open Go.Proofs Go.Lib
abbrev encG (d:Dcl):AVal:=.agg [.str d.nm,.int .i64 d.ver,.int .i64 d.sh,.int .i64 d.w,.int .i64 d.h,eIs d.holes,.sl .nil [],.sl .nil [],.sl .nil [],.sl .nil []]
abbrev encG0 (x:Bs×Int):AVal:=.agg [.str x.1,.int .i64 x.2,.int .i64 0,.int .i64 0,.int .i64 0,.sl .nil [],.sl .nil [],.sl .nil [],.sl .nil [],.sl .nil []]
def decG0:AVal→Bs×Int
 | .agg (.str a:: .int _ b::_)=>(a,b)
 |_=>([],0)
def dG0:Dc (Bs×Int):=dEx encG0 decG0
theorem dG0_ok (a:Bs) (b:Int):dG0.ok (.agg [.str a,.int .i64 b,.int .i64 0,.int .i64 0,.int .i64 0,.sl .nil [],.sl .nil [],.sl .nil [],.sl .nil [],.sl .nil []])=True:=eq_true rfl
theorem dG0_dec (a:Bs) (b:Int):dG0.dec (.agg [.str a,.int .i64 b,.int .i64 0,.int .i64 0,.int .i64 0,.sl .nil [],.sl .nil [],.sl .nil [],.sl .nil [],.sl .nil []])=(a,b):=rfl
abbrev dG (x:Bs×Int):Dcl:=⟨x.1,x.2,0,0,0,[],[],[],[],[]⟩
theorem encG_under (k:Nat) (d:Dcl):(encG d).under k:=⟨trivial,trivial,trivial,trivial,trivial,eIs_under k _,⟨trivial,trivial⟩,⟨trivial,trivial⟩,⟨trivial,trivial⟩,⟨trivial,trivial⟩,trivial⟩
section
variable {L:List Tkn} {e:Int} (hl:few L)
include hl
theorem z_grid0 (x:Bs×Int) (s:ZS L e):Pur Tryz.prog 66 [encG0 x,pvZ s] (.tup [encG (zgrid (dG x) s).1,pvZ (zgrid (dG x) s).2]):=by
 refine .mk ⟨⟨trivial,trivial,trivial,trivial,trivial,⟨trivial,trivial⟩,⟨trivial,trivial⟩,⟨trivial,trivial⟩,⟨trivial,trivial⟩,⟨trivial,trivial⟩,trivial⟩,pvZ_under 0 s,trivial⟩ ⟨encG_under 0 _,pvZ_under 0 _,trivial⟩ (a66 (ev_awp (Tzt_ok (L:=L) (e:=e) hl) (ev_evK ?_)))
 cases h1:zis 1 wHex (zw 1 wGrid s).2 with
 |false=>
  simp only[eE,eC,eN,reduceCtorEq,Nat.reduceEqDiff,↓reduceIte,Nat.reduceAdd,Nat.reduceLeDiff,Nat.reduceLT,Tzt_w,Tzt_iw,Tzt_nb,s1,s2,dZ_ok,dZ_dec,dS_ok,dS_dec,List.getElem?_cons_zero,List.getElem?_cons_succ,Option.getD_some,c66,h1]
  generalize h2:zis 1 wWout _=b2
  cases b2
  ·simp only[eE,eC,eN,reduceCtorEq,Nat.reduceEqDiff,↓reduceIte,Nat.reduceAdd,rcell,Tzt_g,s2,dZ_ok,dZ_dec,dS_ok,dS_dec]
   simp only[zgrid,zbd,zshape,zholes,zif,zret,h1,h2,Bool.false_eq_true,if_false]
   exact Wk.tup (.cons (Wk.agg (.cons (Wk.refl _) (.cons (Wk.refl _) (.cons (Wk.refl _) (.cons (Wk.refl _) (.cons (Wk.refl _) (.cons (Wk.sl (.inr rfl)) (.cons (Wk.refl _) (.cons (Wk.refl _) (.cons (Wk.refl _) (.cons (Wk.refl _) .nil))))))))))) (.cons (Wk.refl _) .nil))
  ·simp only[eE,eC,eN,reduceCtorEq,Nat.reduceEqDiff,↓reduceIte,Nat.reduceAdd,Nat.reduceLeDiff,Nat.reduceLT,rcell,Tzt_w,Tzt_g,Tzt_ns,s1,s2,dZ_ok,dZ_dec,dS_ok,dS_dec,List.getElem?_cons_zero,List.getElem?_cons_succ,Option.getD_some]
   simp only[zgrid,zbd,zshape,zholes,zif,zret,h1,h2,Bool.false_eq_true,if_false,if_true]
   exact Wk.refl _
 |true=>
  simp only[eE,eC,eN,reduceCtorEq,Nat.reduceEqDiff,↓reduceIte,Nat.reduceAdd,Nat.reduceLeDiff,Nat.reduceLT,Tzt_w,Tzt_iw,Tzt_nb,s1,s2,dZ_ok,dZ_dec,dS_ok,dS_dec,List.getElem?_cons_zero,List.getElem?_cons_succ,Option.getD_some,c66,h1]
  generalize h2:zis 1 wWout _=b2
  cases b2
  ·simp only[eE,eC,eN,reduceCtorEq,Nat.reduceEqDiff,↓reduceIte,Nat.reduceAdd,rcell,Tzt_g,s2,dZ_ok,dZ_dec,dS_ok,dS_dec]
   simp only[zgrid,zbd,zshape,zholes,zif,zret,h1,h2,Bool.false_eq_true,if_false,if_true]
   exact Wk.tup (.cons (Wk.agg (.cons (Wk.refl _) (.cons (Wk.refl _) (.cons (Wk.refl _) (.cons (Wk.refl _) (.cons (Wk.refl _) (.cons (Wk.sl (.inr rfl)) (.cons (Wk.refl _) (.cons (Wk.refl _) (.cons (Wk.refl _) (.cons (Wk.refl _) .nil))))))))))) (.cons (Wk.refl _) .nil))
  ·simp only[eE,eC,eN,reduceCtorEq,Nat.reduceEqDiff,↓reduceIte,Nat.reduceAdd,Nat.reduceLeDiff,Nat.reduceLT,rcell,Tzt_w,Tzt_g,Tzt_ns,s1,s2,dZ_ok,dZ_dec,dS_ok,dS_dec,List.getElem?_cons_zero,List.getElem?_cons_succ,Option.getD_some]
   simp only[zgrid,zbd,zshape,zholes,zif,zret,h1,h2,if_true]
   exact Wk.refl _
end
section
variable {L:List Tkn} {e:Int}
def Tzy (L:List Tkn) (e:Int):Tab:=(tadd 66 (s2 dG0 (dZ L e) (fun _ _=>True) (fun x s=>.tup [encG (zgrid (dG x) s).1,pvZ (zgrid (dG x) s).2])) (tadd 73 (s1 (dZ L e) (fun _=>True) (fun s=>pvZ (zfail s))) (tadd 68 (s1 (dZ L e) (fun _=>True) (fun s=>.tup [eSys (zsyms s).1,pvZ (zsyms s).2])) (tadd 70 (s1 (dZ L e) (fun _=>True) (fun s=>.tup [encRg (zreg s).1,pvZ (zreg s).2])) (tadd 71 (s1 (dZ L e) (fun _=>True) (fun s=>.tup [encCl (zclu s).1,pvZ (zclu s).2])) (tadd 72 (s1 (dZ L e) (fun _=>True) (fun s=>.tup [encRu (zrule s).1,pvZ (zrule s).2])) (Tzx L e)))))))
theorem Tzy_ok (hl:few L):TabOK Tryz.prog (Tzy L e):=(((((((Tzx_ok hl).add (q1 fun s _=>p72 hl s)).add (q1 fun s _=>p71 hl s)).add (q1 fun s _=>p70 hl s)).add (q1 fun s _=>p68 hl s)).add (q1 fun s _=>p73 hl s)).add (q2 fun x s _=>z_grid0 hl x s))
variable (a:List AVal) (H:AHeap)
theorem Tzy_gd:Tzy L e 66 a H=s2 dG0 (dZ L e) (fun _ _=>True) (fun x s=>.tup [encG (zgrid (dG x) s).1,pvZ (zgrid (dG x) s).2]) a H:=rfl
theorem Tzy_fl:Tzy L e 73 a H=s1 (dZ L e) (fun _=>True) (fun s=>pvZ (zfail s)) a H:=rfl
theorem Tzy_ss:Tzy L e 68 a H=s1 (dZ L e) (fun _=>True) (fun s=>.tup [eSys (zsyms s).1,pvZ (zsyms s).2]) a H:=rfl
theorem Tzy_rg:Tzy L e 70 a H=s1 (dZ L e) (fun _=>True) (fun s=>.tup [encRg (zreg s).1,pvZ (zreg s).2]) a H:=rfl
theorem Tzy_cl:Tzy L e 71 a H=s1 (dZ L e) (fun _=>True) (fun s=>.tup [encCl (zclu s).1,pvZ (zclu s).2]) a H:=rfl
theorem Tzy_ru:Tzy L e 72 a H=s1 (dZ L e) (fun _=>True) (fun s=>.tup [encRu (zrule s).1,pvZ (zrule s).2]) a H:=rfl
theorem Tzy_w:Tzy L e 64 a H=s2 (dZ L e) dS (fun _ _=>True) (fun s w=>pvZ (zw 1 w s).2) a H:=rfl
theorem Tzy_g:Tzy L e 67 a H=s2 (dZ L e) dS (fun _ _=>True) (fun s w=>pvZ (zw 3 w s).2) a H:=rfl
theorem Tzy_iw:Tzy L e 69 a H=s2 (dZ L e) dS (fun _ _=>True) (fun s w=>.bool (zis 1 w s)) a H:=rfl
theorem Tzy_nm:Tzy L e 63 a H=s1 (dZ L e) (fun _=>True) (fun s=>.tup [.str (zname s).1,pvZ (zname s).2]) a H:=rfl
theorem Tzy_nb:Tzy L e 65 a H=s1 (dZ L e) (fun _=>True) (fun s=>.tup [.int .i64 (znum s).1,pvZ (znum s).2]) a H:=rfl
end
section
variable {L:List Tkn} {e:Int}
abbrev QZ (R:AVal):AExit→AS→Prop:=postC [.c 2 10 true,.c 3 5 true] (Ret R)
abbrev eZ (X:List (Nat×Bool×AVal)):List (Nat×Bool×AVal):=(1,true,.ptr 0 0)::(2,true,.ptr 1 0)::(3,true,.ptr 2 0)::(4,true,.ptr 4 0)::X
abbrev zD:List AVal:=[.str [],.int .i64 0,.int .i64 0,.int .i64 0,.int .i64 0,.sl .nil [],.sl .nil [],.sl .nil [],.sl .nil [],.sl .nil []]
def zf9 (d:Dcl):ZS L e→Dcl×ZS L e:=zbd (zw 3 [125]) fun _=>zend d
def zf8 (d:Dcl):ZS L e→Dcl×ZS L e:=zbd (zloop (zis 1 wRule) zrule) fun us=>zf9 {d with ruls:=us}
def zf7 (d:Dcl):ZS L e→Dcl×ZS L e:=zbd (zloop (zis 1 wClue) zclu) fun cs=>zf8 {d with clus:=cs}
def zf6 (d:Dcl):ZS L e→Dcl×ZS L e:=zbd (zloop (zis 1 wRegs) zreg) fun rs=>zf7 {d with regs:=rs}
variable (hl:few L) {d:Dcl} {sb:ZS L e} {H:AHeap} {n:Nat} {v0 v1 v2 v3:AVal} {X:List (Nat×Bool×AVal)}
include hl
theorem z9 (hf:Fresh H n) (hn:5≤n) (h0:hget H 0=some (bxZ sb)) (h1:hget H 1=some (.box zD)) (h2:hget H 2=some (.box zP)) (h4:hget H 4=some (.box [.str d.nm,.int .i64 d.ver,.int .i64 d.sh,.int .i64 d.w,.int .i64 d.h,eIs d.holes,eSys d.syms,v1,v2,v3])) (w1:Wk v1 (eRgs d.regs)) (w2:Wk v2 (eCls d.clus)) (w3:Wk v3 (eRus d.ruls)):
  kont Tryz.prog (Tzy L e) (QZ (.tup [encD (zf9 d sb).1,pvZ (zf9 d sb).2])) [.c (sndN 9 c25)] .normal ⟨eZ X,H,n⟩:=by
 rw[kont_n]
 have fin:∀(x:ZS L e),Wk (.tup [.agg [.str d.nm,.int .i64 d.ver,.int .i64 d.sh,.int .i64 d.w,.int .i64 d.h,eIs d.holes,eSys d.syms,v1,v2,v3],pvZ x]) (.tup [encD d,pvZ x]):=fun x=>
  Wk.tup (.cons (Wk.agg (.cons (Wk.refl _) (.cons (Wk.refl _) (.cons (Wk.refl _) (.cons (Wk.refl _) (.cons (Wk.refl _) (.cons (Wk.refl _) (.cons (Wk.refl _) (.cons w1 (.cons w2 (.cons w3 .nil))))))))))) (.cons (Wk.refl _) .nil))
 have ez:zf9 d sb=zend d (zw 3 [125] sb).2:=rfl
 rw[ez]
 unfold zend
 by_cases hlt:(zw 3 [125] sb).2.n<L.length
 ·rw[if_pos hlt]
  simp only[eE,eC,eN,eX,reduceCtorEq,Nat.reduceEqDiff,↓reduceIte,Nat.reduceAdd,Nat.reduceLeDiff,Nat.reduceLT,Nat.reduceMod,Nat.reduceSub,Nat.reduceDiv,rx_st0,rcell,Tzy_fl,Tzy_g,s1,s2,dZ_ok,dZ_dec,dS_ok,dS_dec,List.length_map,c25,sndN,sndA,h0,h1,h2,h4,lt_T hlt]
  have:(if(zw 3 [125] sb).2.b=true then(zw 3 [125] sb).2 else zfail (zw 3 [125] sb).2)=zfail (zw 3 [125] sb).2:=by
   cases hb:(zw 3 [125] sb).2 with
   |mk n b le=>cases b<;>rfl
  rw[this]
  exact⟨by omega,fin _⟩
 ·rw[if_neg hlt]
  simp only[eE,eC,eN,eX,reduceCtorEq,Nat.reduceEqDiff,↓reduceIte,Nat.reduceAdd,Nat.reduceLeDiff,Nat.reduceLT,Nat.reduceMod,Nat.reduceSub,Nat.reduceDiv,rx_st0,rcell,Tzy_g,s2,dZ_ok,dZ_dec,dS_ok,dS_dec,List.length_map,c25,sndN,sndA,h0,h1,h2,h4,lt_F hlt]
  exact⟨by omega,fin _⟩
theorem z8 (hf:Fresh H n) (hn:5≤n) (h0:hget H 0=some (bxZ sb)) (h1:hget H 1=some (.box zD)) (h2:hget H 2=some (.box zP)) (h4:hget H 4=some (.box [.str d.nm,.int .i64 d.ver,.int .i64 d.sh,.int .i64 d.w,.int .i64 d.h,eIs d.holes,eSys d.syms,v1,v2,.sl .nil []])) (w1:Wk v1 (eRgs d.regs)) (w2:Wk v2 (eCls d.clus)):
  kont Tryz.prog (Tzy L e) (QZ (.tup [encD (zf8 d sb).1,pvZ (zf8 d sb).2])) [.c (sndN 8 c25)] .normal ⟨eZ X,H,n⟩:=by
 have hl':L.length<1000000000:=hl
 rw[kont_n]
 simp only[eE,c25,sndN,sndA]
 refine k_loop (fun v:VZ L e DRul×List (Nat×Bool×AVal)=>⟨eZ v.2,v.1.H,v.1.n⟩)
  (fun v=>IY (zis 1 wRule) zrule 12 encRu (fun l=>[.str d.nm,.int .i64 d.ver,.int .i64 d.sh,.int .i64 d.w,.int .i64 d.h,eIs d.holes,eSys d.syms,v1,v2,l]) sb H v.1) (fun v=>L.length-v.1.s.n)
  (⟨sb,[],.nil,H,n⟩,X) rfl ⟨rfl,rfl,Nat.zero_le _,hf,h0,h4,rfl,rfl,.inl rfl,hn,.inr rfl⟩ ?_
 rintro⟨⟨sa,acc,tk,H1,n1⟩,X1⟩ hI
 have hI2:=hI
 obtain⟨e1,e2,hlen,hfr,hp,hx,hk1,hk2,htk,hn1,hes⟩:=hI2
 simp only at e1 e2 hlen hfr hp hx hk1 hk2 htk hn1 hes
 rw[h1]at hk1
 rw[h2]at hk2
 have hi:Zi (zis (L:=L) (e:=e) 1 wRule) zrule:=zi_bd zm_rule
 have hle:=sa.le
 by_cases hs:zis 1 wRule sa=true
 case neg=>
  have hs':zis 1 wRule sa=false:=by simpa using hs
  rw[zloop_no hs]at e1 e2
  rw[List.append_nil]at e1
  have ez:zf8 d sb=zf9 {d with ruls:=(zloop (zis 1 wRule) zrule sb).1} (zloop (zis 1 wRule) zrule sb).2:=rfl
  rw[ez,e1,e2]
  simp only[eE,Nat.reduceEqDiff,↓reduceIte,Nat.reduceAdd,hp,hs',s2,dZ_ok,dZ_dec,dS_ok,dS_dec,Tzy_iw]
  rw[kont_n]
  simp only[eE,eC,Nat.reduceEqDiff,↓reduceIte]
  exact z9 hl (d:={d with ruls:=acc}) hfr hn1 hp hk1 hk2 hx w1 w2 (Wk.sl (hes.imp id fun q=>by rw[q];rfl))
 have h2':=hi sa hs
 have h3:=(zrule sa).2.le
 generalize hy:zrule sa=y at h2' h3
 have hta:tkG 12 5 (hset H1 (n1+5) (.box [.str [],.str [],.int .i64 0,.int .i64 0,.sl .nil [],.sl .nil [],.int .i64 0,.int .i64 0,.int .i64 0,.int .i64 0,.str [],.int .i64 0])) tk:=htk.set (.inr (.inr (hfr _ (by omega))))
 have htb:tkG 12 5 (hset (hset H1 (n1+5) (.box [.str [],.str [],.int .i64 0,.int .i64 0,.sl .nil [],.sl .nil [],.int .i64 0,.int .i64 0,.int .i64 0,.int .i64 0,.str [],.int .i64 0])) (n1+6) (.box zP)) tk:=hta.set (.inr (.inr (by rw[hget_hset_ne _ _ _ _ (by omega)];exact hfr _ (by omega))))
 have htc:tkG 12 5 (hset (hset (hset H1 (n1+5) (.box [.str [],.str [],.int .i64 0,.int .i64 0,.sl .nil [],.sl .nil [],.int .i64 0,.int .i64 0,.int .i64 0,.int .i64 0,.str [],.int .i64 0])) (n1+6) (.box zP)) (n1+5) (.box (cellsRu y.1))) tk:=htb.set (.inr (.inl ⟨_,by rw[hget_hset_ne _ _ _ _ (by omega)];exact hget_hset_eq ..⟩))
 have ht2:tkG 12 5 (hset (hset (hset (hset H1 (n1+5) (.box [.str [],.str [],.int .i64 0,.int .i64 0,.sl .nil [],.sl .nil [],.int .i64 0,.int .i64 0,.int .i64 0,.int .i64 0,.str [],.int .i64 0])) (n1+6) (.box zP)) (n1+5) (.box (cellsRu y.1))) (n1+6) (bxZ y.2)) tk:=htc.set (.inr (.inl ⟨_,by rw[hget_hset_ne _ _ _ _ (by omega)];exact hget_hset_eq ..⟩))
 have hf2:Fresh (hset (hset (hset (hset H1 (n1+5) (.box [.str [],.str [],.int .i64 0,.int .i64 0,.sl .nil [],.sl .nil [],.int .i64 0,.int .i64 0,.int .i64 0,.int .i64 0,.str [],.int .i64 0])) (n1+6) (.box zP)) (n1+5) (.box (cellsRu y.1))) (n1+6) (bxZ y.2)) (n1+13):=(((hfr.hset (m:=n1+13) (by omega) (by omega)).hset (Nat.le_refl _) (by omega)).hset (Nat.le_refl _) (by omega)).hset (Nat.le_refl _) (by omega)
 have hlow:∀id,id<5→hget (hset (hset (hset (hset H1 (n1+5) (.box [.str [],.str [],.int .i64 0,.int .i64 0,.sl .nil [],.sl .nil [],.int .i64 0,.int .i64 0,.int .i64 0,.int .i64 0,.str [],.int .i64 0])) (n1+6) (.box zP)) (n1+5) (.box (cellsRu y.1))) (n1+6) (bxZ y.2)) id=hget H1 id:=fun id hid=>by
  rw[hget_hset_ne _ _ _ _ (by omega),hget_hset_ne _ _ _ _ (by omega),hget_hset_ne _ _ _ _ (by omega),hget_hset_ne _ _ _ _ (by omega)]
 have hN:=hI.next (m:=n1+13) (n3:=n1+16) hi hs hlow ht2 hf2 (by omega) (by omega)
 rw[hy]at hN
 have kk4:hget (killTok (hset (hset (hset (hset H1 (n1+5) (.box [.str [],.str [],.int .i64 0,.int .i64 0,.sl .nil [],.sl .nil [],.int .i64 0,.int .i64 0,.int .i64 0,.int .i64 0,.str [],.int .i64 0])) (n1+6) (.box zP)) (n1+5) (.box (cellsRu y.1))) (n1+6) (bxZ y.2)) tk) 4=hget H1 4:=by rw[kill_get ht2 (.inl (by decide)),hlow 4 (by decide)]
 have kk0:hget (killTok (hset (hset (hset (hset H1 (n1+5) (.box [.str [],.str [],.int .i64 0,.int .i64 0,.sl .nil [],.sl .nil [],.int .i64 0,.int .i64 0,.int .i64 0,.int .i64 0,.str [],.int .i64 0])) (n1+6) (.box zP)) (n1+5) (.box (cellsRu y.1))) (n1+6) (bxZ y.2)) tk) 0=hget H1 0:=by rw[kill_get ht2 (.inl (by decide)),hlow 0 (by decide)]
 have kk6:hget (killTok (hset (hset (hset (hset H1 (n1+5) (.box [.str [],.str [],.int .i64 0,.int .i64 0,.sl .nil [],.sl .nil [],.int .i64 0,.int .i64 0,.int .i64 0,.int .i64 0,.str [],.int .i64 0])) (n1+6) (.box zP)) (n1+5) (.box (cellsRu y.1))) (n1+6) (bxZ y.2)) tk) (n1+6)=some (bxZ y.2):=by
  rw[kill_get ht2 (.inr ⟨_,hget_hset_eq ..⟩)];exact hget_hset_eq ..
 have q1:appOK (hset (hset (hset (hset H1 (n1+5) (.box [.str [],.str [],.int .i64 0,.int .i64 0,.sl .nil [],.sl .nil [],.int .i64 0,.int .i64 0,.int .i64 0,.int .i64 0,.str [],.int .i64 0])) (n1+6) (.box zP)) (n1+5) (.box (cellsRu y.1))) (n1+6) (bxZ y.2)) 12 tk=True:=eq_true ht2.app
 have q2:(acc.length≤35184372088831)=True:=eq_true (by omega)
 have q3:small (acc.length+1) 152=True:=eq_true (small_of (by omega) (by decide))
 have y54:(n1+5=4)=False:=eq_false (by omega)
 have y64:(n1+6=4)=False:=eq_false (by omega)
 have y134:(n1+13=4)=False:=eq_false (by omega)
 have y130:(n1+13=0)=False:=eq_false (by omega)
 have y136:(n1+13=n1+6)=False:=eq_false (by omega)
 have y46:(4=n1+6)=False:=eq_false (by omega)
 have y65:(n1+6=n1+5)=False:=eq_false (by omega)
 have y56:(n1+5=n1+6)=False:=eq_false (by omega)
 simp only[eE,eC,eN,reduceCtorEq,Nat.reduceEqDiff,↓reduceIte,Nat.reduceAdd,Nat.reduceLeDiff,Nat.reduceMul,Nat.reduceLT,Tzy_ru,Tzy_iw,s1,s2,dZ_ok,dZ_dec,dS_ok,dS_dec,Option.getD_some,List.length_map,List.getElem?_cons_zero,List.getElem?_cons_succ,hp,hx,hs,hy,q1,q2,q3,y54,y64,y134,y130,y136,y46,y65,y56,kk4,kk0,kk6,fr1 hfr]
 exact .mk (⟨y.2,acc++[y.1],.own (n1+13) 12,_,n1+16⟩,[]) (by simp only[List.map_append,List.map_cons,List.map_nil]) hN (by simp only[];omega)
theorem z7 (hf:Fresh H n) (hn:5≤n) (h0:hget H 0=some (bxZ sb)) (h1:hget H 1=some (.box zD)) (h2:hget H 2=some (.box zP)) (h4:hget H 4=some (.box [.str d.nm,.int .i64 d.ver,.int .i64 d.sh,.int .i64 d.w,.int .i64 d.h,eIs d.holes,eSys d.syms,v1,.sl .nil [],.sl .nil []])) (w1:Wk v1 (eRgs d.regs)):
  kont Tryz.prog (Tzy L e) (QZ (.tup [encD (zf7 d sb).1,pvZ (zf7 d sb).2])) [.c (sndN 7 c25)] .normal ⟨eZ X,H,n⟩:=by
 have hl':L.length<1000000000:=hl
 rw[kont_n]
 simp only[eE,c25,sndN,sndA]
 refine k_loop (fun v:VZ L e DClu×List (Nat×Bool×AVal)=>⟨eZ v.2,v.1.H,v.1.n⟩)
  (fun v=>IY (zis 1 wClue) zclu 6 encCl (fun l=>[.str d.nm,.int .i64 d.ver,.int .i64 d.sh,.int .i64 d.w,.int .i64 d.h,eIs d.holes,eSys d.syms,v1,l,.sl .nil []]) sb H v.1) (fun v=>L.length-v.1.s.n)
  (⟨sb,[],.nil,H,n⟩,X) rfl ⟨rfl,rfl,Nat.zero_le _,hf,h0,h4,rfl,rfl,.inl rfl,hn,.inr rfl⟩ ?_
 rintro⟨⟨sa,acc,tk,H1,n1⟩,X1⟩ hI
 have hI2:=hI
 obtain⟨e1,e2,hlen,hfr,hp,hx,hk1,hk2,htk,hn1,hes⟩:=hI2
 simp only at e1 e2 hlen hfr hp hx hk1 hk2 htk hn1 hes
 rw[h1]at hk1
 rw[h2]at hk2
 have hi:Zi (zis (L:=L) (e:=e) 1 wClue) zclu:=zi_bd zm_clu
 have hle:=sa.le
 by_cases hs:zis 1 wClue sa=true
 case neg=>
  have hs':zis 1 wClue sa=false:=by simpa using hs
  rw[zloop_no hs]at e1 e2
  rw[List.append_nil]at e1
  have ez:zf7 d sb=zf8 {d with clus:=(zloop (zis 1 wClue) zclu sb).1} (zloop (zis 1 wClue) zclu sb).2:=rfl
  rw[ez,e1,e2]
  simp only[eE,Nat.reduceEqDiff,↓reduceIte,Nat.reduceAdd,hp,hs',s2,dZ_ok,dZ_dec,dS_ok,dS_dec,Tzy_iw]
  rw[kont_n]
  simp only[eE,eC,Nat.reduceEqDiff,↓reduceIte]
  exact z8 hl (d:={d with clus:=acc}) hfr hn1 hp hk1 hk2 hx w1 (Wk.sl (hes.imp id fun q=>by rw[q];rfl))
 have h2':=hi sa hs
 have h3:=(zclu sa).2.le
 generalize hy:zclu sa=y at h2' h3
 have hta:tkG 6 5 (hset H1 (n1+5) (.box [.str [],.str [],.int .i64 0,.int .i64 0,.int .i64 0,.int .i64 0])) tk:=htk.set (.inr (.inr (hfr _ (by omega))))
 have htb:tkG 6 5 (hset (hset H1 (n1+5) (.box [.str [],.str [],.int .i64 0,.int .i64 0,.int .i64 0,.int .i64 0])) (n1+6) (.box zP)) tk:=hta.set (.inr (.inr (by rw[hget_hset_ne _ _ _ _ (by omega)];exact hfr _ (by omega))))
 have htc:tkG 6 5 (hset (hset (hset H1 (n1+5) (.box [.str [],.str [],.int .i64 0,.int .i64 0,.int .i64 0,.int .i64 0])) (n1+6) (.box zP)) (n1+5) (.box [.str y.1.nm,.str y.1.on,.int .i64 y.1.fam,.int .i64 y.1.ty,.int .i64 y.1.lo,.int .i64 y.1.hi])) tk:=htb.set (.inr (.inl ⟨_,by rw[hget_hset_ne _ _ _ _ (by omega)];exact hget_hset_eq ..⟩))
 have ht2:tkG 6 5 (hset (hset (hset (hset H1 (n1+5) (.box [.str [],.str [],.int .i64 0,.int .i64 0,.int .i64 0,.int .i64 0])) (n1+6) (.box zP)) (n1+5) (.box [.str y.1.nm,.str y.1.on,.int .i64 y.1.fam,.int .i64 y.1.ty,.int .i64 y.1.lo,.int .i64 y.1.hi])) (n1+6) (bxZ y.2)) tk:=htc.set (.inr (.inl ⟨_,by rw[hget_hset_ne _ _ _ _ (by omega)];exact hget_hset_eq ..⟩))
 have hf2:Fresh (hset (hset (hset (hset H1 (n1+5) (.box [.str [],.str [],.int .i64 0,.int .i64 0,.int .i64 0,.int .i64 0])) (n1+6) (.box zP)) (n1+5) (.box [.str y.1.nm,.str y.1.on,.int .i64 y.1.fam,.int .i64 y.1.ty,.int .i64 y.1.lo,.int .i64 y.1.hi])) (n1+6) (bxZ y.2)) (n1+13):=(((hfr.hset (m:=n1+13) (by omega) (by omega)).hset (Nat.le_refl _) (by omega)).hset (Nat.le_refl _) (by omega)).hset (Nat.le_refl _) (by omega)
 have hlow:∀id,id<5→hget (hset (hset (hset (hset H1 (n1+5) (.box [.str [],.str [],.int .i64 0,.int .i64 0,.int .i64 0,.int .i64 0])) (n1+6) (.box zP)) (n1+5) (.box [.str y.1.nm,.str y.1.on,.int .i64 y.1.fam,.int .i64 y.1.ty,.int .i64 y.1.lo,.int .i64 y.1.hi])) (n1+6) (bxZ y.2)) id=hget H1 id:=fun id hid=>by
  rw[hget_hset_ne _ _ _ _ (by omega),hget_hset_ne _ _ _ _ (by omega),hget_hset_ne _ _ _ _ (by omega),hget_hset_ne _ _ _ _ (by omega)]
 have hN:=hI.next (m:=n1+13) (n3:=n1+16) hi hs hlow ht2 hf2 (by omega) (by omega)
 rw[hy]at hN
 have kk4:hget (killTok (hset (hset (hset (hset H1 (n1+5) (.box [.str [],.str [],.int .i64 0,.int .i64 0,.int .i64 0,.int .i64 0])) (n1+6) (.box zP)) (n1+5) (.box [.str y.1.nm,.str y.1.on,.int .i64 y.1.fam,.int .i64 y.1.ty,.int .i64 y.1.lo,.int .i64 y.1.hi])) (n1+6) (bxZ y.2)) tk) 4=hget H1 4:=by rw[kill_get ht2 (.inl (by decide)),hlow 4 (by decide)]
 have kk0:hget (killTok (hset (hset (hset (hset H1 (n1+5) (.box [.str [],.str [],.int .i64 0,.int .i64 0,.int .i64 0,.int .i64 0])) (n1+6) (.box zP)) (n1+5) (.box [.str y.1.nm,.str y.1.on,.int .i64 y.1.fam,.int .i64 y.1.ty,.int .i64 y.1.lo,.int .i64 y.1.hi])) (n1+6) (bxZ y.2)) tk) 0=hget H1 0:=by rw[kill_get ht2 (.inl (by decide)),hlow 0 (by decide)]
 have kk6:hget (killTok (hset (hset (hset (hset H1 (n1+5) (.box [.str [],.str [],.int .i64 0,.int .i64 0,.int .i64 0,.int .i64 0])) (n1+6) (.box zP)) (n1+5) (.box [.str y.1.nm,.str y.1.on,.int .i64 y.1.fam,.int .i64 y.1.ty,.int .i64 y.1.lo,.int .i64 y.1.hi])) (n1+6) (bxZ y.2)) tk) (n1+6)=some (bxZ y.2):=by
  rw[kill_get ht2 (.inr ⟨_,hget_hset_eq ..⟩)];exact hget_hset_eq ..
 have q1:appOK (hset (hset (hset (hset H1 (n1+5) (.box [.str [],.str [],.int .i64 0,.int .i64 0,.int .i64 0,.int .i64 0])) (n1+6) (.box zP)) (n1+5) (.box [.str y.1.nm,.str y.1.on,.int .i64 y.1.fam,.int .i64 y.1.ty,.int .i64 y.1.lo,.int .i64 y.1.hi])) (n1+6) (bxZ y.2)) 6 tk=True:=eq_true ht2.app
 have q2:(acc.length≤35184372088831)=True:=eq_true (by omega)
 have q3:small (acc.length+1) 64=True:=eq_true (small_of (by omega) (by decide))
 have y54:(n1+5=4)=False:=eq_false (by omega)
 have y64:(n1+6=4)=False:=eq_false (by omega)
 have y134:(n1+13=4)=False:=eq_false (by omega)
 have y130:(n1+13=0)=False:=eq_false (by omega)
 have y136:(n1+13=n1+6)=False:=eq_false (by omega)
 have y46:(4=n1+6)=False:=eq_false (by omega)
 have y65:(n1+6=n1+5)=False:=eq_false (by omega)
 have y56:(n1+5=n1+6)=False:=eq_false (by omega)
 simp only[eE,eC,eN,reduceCtorEq,Nat.reduceEqDiff,↓reduceIte,Nat.reduceAdd,Nat.reduceLeDiff,Nat.reduceMul,Nat.reduceLT,Tzy_cl,Tzy_iw,s1,s2,dZ_ok,dZ_dec,dS_ok,dS_dec,Option.getD_some,List.length_map,List.getElem?_cons_zero,List.getElem?_cons_succ,hp,hx,hs,hy,q1,q2,q3,y54,y64,y134,y130,y136,y46,y65,y56,kk4,kk0,kk6,fr1 hfr]
 exact .mk (⟨y.2,acc++[y.1],.own (n1+13) 6,_,n1+16⟩,[]) (by simp only[List.map_append,List.map_cons,List.map_nil]) hN (by simp only[];omega)
theorem z6 (hf:Fresh H n) (hn:5≤n) (h0:hget H 0=some (bxZ sb)) (h1:hget H 1=some (.box zD)) (h2:hget H 2=some (.box zP)) (h4:hget H 4=some (.box [.str d.nm,.int .i64 d.ver,.int .i64 d.sh,.int .i64 d.w,.int .i64 d.h,eIs d.holes,eSys d.syms,.sl .nil [],.sl .nil [],.sl .nil []])):
  kont Tryz.prog (Tzy L e) (QZ (.tup [encD (zf6 d sb).1,pvZ (zf6 d sb).2])) [.c (sndN 6 c25)] .normal ⟨eZ X,H,n⟩:=by
 have hl':L.length<1000000000:=hl
 rw[kont_n]
 simp only[eE,c25,sndN,sndA]
 refine k_loop (fun v:VZ L e DReg×List (Nat×Bool×AVal)=>⟨eZ v.2,v.1.H,v.1.n⟩)
  (fun v=>IY (zis 1 wRegs) zreg 2 encRg (fun l=>[.str d.nm,.int .i64 d.ver,.int .i64 d.sh,.int .i64 d.w,.int .i64 d.h,eIs d.holes,eSys d.syms,l,.sl .nil [],.sl .nil []]) sb H v.1) (fun v=>L.length-v.1.s.n)
  (⟨sb,[],.nil,H,n⟩,X) rfl ⟨rfl,rfl,Nat.zero_le _,hf,h0,h4,rfl,rfl,.inl rfl,hn,.inr rfl⟩ ?_
 rintro⟨⟨sa,acc,tk,H1,n1⟩,X1⟩ hI
 have hI2:=hI
 obtain⟨e1,e2,hlen,hfr,hp,hx,hk1,hk2,htk,hn1,hes⟩:=hI2
 simp only at e1 e2 hlen hfr hp hx hk1 hk2 htk hn1 hes
 rw[h1]at hk1
 rw[h2]at hk2
 have hi:Zi (zis (L:=L) (e:=e) 1 wRegs) zreg:=zi_bd zm_reg
 have hle:=sa.le
 by_cases hs:zis 1 wRegs sa=true
 case neg=>
  have hs':zis 1 wRegs sa=false:=by simpa using hs
  rw[zloop_no hs]at e1 e2
  rw[List.append_nil]at e1
  have ez:zf6 d sb=zf7 {d with regs:=(zloop (zis 1 wRegs) zreg sb).1} (zloop (zis 1 wRegs) zreg sb).2:=rfl
  rw[ez,e1,e2]
  simp only[eE,Nat.reduceEqDiff,↓reduceIte,Nat.reduceAdd,hp,hs',s2,dZ_ok,dZ_dec,dS_ok,dS_dec,Tzy_iw]
  rw[kont_n]
  simp only[eE,eC,Nat.reduceEqDiff,↓reduceIte]
  exact z7 hl (d:={d with regs:=acc}) hfr hn1 hp hk1 hk2 hx (Wk.sl (hes.imp id fun q=>by rw[q];rfl))
 have h2':=hi sa hs
 have h3:=(zreg sa).2.le
 generalize hy:zreg sa=y at h2' h3
 have hta:tkG 2 5 (hset H1 (n1+5) (.box [.str [],.sl .nil []])) tk:=htk.set (.inr (.inr (hfr _ (by omega))))
 have htb:tkG 2 5 (hset (hset H1 (n1+5) (.box [.str [],.sl .nil []])) (n1+6) (.box zP)) tk:=hta.set (.inr (.inr (by rw[hget_hset_ne _ _ _ _ (by omega)];exact hfr _ (by omega))))
 have htc:tkG 2 5 (hset (hset (hset H1 (n1+5) (.box [.str [],.sl .nil []])) (n1+6) (.box zP)) (n1+5) (.box [.str y.1.nm,eLl y.1.ls])) tk:=htb.set (.inr (.inl ⟨_,by rw[hget_hset_ne _ _ _ _ (by omega)];exact hget_hset_eq ..⟩))
 have ht2:tkG 2 5 (hset (hset (hset (hset H1 (n1+5) (.box [.str [],.sl .nil []])) (n1+6) (.box zP)) (n1+5) (.box [.str y.1.nm,eLl y.1.ls])) (n1+6) (bxZ y.2)) tk:=htc.set (.inr (.inl ⟨_,by rw[hget_hset_ne _ _ _ _ (by omega)];exact hget_hset_eq ..⟩))
 have hf2:Fresh (hset (hset (hset (hset H1 (n1+5) (.box [.str [],.sl .nil []])) (n1+6) (.box zP)) (n1+5) (.box [.str y.1.nm,eLl y.1.ls])) (n1+6) (bxZ y.2)) (n1+13):=(((hfr.hset (m:=n1+13) (by omega) (by omega)).hset (Nat.le_refl _) (by omega)).hset (Nat.le_refl _) (by omega)).hset (Nat.le_refl _) (by omega)
 have hlow:∀id,id<5→hget (hset (hset (hset (hset H1 (n1+5) (.box [.str [],.sl .nil []])) (n1+6) (.box zP)) (n1+5) (.box [.str y.1.nm,eLl y.1.ls])) (n1+6) (bxZ y.2)) id=hget H1 id:=fun id hid=>by
  rw[hget_hset_ne _ _ _ _ (by omega),hget_hset_ne _ _ _ _ (by omega),hget_hset_ne _ _ _ _ (by omega),hget_hset_ne _ _ _ _ (by omega)]
 have hN:=hI.next (m:=n1+13) (n3:=n1+16) hi hs hlow ht2 hf2 (by omega) (by omega)
 rw[hy]at hN
 have kk4:hget (killTok (hset (hset (hset (hset H1 (n1+5) (.box [.str [],.sl .nil []])) (n1+6) (.box zP)) (n1+5) (.box [.str y.1.nm,eLl y.1.ls])) (n1+6) (bxZ y.2)) tk) 4=hget H1 4:=by rw[kill_get ht2 (.inl (by decide)),hlow 4 (by decide)]
 have kk0:hget (killTok (hset (hset (hset (hset H1 (n1+5) (.box [.str [],.sl .nil []])) (n1+6) (.box zP)) (n1+5) (.box [.str y.1.nm,eLl y.1.ls])) (n1+6) (bxZ y.2)) tk) 0=hget H1 0:=by rw[kill_get ht2 (.inl (by decide)),hlow 0 (by decide)]
 have kk6:hget (killTok (hset (hset (hset (hset H1 (n1+5) (.box [.str [],.sl .nil []])) (n1+6) (.box zP)) (n1+5) (.box [.str y.1.nm,eLl y.1.ls])) (n1+6) (bxZ y.2)) tk) (n1+6)=some (bxZ y.2):=by
  rw[kill_get ht2 (.inr ⟨_,hget_hset_eq ..⟩)];exact hget_hset_eq ..
 have q1:appOK (hset (hset (hset (hset H1 (n1+5) (.box [.str [],.sl .nil []])) (n1+6) (.box zP)) (n1+5) (.box [.str y.1.nm,eLl y.1.ls])) (n1+6) (bxZ y.2)) 2 tk=True:=eq_true ht2.app
 have q2:(acc.length≤35184372088831)=True:=eq_true (by omega)
 have q3:small (acc.length+1) 40=True:=eq_true (small_of (by omega) (by decide))
 have y54:(n1+5=4)=False:=eq_false (by omega)
 have y64:(n1+6=4)=False:=eq_false (by omega)
 have y134:(n1+13=4)=False:=eq_false (by omega)
 have y130:(n1+13=0)=False:=eq_false (by omega)
 have y136:(n1+13=n1+6)=False:=eq_false (by omega)
 have y46:(4=n1+6)=False:=eq_false (by omega)
 have y65:(n1+6=n1+5)=False:=eq_false (by omega)
 have y56:(n1+5=n1+6)=False:=eq_false (by omega)
 simp only[eE,eC,eN,reduceCtorEq,Nat.reduceEqDiff,↓reduceIte,Nat.reduceAdd,Nat.reduceLeDiff,Nat.reduceMul,Nat.reduceLT,Tzy_rg,Tzy_iw,s1,s2,dZ_ok,dZ_dec,dS_ok,dS_dec,Option.getD_some,List.length_map,List.getElem?_cons_zero,List.getElem?_cons_succ,hp,hx,hs,hy,q1,q2,q3,y54,y64,y134,y130,y136,y46,y65,y56,kk4,kk0,kk6,fr1 hfr]
 exact .mk (⟨y.2,acc++[y.1],.own (n1+13) 2,_,n1+16⟩,[]) (by simp only[List.map_append,List.map_cons,List.map_nil]) hN (by simp only[];omega)
theorem p25 (s:ZS L e):Pur Tryz.prog 25 [pvZ s] (.tup [encD (zread s).1,pvZ (zread s).2]):=by
 refine .mk ⟨pvZ_under 0 s,trivial⟩ ⟨encD_under 0 _,pvZ_under 0 _,trivial⟩ (a25 (ev_awp (Tzy_ok (L:=L) (e:=e) hl) (ev_evK ?_)))
 simp only[eE,reduceCtorEq,Nat.reduceEqDiff,↓reduceIte,Nat.reduceAdd,c25]
 iterate 5 (rw[kont_n];simp only[eE,reduceCtorEq,Nat.reduceEqDiff,↓reduceIte,Nat.reduceAdd,Nat.reduceLeDiff,Nat.reduceLT,s1,s2,dZ_ok,dZ_dec,dS_ok,dS_dec,dG0_ok,dG0_dec,hset_hset,List.getElem?_cons_zero,List.getElem?_cons_succ,Option.getD_some,Tzy_gd,Tzy_ss,Tzy_w,Tzy_g,Tzy_nm,Tzy_nb])
 generalize hD:zgrid (dG ((zname (zw 1 wKind s).2).1,(znum (zw 1 wVers (zname (zw 1 wKind s).2).2).2).1)) (zw 3 [123] (znum (zw 1 wVers (zname (zw 1 wKind s).2).2).2).2).2=G
 have ez:zread s=zf6 {G.1 with syms:=(zsyms G.2).1} (zsyms G.2).2:=by subst hD;rfl
 rw[ez]
 refine z6 hl (X:=[]) (d:={G.1 with syms:=(zsyms G.2).1}) ?_ ?_ ?_ ?_ ?_ ?_
 ·intro id hid
  simp only[hget_hset]
  repeat rw[if_neg (by omega)]
  rfl
 ·decide
 ·exact hget_hset_eq ..
 ·simp only[hget_hset];rfl
 ·simp only[hget_hset];rfl
 ·rw[hget_hset_ne _ _ _ _ (by decide)];exact hget_hset_eq ..
end
end Go.AM
end
section
set_option maxRecDepth 20000
set_option linter.all false
namespace Go.AM
open Go.Proofs Go.Lib
theorem lexV_allZ (src:Bs):(65536<src.length∧lexV src= .tup [.sl (.none 4) [],.int .i64 0,.int .i64 2]∧parseS src=⟨dcl0,0,2⟩)∨
  (src.length≤65536∧∃ts,Vd ts∧ts.length≤src.length∧parseS src=readS src.length ts∧lexV src= .tup [.sl (.none 4) (ts.map encK),.int .i64 0,.int .i64 0])∨
  (src.length≤65536∧∃a,lexV src= .tup [.sl (.none 4) [],.int .i64 a,.int .i64 100]∧parseS src=⟨dcl0,a,100⟩):=by
 unfold lexV
 split
 ·rename_i h;exact .inl ⟨h,rfl,by unfold parseS;rw[if_pos h]⟩
 ·rename_i h
  rw[lexR_lx]
  cases hr:lx src 0 with
  |ok a ts=>
   obtain⟨-,hv,-,hlen⟩:=lx_ok _ _ _ _ _ rfl hr
   exact .inr (.inl ⟨by omega,ts,all_vd.1 hv,hlen,by unfold parseS;rw[if_neg h,hr],rfl⟩)
  |err a=>exact .inr (.inr ⟨by omega,a,rfl,by unfold parseS;rw[if_neg h,hr]⟩)
def zs0 (L:List Tkn) (e:Int):ZS L e:=⟨0,false,Nat.zero_le _⟩
theorem zread_readS {L:List Tkn} {e:Int} (hv:Vd L):readS e L=if(zread (zs0 L e)).2.b=true then⟨dcl0,(zread (zs0 L e)).2.pl,150⟩else⟨(zread (zs0 L e)).1,0,0⟩:=by
 have h:=zr_read (e:=e) hv (zs0 L e)
 change declR L=_ at h
 unfold readS
 rw[h]
 unfold ZS.pl
 cases (zread (zs0 L e)).2.b<;>rfl
def Tzp (L:List Tkn) (e:Int):Tab:=tadd 24 (s1 dS (fun x=>x.length<1000000000) fun x=>lexV x) (tadd 25 (s1 (dZ L e) (fun _=>True) fun s=>.tup [encD (zread s).1,pvZ (zread s).2]) tnil)
theorem Tzp_ok {L:List Tkn} {e:Int} (hl:few L):TabOK Tryz.prog (Tzp L e):=(TabOK.tnil.add (q1 fun s _=>p25 hl s)).add (q1 fun x h=>p24 x h)
theorem Tzp_l {L:List Tkn} {e:Int} (a:List AVal) (H:AHeap):Tzp L e 24 a H=s1 dS (fun x=>x.length<1000000000) (fun x=>lexV x) a H:=rfl
theorem Tzp_r {L:List Tkn} {e:Int} (a:List AVal) (H:AHeap):Tzp L e 25 a H=s1 (dZ L e) (fun _=>True) (fun s=>.tup [encD (zread s).1,pvZ (zread s).2]) a H:=rfl
theorem p11 (src:Bs) (hs:src.length<1000000000):Pur Tryz.prog 11 [.str src] (pdV (parseS src)):=by
 refine .mk ⟨trivial,trivial⟩ ⟨encD_under 0 _,trivial,trivial,trivial⟩ ?_
 rcases lexV_allZ src with⟨h6,hv,hp⟩|⟨h6,ts,hvd,hlen,hp,hv⟩|⟨h6,a,hv,hp⟩
 ·rw[hp]
  refine a11 (ev_awp (Tzp_ok (L:=[]) (e:=0) (by decide)) (ev_evK ?_))
  simp only[eE,eC,eN,reduceCtorEq,Nat.reduceEqDiff,↓reduceIte,Nat.reduceAdd,Nat.reduceLT,Int.reduceEq,Bool.not_false,rcell,Tzp_l,s1,dS_ok,dS_dec,Option.getD_some,List.getElem?_cons_zero,List.getElem?_cons_succ,c11,hs,hv]
  exact Wk.tup3 wk_z10 (Wk.refl _) (Wk.refl _)
 ·have hf:few ts:=by show ts.length<_;omega
  refine a11 (ev_awp (Tzp_ok (L:=ts) (e:=src.length) hf) (ev_evK ?_))
  have hq:(AVal.agg [.sl (.none 4) (ts.map encK),.int .i64 0,.int .i64 (src.length:Int),.bool false,.int .i64 0])=pvZ (zs0 ts src.length):=rfl
  have hq1:(dZ ts src.length).ok (.agg [.sl (.none 4) (ts.map encK),.int .i64 0,.int .i64 (src.length:Int),.bool false,.int .i64 0])=True:=dZ_ok (zs0 ts src.length)
  have hq2:(dZ ts src.length).dec (.agg [.sl (.none 4) (ts.map encK),.int .i64 0,.int .i64 (src.length:Int),.bool false,.int .i64 0])=zs0 ts src.length:=dZ_dec (zs0 ts src.length)
  rw[hp,zread_readS hvd]
  generalize hz:zread (zs0 ts (src.length:Int))=z
  cases hb:z.2.b with
  |true=>
   rw[if_pos rfl]
   simp only[eE,eC,eN,eX,reduceCtorEq,Nat.reduceEqDiff,↓reduceIte,Nat.reduceAdd,Nat.reduceLeDiff,Nat.reduceLT,Nat.reduceMod,Nat.reduceSub,Nat.reduceDiv,Bool.not_true,rcell,Tzp_l,Tzp_r,s1,dS_ok,dS_dec,Option.getD_some,List.getElem?_cons_zero,List.getElem?_cons_succ,c11,hs,hv,hq1,hq2,hz,hb]
   exact Wk.tup3 wk_z10 (Wk.refl _) (Wk.refl _)
  |false=>
   rw[if_neg (by decide)]
   simp only[eE,eC,eN,reduceCtorEq,Nat.reduceEqDiff,↓reduceIte,Nat.reduceAdd,Nat.reduceLeDiff,Nat.reduceLT,Bool.not_true,rcell,Tzp_l,Tzp_r,s1,dS_ok,dS_dec,Option.getD_some,List.getElem?_cons_zero,List.getElem?_cons_succ,c11,hs,hv,hq1,hq2,hz,hb]
   exact Wk.refl _
 ·rw[hp]
  refine a11 (ev_awp (Tzp_ok (L:=[]) (e:=0) (by decide)) (ev_evK ?_))
  simp only[eE,eC,eN,reduceCtorEq,Nat.reduceEqDiff,↓reduceIte,Nat.reduceAdd,Nat.reduceLT,Int.reduceEq,Bool.not_false,rcell,Tzp_l,s1,dS_ok,dS_dec,Option.getD_some,List.getElem?_cons_zero,List.getElem?_cons_succ,c11,hs,hv]
  exact Wk.tup3 wk_z10 (Wk.refl _) (Wk.refl _)
end Go.AM
end
section
set_option maxRecDepth 20000
set_option linter.all false
namespace Go.AM
open Go.Proofs Go.Lib
abbrev eTk (l:List Tkn):AVal:=.sl (.none 4) (l.map encK)
def Tpa:Tab:=tadd 80 (s2 dKs dS (fun w _=>w.length+1≤900000000) (fun w x=>eTk (w++[kI x]))) (tadd 81 (s2 dKs dS (fun w _=>w.length+1≤900000000) (fun w x=>eTk (w++[kS x]))) (tadd 82 (s2 dKs dI (fun w _=>w.length+1≤900000000) (fun w x=>eTk (w++[kN x]))) (tnil)))
def Tpb:Tab:=tadd 83 (s2 dKs dIs (fun w l=>w.length+(comT oneN l).length≤900000000) (fun w l=>eTk (w++comT oneN l))) (tadd 117 (s2 dKs dSs (fun w l=>w.length+(setT l).length≤900000000) (fun w l=>eTk (w++setT l))) (Tpa))
end Go.AM
end
section
set_option maxRecDepth 20000
set_option linter.all false
namespace Go.AM
open Go.Proofs Go.Lib
def Tpc:Tab:=tadd 116 (s2 dKs dRu (fun w x=>w.length+(bndT opF x.op x.n x.byN).length≤900000000) (fun w x=>eTk (w++bndT opF x.op x.n x.byN))) (Tpb)
end Go.AM
end
section
set_option maxRecDepth 20000
set_option linter.all false
namespace Go.AM
open Go.Proofs Go.Lib
theorem dCl_okX {a b:Bs} {c d e f:Int}:dCl.ok (.agg [.str a,.str b,.int .i64 c,.int .i64 d,.int .i64 e,.int .i64 f])=True:=dCl_ok ⟨a,b,c,d,e,f⟩
theorem dCl_decX {a b:Bs} {c d e f:Int}:dCl.dec (.agg [.str a,.str b,.int .i64 c,.int .i64 d,.int .i64 e,.int .i64 f])=⟨a,b,c,d,e,f⟩:=dCl_dec ⟨a,b,c,d,e,f⟩
def Tpd:Tab:=tadd 85 (s2 dKs dRu (fun w x=>w.length+(bodyT opF true x).length≤900000000) (fun w x=>eTk (w++bodyT opF true x))) (tadd 84 (s2 dKs dCl (fun w x=>w.length+(cluT x).length≤900000000) (fun w x=>eTk (w++cluT x))) (Tpc))
theorem Tpd_Body (a:List AVal) (H:AHeap):Tpd 85 a H=s2 dKs dRu (fun w x=>w.length+(bodyT opF true x).length≤900000000) (fun w x=>eTk (w++bodyT opF true x)) a H:=rfl
theorem Tpd_Clue (a:List AVal) (H:AHeap):Tpd 84 a H=s2 dKs dCl (fun w x=>w.length+(cluT x).length≤900000000) (fun w x=>eTk (w++cluT x)) a H:=rfl
theorem Tpd_Bound (a:List AVal) (H:AHeap):Tpd 116 a H=s2 dKs dRu (fun w x=>w.length+(bndT opF x.op x.n x.byN).length≤900000000) (fun w x=>eTk (w++bndT opF x.op x.n x.byN)) a H:=rfl
theorem Tpd_Numbers (a:List AVal) (H:AHeap):Tpd 83 a H=s2 dKs dIs (fun w l=>w.length+(comT oneN l).length≤900000000) (fun w l=>eTk (w++comT oneN l)) a H:=rfl
theorem Tpd_Set (a:List AVal) (H:AHeap):Tpd 117 a H=s2 dKs dSs (fun w l=>w.length+(setT l).length≤900000000) (fun w l=>eTk (w++setT l)) a H:=rfl
theorem Tpd_Word (a:List AVal) (H:AHeap):Tpd 80 a H=s2 dKs dS (fun w _=>w.length+1≤900000000) (fun w x=>eTk (w++[kI x])) a H:=rfl
theorem Tpd_Sign (a:List AVal) (H:AHeap):Tpd 81 a H=s2 dKs dS (fun w _=>w.length+1≤900000000) (fun w x=>eTk (w++[kS x])) a H:=rfl
theorem Tpd_Number (a:List AVal) (H:AHeap):Tpd 82 a H=s2 dKs dI (fun w _=>w.length+1≤900000000) (fun w x=>eTk (w++[kN x])) a H:=rfl
abbrev eT (w:List Tkn) (X:List (Nat×Bool×AVal)):List (Nat×Bool×AVal):=(1,true,.ptr 0 0)::(3,true,eTk w)::X
abbrev hT (d:Dcl):AHeap:=hset hnil 0 (.box (cellsD d))
section
variable {d:Dcl} {w tot:List Tkn} {X:List (Nat×Bool×AVal)}
end
end Go.AM
end
section
set_option maxRecDepth 20000
set_option linter.all false
namespace Go.AM
open Go.Proofs Go.Lib
end Go.AM
end
section
set_option maxRecDepth 20000
set_option linter.all false
namespace Go.AM
open Go.Proofs Go.Lib
structure VBr where
 i:Nat
 tk:Tok
 H:AHeap
 n:Nat
structure IBr (d:Dcl) (es len:Nat) (v:VBr):Prop where
 hi:v.i≤len
 fr:Fresh v.H v.n
 h0:hget v.H 0=some (.box (cellsD d))
 h1:hget v.H 1=some (.box zB)
 tok:tkG es 2 v.H v.tk
 es:v.tk.esz=es
 hn:2≤v.n
end Go.AM
end
