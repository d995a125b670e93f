/-
  Declarations: the reference's reader, plainly · Declarations: the reference's reader does what the grammar says · Declarations: the reference's reader, its small steps · Declarations: the reference's reader, its lists · Declarations: the reference's reader, its larger steps · Declarations: the reference's reader, rules · Declarations: the reference's reader, symbols and regions · Declarations: the reference's reader, regions · Declarations: the reference's reader, whole · Declarations: the reference's Parse · Declarations: the reference's tokens · Declarations: the reference's tokens of rules and clues · Declarations: the reference's tokens of a declaration · Declarations: the reference's Tokens · Declarations: the reference's Bare.
  Conditions: none beyond those of its parts.
-/
import Derived.Test.YtbliialnfeoodaaGreatDoorB9
import Derived.Test.YtbliialnfeoodaaGreatDoorB8
import Derived.Test.YtbliialnfeoodaaGreatDoorB5
import Derived.Test.YtbliialnfeoodaaGreatDoorB6

section
set_option maxRecDepth 20000
set_option linter.all false
namespace Go.AM
open Go.Proofs Go.Lib
structure ZS (L:List Tkn) (e:Int) where
 n:Nat
 b:Bool
 le:n≤L.length
def zk {α:Type}:Bool→α→List Tkn→Rs α
 |true,_,r=>.bad r
 |false,a,r=>.ok a r
def gB {α:Type}:Bool→(List Tkn→Rs α)→List Tkn→Rs α
 |true,_,r=>.bad r
 |false,g,r=>g r
section
variable {L:List Tkn} {e:Int} {α β:Type}
def ZS.pl (s:ZS L e):Int:=if s.b=true then plc e (L.drop s.n)else 0
def FT (s:ZS L e):ZS L e:=⟨s.n,true,s.le⟩
def zhd (f:Tkn→Bool) (s:ZS L e):Bool:=!s.b&&(match L[s.n]? with|some t=>f t|none=>false)
theorem Ew {f:Tkn→Bool} {s:ZS L e} (h:zhd f s=true):s.n<L.length:=by
 unfold zhd at h
 rw[Bool.and_eq_true]at h
 rcases Nat.lt_or_ge s.n L.length with q|q
 ·exact q
 ·rw[List.getElem?_eq_none q]at h;exact absurd h.2 (by simp)
theorem Mw {f:Tkn→Bool} {s:ZS L e} (h:zhd f s=true):s.b=false:=by
 unfold zhd at h
 rw[Bool.and_eq_true]at h
 simpa using h.1
def zis (k:Int) (w:Bs):ZS L e→Bool:=zhd fun t=>decide (t.K=k)&&decide (t.T=w)
def Dp:ZS L e→Bool:=zhd fun t=>decide (t.K=1)
def DK:ZS L e→Bool:=zhd fun t=>decide (t.K=2)&&decide (0≤t.N)&&decide (t.N≤65536)
def zone (f:Tkn→Bool) (v:Tkn→α) (z:α) (s:ZS L e):α×ZS L e:=if h:zhd f s=true then(v (L[s.n]'(Ew h)),⟨s.n+1,s.b,Ew h⟩)else(z,FT s)
def zw (k:Int) (w:Bs):ZS L e→Unit×ZS L e:=zone (fun t=>decide (t.K=k)&&decide (t.T=w)) (fun _=>()) ()
def Ap:ZS L e→Bs×ZS L e:=zone (fun t=>decide (t.K=1)) (fun t=>t.T) []
def znum:ZS L e→Int×ZS L e:=zone (fun t=>decide (t.K=2)&&decide (0≤t.N)&&decide (t.N≤65536)) (fun t=>t.N) 0
def zret (a:α) (s:ZS L e):α×ZS L e:=(a,s)
def zbd (f:ZS L e→α×ZS L e) (K:α→ZS L e→β×ZS L e) (s:ZS L e):β×ZS L e:=K (f s).1 (f s).2
def zif (w:Bs) (f g:ZS L e→α×ZS L e) (s:ZS L e):α×ZS L e:=if zis 1 w s=true then f s else g s
def EX (t:ZS L e→Bool) (f:ZS L e→α×ZS L e):Nat→ZS L e→List α×ZS L e
 |0,s=>([],s)
 |k+1,s=>if t s=true then((f s).1::(EX t f k (f s).2).1,(EX t f k (f s).2).2)else([],s)
def BE (t:ZS L e→Bool) (f:ZS L e→α×ZS L e) (s:ZS L e):List α×ZS L e:=EX t f (L.length-s.n+1) s
def Zm (f:ZS L e→α×ZS L e):Prop:=∀s,s.n≤(f s).2.n
def Zi (t:ZS L e→Bool) (f:ZS L e→α×ZS L e):Prop:=∀s,t s=true→s.n<(f s).2.n
theorem GE {t:ZS L e→Bool} {f:ZS L e→α×ZS L e} (h:Zi t f):∀(k j:Nat) (s:ZS L e),L.length-s.n<k→L.length-s.n<j→EX t f k s=EX t f j s
 |0,_,_,h1,_=>by omega
 |_+1,0,_,_,h2=>by omega
 |k+1,j+1,s,h1,h2=>by
  unfold EX
  by_cases hs:t s=true
  ·rw[if_pos hs,if_pos hs]
   have h3:=h s hs
   have h4:=(f s).2.le
   rw[GE h k j (f s).2 (by omega) (by omega)]
  ·rw[if_neg hs,if_neg hs]
theorem GF {t:ZS L e→Bool} {f:ZS L e→α×ZS L e} (h:Zi t f) {s:ZS L e} (hs:t s=true):BE t f s=((f s).1::(BE t f (f s).2).1,(BE t f (f s).2).2):=by
 have h3:=h s hs
 have h4:=(f s).2.le
 unfold BE
 rw[EX,if_pos hs,GE h (L.length-s.n) (L.length-(f s).2.n+1) (f s).2 (by omega) (by omega)]
theorem Cp {t:ZS L e→Bool} {f:ZS L e→α×ZS L e} {s:ZS L e} (hs:¬t s=true):BE t f s=([],s):=by
 unfold BE
 rw[EX,if_neg hs]
theorem Zm.one (f:Tkn→Bool) (v:Tkn→α) (z:α):Zm (zone (L:=L) (e:=e) f v z):=fun s=>by
 unfold zone
 split
 ·exact Nat.le_succ _
 ·exact Nat.le_refl _
theorem Zm.ret (a:α):Zm (zret (L:=L) (e:=e) a):=fun s=>Nat.le_refl _
theorem Zm.bd {f:ZS L e→α×ZS L e} {K:α→ZS L e→β×ZS L e} (h:Zm f) (k:∀a,Zm (K a)):Zm (zbd f K):=fun s=>Nat.le_trans (h s) (k _ _)
theorem Zm.if {w:Bs} {f g:ZS L e→α×ZS L e} (h:Zm f) (k:Zm g):Zm (zif w f g):=fun s=>by
 unfold zif
 split
 ·exact h s
 ·exact k s
theorem Zm.loop {t:ZS L e→Bool} {f:ZS L e→α×ZS L e} (h:Zm f):Zm (BE t f):=fun s=>by
 have:∀k (s:ZS L e),s.n≤(EX t f k s).2.n:=fun k=>by
  induction k with
  |zero=>intro s;exact Nat.le_refl _
  |succ k ih=>
   intro s
   unfold EX
   split
   ·exact Nat.le_trans (h s) (ih _)
   ·exact Nat.le_refl _
 exact this _ s
def Zr (f:ZS L e→α×ZS L e) (g:List Tkn→Rs α):Prop:=∀s,gB s.b g (L.drop s.n)=zk (f s).2.b (f s).1 (L.drop (f s).2.n)
theorem Zr.ret (a:α):Zr (zret (L:=L) (e:=e) a) (Rs.ok a):=fun s=>by
 show gB s.b _ _=zk s.b a (L.drop s.n)
 cases s.b<;>rfl
theorem Zr.bd {f:ZS L e→α×ZS L e} {g:List Tkn→Rs α} {K:α→ZS L e→β×ZS L e} {G:α→List Tkn→Rs β} (h:Zr f g) (k:∀a,Zr (K a) (G a)):Zr (zbd f K) fun l=>(g l).bd (G):=fun s=>by
 have h1:=h s
 have h2:=k (f s).1 (f s).2
 have e1:gB s.b (fun l=>(g l).bd G) (L.drop s.n)=(gB s.b g (L.drop s.n)).bd G:=by cases s.b<;>rfl
 rw[e1,h1]
 unfold zbd
 rw[←h2]
 cases (f s).2.b<;>rfl
theorem Zr.eq {f:ZS L e→α×ZS L e} {g g':List Tkn→Rs α} (h:Zr f g) (e:∀l,g l=g' l):Zr f g':=(funext e:g=g')▸h
theorem Zr.fn {f f':ZS L e→α×ZS L e} {g:List Tkn→Rs α} (h:Zr f g) (e:∀s,f s=f' s):Zr f' g:=(funext e:f=f')▸h
theorem Zr.one {p:Tkn→Bool} {v:Tkn→α} {z:α} {g:List Tkn→Rs α} (h1:g []= .bad []) (h2:∀t∈L,∀r,g (t::r)=if p t=true then .ok (v t) r else .bad (t::r)):Zr (zone (L:=L) (e:=e) p v z) g:=fun s=>by
 unfold zone
 by_cases h:zhd p s=true
 ·rw[dif_pos h]
  have hb:=Mw h
  have hl:=Ew h
  have hp:p L[s.n]=true:=by
   unfold zhd at h
   rw[List.getElem?_eq_getElem hl,Bool.and_eq_true]at h;exact h.2
  rw[hb,List.drop_eq_getElem_cons hl]
  show g _= .ok _ _
  rw[h2 _ (List.getElem_mem hl),if_pos hp]
 ·rw[dif_neg h]
  show gB s.b g _= .bad _
  cases hb:s.b with
  |true=>rfl
  |false=>
   show g _=_
   rcases Nat.lt_or_ge s.n L.length with hl|hl
   ·rw[List.drop_eq_getElem_cons hl]
    show g _= .bad (L.drop s.n)
    rw[h2 _ (List.getElem_mem hl),if_neg,List.drop_eq_getElem_cons hl]
    intro hp
    exact h (by unfold zhd;rw[hb,List.getElem?_eq_getElem hl];exact hp)
   ·show g (L.drop s.n)= .bad (L.drop s.n)
    rw[List.drop_eq_nil_of_le hl];exact h1
theorem Zr.loop {t:ZS L e→Bool} {f:ZS L e→α×ZS L e} {t':List Tkn→Bool} {g:List Tkn→Rs α} (ht:∀s,t s=(!s.b&&t' (L.drop s.n))) (h:Zr f g) (hi:Zi t f) (hL:Lt g):Zr (BE t f) (BA t' g):=by
 have key:∀(k:Nat) (s:ZS L e),L.length-s.n=k→gB s.b (BA t' g) (L.drop s.n)=zk (BE t f s).2.b (BE t f s).1 (L.drop (BE t f s).2.n):=fun k=>by
  induction k using Nat.strongRecOn with
  |_ k ih=>
   intro s hk
   by_cases hs:t s=true
   ·rw[GF hi hs]
    have h1:=hi s hs
    have h2:=(f s).2.le
    have h3:=ih (L.length-(f s).2.n) (by omega) (f s).2 rfl
    have h4:=h s
    have h5:s.b=false∧t' (L.drop s.n)=true:=by
     have:=ht s
     rw[hs]at this
     cases hb:s.b with
     |true=>rw[hb]at this;cases this
     |false=>rw[hb]at this;exact⟨rfl,by simpa using this.symm⟩
    rw[h5.1]at h4⊢
    show BA t' g _=_
    rw[G5 hL h5.2]
    change g (L.drop s.n)=_ at h4
    rw[h4]
    cases hb:(f s).2.b with
    |true=>
     rw[hb]at h3
     change Rs.bad _=_ at h3
     show Rs.bad _=_
     cases hb2:(BE t f (f s).2).2.b with
     |true=>rw[hb2]at h3;injection h3 with h3;rw[h3];rfl
     |false=>rw[hb2]at h3;cases h3
    |false=>
     rw[hb]at h3
     change BA t' g _=_ at h3
     show(BA t' g _).bd _=_
     rw[h3]
     cases (BE t f (f s).2).2.b<;>rfl
   ·rw[Cp hs]
    cases hb:s.b with
    |true=>rfl
    |false=>
     have:=ht s
     rw[hb,Bool.not_false,Bool.true_and]at this
     show BA t' g _= .ok [] _
     exact Ly hL (by rw[←this];simpa using hs)
 exact fun s=>key _ s rfl
theorem Zr.if {w:Bs} {f f':ZS L e→α×ZS L e} {g g':List Tkn→Rs α} (ht:∀s:ZS L e,zis 1 w s=(!s.b&&hdW w (L.drop s.n))) (h:Zr f fun l=>(need w l).bd fun _ r=>g r) (h':Zr f' g'):Zr (zif w f f') fun l=>if hdW w l=true then g l.tail else g' l:=fun s=>by
 unfold zif
 have h0:=ht s
 by_cases hs:zis 1 w s=true
 ·rw[if_pos hs]
  rw[hs]at h0
  have h5:s.b=false∧hdW w (L.drop s.n)=true:=by
   cases hb:s.b with
   |true=>rw[hb]at h0;cases h0
   |false=>rw[hb]at h0;exact⟨rfl,by simpa using h0.symm⟩
  rw[←h s,h5.1]
  show(if _ then _ else _)=(need w _).bd _
  unfold need
  rw[if_pos h5.2,if_pos h5.2];rfl
 ·rw[if_neg hs,←h' s]
  cases hb:s.b with
  |true=>rfl
  |false=>
   rw[hb,Bool.not_false,Bool.true_and]at h0
   show(if _ then _ else _)=_
   rw[if_neg (by rw[←h0];exact hs)];rfl
def C2 (f:ZS L e→α×ZS L e):ZS L e→List α×ZS L e:=zbd f fun a=>zbd (BE (zis 3 [44]) (zbd (zw 3 [44]) fun _=>f)) fun l=>zret (a::l)
def zset:ZS L e→List Bs×ZS L e:=zbd (zw 3 [123]) fun _=>zbd (C2 Ap) fun ss=>zbd (zw 3 [125]) fun _=>zret ss
def HK:ZS L e→Int×ZS L e:=zif wHex (zbd (zw 1 wHex) fun _=>zret 2) (zbd (zw 1 EB) fun _=>zret 1)
def HL (h0:List Int):ZS L e→List Int×ZS L e:=zif Eu (zbd (zw 1 Eu) fun _=>C2 znum) (zret h0)
def Ex (d:Dcl):ZS L e→Dcl×ZS L e:=zbd (zw 1 Et) fun _=>zbd HK fun sh=>zbd znum fun w=>zbd (zw 1 wBy) fun _=>zbd znum fun h=>zbd (HL d.holes) fun ho=>zbd (zw 3 [59]) fun _=>zret {d with sh:=sh,w:=w,h:=h,holes:=ho}
def zsym:ZS L e→DSym×ZS L e:=zbd Ap fun s=>zbd (zw 3 [61]) fun _=>zbd znum fun v=>zret ⟨s,v⟩
def Ft:ZS L e→List DSym×ZS L e:=zbd (zw 1 EC) fun _=>zbd (C2 zsym) fun l=>zbd (zw 3 [59]) fun _=>zret l
def zrl:ZS L e→List Int×ZS L e:=zbd (C2 znum) fun l=>zbd (zw 3 [59]) fun _=>zret l
def zreg:ZS L e→DReg×ZS L e:=zbd (zw 1 Bl) fun _=>zbd Ap fun s=>zbd (zw 3 [123]) fun _=>zbd (BE DK zrl) fun ls=>zbd (zw 3 [125]) fun _=>zret ⟨s,ls⟩
def zclu:ZS L e→DClu×ZS L e:=zbd (zw 1 CK) fun _=>zbd Ap fun s=>zbd (zw 1 wOn) fun _=>zbd Ap fun o=>
 zif wSym (zbd (zw 1 wSym) fun _=>zbd (zw 3 [59]) fun _=>zret ⟨s,o,0,1,0,0⟩)
  (zif BC (zbd (zw 1 BC) fun _=>zbd znum fun a=>zbd (zw 1 wTo) fun _=>zbd znum fun b=>zbd (zw 3 [59]) fun _=>zret ⟨s,o,0,2,a,b⟩)
   (zbd (zw 1 Cm) fun _=>zbd (zw 3 [59]) fun _=>zret ⟨s,o,0,3,0,0⟩))
def zop:ZS L e→Int×ZS L e:=zif wIs (zbd (zw 1 wIs) fun _=>zret 1) (zif Es (zbd (zw 1 Es) fun _=>zret 2) (zbd (zw 1 Ed) fun _=>zret 3))
def zlim (x:DRul) (s:ZS L e):DRul×ZS L e:=if Dp s=true then({x with byN:=(Ap s).1},(Ap s).2)else({x with n:=(znum s).1},(znum s).2)
def Bi (x:DRul):ZS L e→DRul×ZS L e:=zbd zop fun o=>zlim {x with op:=o}
def ET (x:DRul):ZS L e→DRul×ZS L e:=
 zif D9 (zbd (zw 1 D9) fun _=>zret {x with kind:=1})
 (zif CP (zbd (zw 1 CP) fun _=>zbd zset fun ss=>Bi {x with kind:=2,ns:=ss})
 (zif wSum (zbd (zw 1 wSum) fun _=>Bi {x with kind:=3})
 (zif FN (zbd (zw 1 FN) fun _=>zret {x with kind:=4})
 (zbd (zw 1 Cm) fun _=>zbd zset fun ss=>zbd (zw 1 wBy) fun _=>zbd Ap fun s=>zret {x with kind:=5,ns:=ss,byN:=s}))))
def DL (x:DRul):ZS L e→DRul×ZS L e:=
 zif Bp (zbd (zw 1 Bp) fun _=>zbd Ap fun s=>ET {x with on:=s})
 (zif Bq (zbd (zw 1 Bq) fun _=>zret {x with kind:=6})
 (zif Cw (zbd (zw 1 Cw) fun _=>zbd znum fun n=>zret {x with kind:=7,n:=n})
 (zif wNot (zbd (zw 1 wNot) fun _=>zbd zset fun ss=>zbd (zw 1 Cn) fun _=>zbd zset fun os=>zret {x with kind:=8,ns:=ss,os:=os})
 (zif FK (zbd (zw 1 FK) fun _=>zbd zset fun ss=>zret {x with kind:=9,ns:=ss})
 (zif FL (zbd (zw 1 FL) fun _=>zbd zset fun ss=>zret {x with kind:=10,ns:=ss})
 (zif Cx (zbd (zw 1 Cx) fun _=>zbd Ap fun s=>zret {x with kind:=11,byN:=s})
 (zif FM (zbd (zw 1 FM) fun _=>zbd Ap fun s=>zret {x with kind:=12,on:=s})
 (zbd (zw 1 Cl) fun _=>Bi {x with kind:=13}))))))))
def EU:ZS L e→DRul×ZS L e:=zbd (zw 1 CN) fun _=>zbd Ap fun s=>zbd (zw 3 [58]) fun _=>zbd (DL {rul0 with nm:=s}) fun x=>zbd (zw 3 [59]) fun _=>zret x
def zend (d:Dcl) (s:ZS L e):Dcl×ZS L e:=if s.n<L.length then(d,if s.b=true then s else FT s)else(d,s)
def FU:ZS L e→Dcl×ZS L e:=zbd (zw 1 EA) fun _=>zbd Ap fun nm=>zbd (zw 1 EW) fun _=>zbd znum fun v=>zbd (zw 3 [123]) fun _=>zbd (Ex ⟨nm,v,0,0,0,[],[],[],[],[]⟩) fun d=>zbd Ft fun ss=>
 zbd (BE (zis 1 Bl) zreg) fun rs=>zbd (BE (zis 1 CK) zclu) fun cs=>zbd (BE (zis 1 CN) EU) fun us=>zbd (zw 3 [125]) fun _=>zend {d with syms:=ss,regs:=rs,clus:=cs,ruls:=us}
end
end Go.AM
end
section
set_option maxRecDepth 20000
set_option linter.all false
namespace Go.AM
open Go.Proofs Go.Lib
section
variable {L:List Tkn} {e:Int} {α β:Type}
theorem hd_1 {t:Tkn} (hv:Ad t=true) {w:Bs} (hw:Bx w=true) (r:List Tkn):(decide (t.K=1)&&decide (t.T=w))=hdW w (t::r):=by
 rw[Bool.eq_iff_iff]
 simp only[hdW,Bool.and_eq_true,decide_eq_true_eq]
 constructor
 ·rintro⟨h1,h2⟩;exact⟨by omega,h2⟩
 ·rintro⟨h1,h2⟩
  refine⟨?_,h2⟩
  rcases Classical.em (t.K=1)with hk|hk
  ·exact hk
  ·obtain⟨_,b,eb,hb⟩:=Kj hv hk h1
   rw[←h2,eb]at hw
   simp only[Bx,Bool.and_eq_true]at hw
   have:=hw.1.2
   simp only[List.getElem?_cons_zero,Option.getD_some]at this
   rw[Kk hb]at this;cases this
theorem hd_3 {t:Tkn} (hv:Ad t=true) {b:UInt8} (hb:sgnB b=true) (r:List Tkn):(decide (t.K=3)&&decide (t.T=[b]))=hdW [b] (t::r):=by
 rw[Bool.eq_iff_iff]
 simp only[hdW,Bool.and_eq_true,decide_eq_true_eq]
 constructor
 ·rintro⟨h1,h2⟩;exact⟨by omega,h2⟩
 ·rintro⟨h1,h2⟩
  refine⟨?_,h2⟩
  rcases Classical.em (t.K=1)with hk|hk
  ·have:=(G2 hv hk).2
   rw[h2]at this
   simp only[Bx,Bool.and_eq_true]at this
   have:=this.1.2
   simp only[List.getElem?_cons_zero,Option.getD_some]at this
   rw[Kk hb]at this;cases this
  ·unfold Ad at hv
   rw[if_neg hk,if_neg h1]at hv
   split at hv
   ·assumption
   ·cases hv
variable (hv:Vd L)
include hv
theorem Ag (w:Bs) (hw:Bx w=true):Zr (zw (L:=L) (e:=e) 1 w) (need w):=Zr.one rfl fun t ht r=>by
 rw[hd_1 (hv t ht) hw r];rfl
theorem Bk (b:UInt8) (hb:sgnB b=true):Zr (zw (L:=L) (e:=e) 3 [b]) (need [b]):=Zr.one rfl fun t ht r=>by
 rw[hd_3 (hv t ht) hb r];rfl
theorem Mz {p:Tkn→Bool} {t':List Tkn→Bool} (h0:t' []=false) (h:∀t∈L,∀r,p t=t' (t::r)) (s:ZS L e):zhd p s=(!s.b&&t' (L.drop s.n)):=by
 unfold zhd
 rcases Nat.lt_or_ge s.n L.length with hl|hl
 ·rw[List.getElem?_eq_getElem hl,List.drop_eq_getElem_cons hl,←h _ (List.getElem_mem hl)]
 ·rw[List.getElem?_eq_none hl,List.drop_eq_nil_of_le hl,h0]
theorem Ax (w:Bs) (hw:Bx w=true) (s:ZS L e):zis 1 w s=(!s.b&&hdW w (L.drop s.n)):=Mz hv rfl (fun t ht r=>hd_1 (hv t ht) hw r) s
theorem PC (b:UInt8) (hb:sgnB b=true) (s:ZS L e):zis 3 [b] s=(!s.b&&hdW [b] (L.drop s.n)):=Mz hv rfl (fun t ht r=>hd_3 (hv t ht) hb r) s
theorem Ql {t:Tkn} (ht:t∈L) (r:List Tkn):(decide (t.K=2)&&decide (0≤t.N)&&decide (t.N≤65536))=BH (t::r):=by
 rw[Bool.eq_iff_iff]
 simp only[BH,Bool.and_eq_true,decide_eq_true_eq]
 exact⟨fun⟨⟨a,b⟩,c⟩=>⟨a,c⟩,fun⟨a,c⟩=>⟨⟨a,(FH (hv t ht) a).1⟩,c⟩⟩
theorem RX (s:ZS L e):DK s=(!s.b&&BH (L.drop s.n)):=Mz hv rfl (fun t ht r=>Ql hv ht r) s
theorem EY:Zr (znum (L:=L) (e:=e)) nmbR:=Zr.one rfl fun t ht r=>by
 rw[Ql hv ht r]
 simp [BH,nmbR]
omit hv in
theorem CL:Zr (Ap (L:=L) (e:=e)) Bc:=Zr.one rfl fun t ht r=>by
 unfold Bc Jo
 by_cases hk:t.K=1
 ·simp [hk,Rs.bd]
 ·simp [hk,Rs.bd]
omit hv in
theorem G8 {k:Int} {w:Bs} {f:ZS L e→α×ZS L e} (h:Zm f):Zi (zis k w) (zbd (zw k w) fun _=>f):=fun s hs=>by
 have h1:(zw k w s).2.n=s.n+1:=by
  unfold zw zone
  rw[dif_pos (show zhd _ s=true from hs)]
 exact Nat.lt_of_lt_of_le (by omega) (h (zw k w s).2)
theorem ID {f:ZS L e→α×ZS L e} {g:List Tkn→Rs α} (h:Zr f g) (hm:Zm f) (hL:Lt g):Zr (C2 f) (CJ g):=
 Zr.bd h fun a=>Zr.bd (Zr.loop (PC hv 44 rfl) (Zr.bd (Bk hv 44 rfl) fun _=>h) (G8 hm) (Jr hL.le)) fun l=>Zr.ret _
omit hv
theorem zm_w {k:Int} {w:Bs}:Zm (zw (L:=L) (e:=e) k w):=Zm.one _ _ _
theorem B6:Zm (Ap (L:=L) (e:=e)):=Zm.one _ _ _
theorem EZ:Zm (znum (L:=L) (e:=e)):=Zm.one _ _ _
theorem M1 {f:ZS L e→α×ZS L e} (h:Zm f):Zm (C2 f):=h.bd fun _=>(Zm.loop (zm_w.bd fun _=>h)).bd fun _=>Zm.ret _
theorem HM:Zm (zset (L:=L) (e:=e)):=zm_w.bd fun _=>(M1 B6).bd fun _=>zm_w.bd fun _=>Zm.ret _
theorem Qm:Zm (zsym (L:=L) (e:=e)):=B6.bd fun _=>zm_w.bd fun _=>EZ.bd fun _=>Zm.ret _
theorem zm_rl:Zm (zrl (L:=L) (e:=e)):=(M1 EZ).bd fun _=>zm_w.bd fun _=>Zm.ret _
theorem zi_rl:Zi (DK (L:=L) (e:=e)) zrl:=fun s hs=>by
 have h1:(znum s).2.n=s.n+1:=by
  unfold znum zone
  rw[dif_pos (show zhd _ s=true from hs)]
 have h2:(znum s).2.n≤(C2 znum s).2.n:=((Zm.loop (zm_w.bd fun _=>EZ)).bd fun l=>Zm.ret ((znum s).1::l)) (znum s).2
 have h3:(C2 znum s).2.n≤(zrl s).2.n:=(zm_w.bd fun _=>Zm.ret _) (C2 znum s).2
 omega
theorem Qn:Zm (zbd Ap fun s=>zbd (zw (L:=L) (e:=e) 3 [123]) fun _=>zbd (BE DK zrl) fun ls=>zbd (zw 3 [125]) fun _=>zret (⟨s,ls⟩:DReg)):=B6.bd fun _=>zm_w.bd fun _=>(Zm.loop zm_rl).bd fun _=>zm_w.bd fun _=>Zm.ret _
theorem Qo:Zm (zbd Ap fun s=>zbd (zw (L:=L) (e:=e) 1 wOn) fun _=>zbd Ap fun o=>
 zif wSym (zbd (zw 1 wSym) fun _=>zbd (zw 3 [59]) fun _=>zret (⟨s,o,0,1,0,0⟩:DClu))
  (zif BC (zbd (zw 1 BC) fun _=>zbd znum fun a=>zbd (zw 1 wTo) fun _=>zbd znum fun b=>zbd (zw 3 [59]) fun _=>zret ⟨s,o,0,2,a,b⟩)
   (zbd (zw 1 Cm) fun _=>zbd (zw 3 [59]) fun _=>zret ⟨s,o,0,3,0,0⟩))):=
 B6.bd fun _=>zm_w.bd fun _=>B6.bd fun _=>Zm.if (zm_w.bd fun _=>zm_w.bd fun _=>Zm.ret _) (Zm.if (zm_w.bd fun _=>EZ.bd fun _=>zm_w.bd fun _=>EZ.bd fun _=>zm_w.bd fun _=>Zm.ret _) (zm_w.bd fun _=>zm_w.bd fun _=>Zm.ret _))
theorem zm_op:Zm (zop (L:=L) (e:=e)):=Zm.if (zm_w.bd fun _=>Zm.ret _) (Zm.if (zm_w.bd fun _=>Zm.ret _) (zm_w.bd fun _=>Zm.ret _))
theorem zm_lim (x:DRul):Zm (zlim (L:=L) (e:=e) x):=fun s=>by
 unfold zlim
 split
 ·exact B6 s
 ·exact EZ s
theorem IE (x:DRul):Zm (Bi (L:=L) (e:=e) x):=zm_op.bd fun _=>zm_lim _
theorem RY (x:DRul):Zm (ET (L:=L) (e:=e) x):=Zm.if (zm_w.bd fun _=>Zm.ret _) (Zm.if (zm_w.bd fun _=>HM.bd fun _=>IE _) (Zm.if (zm_w.bd fun _=>IE _) (Zm.if (zm_w.bd fun _=>Zm.ret _) (zm_w.bd fun _=>HM.bd fun _=>zm_w.bd fun _=>B6.bd fun _=>Zm.ret _))))
theorem RZ (x:DRul):Zm (DL (L:=L) (e:=e) x):=Zm.if (zm_w.bd fun _=>B6.bd fun _=>RY _) (Zm.if (zm_w.bd fun _=>Zm.ret _) (Zm.if (zm_w.bd fun _=>EZ.bd fun _=>Zm.ret _) (Zm.if (zm_w.bd fun _=>HM.bd fun _=>zm_w.bd fun _=>HM.bd fun _=>Zm.ret _) (Zm.if (zm_w.bd fun _=>HM.bd fun _=>Zm.ret _) (Zm.if (zm_w.bd fun _=>HM.bd fun _=>Zm.ret _) (Zm.if (zm_w.bd fun _=>B6.bd fun _=>Zm.ret _) (Zm.if (zm_w.bd fun _=>B6.bd fun _=>Zm.ret _) (zm_w.bd fun _=>IE _))))))))
theorem M2:Zm (zbd (Ap (L:=L) (e:=e)) fun s=>zbd (zw 3 [58]) fun _=>zbd (DL {rul0 with nm:=s}) fun x=>zbd (zw 3 [59]) fun _=>zret x):=B6.bd fun _=>zm_w.bd fun _=>(RZ _).bd fun _=>zm_w.bd fun _=>Zm.ret _
include hv
theorem HN:Zr (zset (L:=L) (e:=e)) setR:=Zr.bd (Bk hv 123 rfl) fun _=>Zr.bd (ID hv CL B6 As) fun _=>Zr.bd (Bk hv 125 rfl) fun _=>Zr.ret _
theorem zr_sym:Zr (zsym (L:=L) (e:=e)) symR:=Zr.bd CL fun _=>Zr.bd (Bk hv 61 rfl) fun _=>Zr.bd (EY hv) fun _=>Zr.ret _
theorem zr_rl:Zr (zrl (L:=L) (e:=e)) Di:=Zr.bd (ID hv (EY hv) EZ Bd) fun _=>Zr.bd (Bk hv 59 rfl) fun _=>Zr.ret _
theorem zr_reg:Zr (zreg (L:=L) (e:=e)) (Gy Bl regR):=Zr.bd (Ag hv Bl rfl) fun _=>Zr.bd CL fun _=>Zr.bd (Bk hv 123 rfl) fun _=>Zr.bd (Zr.loop (RX hv) (zr_rl hv) zi_rl FO) fun _=>Zr.bd (Bk hv 125 rfl) fun _=>Zr.ret _
theorem zr_op:Zr (zop (L:=L) (e:=e)) opR:=Zr.if (g:=Rs.ok 1) (Ax hv _ rfl) (Zr.bd (Ag hv _ rfl) fun _=>Zr.ret _) (Zr.if (g:=Rs.ok 2) (Ax hv _ rfl) (Zr.bd (Ag hv _ rfl) fun _=>Zr.ret _) (Zr.bd (Ag hv _ rfl) fun _=>Zr.ret _))
theorem PE:Zr (HK (L:=L) (e:=e)) EE:=Zr.if (g:=Rs.ok 2) (Ax hv _ rfl) (Zr.bd (Ag hv _ rfl) fun _=>Zr.ret _) (Zr.bd (Ag hv _ rfl) fun _=>Zr.ret _)
theorem PF:Zr (HL (L:=L) (e:=e) []) EF:=Zr.if (Ax hv _ rfl) (Zr.bd (Ag hv _ rfl) fun _=>ID hv (EY hv) EZ Bd) (Zr.ret _)
theorem zr_lim (x:DRul) (h1:x.n=0) (h2:x.byN=[]):Zr (zlim (L:=L) (e:=e) x) fun l=>(limR l).bd fun p r=>.ok {x with n:=p.1,byN:=p.2} r:=fun s=>by
 have ha:=CL s
 have hb:=EY hv s
 unfold zlim
 by_cases hn:Dp s=true
 ·rw[if_pos hn]
  have hlt:=Ew hn
  have hbb:=Mw hn
  have hk:L[s.n].K=1:=by
   unfold Dp zhd at hn
   rw[List.getElem?_eq_getElem hlt,Bool.and_eq_true,decide_eq_true_eq]at hn;exact hn.2
  rw[hbb]at ha⊢
  change Bc _=_ at ha
  show(limR _).bd _=_
  have hq:BH (L.drop s.n)=false:=by rw[List.drop_eq_getElem_cons hlt];simp [BH,hk]
  unfold limR
  rw[hq,if_neg (by decide),ha]
  cases (Ap s).2.b with
  |true=>rfl
  |false=>show Rs.ok _ _=Rs.ok _ _;cases x;simp_all
 ·rw[if_neg hn]
  cases hbb:s.b with
  |true=>
   rw[hbb]at hb
   change Rs.bad _=_ at hb
   show Rs.bad _=_
   cases hc:(znum s).2.b with
   |true=>rw[hc]at hb;injection hb with hb;rw[hb];rfl
   |false=>rw[hc]at hb;cases hb
  |false=>
   rw[hbb]at hb ha
   change nmbR _=_ at hb
   show(limR _).bd _=_
   unfold limR
   by_cases hq:BH (L.drop s.n)=true
   ·rw[if_pos hq,hb]
    cases (znum s).2.b with
    |true=>rfl
    |false=>show Rs.ok _ _=Rs.ok _ _;cases x;simp_all
   ·rw[if_neg hq]
    have hnn:Bc (L.drop s.n)= .bad (L.drop s.n):=by
     rcases Nat.lt_or_ge s.n L.length with hl|hl
     ·rw[List.drop_eq_getElem_cons hl]
      have:¬L[s.n].K=1:=fun hk=>hn (by unfold Dp zhd;rw[hbb,List.getElem?_eq_getElem hl];simp [hk])
      simp [Bc,Jo,this,Rs.bd]
     ·rw[List.drop_eq_nil_of_le hl];rfl
    have hmm:nmbR (L.drop s.n)= .bad (L.drop s.n):=by
     rcases Nat.lt_or_ge s.n L.length with hl|hl
     ·rw[List.drop_eq_getElem_cons hl]at hq⊢
      simp only[BH,Bool.and_eq_true,decide_eq_true_eq]at hq
      simp [nmbR,hq]
     ·rw[List.drop_eq_nil_of_le hl];rfl
    rw[hnn]
    rw[hmm]at hb
    show Rs.bad _=_
    cases hc:(znum s).2.b with
    |true=>rw[hc]at hb;injection hb with hb;rw[hb];rfl
    |false=>rw[hc]at hb;cases hb
theorem IF (x:DRul) (h1:x.n=0) (h2:x.byN=[]):Zr (Bi (L:=L) (e:=e) x) fun l=>(bndR l).bd fun b r=>.ok {x with op:=b.1,n:=b.2.1,byN:=b.2.2} r:=
 (Zr.bd (zr_op hv) fun o=>zr_lim hv {x with op:=o} h1 h2).eq fun l=>by
  unfold bndR
  rw[BT]
  congr 1
  funext o r
  rw[BT]
  rfl
theorem Ra (x:DRul) (h1:x.n=0) (h2:x.byN=[]):Zr (ET (L:=L) (e:=e) x) (ED x):=
 Zr.if (g:=Rs.ok _) (Ax hv _ rfl) (Zr.bd (Ag hv _ rfl) fun _=>Zr.ret _)
 (Zr.if (Ax hv _ rfl) (Zr.bd (Ag hv _ rfl) fun _=>Zr.bd (HN hv) fun ss=>IF hv {x with kind:=2,ns:=ss} h1 h2)
 (Zr.if (Ax hv _ rfl) (Zr.bd (Ag hv _ rfl) fun _=>IF hv {x with kind:=3} h1 h2)
 (Zr.if (g:=Rs.ok _) (Ax hv _ rfl) (Zr.bd (Ag hv _ rfl) fun _=>Zr.ret _)
 (Zr.bd (Ag hv _ rfl) fun _=>Zr.bd (HN hv) fun _=>Zr.bd (Ag hv _ rfl) fun _=>Zr.bd CL fun _=>Zr.ret _))))
theorem PG (x:DRul) (h1:x.n=0) (h2:x.byN=[]):Zr (zbd (zw (L:=L) (e:=e) 1 Cl) fun _=>Bi {x with kind:=13}) fun l=>if hdW Cl l=true then(bndR l.tail).bd fun b r=>.ok {x with kind:=13,op:=b.1,n:=b.2.1,byN:=b.2.2} r else .bad l:=
 (Zr.bd (Ag hv Cl rfl) fun _=>IF hv {x with kind:=13} h1 h2).eq fun l=>by
  unfold need
  by_cases hw:hdW Cl l=true
  ·rw[if_pos hw,if_pos hw];rfl
  ·rw[if_neg hw,if_neg hw];rfl
theorem Rb (x:DRul) (h1:x.n=0) (h2:x.byN=[]):Zr (DL (L:=L) (e:=e) x) (Do x):=
 Zr.if (Ax hv Bp rfl) (Zr.bd (Ag hv Bp rfl) fun _=>Zr.bd CL fun s=>Ra hv {x with on:=s} h1 h2)
 (Zr.if (g:=Rs.ok _) (Ax hv Bq rfl) (Zr.bd (Ag hv Bq rfl) fun _=>Zr.ret {x with kind:=6})
 (Zr.if (Ax hv Cw rfl) (Zr.bd (Ag hv Cw rfl) fun _=>Zr.bd (EY hv) fun n=>Zr.ret {x with kind:=7,n:=n})
 (Zr.if (Ax hv wNot rfl) (Zr.bd (Ag hv wNot rfl) fun _=>Zr.bd (HN hv) fun ss=>Zr.bd (Ag hv Cn rfl) fun _=>Zr.bd (HN hv) fun os=>Zr.ret {x with kind:=8,ns:=ss,os:=os})
 (Zr.if (Ax hv FK rfl) (Zr.bd (Ag hv FK rfl) fun _=>Zr.bd (HN hv) fun ss=>Zr.ret {x with kind:=9,ns:=ss})
 (Zr.if (Ax hv FL rfl) (Zr.bd (Ag hv FL rfl) fun _=>Zr.bd (HN hv) fun ss=>Zr.ret {x with kind:=10,ns:=ss})
 (Zr.if (Ax hv Cx rfl) (Zr.bd (Ag hv Cx rfl) fun _=>Zr.bd CL fun s=>Zr.ret {x with kind:=11,byN:=s})
 (Zr.if (Ax hv FM rfl) (Zr.bd (Ag hv FM rfl) fun _=>Zr.bd CL fun s=>Zr.ret {x with kind:=12,on:=s})
 (PG hv x h1 h2))))))))
theorem Rd:Zr (EU (L:=L) (e:=e)) (Gy CN Gx):=Zr.bd (Ag hv CN rfl) fun _=>Zr.bd CL fun s=>Zr.bd (Bk hv 58 rfl) fun _=>Zr.bd (Rb hv {rul0 with nm:=s} rfl rfl) fun _=>Zr.bd (Bk hv 59 rfl) fun _=>Zr.ret _
theorem Re (s o:Bs):Zr (zbd (zw (L:=L) (e:=e) 1 Cm) fun _=>zbd (zw 3 [59]) fun _=>zret (⟨s,o,0,3,0,0⟩:DClu)) fun l=>(need Cm l).bd fun _ l=>(need [59] l).bd fun _ r=>Rs.ok (⟨s,o,0,3,0,0⟩:DClu) r:=
 Zr.bd (Ag hv Cm rfl) fun _=>Zr.bd (Bk hv 59 rfl) fun _=>Zr.ret (⟨s,o,0,3,0,0⟩:DClu)
theorem Rf (s o:Bs):Zr (zbd (zw (L:=L) (e:=e) 1 BC) fun _=>zbd znum fun a=>zbd (zw 1 wTo) fun _=>zbd znum fun b=>zbd (zw 3 [59]) fun _=>zret (⟨s,o,0,2,a,b⟩:DClu)) fun l=>(need BC l).bd fun _ l=>(nmbR l).bd fun a l=>(need wTo l).bd fun _ l=>(nmbR l).bd fun b l=>(need [59] l).bd fun _ r=>Rs.ok (⟨s,o,0,2,a,b⟩:DClu) r:=
 Zr.bd (Ag hv BC rfl) fun _=>Zr.bd (EY hv) fun a=>Zr.bd (Ag hv wTo rfl) fun _=>Zr.bd (EY hv) fun b=>Zr.bd (Bk hv 59 rfl) fun _=>Zr.ret (⟨s,o,0,2,a,b⟩:DClu)
theorem Rg (s o:Bs):Zr (zbd (zw (L:=L) (e:=e) 1 wSym) fun _=>zbd (zw 3 [59]) fun _=>zret (⟨s,o,0,1,0,0⟩:DClu)) fun l=>(need wSym l).bd fun _ l=>(need [59] l).bd fun _ r=>Rs.ok (⟨s,o,0,1,0,0⟩:DClu) r:=
 Zr.bd (Ag hv wSym rfl) fun _=>Zr.bd (Bk hv 59 rfl) fun _=>Zr.ret (⟨s,o,0,1,0,0⟩:DClu)
theorem Rh (s o:Bs):Zr (zif wSym (zbd (zw (L:=L) (e:=e) 1 wSym) fun _=>zbd (zw 3 [59]) fun _=>zret (⟨s,o,0,1,0,0⟩:DClu))
  (zif BC (zbd (zw 1 BC) fun _=>zbd znum fun a=>zbd (zw 1 wTo) fun _=>zbd znum fun b=>zbd (zw 3 [59]) fun _=>zret ⟨s,o,0,2,a,b⟩)
   (zbd (zw 1 Cm) fun _=>zbd (zw 3 [59]) fun _=>zret ⟨s,o,0,3,0,0⟩)))
 fun r=>(if hdW wSym r=true then Rs.ok (⟨s,o,0,1,0,0⟩:DClu) r.tail else if hdW BC r=true then(nmbR r.tail).bd fun a r=>(need wTo r).bd fun _ r=>(nmbR r).bd fun b r=>.ok ⟨s,o,0,2,a,b⟩ r
  else(need Cm r).bd fun _ r=>.ok ⟨s,o,0,3,0,0⟩ r).bd fun x r=>(need [59] r).bd fun _ r=>.ok x r:=
 Zr.eq (Zr.if (Ax hv wSym rfl) (Rg hv s o) (Zr.if (Ax hv BC rfl) (Rf hv s o) (Re hv s o))) fun r=>by
 by_cases w1:hdW wSym r=true
 ·rw[if_pos w1,if_pos w1];rfl
 ·rw[if_neg w1,if_neg w1]
  by_cases w2:hdW BC r=true
  ·rw[if_pos w2,if_pos w2]
   simp only[BT,Be]
  ·rw[if_neg w2,if_neg w2]
   simp only[BT,Be]
theorem zr_clu:Zr (zclu (L:=L) (e:=e)) (Gy CK cluR):=
 Zr.bd (Ag hv CK rfl) fun _=>Zr.bd CL fun s=>Zr.bd (Ag hv wOn rfl) fun _=>Zr.bd CL fun o=>Rh hv s o
theorem zr_end (d:Dcl):Zr (zend (L:=L) (e:=e) d) (endR d):=fun s=>by
 unfold zend
 rcases Nat.lt_or_ge s.n L.length with hl|hl
 ·rw[if_pos hl,List.drop_eq_getElem_cons hl]
  cases hb:s.b with
  |true=>
   rw[if_pos rfl]
   show Rs.bad _=zk s.b _ _
   rw[hb,List.drop_eq_getElem_cons hl];rfl
  |false=>
   rw[if_neg (by decide)]
   show Rs.bad _=Rs.bad (L.drop s.n)
   rw[List.drop_eq_getElem_cons hl]
 ·rw[if_neg (by omega),List.drop_eq_nil_of_le hl]
  show gB s.b (endR d) []=zk s.b d []
  cases s.b<;>rfl
theorem Ri (d:Dcl) (hh:d.holes=[]):Zr (Ex (L:=L) (e:=e) d) fun l=>(need Et l).bd fun _ r=>(EE r).bd fun sh r=>(nmbR r).bd fun w r=>(need wBy r).bd fun _ r=>(nmbR r).bd fun h r=>(EF r).bd fun ho r=>(need [59] r).bd fun _ r=>.ok {d with sh:=sh,w:=w,h:=h,holes:=ho} r:=by
 unfold Ex
 rw[hh]
 exact Zr.bd (Ag hv _ rfl) fun _=>Zr.bd (PE hv) fun _=>Zr.bd (EY hv) fun _=>Zr.bd (Ag hv _ rfl) fun _=>Zr.bd (EY hv) fun _=>Zr.bd (PF hv) fun _=>Zr.bd (Bk hv 59 rfl) fun _=>Zr.ret _
theorem Rj:Zr (Ft (L:=L) (e:=e)) fun l=>(need EC l).bd fun _ r=>(CJ symR r).bd fun ss r=>(need [59] r).bd fun _ r=>.ok ss r:=
 Zr.bd (Ag hv _ rfl) fun _=>Zr.bd (ID hv (zr_sym hv) Qm Js) fun _=>Zr.bd (Bk hv 59 rfl) fun _=>Zr.ret _
theorem Rk:Zr (FU (L:=L) (e:=e)) C5:=(Zr.bd (Ag hv EA rfl) fun _=>Zr.bd CL fun nm=>Zr.bd (Ag hv EW rfl) fun _=>Zr.bd (EY hv) fun v=>Zr.bd (Bk hv 123 rfl) fun _=>Zr.bd (Ri hv ⟨nm,v,0,0,0,[],[],[],[],[]⟩ rfl) fun d=>Zr.bd (Rj hv) fun ss=>
 Zr.bd (Zr.loop (Ax hv _ rfl) (zr_reg hv) (G8 Qn) (BU _ G0.le)) fun rs=>Zr.bd (Zr.loop (Ax hv _ rfl) (zr_clu hv) (G8 Qo) (BU _ Gz.le)) fun cs=>Zr.bd (Zr.loop (Ax hv _ rfl) (Rd hv) (G8 M2) (BU _ EG.le)) fun us=>
 Zr.bd (Bk hv 125 rfl) fun _=>zr_end hv {d with syms:=ss,regs:=rs,clus:=cs,ruls:=us}).eq fun l=>by
 unfold C5 Mm Oj QI C4
 simp only[BT,Be]
end
end Go.AM
end
section
set_option maxRecDepth 20000
set_option linter.all false
namespace Go.AM
open Go.Proofs Go.Lib
theorem Ey (s t:Bs):scmp .eql s t=decide (s=t):=rfl
abbrev pvZ {L:List Tkn} {e:Int} (s:ZS L e):AVal:=.agg [.sl (.none 4) (L.map encK),.int .i64 s.n,.int .i64 e,.bool s.b,.int .i64 s.pl]
def Rl (L:List Tkn) (e:Int):AVal→ZS L e
 | .agg [_,.int _ n,_,.bool b,_]=>if h:n.toNat≤L.length then⟨n.toNat,b,h⟩else⟨0,false,Nat.zero_le _⟩
 |_=>⟨0,false,Nat.zero_le _⟩
section
variable {L:List Tkn} {e:Int}
theorem I2 (s:ZS L e):Rl L e (pvZ s)=s:=by
 obtain⟨n,b,h⟩:=s
 show(if h:((n:Int)).toNat≤L.length then _ else _)=_
 rw[dif_pos (by simpa using h)]
 simp
def dZ (L:List Tkn) (e:Int):Dc (ZS L e):=dEx pvZ (Rl L e)
theorem Aj (s:ZS L e):(dZ L e).ok (.agg [.sl (.none 4) (L.map encK),.int .i64 s.n,.int .i64 e,.bool s.b,.int .i64 s.pl])=True:=eq_true (by show pvZ s=pvZ (Rl L e (pvZ s));rw[I2])
theorem AY (s:ZS L e):(dZ L e).dec (.agg [.sl (.none 4) (L.map encK),.int .i64 s.n,.int .i64 e,.bool s.b,.int .i64 s.pl])=s:=I2 s
theorem AQ (k:Nat) (s:ZS L e):(pvZ s).under k:=⟨⟨trivial,Bu k L⟩,trivial,trivial,trivial,trivial,trivial⟩
variable (hl:few L)
include hl
theorem p73 (s:ZS L e):Pur Tryz.prog 73 [pvZ s] (pvZ (FT s)):=by
 refine .mk ⟨AQ 0 s,trivial⟩ (AQ 0 _) (a73 (AF AI.tnil (AE ?_)))
 obtain⟨n,b,h⟩:=s
 have hl':L.length<1000000000:=hl
 cases b with
 |true=>
  simp only[eE,eC,eN,reduceCtorEq,Nat.reduceEqDiff,↓reduceIte,Nat.reduceAdd,Nat.reduceLeDiff,Al,c73]
  exact Wk.refl _
 |false=>
  by_cases hlt:n<L.length
  ·have hg:=List.getElem?_eq_getElem hlt
   simp only[eE,eC,eN,reduceCtorEq,Nat.reduceEqDiff,↓reduceIte,Nat.reduceAdd,Nat.reduceLeDiff,Al,Option.getD_some,Int.toNat_natCast,Int.natCast_nonneg,List.length_map,List.getElem?_map,c73,lt_T hlt,hg]
   have:plc e (L.drop n)=L[n].A:=by rw[List.drop_eq_getElem_cons hlt];rfl
   show Wk _ (.agg [_,_,_,_,.int .i64 (plc e (L.drop n))])
   rw[this];exact Wk.refl _
  ·simp only[eE,eC,eN,reduceCtorEq,Nat.reduceEqDiff,↓reduceIte,Nat.reduceAdd,Nat.reduceLeDiff,Al,List.length_map,c73,lt_F hlt]
   have:plc e (L.drop n)=e:=by rw[List.drop_eq_nil_of_le (by omega)];rfl
   show Wk _ (.agg [_,_,_,_,.int .i64 (plc e (L.drop n))])
   rw[this];exact Wk.refl _
theorem p113 (s:ZS L e) (k:Int) (w:Bs):Pur Tryz.prog 113 [pvZ s,.int .i64 k,.str w] (.bool (zis k w s)):=by
 refine .mk ⟨AQ 0 s,trivial,trivial,trivial⟩ trivial (a113 (AF AI.tnil (AE ?_)))
 obtain⟨n,b,h⟩:=s
 have hl':L.length<1000000000:=hl
 cases b with
 |true=>
  simp only[eE,eC,eN,reduceCtorEq,Nat.reduceEqDiff,↓reduceIte,Nat.reduceAdd,Nat.reduceLeDiff,Bool.not_true,Int.toNat_natCast,Int.natCast_nonneg,List.length_map,List.getElem?_map,Ey,c113]
  rfl
 |false=>
  by_cases hlt:n<L.length
  ·have hg:=List.getElem?_eq_getElem hlt
   simp only[eE,eC,eN,reduceCtorEq,Nat.reduceEqDiff,↓reduceIte,Nat.reduceAdd,Nat.reduceLeDiff,Bool.not_false,Option.getD_some,Int.toNat_natCast,Int.natCast_nonneg,List.length_map,List.getElem?_map,Ey,c113,lt_T hlt,hg]
   simp [zis,zhd,hg]
  ·simp only[eE,eC,eN,reduceCtorEq,Nat.reduceEqDiff,↓reduceIte,Nat.reduceAdd,Nat.reduceLeDiff,Bool.not_false,Int.toNat_natCast,Int.natCast_nonneg,List.length_map,List.getElem?_map,Ey,c113,lt_F hlt]
   have hg:=List.getElem?_eq_none (Nat.le_of_not_lt hlt)
   simp [zis,zhd,hg]
theorem p107 (s:ZS L e):Pur Tryz.prog 107 [pvZ s] (.bool (Dp s)):=by
 refine .mk ⟨AQ 0 s,trivial⟩ trivial (a107 (AF AI.tnil (AE ?_)))
 obtain⟨n,b,h⟩:=s
 have hl':L.length<1000000000:=hl
 cases b with
 |true=>
  simp only[eE,eC,eN,Nat.reduceEqDiff,↓reduceIte,Nat.reduceAdd,Nat.reduceLeDiff,Bool.not_true,Int.toNat_natCast,Int.natCast_nonneg,List.length_map,List.getElem?_map,c107]
  rfl
 |false=>
  by_cases hlt:n<L.length
  ·have hg:=List.getElem?_eq_getElem hlt
   simp only[eE,eC,eN,reduceCtorEq,Nat.reduceEqDiff,↓reduceIte,Nat.reduceAdd,Nat.reduceLeDiff,Bool.not_false,Option.getD_some,Int.toNat_natCast,Int.natCast_nonneg,List.length_map,List.getElem?_map,c107,lt_T hlt,hg]
   simp [Dp,zhd,hg]
  ·simp only[eE,eC,eN,reduceCtorEq,Nat.reduceEqDiff,↓reduceIte,Nat.reduceAdd,Nat.reduceLeDiff,Bool.not_false,Int.toNat_natCast,Int.natCast_nonneg,List.length_map,List.getElem?_map,c107,lt_F hlt]
   have hg:=List.getElem?_eq_none (Nat.le_of_not_lt hlt)
   simp [Dp,zhd,hg]
theorem p109 (s:ZS L e):Pur Tryz.prog 109 [pvZ s] (.bool (DK s)):=by
 refine .mk ⟨AQ 0 s,trivial⟩ trivial (a109 (AF AI.tnil (AE ?_)))
 obtain⟨n,b,h⟩:=s
 have hl':L.length<1000000000:=hl
 cases b with
 |true=>
  simp only[eE,eC,eN,Nat.reduceEqDiff,↓reduceIte,Nat.reduceAdd,Nat.reduceLeDiff,Bool.not_true,Int.toNat_natCast,Int.natCast_nonneg,List.length_map,List.getElem?_map,c109]
  rfl
 |false=>
  by_cases hlt:n<L.length
  ·have hg:=List.getElem?_eq_getElem hlt
   simp only[eE,eC,eN,reduceCtorEq,Nat.reduceEqDiff,↓reduceIte,Nat.reduceAdd,Nat.reduceLeDiff,Bool.not_false,Option.getD_some,Int.toNat_natCast,Int.natCast_nonneg,List.length_map,List.getElem?_map,c109,lt_T hlt,hg]
   simp [DK,zhd,hg]
  ·simp only[eE,eC,eN,reduceCtorEq,Nat.reduceEqDiff,↓reduceIte,Nat.reduceAdd,Nat.reduceLeDiff,Bool.not_false,Int.toNat_natCast,Int.natCast_nonneg,List.length_map,List.getElem?_map,c109,lt_F hlt]
   have hg:=List.getElem?_eq_none (Nat.le_of_not_lt hlt)
   simp [DK,zhd,hg]
omit hl
def Tzn (L:List Tkn) (e:Int):Tab:=tadd 113 (s3 (dZ L e) dI dS (fun _ _ _=>True) fun s k w=>.bool (zis k w s)) (tadd 73 (s1 (dZ L e) (fun _=>True) fun s=>pvZ (FT s)) (tadd 107 (s1 (dZ L e) (fun _=>True) fun s=>.bool (Dp s)) (tadd 109 (s1 (dZ L e) (fun _=>True) fun s=>.bool (DK s)) tnil)))
theorem I3 (hl:few L):AI Tryz.prog (Tzn L e):=(((AI.tnil.add (q1 fun s _=>p109 hl s)).add (q1 fun s _=>p107 hl s)).add (q1 fun s _=>p73 hl s)).add (q3 fun s k w _=>p113 hl s k w)
theorem PH (a:List AVal) (H:AD):Tzn L e 113 a H=s3 (dZ L e) dI dS (fun _ _ _=>True) (fun s k w=>.bool (zis k w s)) a H:=rfl
theorem Rm (a:List AVal) (H:AD):Tzn L e 73 a H=s1 (dZ L e) (fun _=>True) (fun s=>pvZ (FT s)) a H:=rfl
theorem Tzn_m (a:List AVal) (H:AD):Tzn L e 107 a H=s1 (dZ L e) (fun _=>True) (fun s=>.bool (Dp s)) a H:=rfl
theorem Tzn_b (a:List AVal) (H:AD):Tzn L e 109 a H=s1 (dZ L e) (fun _=>True) (fun s=>.bool (DK s)) a H:=rfl
include hl
theorem p69 (s:ZS L e) (w:Bs):Pur Tryz.prog 69 [pvZ s,.str w] (.bool (zis 1 w s)):=by
 refine .mk ⟨AQ 0 s,trivial,trivial⟩ trivial (a69 (AF (I3 (L:=L) (e:=e) hl) (AE ?_)))
 simp only[eE,eN,reduceCtorEq,Nat.reduceEqDiff,↓reduceIte,Nat.reduceAdd,c69,PH,s3,Aj,AY,By,A9,AV,AH]
theorem p112 (s:ZS L e) (w:Bs):Pur Tryz.prog 112 [pvZ s,.str w] (.bool (zis 3 w s)):=by
 refine .mk ⟨AQ 0 s,trivial,trivial⟩ trivial (a112 (AF (I3 (L:=L) (e:=e) hl) (AE ?_)))
 simp only[eE,eN,reduceCtorEq,Nat.reduceEqDiff,↓reduceIte,Nat.reduceAdd,c112,PH,s3,Aj,AY,By,A9,AV,AH]
theorem Jz {α:Type} {f:Tkn→Bool} {v:Tkn→α} {z:α} {s:ZS L e} (h:zhd f s=true):zone f v z s=(v (L[s.n]'(Ew h)),⟨s.n+1,s.b,Ew h⟩):=dif_pos h
theorem M3 {α:Type} {f:Tkn→Bool} {v:Tkn→α} {z:α} {s:ZS L e} (h:zhd f s=false):zone f v z s=(z,FT s):=dif_neg (by rw[h];decide)
theorem p108 (s:ZS L e) (k:Int) (w:Bs):Pur Tryz.prog 108 [pvZ s,.int .i64 k,.str w] (pvZ (zw k w s).2):=by
 refine .mk ⟨AQ 0 s,trivial,trivial,trivial⟩ (AQ 0 _) (a108 (AF (I3 (L:=L) (e:=e) hl) (AE ?_)))
 have hl':L.length<1000000000:=hl
 have hle:=s.le
 cases hz:zis k w s with
 |true=>
  have hlt:=Ew hz
  have hb:=Mw hz
  have hw:zw k w s=((),⟨s.n+1,s.b,hlt⟩):=Jz hl hz
  have e1:=AO (k:=s.n) (by omega)
  rw[hw]
  simp only[eE,eC,eN,reduceCtorEq,Nat.reduceEqDiff,↓reduceIte,Nat.reduceAdd,Nat.reduceLeDiff,Int.reduceEq,Bool.not_true,Al,c108,PH,s3,Aj,AY,By,A9,AV,AH,hz,e1]
  have:s.pl=(⟨s.n+1,s.b,hlt⟩:ZS L e).pl:=by unfold ZS.pl;rw[hb];rfl
  rw[this];exact Wk.refl _
 |false=>
  have hw:zw k w s=((),FT s):=M3 hl hz
  rw[hw]
  simp only[eE,eC,eN,reduceCtorEq,Nat.reduceEqDiff,↓reduceIte,Nat.reduceAdd,Bool.not_false,Al,c108,PH,Rm,s1,s3,Aj,AY,By,A9,AV,AH,hz]
  exact Wk.refl _
theorem p63 (s:ZS L e):Pur Tryz.prog 63 [pvZ s] (.tup [.str (Ap s).1,pvZ (Ap s).2]):=by
 refine .mk ⟨AQ 0 s,trivial⟩ ⟨trivial,AQ 0 _,trivial⟩ (a63 (AF (I3 (L:=L) (e:=e) hl) (AE ?_)))
 have hl':L.length<1000000000:=hl
 cases hz:Dp s with
 |true=>
  have hlt:=Ew hz
  have hb:=Mw hz
  have hg:=List.getElem?_eq_getElem hlt
  have hw:Ap s=(L[s.n].T,⟨s.n+1,s.b,hlt⟩):=Jz hl hz
  have e1:=AO (k:=s.n) (by omega)
  rw[hw]
  simp only[eE,eC,eN,reduceCtorEq,Nat.reduceEqDiff,↓reduceIte,Nat.reduceAdd,Nat.reduceLeDiff,Int.reduceEq,Bool.not_true,Al,Option.getD_some,Int.toNat_natCast,Int.natCast_nonneg,List.length_map,List.getElem?_map,c63,Tzn_m,s1,Aj,AY,hz,lt_T hlt,hg,e1]
  have:s.pl=(⟨s.n+1,s.b,hlt⟩:ZS L e).pl:=by unfold ZS.pl;rw[hb];rfl
  rw[this];exact Wk.refl _
 |false=>
  have hw:Ap s=([],FT s):=M3 hl hz
  rw[hw]
  simp only[eE,eC,eN,reduceCtorEq,Nat.reduceEqDiff,↓reduceIte,Nat.reduceAdd,Bool.not_false,Al,c63,Tzn_m,Rm,s1,Aj,AY,hz]
  exact Wk.refl _
theorem p65 (s:ZS L e):Pur Tryz.prog 65 [pvZ s] (.tup [.int .i64 (znum s).1,pvZ (znum s).2]):=by
 refine .mk ⟨AQ 0 s,trivial⟩ ⟨trivial,AQ 0 _,trivial⟩ (a65 (AF (I3 (L:=L) (e:=e) hl) (AE ?_)))
 have hl':L.length<1000000000:=hl
 cases hz:DK s with
 |true=>
  have hlt:=Ew hz
  have hb:=Mw hz
  have hg:=List.getElem?_eq_getElem hlt
  have hw:znum s=(L[s.n].N,⟨s.n+1,s.b,hlt⟩):=Jz hl hz
  have e1:=AO (k:=s.n) (by omega)
  rw[hw]
  simp only[eE,eC,eN,reduceCtorEq,Nat.reduceEqDiff,↓reduceIte,Nat.reduceAdd,Nat.reduceLeDiff,Int.reduceEq,Bool.not_true,Al,Option.getD_some,Int.toNat_natCast,Int.natCast_nonneg,List.length_map,List.getElem?_map,c65,Tzn_b,s1,Aj,AY,hz,lt_T hlt,hg,e1]
  have:s.pl=(⟨s.n+1,s.b,hlt⟩:ZS L e).pl:=by unfold ZS.pl;rw[hb];rfl
  rw[this];exact Wk.refl _
 |false=>
  have hw:znum s=(0,FT s):=M3 hl hz
  rw[hw]
  simp only[eE,eC,eN,reduceCtorEq,Nat.reduceEqDiff,↓reduceIte,Nat.reduceAdd,Bool.not_false,Al,c65,Tzn_b,Rm,s1,Aj,AY,hz]
  exact Wk.refl _
omit hl
def Tze (L:List Tkn) (e:Int):Tab:=tadd 108 (s3 (dZ L e) dI dS (fun _ _ _=>True) fun s k w=>pvZ (zw k w s).2) tnil
theorem Qq (hl:few L):AI Tryz.prog (Tze L e):=AI.tnil.add (q3 fun s k w _=>p108 hl s k w)
theorem Tze_e (a:List AVal) (H:AD):Tze L e 108 a H=s3 (dZ L e) dI dS (fun _ _ _=>True) (fun s k w=>pvZ (zw k w s).2) a H:=rfl
include hl
theorem p64 (s:ZS L e) (w:Bs):Pur Tryz.prog 64 [pvZ s,.str w] (pvZ (zw 1 w s).2):=by
 refine .mk ⟨AQ 0 s,trivial,trivial⟩ (AQ 0 _) (a64 (AF (Qq (L:=L) (e:=e) hl) (AE ?_)))
 simp only[eE,eN,reduceCtorEq,Nat.reduceEqDiff,↓reduceIte,Nat.reduceAdd,Al,c64,Tze_e,s3,Aj,AY,By,A9,AV,AH]
 exact Wk.refl _
theorem p67 (s:ZS L e) (w:Bs):Pur Tryz.prog 67 [pvZ s,.str w] (pvZ (zw 3 w s).2):=by
 refine .mk ⟨AQ 0 s,trivial,trivial⟩ (AQ 0 _) (a67 (AF (Qq (L:=L) (e:=e) hl) (AE ?_)))
 simp only[eE,eN,reduceCtorEq,Nat.reduceEqDiff,↓reduceIte,Nat.reduceAdd,Al,c67,Tze_e,s3,Aj,AY,By,A9,AV,AH]
 exact Wk.refl _
end
end Go.AM
end
section
set_option maxRecDepth 20000
set_option linter.all false
namespace Go.AM
open Go.Proofs Go.Lib
section
variable {L:List Tkn} {e:Int}
def Tzs (L:List Tkn) (e:Int):Tab:=tadd 64 (s2 (dZ L e) dS (fun _ _=>True) fun s w=>pvZ (zw 1 w s).2) (tadd 67 (s2 (dZ L e) dS (fun _ _=>True) fun s w=>pvZ (zw 3 w s).2)
 (tadd 69 (s2 (dZ L e) dS (fun _ _=>True) fun s w=>.bool (zis 1 w s)) (tadd 112 (s2 (dZ L e) dS (fun _ _=>True) fun s w=>.bool (zis 3 w s))
 (tadd 107 (s1 (dZ L e) (fun _=>True) fun s=>.bool (Dp s)) (tadd 109 (s1 (dZ L e) (fun _=>True) fun s=>.bool (DK s))
 (tadd 63 (s1 (dZ L e) (fun _=>True) fun s=>.tup [.str (Ap s).1,pvZ (Ap s).2]) (tadd 65 (s1 (dZ L e) (fun _=>True) fun s=>.tup [.int .i64 (znum s).1,pvZ (znum s).2]) tnil)))))))
theorem M4 (hl:few L):AI Tryz.prog (Tzs L e):=(((((((AI.tnil.add (q1 fun s _=>p65 hl s)).add (q1 fun s _=>p63 hl s)).add (q1 fun s _=>p109 hl s)).add (q1 fun s _=>p107 hl s)).add (q2 fun s w _=>p112 hl s w)).add (q2 fun s w _=>p69 hl s w)).add (q2 fun s w _=>p67 hl s w)).add (q2 fun s w _=>p64 hl s w)
variable (a:List AVal) (H:AD)
theorem Tzs_w:Tzs L e 64 a H=s2 (dZ L e) dS (fun _ _=>True) (fun s w=>pvZ (zw 1 w s).2) a H:=rfl
theorem PI:Tzs L e 67 a H=s2 (dZ L e) dS (fun _ _=>True) (fun s w=>pvZ (zw 3 w s).2) a H:=rfl
theorem Tzs_iw:Tzs L e 69 a H=s2 (dZ L e) dS (fun _ _=>True) (fun s w=>.bool (zis 1 w s)) a H:=rfl
theorem Kv:Tzs L e 112 a H=s2 (dZ L e) dS (fun _ _=>True) (fun s w=>.bool (zis 3 w s)) a H:=rfl
theorem Tzs_im:Tzs L e 107 a H=s1 (dZ L e) (fun _=>True) (fun s=>.bool (Dp s)) a H:=rfl
theorem Tzs_ib:Tzs L e 109 a H=s1 (dZ L e) (fun _=>True) (fun s=>.bool (DK s)) a H:=rfl
theorem Qr:Tzs L e 63 a H=s1 (dZ L e) (fun _=>True) (fun s=>.tup [.str (Ap s).1,pvZ (Ap s).2]) a H:=rfl
theorem Qs:Tzs L e 65 a H=s1 (dZ L e) (fun _=>True) (fun s=>.tup [.int .i64 (znum s).1,pvZ (znum s).2]) a H:=rfl
end
structure VZ (L:List Tkn) (e:Int) (α:Type) where
 s:ZS L e
 acc:List α
 tk:Tok
 H:AD
 n:Nat
section
variable {L:List Tkn} {e:Int} {α:Type}
abbrev bxZ (s:ZS L e):AObj:=.box [.sl (.none 4) (L.map encK),.int .i64 s.n,.int .i64 e,.bool s.b,.int .i64 s.pl]
structure IZ (t:ZS L e→Bool) (f:ZS L e→α×ZS L e) (es i o lo:Nat) (s1:ZS L e) (zo:List AVal) (v:VZ L e α):Prop where
 eq1:(BE t f s1).1=v.acc++(BE t f v.s).1
 eq2:(BE t f s1).2=(BE t f v.s).2
 len:v.acc.length≤v.s.n
 fr:Ab v.H v.n
 hp:hget v.H i=some (bxZ v.s)
 ho:hget v.H o=some (.box zo)
 tok:tkG es lo v.H v.tk
 hn:lo≤v.n
 es:v.tk.esz=es
abbrev zP:List AVal:=[.sl .nil [],.int .i64 0,.int .i64 0,.bool false,.int .i64 0]
theorem IZ.next {t:ZS L e→Bool} {f:ZS L e→α×ZS L e} {es i o lo k m:Nat} {s1 sa:ZS L e} {zo:List AVal} {acc:List α} {tk:Tok} {H1:AD} {n1:Nat} (h:IZ t f es i o lo s1 zo ⟨sa,acc,tk,H1,n1⟩) (hi:Zi t f) (hs:t sa=true) (h1:i<lo) (h2:o<lo) (h3:i≠o) (hk:k<m) (hlk:n1≤n1+k):
  IZ t f es i o lo s1 zo ⟨(f sa).2,acc++[(f sa).1],.own (n1+k) es,hset (AK (hset H1 i (bxZ (f sa).2)) tk) (n1+k) .tok,n1+m⟩:=by
 obtain⟨e1,e2,hlen,hfr,hp,ho,htk,hn,hes⟩:=h
 simp only at e1 e2 hlen hfr hp ho htk hn hes
 rw[GF hi hs]at e1 e2
 have hg:=hi sa hs
 have hil:i<n1:=hfr.lt hp
 have ht2:tkG es lo (hset H1 i (bxZ (f sa).2)) tk:=htk.set (.inl h1)
 refine⟨by rw[e1];simp,e2,by simp only[List.length_append,List.length_cons,List.length_nil];omega,(BO ht2 (hfr.hset (Nat.le_refl _) hil)).hset (by simp only[];omega) (by simp only[];omega),?_,?_,.inr (.inr ⟨_,rfl,by omega,AB ..⟩),by simp only[];omega,rfl⟩
 ·simp only[]
  rw[AC _ _ _ _ (by omega),Aa ht2 (.inl h1)];exact AB ..
 ·simp only[]
  rw[AC _ _ _ _ (by omega),Aa ht2 (.inl h2),AC _ _ _ _ h3];exact ho
variable (hl:few L)
include hl
theorem p110 (s:ZS L e):Pur Tryz.prog 110 [pvZ s] (.tup [eIs (C2 znum s).1,pvZ (C2 znum s).2]):=by
 refine .mk ⟨AQ 0 s,trivial⟩ ⟨Bn 0 _,AQ 0 _,trivial⟩ (a110 (AF (M4 (L:=L) (e:=e) hl) (AE ?_)))
 have hl':L.length<1000000000:=hl
 simp only[eE,eN,reduceCtorEq,Nat.reduceEqDiff,↓reduceIte,Nat.reduceAdd,Nat.reduceLeDiff,Nat.reduceMul,Nat.reduceLT,Qs,s1,Aj,AY,Option.getD_some,List.getElem?_cons_zero,List.getElem?_cons_succ,c110]
 refine AW (fun v:VZ L e Int=>⟨[(3,true,.ptr 2 0),(5,true,.ptr 8 0),(6,true,.sl v.tk ((((znum s).1::v.acc)).map eI))],v.H,v.n⟩)
  (IZ (zis 3 [44]) (zbd (zw 3 [44]) fun _=>znum) 1 8 2 9 (znum s).2 zP) (fun v=>L.length-v.s.n)
  ⟨(znum s).2,[],.exact 1,hset (hset (hset (hset hnil 0 (bxZ s)) 2 (.box zP)) 8 (.box zP)) 8 (bxZ (znum s).2),11⟩ rfl ⟨rfl,rfl,Nat.zero_le _,?_,rfl,rfl,.inr (.inl rfl),Nat.le_add_left 9 2,rfl⟩ ?_
 ·intro id hid
  have:11≤id:=hid
  simp only[AA]
  repeat rw[if_neg (by omega)]
  rfl
 rintro⟨sa,acc,tk,H1,n1⟩ hI
 have hI2:=hI
 obtain⟨e1,e2,hlen,hfr,hp,ho,htk,hn,hes⟩:=hI2
 simp only at e1 e2 hlen hfr hp ho htk hn hes
 have hi:=G8 (k:=3) (w:=[44]) (f:=znum (L:=L) (e:=e)) EZ
 have hle:=sa.le
 have ez:C2 znum s=((znum s).1::(BE (zis 3 [44]) (zbd (zw 3 [44]) fun _=>znum) (znum s).2).1,(BE (zis 3 [44]) (zbd (zw 3 [44]) fun _=>znum) (znum s).2).2):=rfl
 by_cases hs:zis 3 [44] sa=true
 case neg=>
  have hs':zis 3 [44] sa=false:=by simpa using hs
  rw[Cp hs]at e1 e2
  rw[List.append_nil]at e1
  rw[ez,e1,e2]
  simp only[eE,eC,eN,Nat.reduceEqDiff,↓reduceIte,Nat.reduceAdd,Al,Kv,s2,Aj,AY,AV,AH,hp,ho,hs']
  exact Wk.tup (.cons (Wk.sl (.inl hes)) (.cons (Wk.refl _) .nil))
 have h2:=hi sa hs
 have h3:=(zbd (zw 3 [44]) (fun _=>znum) sa).2.le
 have ht2:tkG 1 9 (hset H1 8 (bxZ (znum (zw 3 [44] sa).2).2)) tk:=htk.set (.inl (by decide))
 have q1:CF (hset H1 8 (bxZ (znum (zw 3 [44] sa).2).2)) 1 tk=True:=eq_true ht2.app
 have q2:(acc.length≤35184372088830)=True:=eq_true (by omega)
 have q3:Ao (acc.length+2) 8=True:=eq_true (Ar (by omega) (by decide))
 have q4:(n1=5)=False:=eq_false (by omega)
 simp only[eE,eC,eN,reduceCtorEq,Nat.reduceEqDiff,↓reduceIte,Nat.reduceAdd,Nat.reduceLeDiff,Nat.reduceMul,Nat.reduceLT,PI,Kv,Qs,s1,s2,Aj,AY,AV,AH,Option.getD_some,List.length_map,List.getElem?_cons_zero,List.getElem?_cons_succ,hp,hs,q1,q2,q3,q4,fr1 hfr]
 exact .mk ⟨_,acc++[(znum (zw 3 [44] sa).2).1],.own (n1+3) 1,hset (AK (hset H1 8 (bxZ (znum (zw 3 [44] sa).2).2)) tk) (n1+3) .tok,n1+5⟩ (by simp only[List.map_append,List.map_cons,List.map_nil]) (hI.next hi hs (by decide) (by decide) (by decide) (by decide) (by omega)) (by simp only[];omega)
theorem p131 (s:ZS L e):Pur Tryz.prog 131 [pvZ s] (.tup [eSs (zset s).1,pvZ (zset s).2]):=by
 refine .mk ⟨AQ 0 s,trivial⟩ ⟨Bo 0 _,AQ 0 _,trivial⟩ (a131 (AF (M4 (L:=L) (e:=e) hl) (AE ?_)))
 have hl':L.length<1000000000:=hl
 simp only[eE,eN,reduceCtorEq,Nat.reduceEqDiff,↓reduceIte,Nat.reduceAdd,Nat.reduceLeDiff,Nat.reduceMul,Nat.reduceLT,PI,Qr,s1,s2,Aj,AY,AV,AH,Option.getD_some,List.getElem?_cons_zero,List.getElem?_cons_succ,c131]
 refine AW (fun v:VZ L e Bs=>⟨[(3,true,.ptr 2 0),(5,true,.ptr 9 0),(6,true,.sl v.tk ((((Ap (zw 3 [123] s).2).1::v.acc)).map .str))],v.H,v.n⟩)
  (IZ (zis 3 [44]) (zbd (zw 3 [44]) fun _=>Ap) 1 9 2 10 (Ap (zw 3 [123] s).2).2 zP) (fun v=>L.length-v.s.n)
  ⟨(Ap (zw 3 [123] s).2).2,[],.exact 1,hset (hset (hset (hset hnil 0 (bxZ s)) 2 (.box zP)) 9 (.box zP)) 9 (bxZ (Ap (zw 3 [123] s).2).2),12⟩ rfl ⟨rfl,rfl,Nat.zero_le _,?_,rfl,rfl,.inr (.inl rfl),Nat.le_add_left 10 2,rfl⟩ ?_
 ·intro id hid
  have:12≤id:=hid
  simp only[AA]
  repeat rw[if_neg (by omega)]
  rfl
 rintro⟨sa,acc,tk,H1,n1⟩ hI
 have hI2:=hI
 obtain⟨e1,e2,hlen,hfr,hp,ho,htk,hn,hes⟩:=hI2
 simp only at e1 e2 hlen hfr hp ho htk hn hes
 have hi:=G8 (k:=3) (w:=[44]) (f:=Ap (L:=L) (e:=e)) B6
 have hle:=sa.le
 have ez:zset s=((Ap (zw 3 [123] s).2).1::(BE (zis 3 [44]) (zbd (zw 3 [44]) fun _=>Ap) (Ap (zw 3 [123] s).2).2).1,(zw 3 [125] (BE (zis 3 [44]) (zbd (zw 3 [44]) fun _=>Ap) (Ap (zw 3 [123] s).2).2).2).2):=rfl
 by_cases hs:zis 3 [44] sa=true
 case neg=>
  have hs':zis 3 [44] sa=false:=by simpa using hs
  rw[Cp hs]at e1 e2
  rw[List.append_nil]at e1
  rw[ez,e1,e2]
  simp only[eE,eC,eN,Nat.reduceEqDiff,↓reduceIte,Nat.reduceAdd,Al,PI,Kv,s2,Aj,AY,AV,AH,hp,ho,hs']
  exact Wk.tup (.cons (Wk.sl (.inl hes)) (.cons (Wk.refl _) .nil))
 have h2:=hi sa hs
 have h3:=(zbd (zw 3 [44]) (fun _=>Ap) sa).2.le
 have ht2:tkG 1 10 (hset H1 9 (bxZ (Ap (zw 3 [44] sa).2).2)) tk:=htk.set (.inl (by decide))
 have q1:CF (hset H1 9 (bxZ (Ap (zw 3 [44] sa).2).2)) 1 tk=True:=eq_true ht2.app
 have q2:(acc.length≤35184372088830)=True:=eq_true (by omega)
 have q3:Ao (acc.length+2) 16=True:=eq_true (Ar (by omega) (by decide))
 have q4:(n1=6)=False:=eq_false (by omega)
 simp only[eE,eC,eN,reduceCtorEq,Nat.reduceEqDiff,↓reduceIte,Nat.reduceAdd,Nat.reduceLeDiff,Nat.reduceMul,Nat.reduceLT,PI,Kv,Qr,s1,s2,Aj,AY,AV,AH,Option.getD_some,List.length_map,List.getElem?_cons_zero,List.getElem?_cons_succ,hp,hs,q1,q2,q3,q4,fr1 hfr]
 exact .mk ⟨_,acc++[(Ap (zw 3 [44] sa).2).1],.own (n1+3) 1,hset (AK (hset H1 9 (bxZ (Ap (zw 3 [44] sa).2).2)) tk) (n1+3) .tok,n1+5⟩ (by simp only[List.map_append,List.map_cons,List.map_nil]) (hI.next hi hs (by decide) (by decide) (by decide) (by decide) (by omega)) (by simp only[];omega)
end
end Go.AM
end
section
set_option maxRecDepth 20000
set_option linter.all false
namespace Go.AM
open Go.Proofs Go.Lib
section
variable {L:List Tkn} {e:Int}
def Tzt (L:List Tkn) (e:Int):Tab:=tadd 110 (s1 (dZ L e) (fun _=>True) fun s=>.tup [eIs (C2 znum s).1,pvZ (C2 znum s).2]) (tadd 131 (s1 (dZ L e) (fun _=>True) fun s=>.tup [eSs (zset s).1,pvZ (zset s).2]) (Tzs L e))
theorem I4 (hl:few L):AI Tryz.prog (Tzt L e):=((M4 hl).add (q1 fun s _=>p131 hl s)).add (q1 fun s _=>p110 hl s)
variable (a:List AVal) (H:AD)
theorem Qt:Tzt L e 110 a H=s1 (dZ L e) (fun _=>True) (fun s=>.tup [eIs (C2 znum s).1,pvZ (C2 znum s).2]) a H:=rfl
theorem Tzt_st:Tzt L e 131 a H=s1 (dZ L e) (fun _=>True) (fun s=>.tup [eSs (zset s).1,pvZ (zset s).2]) a H:=rfl
theorem Ez:Tzt L e 64 a H=s2 (dZ L e) dS (fun _ _=>True) (fun s w=>pvZ (zw 1 w s).2) a H:=rfl
theorem I5:Tzt L e 67 a H=s2 (dZ L e) dS (fun _ _=>True) (fun s w=>pvZ (zw 3 w s).2) a H:=rfl
theorem Ea:Tzt L e 69 a H=s2 (dZ L e) dS (fun _ _=>True) (fun s w=>.bool (zis 1 w s)) a H:=rfl
theorem Tzt_is:Tzt L e 112 a H=s2 (dZ L e) dS (fun _ _=>True) (fun s w=>.bool (zis 3 w s)) a H:=rfl
theorem HO:Tzt L e 107 a H=s1 (dZ L e) (fun _=>True) (fun s=>.bool (Dp s)) a H:=rfl
theorem Tzt_ib:Tzt L e 109 a H=s1 (dZ L e) (fun _=>True) (fun s=>.bool (DK s)) a H:=rfl
theorem I6:Tzt L e 63 a H=s1 (dZ L e) (fun _=>True) (fun s=>.tup [.str (Ap s).1,pvZ (Ap s).2]) a H:=rfl
theorem GG:Tzt L e 65 a H=s1 (dZ L e) (fun _=>True) (fun s=>.tup [.int .i64 (znum s).1,pvZ (znum s).2]) a H:=rfl
end
section
variable {L:List Tkn} {e:Int} (hl:few L)
include hl
theorem p111 (s:ZS L e):Pur Tryz.prog 111 [pvZ s] (.tup [Fb (zsym s).1,pvZ (zsym s).2]):=by
 refine .mk ⟨AQ 0 s,trivial⟩ ⟨Cj 0 _,AQ 0 _,trivial⟩ (a111 (AF (I4 (L:=L) (e:=e) hl) (AE ?_)))
 simp only[eE,eN,eX,reduceCtorEq,Nat.reduceEqDiff,↓reduceIte,Nat.reduceAdd,Nat.reduceLeDiff,Nat.reduceLT,Nat.reduceMod,Nat.reduceSub,Nat.reduceDiv,BV,Al,I5,I6,GG,s1,s2,Aj,AY,AV,AH,AT,Option.getD_some,List.getElem?_cons_zero,List.getElem?_cons_succ,c111]
 exact Wk.refl _
theorem p71 (s:ZS L e):Pur Tryz.prog 71 [pvZ s] (.tup [BI (zclu s).1,pvZ (zclu s).2]):=by
 refine .mk ⟨AQ 0 s,trivial⟩ ⟨Dd 0 _,AQ 0 _,trivial⟩ (a71 (AF (I4 (L:=L) (e:=e) hl) (AE ?_)))
 simp only[eE,eC,eN,reduceCtorEq,Nat.reduceEqDiff,↓reduceIte,Nat.reduceAdd,Nat.reduceLeDiff,Nat.reduceLT,Ez,Ea,I6,s1,s2,Aj,AY,AV,AH,AT,Option.getD_some,List.getElem?_cons_zero,List.getElem?_cons_succ,c71]
 generalize h1:zis 1 wSym _=b1
 cases b1
 ·simp only[eE,eC,eN,Nat.reduceEqDiff,↓reduceIte,Nat.reduceAdd,Ea,s2,Aj,AY,AV,AH]
  generalize h2:zis 1 BC _=b2
  cases b2
  ·simp only[eE,eC,eN,reduceCtorEq,Nat.reduceEqDiff,↓reduceIte,Nat.reduceAdd,Nat.reduceLeDiff,Al,Ez,I5,s2,Aj,AY,AV,AH]
   simp only[zclu,zbd,zif,zret,h1,h2,Bool.false_eq_true,if_false]
   exact Wk.refl _
  ·simp only[eE,eC,eN,reduceCtorEq,Nat.reduceEqDiff,↓reduceIte,Nat.reduceAdd,Nat.reduceLeDiff,Nat.reduceLT,Al,Ez,I5,GG,s1,s2,Aj,AY,AV,AH,AT,Option.getD_some,List.getElem?_cons_zero,List.getElem?_cons_succ]
   simp only[zclu,zbd,zif,zret,h1,h2,Bool.false_eq_true,if_false,if_true]
   exact Wk.refl _
 ·simp only[eE,eC,eN,reduceCtorEq,Nat.reduceEqDiff,↓reduceIte,Nat.reduceAdd,Nat.reduceLeDiff,Al,Ez,I5,s2,Aj,AY,AV,AH]
  simp only[zclu,zbd,zif,zret,h1,if_true]
  exact Wk.refl _
theorem p132 (x:DRul) (s:ZS L e):Pur Tryz.prog 132 [Am x,pvZ s] (.tup [Am (Bi x s).1,pvZ (Bi x s).2]):=by
 refine .mk ⟨Ah 0 x,AQ 0 s,trivial⟩ ⟨Ah 0 _,AQ 0 _,trivial⟩ (a132 (AF (I4 (L:=L) (e:=e) hl) (AE ?_)))
 cases h1:zis 1 wIs s
 ·cases h2:zis 1 Es s
  ·cases h3:Dp (zw 1 Ed s).2
   ·simp only[eE,eC,eN,eX,reduceCtorEq,Nat.reduceEqDiff,↓reduceIte,Nat.reduceAdd,Nat.reduceLeDiff,Nat.reduceLT,Nat.reduceMod,Nat.reduceSub,Nat.reduceDiv,BV,Al,Ez,Ea,HO,GG,s1,s2,Aj,AY,AV,AH,Option.getD_some,List.getElem?_cons_zero,List.getElem?_cons_succ,c132,h1,h2,h3]
    simp only[Bi,zop,zlim,zbd,zif,zret,h1,h2,h3,Bool.false_eq_true,if_false]
    exact Wk.refl _
   ·simp only[eE,eC,eN,eX,reduceCtorEq,Nat.reduceEqDiff,↓reduceIte,Nat.reduceAdd,Nat.reduceLeDiff,Nat.reduceLT,Nat.reduceMod,Nat.reduceSub,Nat.reduceDiv,BV,Al,Ez,Ea,HO,I6,s1,s2,Aj,AY,AV,AH,Option.getD_some,List.getElem?_cons_zero,List.getElem?_cons_succ,c132,h1,h2,h3]
    simp only[Bi,zop,zlim,zbd,zif,zret,h1,h2,h3,Bool.false_eq_true,if_false,if_true]
    exact Wk.refl _
  ·cases h3:Dp (zw 1 Es s).2
   ·simp only[eE,eC,eN,eX,reduceCtorEq,Nat.reduceEqDiff,↓reduceIte,Nat.reduceAdd,Nat.reduceLeDiff,Nat.reduceLT,Nat.reduceMod,Nat.reduceSub,Nat.reduceDiv,BV,Al,Ez,Ea,HO,GG,s1,s2,Aj,AY,AV,AH,Option.getD_some,List.getElem?_cons_zero,List.getElem?_cons_succ,c132,h1,h2,h3]
    simp only[Bi,zop,zlim,zbd,zif,zret,h1,h2,h3,Bool.false_eq_true,if_false,if_true]
    exact Wk.refl _
   ·simp only[eE,eC,eN,eX,reduceCtorEq,Nat.reduceEqDiff,↓reduceIte,Nat.reduceAdd,Nat.reduceLeDiff,Nat.reduceLT,Nat.reduceMod,Nat.reduceSub,Nat.reduceDiv,BV,Al,Ez,Ea,HO,I6,s1,s2,Aj,AY,AV,AH,Option.getD_some,List.getElem?_cons_zero,List.getElem?_cons_succ,c132,h1,h2,h3]
    simp only[Bi,zop,zlim,zbd,zif,zret,h1,h2,h3,Bool.false_eq_true,if_false,if_true]
    exact Wk.refl _
 ·cases h3:Dp (zw 1 wIs s).2
  ·simp only[eE,eC,eN,eX,reduceCtorEq,Nat.reduceEqDiff,↓reduceIte,Nat.reduceAdd,Nat.reduceLeDiff,Nat.reduceLT,Nat.reduceMod,Nat.reduceSub,Nat.reduceDiv,BV,Al,Ez,Ea,HO,GG,s1,s2,Aj,AY,AV,AH,Option.getD_some,List.getElem?_cons_zero,List.getElem?_cons_succ,c132,h1,h3]
   simp only[Bi,zop,zlim,zbd,zif,zret,h1,h3,Bool.false_eq_true,if_false,if_true]
   exact Wk.refl _
  ·simp only[eE,eC,eN,eX,reduceCtorEq,Nat.reduceEqDiff,↓reduceIte,Nat.reduceAdd,Nat.reduceLeDiff,Nat.reduceLT,Nat.reduceMod,Nat.reduceSub,Nat.reduceDiv,BV,Al,Ez,Ea,HO,I6,s1,s2,Aj,AY,AV,AH,Option.getD_some,List.getElem?_cons_zero,List.getElem?_cons_succ,c132,h1,h3]
   simp only[Bi,zop,zlim,zbd,zif,zret,h1,h3,if_true]
   exact Wk.refl _
end
end Go.AM
end
section
set_option maxRecDepth 20000
set_option linter.all false
namespace Go.AM
open Go.Proofs Go.Lib
section
variable {nm on bn:Bs} {kd fam set oth op vn clue:Int} {ns os:List Bs}
theorem DM:dRu.ok (.agg [.str nm,.str on,.int .i64 kd,.int .i64 fam,.sl (.none 1) (ns.map .str),.sl (.none 1) (os.map .str),.int .i64 set,.int .i64 oth,.int .i64 op,.int .i64 vn,.str bn,.int .i64 clue])=True:=Jq ⟨nm,on,kd,fam,ns,os,set,oth,op,vn,bn,clue⟩
theorem CQ:dRu.dec (.agg [.str nm,.str on,.int .i64 kd,.int .i64 fam,.sl (.none 1) (ns.map .str),.sl (.none 1) (os.map .str),.int .i64 set,.int .i64 oth,.int .i64 op,.int .i64 vn,.str bn,.int .i64 clue])=⟨nm,on,kd,fam,ns,os,set,oth,op,vn,bn,clue⟩:=Gv ⟨nm,on,kd,fam,ns,os,set,oth,op,vn,bn,clue⟩
theorem Kw:dRu.dec (.agg [.str nm,.str [],.int .i64 0,.int .i64 0,.sl .nil [],.sl .nil [],.int .i64 0,.int .i64 0,.int .i64 0,.int .i64 0,.str [],.int .i64 0])={rul0 with nm:=nm}:=rfl
theorem Rn:dRu.ok (.agg [.str nm,.str [],.int .i64 0,.int .i64 0,.sl .nil [],.sl .nil [],.int .i64 0,.int .i64 0,.int .i64 0,.int .i64 0,.str [],.int .i64 0])=True:=eq_true (by
 show Wk _ (Am (dRu.dec _))
 rw[Kw]
 exact Wk.agg (.cons (Wk.refl _) (.cons (Wk.refl _) (.cons (Wk.refl _) (.cons (Wk.refl _) (.cons (Wk.sl (.inr rfl)) (.cons (Wk.sl (.inr rfl)) (.cons (Wk.refl _) (.cons (Wk.refl _) (.cons (Wk.refl _) (.cons (Wk.refl _) (.cons (Wk.refl _) (.cons (Wk.refl _) .nil)))))))))))))
end
section
variable {L:List Tkn} {e:Int}
def Tzu (L:List Tkn) (e:Int):Tab:=(tadd 132 (s2 dRu (dZ L e) (fun _ _=>True) (fun x s=>.tup [Am (Bi x s).1,pvZ (Bi x s).2])) (tadd 111 (s1 (dZ L e) (fun _=>True) (fun s=>.tup [Fb (zsym s).1,pvZ (zsym s).2])) (Tzt L e)))
theorem Qu (hl:few L):AI Tryz.prog (Tzu L e):=(((I4 hl).add (q1 fun s _=>p111 hl s)).add (q2 fun x s _=>p132 hl x s))
variable (a:List AVal) (H:AD)
theorem Qv:Tzu L e 132 a H=s2 dRu (dZ L e) (fun _ _=>True) (fun x s=>.tup [Am (Bi x s).1,pvZ (Bi x s).2]) a H:=rfl
theorem M5:Tzu L e 64 a H=s2 (dZ L e) dS (fun _ _=>True) (fun s w=>pvZ (zw 1 w s).2) a H:=rfl
theorem I7:Tzu L e 69 a H=s2 (dZ L e) dS (fun _ _=>True) (fun s w=>.bool (zis 1 w s)) a H:=rfl
theorem Tzu_nm:Tzu L e 63 a H=s1 (dZ L e) (fun _=>True) (fun s=>.tup [.str (Ap s).1,pvZ (Ap s).2]) a H:=rfl
theorem Qw:Tzu L e 131 a H=s1 (dZ L e) (fun _=>True) (fun s=>.tup [eSs (zset s).1,pvZ (zset s).2]) a H:=rfl
end
section
variable {L:List Tkn} {e:Int} (hl:few L)
include hl
theorem p130 (x:DRul) (s:ZS L e):Pur Tryz.prog 130 [Am x,pvZ s] (.tup [Am (ET x s).1,pvZ (ET x s).2]):=by
 refine .mk ⟨Ah 0 x,AQ 0 s,trivial⟩ ⟨Ah 0 _,AQ 0 _,trivial⟩ (a130 (AF (Qu (L:=L) (e:=e) hl) (AE ?_)))
 cases h0:zis 1 D9 s with
 |false=>
  cases h1:zis 1 CP s with
  |false=>
   cases h2:zis 1 wSum s with
   |false=>
    cases h3:zis 1 FN s with
    |false=>
     simp only[eE,eC,eN,eX,reduceCtorEq,Nat.reduceEqDiff,↓reduceIte,Nat.reduceAdd,Nat.reduceLeDiff,Nat.reduceLT,Nat.reduceMod,Nat.reduceSub,Nat.reduceDiv,BV,Al,s1,s2,Aj,AY,AV,AH,AT,Option.getD_some,List.getElem?_cons_zero,List.getElem?_cons_succ,M5,I7,Tzu_nm,Qw,c130,h0,h1,h2,h3]
     simp only[ET,zbd,zif,zret,h0,h1,h2,h3,Bool.false_eq_true,if_false]
     exact Wk.refl _
    |true=>
     simp only[eE,eC,eN,reduceCtorEq,Nat.reduceEqDiff,↓reduceIte,Nat.reduceAdd,Nat.reduceLeDiff,Al,s2,Aj,AY,AV,AH,M5,I7,c130,h0,h1,h2,h3]
     simp only[ET,zbd,zif,zret,h0,h1,h2,h3,Bool.false_eq_true,if_false,if_true]
     exact Wk.refl _
   |true=>
    simp only[eE,eC,eN,reduceCtorEq,Nat.reduceEqDiff,↓reduceIte,Nat.reduceAdd,Nat.reduceLeDiff,Nat.reduceLT,Al,s2,Aj,AY,AV,AH,DM,CQ,Option.getD_some,List.getElem?_cons_zero,List.getElem?_cons_succ,Qv,M5,I7,c130,h0,h1,h2]
    simp only[ET,zbd,zif,zret,h0,h1,h2,Bool.false_eq_true,if_false,if_true]
    exact Wk.refl _
  |true=>
   simp only[eE,eC,eN,reduceCtorEq,Nat.reduceEqDiff,↓reduceIte,Nat.reduceAdd,Nat.reduceLeDiff,Nat.reduceLT,Al,s1,s2,Aj,AY,AV,AH,DM,CQ,AT,Option.getD_some,List.getElem?_cons_zero,List.getElem?_cons_succ,Qv,M5,I7,Qw,c130,h0,h1]
   simp only[ET,zbd,zif,zret,h0,h1,Bool.false_eq_true,if_false,if_true]
   exact Wk.refl _
 |true=>
  simp only[eE,eC,eN,reduceCtorEq,Nat.reduceEqDiff,↓reduceIte,Nat.reduceAdd,Nat.reduceLeDiff,Al,s2,Aj,AY,AV,AH,M5,I7,c130,h0]
  simp only[ET,zbd,zif,zret,h0,if_true]
  exact Wk.refl _
end
section
variable {L:List Tkn} {e:Int}
def Tzv (L:List Tkn) (e:Int):Tab:=(tadd 130 (s2 dRu (dZ L e) (fun _ _=>True) (fun x s=>.tup [Am (ET x s).1,pvZ (ET x s).2])) (Tzu L e))
theorem Qx (hl:few L):AI Tryz.prog (Tzv L e):=((Qu hl).add (q2 fun x s _=>p130 hl x s))
variable (a:List AVal) (H:AD)
theorem Tzv_ea:Tzv L e 130 a H=s2 dRu (dZ L e) (fun _ _=>True) (fun x s=>.tup [Am (ET x s).1,pvZ (ET x s).2]) a H:=rfl
theorem Tzv_bd:Tzv L e 132 a H=s2 dRu (dZ L e) (fun _ _=>True) (fun x s=>.tup [Am (Bi x s).1,pvZ (Bi x s).2]) a H:=rfl
theorem IH:Tzv L e 64 a H=s2 (dZ L e) dS (fun _ _=>True) (fun s w=>pvZ (zw 1 w s).2) a H:=rfl
theorem E0:Tzv L e 69 a H=s2 (dZ L e) dS (fun _ _=>True) (fun s w=>.bool (zis 1 w s)) a H:=rfl
theorem M6:Tzv L e 63 a H=s1 (dZ L e) (fun _=>True) (fun s=>.tup [.str (Ap s).1,pvZ (Ap s).2]) a H:=rfl
theorem Tzv_nb:Tzv L e 65 a H=s1 (dZ L e) (fun _=>True) (fun s=>.tup [.int .i64 (znum s).1,pvZ (znum s).2]) a H:=rfl
theorem M7:Tzv L e 131 a H=s1 (dZ L e) (fun _=>True) (fun s=>.tup [eSs (zset s).1,pvZ (zset s).2]) a H:=rfl
end
section
variable {L:List Tkn} {e:Int} (hl:few L)
include hl
theorem p114 (x:DRul) (s:ZS L e):Pur Tryz.prog 114 [Am x,pvZ s] (.tup [Am (DL x s).1,pvZ (DL x s).2]):=by
 refine .mk ⟨Ah 0 x,AQ 0 s,trivial⟩ ⟨Ah 0 _,AQ 0 _,trivial⟩ (a114 (AF (Qx (L:=L) (e:=e) hl) (AE ?_)))
 cases h0:zis 1 Bp s with
 |false=>
  cases h1:zis 1 Bq s with
  |false=>
   cases h2:zis 1 Cw s with
   |false=>
    cases h3:zis 1 wNot s with
    |false=>
     cases h4:zis 1 FK s with
     |false=>
      cases h5:zis 1 FL s with
      |false=>
       cases h6:zis 1 Cx s with
       |false=>
        cases h7:zis 1 FM s with
        |false=>
         simp only[eE,eC,eN,reduceCtorEq,Nat.reduceEqDiff,↓reduceIte,Nat.reduceAdd,Nat.reduceLeDiff,Nat.reduceLT,Al,s2,Aj,AY,AV,AH,DM,CQ,Option.getD_some,List.getElem?_cons_zero,List.getElem?_cons_succ,Tzv_bd,IH,E0,c114,h0,h1,h2,h3,h4,h5,h6,h7]
         simp only[DL,zbd,zif,zret,h0,h1,h2,h3,h4,h5,h6,h7,Bool.false_eq_true,if_false]
         exact Wk.refl _
        |true=>
         simp only[eE,eC,eN,eX,reduceCtorEq,Nat.reduceEqDiff,↓reduceIte,Nat.reduceAdd,Nat.reduceLeDiff,Nat.reduceLT,Nat.reduceMod,Nat.reduceSub,Nat.reduceDiv,BV,Al,s1,s2,Aj,AY,AV,AH,AT,Option.getD_some,List.getElem?_cons_zero,List.getElem?_cons_succ,IH,E0,M6,c114,h0,h1,h2,h3,h4,h5,h6,h7]
         simp only[DL,zbd,zif,zret,h0,h1,h2,h3,h4,h5,h6,h7,Bool.false_eq_true,if_false,if_true]
         exact Wk.refl _
       |true=>
        simp only[eE,eC,eN,eX,reduceCtorEq,Nat.reduceEqDiff,↓reduceIte,Nat.reduceAdd,Nat.reduceLeDiff,Nat.reduceLT,Nat.reduceMod,Nat.reduceSub,Nat.reduceDiv,BV,Al,s1,s2,Aj,AY,AV,AH,AT,Option.getD_some,List.getElem?_cons_zero,List.getElem?_cons_succ,IH,E0,M6,c114,h0,h1,h2,h3,h4,h5,h6]
        simp only[DL,zbd,zif,zret,h0,h1,h2,h3,h4,h5,h6,Bool.false_eq_true,if_false,if_true]
        exact Wk.refl _
      |true=>
       simp only[eE,eC,eN,eX,reduceCtorEq,Nat.reduceEqDiff,↓reduceIte,Nat.reduceAdd,Nat.reduceLeDiff,Nat.reduceLT,Nat.reduceMod,Nat.reduceSub,Nat.reduceDiv,BV,Al,s1,s2,Aj,AY,AV,AH,AT,Option.getD_some,List.getElem?_cons_zero,List.getElem?_cons_succ,IH,E0,M7,c114,h0,h1,h2,h3,h4,h5]
       simp only[DL,zbd,zif,zret,h0,h1,h2,h3,h4,h5,Bool.false_eq_true,if_false,if_true]
       exact Wk.refl _
     |true=>
      simp only[eE,eC,eN,eX,reduceCtorEq,Nat.reduceEqDiff,↓reduceIte,Nat.reduceAdd,Nat.reduceLeDiff,Nat.reduceLT,Nat.reduceMod,Nat.reduceSub,Nat.reduceDiv,BV,Al,s1,s2,Aj,AY,AV,AH,AT,Option.getD_some,List.getElem?_cons_zero,List.getElem?_cons_succ,IH,E0,M7,c114,h0,h1,h2,h3,h4]
      simp only[DL,zbd,zif,zret,h0,h1,h2,h3,h4,Bool.false_eq_true,if_false,if_true]
      exact Wk.refl _
    |true=>
     simp only[eE,eC,eN,eX,reduceCtorEq,Nat.reduceEqDiff,↓reduceIte,Nat.reduceAdd,Nat.reduceLeDiff,Nat.reduceLT,Nat.reduceMod,Nat.reduceSub,Nat.reduceDiv,BV,Al,s1,s2,Aj,AY,AV,AH,AT,Option.getD_some,List.getElem?_cons_zero,List.getElem?_cons_succ,IH,E0,M7,c114,h0,h1,h2,h3]
     simp only[DL,zbd,zif,zret,h0,h1,h2,h3,Bool.false_eq_true,if_false,if_true]
     exact Wk.refl _
   |true=>
    simp only[eE,eC,eN,eX,reduceCtorEq,Nat.reduceEqDiff,↓reduceIte,Nat.reduceAdd,Nat.reduceLeDiff,Nat.reduceLT,Nat.reduceMod,Nat.reduceSub,Nat.reduceDiv,BV,Al,s1,s2,Aj,AY,AV,AH,AT,Option.getD_some,List.getElem?_cons_zero,List.getElem?_cons_succ,IH,E0,Tzv_nb,c114,h0,h1,h2]
    simp only[DL,zbd,zif,zret,h0,h1,h2,Bool.false_eq_true,if_false,if_true]
    exact Wk.refl _
  |true=>
   simp only[eE,eC,eN,reduceCtorEq,Nat.reduceEqDiff,↓reduceIte,Nat.reduceAdd,Nat.reduceLeDiff,Al,s2,Aj,AY,AV,AH,IH,E0,c114,h0,h1]
   simp only[DL,zbd,zif,zret,h0,h1,Bool.false_eq_true,if_false,if_true]
   exact Wk.refl _
 |true=>
  simp only[eE,eC,eN,reduceCtorEq,Nat.reduceEqDiff,↓reduceIte,Nat.reduceAdd,Nat.reduceLeDiff,Nat.reduceLT,Al,s1,s2,Aj,AY,AV,AH,DM,CQ,Option.getD_some,List.getElem?_cons_zero,List.getElem?_cons_succ,Tzv_ea,IH,E0,M6,c114,h0]
  simp only[DL,zbd,zif,zret,h0,if_true]
  exact Wk.refl _
end
section
variable {L:List Tkn} {e:Int}
def Tzx (L:List Tkn) (e:Int):Tab:=(tadd 114 (s2 dRu (dZ L e) (fun _ _=>True) (fun x s=>.tup [Am (DL x s).1,pvZ (DL x s).2])) (Tzv L e))
theorem Kx (hl:few L):AI Tryz.prog (Tzx L e):=((Qx hl).add (q2 fun x s _=>p114 hl x s))
variable (a:List AVal) (H:AD)
theorem Tzx_by:Tzx L e 114 a H=s2 dRu (dZ L e) (fun _ _=>True) (fun x s=>.tup [Am (DL x s).1,pvZ (DL x s).2]) a H:=rfl
theorem Tzx_ea:Tzx L e 130 a H=s2 dRu (dZ L e) (fun _ _=>True) (fun x s=>.tup [Am (ET x s).1,pvZ (ET x s).2]) a H:=rfl
theorem Tzx_bd:Tzx L e 132 a H=s2 dRu (dZ L e) (fun _ _=>True) (fun x s=>.tup [Am (Bi x s).1,pvZ (Bi x s).2]) a H:=rfl
theorem Qy:Tzx L e 111 a H=s1 (dZ L e) (fun _=>True) (fun s=>.tup [Fb (zsym s).1,pvZ (zsym s).2]) a H:=rfl
theorem Ro:Tzx L e 64 a H=s2 (dZ L e) dS (fun _ _=>True) (fun s w=>pvZ (zw 1 w s).2) a H:=rfl
theorem L4:Tzx L e 67 a H=s2 (dZ L e) dS (fun _ _=>True) (fun s w=>pvZ (zw 3 w s).2) a H:=rfl
theorem Tzx_iw:Tzx L e 69 a H=s2 (dZ L e) dS (fun _ _=>True) (fun s w=>.bool (zis 1 w s)) a H:=rfl
theorem Qz:Tzx L e 112 a H=s2 (dZ L e) dS (fun _ _=>True) (fun s w=>.bool (zis 3 w s)) a H:=rfl
theorem Tzx_im:Tzx L e 107 a H=s1 (dZ L e) (fun _=>True) (fun s=>.bool (Dp s)) a H:=rfl
theorem Q1:Tzx L e 109 a H=s1 (dZ L e) (fun _=>True) (fun s=>.bool (DK s)) a H:=rfl
theorem Q2:Tzx L e 63 a H=s1 (dZ L e) (fun _=>True) (fun s=>.tup [.str (Ap s).1,pvZ (Ap s).2]) a H:=rfl
theorem Tzx_nb:Tzx L e 65 a H=s1 (dZ L e) (fun _=>True) (fun s=>.tup [.int .i64 (znum s).1,pvZ (znum s).2]) a H:=rfl
theorem Tzx_ns:Tzx L e 110 a H=s1 (dZ L e) (fun _=>True) (fun s=>.tup [eIs (C2 znum s).1,pvZ (C2 znum s).2]) a H:=rfl
theorem Tzx_st:Tzx L e 131 a H=s1 (dZ L e) (fun _=>True) (fun s=>.tup [eSs (zset s).1,pvZ (zset s).2]) a H:=rfl
end
section
variable {L:List Tkn} {e:Int} (hl:few L)
include hl
theorem p72 (s:ZS L e):Pur Tryz.prog 72 [pvZ s] (.tup [Am (EU s).1,pvZ (EU s).2]):=by
 refine .mk ⟨AQ 0 s,trivial⟩ ⟨Ah 0 _,AQ 0 _,trivial⟩ (a72 (AF (Kx (L:=L) (e:=e) hl) (AE ?_)))
 simp only[eE,eN,reduceCtorEq,Nat.reduceEqDiff,↓reduceIte,Nat.reduceAdd,Nat.reduceLeDiff,Nat.reduceLT,Al,s1,s2,Aj,AY,AV,AH,Rn,Kw,AT,Option.getD_some,List.getElem?_cons_zero,List.getElem?_cons_succ,Tzx_by,Ro,L4,Q2,c72]
 simp only[EU,zbd,zret]
 exact Wk.refl _
end
end Go.AM
end
section
set_option maxRecDepth 20000
set_option linter.all false
namespace Go.AM
open Go.Proofs Go.Lib
section
variable {L:List Tkn} {e:Int} {α:Type}
theorem IZ.set {t:ZS L e→Bool} {f:ZS L e→α×ZS L e} {es i o lo j:Nat} {s1 sa:ZS L e} {zo cs:List AVal} {acc:List α} {tk:Tok} {H1:AD} {n1:Nat} (h:IZ t f es i o lo s1 zo ⟨sa,acc,tk,H1,n1⟩) (h1:j<lo) (h2:j≠i) (h3:j≠o):IZ t f es i o lo s1 zo ⟨sa,acc,tk,hset H1 j (.box cs),n1⟩:=by
 obtain⟨e1,e2,hlen,hfr,hp,ho,htk,hn,hes⟩:=h
 simp only at e1 e2 hlen hfr hp ho htk hn hes
 exact⟨e1,e2,hlen,hfr.hset (Nat.le_refl _) (show j<n1 by omega),by simp only[];rw[AC _ _ _ _ h2];exact hp,by simp only[];rw[AC _ _ _ _ h3];exact ho,htk.set (.inl h1),hn,hes⟩
structure IY (t:ZS L e→Bool) (f:ZS L e→α×ZS L e) (es:Nat) (enc:α→AVal) (mk:AVal→List AVal) (s1:ZS L e) (H0:AD) (v:VZ L e α):Prop where
 eq1:(BE t f s1).1=v.acc++(BE t f v.s).1
 eq2:(BE t f s1).2=(BE t f v.s).2
 len:v.acc.length≤v.s.n
 fr:Ab v.H v.n
 hp:hget v.H 0=some (bxZ v.s)
 hx:hget v.H 4=some (.box (mk (.sl v.tk (v.acc.map enc))))
 hk1:hget v.H 1=hget H0 1
 hk2:hget v.H 2=hget H0 2
 tok:tkG es 5 v.H v.tk
 hn:5≤v.n
 es:v.tk.esz=es∨v.acc=[]
theorem IY.next {t:ZS L e→Bool} {f:ZS L e→α×ZS L e} {es m n3:Nat} {enc:α→AVal} {mk:AVal→List AVal} {s1 sa:ZS L e} {H0 H1 H2:AD} {acc:List α} {tk:Tok} {n1:Nat} (h:IY t f es enc mk s1 H0 ⟨sa,acc,tk,H1,n1⟩) (hi:Zi t f) (hs:t sa=true)
  (ha:∀id,id<5→hget H2 id=hget H1 id) (ht:tkG es 5 H2 tk) (hf:Ab H2 m) (hm:m<n3) (hm5:5≤m):
  IY t f es enc mk s1 H0 ⟨(f sa).2,acc++[(f sa).1],.own m es,hset (hset (hset (AK H2 tk) m .tok) 4 (.box (mk (.sl (.own m es) ((acc++[(f sa).1]).map enc))))) 0 (bxZ (f sa).2),n3⟩:=by
 obtain⟨e1,e2,hlen,hfr,hp,hx,hk1,hk2,htk,hn,hes⟩:=h
 simp only at e1 e2 hlen hfr hp hx hk1 hk2 htk hn hes
 rw[GF hi hs]at e1 e2
 have hg:=hi sa hs
 refine⟨by rw[e1];simp,e2,by simp only[List.length_append,List.length_cons,List.length_nil];omega,(((BO ht hf).hset (by simp only[];omega) (by simp only[];omega)).hset (Nat.le_refl _) (by simp only[];omega)).hset (Nat.le_refl _) (by simp only[];omega),AB ..,?_,?_,?_,.inr (.inr ⟨m,rfl,hm5,?_⟩),by simp only[];omega,.inl rfl⟩
 ·simp only[]
  rw[AC _ _ _ _ (by decide)];exact AB ..
 ·simp only[]
  rw[AC _ _ _ _ (by decide),AC _ _ _ _ (by decide),AC _ _ _ _ (by omega),Aa ht (.inl (by decide)),ha 1 (by decide)];exact hk1
 ·simp only[]
  rw[AC _ _ _ _ (by decide),AC _ _ _ _ (by decide),AC _ _ _ _ (by omega),Aa ht (.inl (by decide)),ha 2 (by decide)];exact hk2
 ·simp only[]
  rw[AC _ _ _ _ (by omega),AC _ _ _ _ (by omega)];exact AB ..
variable (hl:few L)
include hl
theorem p68 (s:ZS L e):Pur Tryz.prog 68 [pvZ s] (.tup [eSys (Ft s).1,pvZ (Ft s).2]):=by
 refine .mk ⟨AQ 0 s,trivial⟩ ⟨⟨trivial,A2 (Cj 0) _⟩,AQ 0 _,trivial⟩ (a68 (AF (Kx (L:=L) (e:=e) hl) (AE ?_)))
 have hl':L.length<1000000000:=hl
 simp only[eE,eN,reduceCtorEq,Nat.reduceEqDiff,↓reduceIte,Nat.reduceAdd,Nat.reduceLeDiff,Nat.reduceMul,Nat.reduceLT,Qy,Ro,s1,s2,Aj,AY,AV,AH,Option.getD_some,List.getElem?_cons_zero,List.getElem?_cons_succ,c68]
 generalize hs0:(zw 1 EC s).2=s0
 refine AW (fun v:VZ L e DSym=>⟨[(3,true,.ptr 2 0),(4,true,.ptr 9 0),(5,true,.ptr 10 0),(6,true,.sl v.tk ((((zsym s0).1::v.acc)).map Fb))],v.H,v.n⟩)
  (fun v=>IZ (zis 3 [44]) (zbd (zw 3 [44]) fun _=>zsym) 2 10 2 11 (zsym s0).2 zP v∧∃a b,hget v.H 9=some (.box [a,b])) (fun v=>L.length-v.s.n)
  ⟨(zsym s0).2,[],.exact 2,hset (hset (hset (hset (hset (hset hnil 0 (bxZ s)) 2 (.box zP)) 9 (.box [.str [],.int .i64 0])) 10 (.box zP)) 9 (.box [.str (zsym s0).1.nm,.int .i64 (zsym s0).1.v])) 10 (bxZ (zsym s0).2),13⟩ rfl ⟨⟨rfl,rfl,Nat.zero_le _,?_,rfl,rfl,.inr (.inl rfl),Nat.le_add_left 11 2,rfl⟩,_,_,rfl⟩ ?_
 ·intro id hid
  have:13≤id:=hid
  simp only[AA]
  repeat rw[if_neg (by omega)]
  rfl
 rintro⟨sa,acc,tk,H1,n1⟩ ⟨hI,c1',c2',h9⟩
 have hI2:=hI
 obtain⟨e1,e2,hlen,hfr,hp,ho,htk,hn,hes⟩:=hI2
 simp only at e1 e2 hlen hfr hp ho htk hn hes h9
 have hi:=G8 (k:=3) (w:=[44]) (f:=zsym (L:=L) (e:=e)) Qm
 have hle:=sa.le
 have ez:Ft s=((zsym s0).1::(BE (zis 3 [44]) (zbd (zw 3 [44]) fun _=>zsym) (zsym s0).2).1,(zw 3 [59] (BE (zis 3 [44]) (zbd (zw 3 [44]) fun _=>zsym) (zsym s0).2).2).2):=by subst hs0;rfl
 by_cases hs:zis 3 [44] sa=true
 case neg=>
  have hs':zis 3 [44] sa=false:=by simpa using hs
  rw[Cp hs]at e1 e2
  rw[List.append_nil]at e1
  rw[ez,e1,e2]
  simp only[eE,eC,eN,Nat.reduceEqDiff,↓reduceIte,Nat.reduceAdd,Al,L4,Qz,s2,Aj,AY,AV,AH,hp,ho,hs']
  exact Wk.tup (.cons (Wk.sl (.inl hes)) (.cons (Wk.refl _) .nil))
 have h2:=hi sa hs
 have h3:=(zbd (zw 3 [44]) (fun _=>zsym) sa).2.le
 generalize hy:zsym (zw 3 [44] sa).2=y at*
 have hI3:=hI.set (j:=9) (cs:=[.str y.1.nm,.int .i64 y.1.v]) (by decide) (by decide) (by decide)
 have ht1:tkG 2 11 (hset H1 9 (.box [.str y.1.nm,.int .i64 y.1.v])) tk:=htk.set (.inl (by decide))
 have ht2:tkG 2 11 (hset (hset H1 9 (.box [.str y.1.nm,.int .i64 y.1.v])) 10 (bxZ y.2)) tk:=ht1.set (.inl (by decide))
 have q1:CF (hset (hset H1 9 (.box [.str y.1.nm,.int .i64 y.1.v])) 10 (bxZ y.2)) 2 tk=True:=eq_true ht2.app
 have q2:(acc.length≤35184372088830)=True:=eq_true (by omega)
 have q3:Ao (acc.length+2) 24=True:=eq_true (Ar (by omega) (by decide))
 have q4:(n1=7)=False:=eq_false (by omega)
 have q5:(n1=6)=False:=eq_false (by omega)
 have hN:=hI3.next (k:=3) (m:=5) hi hs (by decide) (by decide) (by decide) (by decide) (by omega)
 have hy2:zbd (zw 3 [44]) (fun _=>zsym) sa=y:=hy
 rw[hy2]at hN h2 h3
 have ht3:=ht2.app
 have k9:hget (hset (AK (hset (hset H1 9 (.box [.str y.1.nm,.int .i64 y.1.v])) 10 (bxZ y.2)) tk) (n1+3) .tok) 9=some (.box [.str y.1.nm,.int .i64 y.1.v]):=by
  rw[AC _ _ _ _ (by omega),Aa ht2 (.inl (by decide)),AC _ _ _ _ (by decide)];exact AB ..
 simp only[eE,eC,eN,reduceCtorEq,Nat.reduceEqDiff,↓reduceIte,Nat.reduceAdd,Nat.reduceLeDiff,Nat.reduceMul,Nat.reduceLT,Qy,L4,Qz,s1,s2,Aj,AY,AV,AH,Option.getD_some,List.length_map,List.getElem?_cons_zero,List.getElem?_cons_succ,hp,hs,h9,hy,q1,q2,q3,q4,q5,fr1 hfr]
 exact .mk ⟨_,acc++[y.1],.own (n1+3) 2,hset (AK (hset (hset H1 9 (.box [.str y.1.nm,.int .i64 y.1.v])) 10 (bxZ y.2)) tk) (n1+3) .tok,n1+5⟩ (by simp only[List.map_append,List.map_cons,List.map_nil]) ⟨hN,_,_,k9⟩ (by simp only[];omega)
end
end Go.AM
end
section
set_option maxRecDepth 20000
set_option linter.all false
namespace Go.AM
open Go.Proofs Go.Lib
section
variable {L:List Tkn} {e:Int} {α:Type}
variable (hl:few L)
include hl
theorem p70 (s:ZS L e):Pur Tryz.prog 70 [pvZ s] (.tup [DF (zreg s).1,pvZ (zreg s).2]):=by
 refine .mk ⟨AQ 0 s,trivial⟩ ⟨Ck 0 _,AQ 0 _,trivial⟩ (a70 (AF (Kx (L:=L) (e:=e) hl) (AE ?_)))
 have hl':L.length<1000000000:=hl
 simp only[eE,eN,reduceCtorEq,Nat.reduceEqDiff,↓reduceIte,Nat.reduceAdd,Nat.reduceLeDiff,Nat.reduceLT,Ro,L4,Q2,s1,s2,Aj,AY,AV,AH,AT,Option.getD_some,List.getElem?_cons_zero,List.getElem?_cons_succ,c70]
 generalize hs0:(Ap (zw 1 Bl s).2).2=s0
 generalize hn0:(Ap (zw 1 Bl s).2).1=nm
 generalize hs3:(zw 3 [123] s0).2=sb
 generalize hH0:hset _ 0 (bxZ sb)=H0
 have k1:hget H0 1=some (.box [.str [],.sl .nil []]):=by rw[←hH0];rfl
 have k2:hget H0 2=some (.box zP):=by rw[←hH0];rfl
 have k4:hget H0 4=some (.box [.str nm,.sl .nil []]):=by rw[←hH0];rfl
 have k0:hget H0 0=some (bxZ sb):=by rw[←hH0];exact AB ..
 have kf:Ab H0 6:=by
  intro id hid
  rw[←hH0]
  simp only[AA]
  repeat rw[if_neg (by omega)]
  rfl
 clear hH0
 refine AW (fun v:VZ L e (List Int)=>⟨[(1,true,.ptr 0 0),(2,true,.ptr 1 0),(3,true,.ptr 2 0),(4,true,.ptr 4 0)],v.H,v.n⟩)
  (IY DK zrl 1 eIs (fun l=>[.str nm,l]) sb H0) (fun v=>L.length-v.s.n)
  ⟨sb,[],.nil,H0,6⟩ rfl ⟨rfl,rfl,Nat.zero_le _,kf,k0,k4,rfl,rfl,.inl rfl,Nat.le_add_left 5 1,.inr rfl⟩ ?_
 rintro⟨sa,acc,tk,H1,n1⟩ hI
 have hI2:=hI
 obtain⟨e1,e2,hlen,hfr,hp,hx,hk1,hk2,htk,hn,hes⟩:=hI2
 simp only at e1 e2 hlen hfr hp hx hk1 hk2 htk hn hes
 rw[k1]at hk1
 rw[k2]at hk2
 have hi:=zi_rl (L:=L) (e:=e)
 have hle:=sa.le
 have ez:zreg s=(⟨nm,(BE DK zrl sb).1⟩,(zw 3 [125] (BE DK zrl sb).2).2):=by subst hs3 hn0 hs0;rfl
 by_cases hs:DK sa=true
 case neg=>
  have hs':DK sa=false:=by simpa using hs
  rw[Cp hs]at e1 e2
  rw[List.append_nil]at e1
  rw[ez,e1,e2]
  simp only[eE,eC,eN,Nat.reduceEqDiff,↓reduceIte,Nat.reduceAdd,Al,L4,Q1,s1,s2,Aj,AY,AV,AH,hp,hx,hk1,hk2,hs']
  exact Wk.tup (.cons (Wk.agg (.cons (Wk.refl _) (.cons (Wk.sl (hes.imp id fun q=>by rw[q];rfl)) .nil))) (.cons (Wk.refl _) .nil))
 have h2:=hi sa hs
 have h3:=(zrl sa).2.le
 have hz:zrl sa=((C2 znum sa).1,(zw 3 [59] (C2 znum sa).2).2):=rfl
 generalize hy:C2 znum sa=y at hz
 rw[hz]at h2 h3
 simp only at h2 h3
 have ht2:tkG 1 5 (hset H1 (n1+5) (bxZ y.2)) tk:=htk.set (.inr (.inr (hfr _ (by omega))))
 have hf2:Ab (hset H1 (n1+5) (bxZ y.2)) (n1+12):=hfr.hset (by omega) (by omega)
 have q1:CF (hset H1 (n1+5) (bxZ y.2)) 1 tk=True:=eq_true ht2.app
 have q2:(acc.length≤35184372088831)=True:=eq_true (by omega)
 have q3:Ao (acc.length+1) 24=True:=eq_true (Ar (by omega) (by decide))
 have y4:(n1+5=4)=False:=eq_false (by omega)
 have y4':(4=n1+5)=False:=eq_false (by omega)
 have y0:(n1+5=0)=False:=eq_false (by omega)
 have y12:(n1+12=4)=False:=eq_false (by omega)
 have y512:(n1+5=n1+12)=False:=eq_false (by omega)
 have y125:(n1+12=n1+5)=False:=eq_false (by omega)
 have kk4:hget (AK (hset H1 (n1+5) (bxZ y.2)) tk) 4=some (.box [.str nm,.sl tk (acc.map eIs)]):=by
  rw[Aa ht2 (.inl (by decide)),AC _ _ _ _ (by omega)];exact hx
 have kk0:hget (AK (hset H1 (n1+5) (bxZ y.2)) tk) 0=some (bxZ sa):=by
  rw[Aa ht2 (.inl (by decide)),AC _ _ _ _ (by omega)];exact hp
 have kk5:hget (AK (hset H1 (n1+5) (bxZ y.2)) tk) (n1+5)=some (bxZ y.2):=by
  rw[Aa ht2 (.inr ⟨_,AB ..⟩)];exact AB ..
 have hN:=hI.next (H2:=hset H1 (n1+5) (bxZ y.2)) (m:=n1+12) (n3:=n1+15) hi hs (fun id hid=>by rw[AC _ _ _ _ (by omega)]) ht2 hf2 (by omega) (by omega)
 rw[hz]at hN
 simp only[eE,eC,eN,reduceCtorEq,Nat.reduceEqDiff,↓reduceIte,Nat.reduceAdd,Nat.reduceLeDiff,Nat.reduceMul,Nat.reduceLT,L4,Q1,Tzx_ns,s1,s2,Aj,AY,AV,AH,AT,Option.getD_some,List.length_map,List.getElem?_cons_zero,List.getElem?_cons_succ,hp,hx,hs,hy,q1,q2,q3,y4,y4',y12,y512,y125,kk4,kk5,kk0,fr1 hfr]
 exact .mk ⟨(zw 3 [59] y.2).2,acc++[y.1],.own (n1+12) 1,_,n1+15⟩ (by simp only[List.map_append,List.map_cons,List.map_nil]) hN (by simp only[];omega)
end
end Go.AM
end
section
set_option maxRecDepth 20000
set_option linter.all false
namespace Go.AM
open Go.Proofs Go.Lib
abbrev encG (d:Dcl):AVal:=.agg [.str d.nm,.int .i64 d.ver,.int .i64 d.sh,.int .i64 d.w,.int .i64 d.h,eIs d.holes,.sl .nil [],.sl .nil [],.sl .nil [],.sl .nil []]
abbrev encG0 (x:Bs×Int):AVal:=.agg [.str x.1,.int .i64 x.2,.int .i64 0,.int .i64 0,.int .i64 0,.sl .nil [],.sl .nil [],.sl .nil [],.sl .nil [],.sl .nil []]
def decG0:AVal→Bs×Int
 | .agg (.str a:: .int _ b::_)=>(a,b)
 |_=>([],0)
def dG0:Dc (Bs×Int):=dEx encG0 decG0
theorem dG0_ok (a:Bs) (b:Int):dG0.ok (.agg [.str a,.int .i64 b,.int .i64 0,.int .i64 0,.int .i64 0,.sl .nil [],.sl .nil [],.sl .nil [],.sl .nil [],.sl .nil []])=True:=eq_true rfl
theorem Rp (a:Bs) (b:Int):dG0.dec (.agg [.str a,.int .i64 b,.int .i64 0,.int .i64 0,.int .i64 0,.sl .nil [],.sl .nil [],.sl .nil [],.sl .nil [],.sl .nil []])=(a,b):=rfl
abbrev dG (x:Bs×Int):Dcl:=⟨x.1,x.2,0,0,0,[],[],[],[],[]⟩
theorem L5 (k:Nat) (d:Dcl):(encG d).under k:=⟨trivial,trivial,trivial,trivial,trivial,Bn k _,⟨trivial,trivial⟩,⟨trivial,trivial⟩,⟨trivial,trivial⟩,⟨trivial,trivial⟩,trivial⟩
section
variable {L:List Tkn} {e:Int} (hl:few L)
include hl
theorem Rq (x:Bs×Int) (s:ZS L e):Pur Tryz.prog 66 [encG0 x,pvZ s] (.tup [encG (Ex (dG x) s).1,pvZ (Ex (dG x) s).2]):=by
 refine .mk ⟨⟨trivial,trivial,trivial,trivial,trivial,⟨trivial,trivial⟩,⟨trivial,trivial⟩,⟨trivial,trivial⟩,⟨trivial,trivial⟩,⟨trivial,trivial⟩,trivial⟩,AQ 0 s,trivial⟩ ⟨L5 0 _,AQ 0 _,trivial⟩ (a66 (AF (I4 (L:=L) (e:=e) hl) (AE ?_)))
 cases h1:zis 1 wHex (zw 1 Et s).2 with
 |false=>
  simp only[eE,eC,eN,reduceCtorEq,Nat.reduceEqDiff,↓reduceIte,Nat.reduceAdd,Nat.reduceLeDiff,Nat.reduceLT,Ez,Ea,GG,s1,s2,Aj,AY,AV,AH,List.getElem?_cons_zero,List.getElem?_cons_succ,Option.getD_some,c66,h1]
  generalize h2:zis 1 Eu _=b2
  cases b2
  ·simp only[eE,eC,eN,reduceCtorEq,Nat.reduceEqDiff,↓reduceIte,Nat.reduceAdd,Al,I5,s2,Aj,AY,AV,AH]
   simp only[Ex,zbd,HK,HL,zif,zret,h1,h2,Bool.false_eq_true,if_false]
   exact Wk.tup (.cons (Wk.agg (.cons (Wk.refl _) (.cons (Wk.refl _) (.cons (Wk.refl _) (.cons (Wk.refl _) (.cons (Wk.refl _) (.cons (Wk.sl (.inr rfl)) (.cons (Wk.refl _) (.cons (Wk.refl _) (.cons (Wk.refl _) (.cons (Wk.refl _) .nil))))))))))) (.cons (Wk.refl _) .nil))
  ·simp only[eE,eC,eN,reduceCtorEq,Nat.reduceEqDiff,↓reduceIte,Nat.reduceAdd,Nat.reduceLeDiff,Nat.reduceLT,Al,Ez,I5,Qt,s1,s2,Aj,AY,AV,AH,List.getElem?_cons_zero,List.getElem?_cons_succ,Option.getD_some]
   simp only[Ex,zbd,HK,HL,zif,zret,h1,h2,Bool.false_eq_true,if_false,if_true]
   exact Wk.refl _
 |true=>
  simp only[eE,eC,eN,reduceCtorEq,Nat.reduceEqDiff,↓reduceIte,Nat.reduceAdd,Nat.reduceLeDiff,Nat.reduceLT,Ez,Ea,GG,s1,s2,Aj,AY,AV,AH,List.getElem?_cons_zero,List.getElem?_cons_succ,Option.getD_some,c66,h1]
  generalize h2:zis 1 Eu _=b2
  cases b2
  ·simp only[eE,eC,eN,reduceCtorEq,Nat.reduceEqDiff,↓reduceIte,Nat.reduceAdd,Al,I5,s2,Aj,AY,AV,AH]
   simp only[Ex,zbd,HK,HL,zif,zret,h1,h2,Bool.false_eq_true,if_false,if_true]
   exact Wk.tup (.cons (Wk.agg (.cons (Wk.refl _) (.cons (Wk.refl _) (.cons (Wk.refl _) (.cons (Wk.refl _) (.cons (Wk.refl _) (.cons (Wk.sl (.inr rfl)) (.cons (Wk.refl _) (.cons (Wk.refl _) (.cons (Wk.refl _) (.cons (Wk.refl _) .nil))))))))))) (.cons (Wk.refl _) .nil))
  ·simp only[eE,eC,eN,reduceCtorEq,Nat.reduceEqDiff,↓reduceIte,Nat.reduceAdd,Nat.reduceLeDiff,Nat.reduceLT,Al,Ez,I5,Qt,s1,s2,Aj,AY,AV,AH,List.getElem?_cons_zero,List.getElem?_cons_succ,Option.getD_some]
   simp only[Ex,zbd,HK,HL,zif,zret,h1,h2,if_true]
   exact Wk.refl _
end
section
variable {L:List Tkn} {e:Int}
def Tzy (L:List Tkn) (e:Int):Tab:=(tadd 66 (s2 dG0 (dZ L e) (fun _ _=>True) (fun x s=>.tup [encG (Ex (dG x) s).1,pvZ (Ex (dG x) s).2])) (tadd 73 (s1 (dZ L e) (fun _=>True) (fun s=>pvZ (FT s))) (tadd 68 (s1 (dZ L e) (fun _=>True) (fun s=>.tup [eSys (Ft s).1,pvZ (Ft s).2])) (tadd 70 (s1 (dZ L e) (fun _=>True) (fun s=>.tup [DF (zreg s).1,pvZ (zreg s).2])) (tadd 71 (s1 (dZ L e) (fun _=>True) (fun s=>.tup [BI (zclu s).1,pvZ (zclu s).2])) (tadd 72 (s1 (dZ L e) (fun _=>True) (fun s=>.tup [Am (EU s).1,pvZ (EU s).2])) (Tzx L e)))))))
theorem Tzy_ok (hl:few L):AI Tryz.prog (Tzy L e):=(((((((Kx hl).add (q1 fun s _=>p72 hl s)).add (q1 fun s _=>p71 hl s)).add (q1 fun s _=>p70 hl s)).add (q1 fun s _=>p68 hl s)).add (q1 fun s _=>p73 hl s)).add (q2 fun x s _=>Rq hl x s))
variable (a:List AVal) (H:AD)
theorem Tzy_gd:Tzy L e 66 a H=s2 dG0 (dZ L e) (fun _ _=>True) (fun x s=>.tup [encG (Ex (dG x) s).1,pvZ (Ex (dG x) s).2]) a H:=rfl
theorem Tzy_fl:Tzy L e 73 a H=s1 (dZ L e) (fun _=>True) (fun s=>pvZ (FT s)) a H:=rfl
theorem Tzy_ss:Tzy L e 68 a H=s1 (dZ L e) (fun _=>True) (fun s=>.tup [eSys (Ft s).1,pvZ (Ft s).2]) a H:=rfl
theorem Tzy_rg:Tzy L e 70 a H=s1 (dZ L e) (fun _=>True) (fun s=>.tup [DF (zreg s).1,pvZ (zreg s).2]) a H:=rfl
theorem Tzy_cl:Tzy L e 71 a H=s1 (dZ L e) (fun _=>True) (fun s=>.tup [BI (zclu s).1,pvZ (zclu s).2]) a H:=rfl
theorem Tzy_ru:Tzy L e 72 a H=s1 (dZ L e) (fun _=>True) (fun s=>.tup [Am (EU s).1,pvZ (EU s).2]) a H:=rfl
theorem Tzy_w:Tzy L e 64 a H=s2 (dZ L e) dS (fun _ _=>True) (fun s w=>pvZ (zw 1 w s).2) a H:=rfl
theorem Rr:Tzy L e 67 a H=s2 (dZ L e) dS (fun _ _=>True) (fun s w=>pvZ (zw 3 w s).2) a H:=rfl
theorem HP:Tzy L e 69 a H=s2 (dZ L e) dS (fun _ _=>True) (fun s w=>.bool (zis 1 w s)) a H:=rfl
theorem Tzy_nm:Tzy L e 63 a H=s1 (dZ L e) (fun _=>True) (fun s=>.tup [.str (Ap s).1,pvZ (Ap s).2]) a H:=rfl
theorem Tzy_nb:Tzy L e 65 a H=s1 (dZ L e) (fun _=>True) (fun s=>.tup [.int .i64 (znum s).1,pvZ (znum s).2]) a H:=rfl
end
section
variable {L:List Tkn} {e:Int}
abbrev QZ (R:AVal):AExit→AS→Prop:=Cg [.c 2 10 true,.c 3 5 true] (Ret R)
abbrev eZ (X:List (Nat×Bool×AVal)):List (Nat×Bool×AVal):=(1,true,.ptr 0 0)::(2,true,.ptr 1 0)::(3,true,.ptr 2 0)::(4,true,.ptr 4 0)::X
abbrev zD:List AVal:=[.str [],.int .i64 0,.int .i64 0,.int .i64 0,.int .i64 0,.sl .nil [],.sl .nil [],.sl .nil [],.sl .nil [],.sl .nil []]
def zf9 (d:Dcl):ZS L e→Dcl×ZS L e:=zbd (zw 3 [125]) fun _=>zend d
def zf8 (d:Dcl):ZS L e→Dcl×ZS L e:=zbd (BE (zis 1 CN) EU) fun us=>zf9 {d with ruls:=us}
def zf7 (d:Dcl):ZS L e→Dcl×ZS L e:=zbd (BE (zis 1 CK) zclu) fun cs=>zf8 {d with clus:=cs}
def zf6 (d:Dcl):ZS L e→Dcl×ZS L e:=zbd (BE (zis 1 Bl) zreg) fun rs=>zf7 {d with regs:=rs}
variable (hl:few L) {d:Dcl} {sb:ZS L e} {H:AD} {n:Nat} {v0 v1 v2 v3:AVal} {X:List (Nat×Bool×AVal)}
include hl
theorem z9 (hf:Ab H n) (hn:5≤n) (h0:hget H 0=some (bxZ sb)) (h1:hget H 1=some (.box zD)) (h2:hget H 2=some (.box zP)) (h4:hget H 4=some (.box [.str d.nm,.int .i64 d.ver,.int .i64 d.sh,.int .i64 d.w,.int .i64 d.h,eIs d.holes,eSys d.syms,v1,v2,v3])) (w1:Wk v1 (eRgs d.regs)) (w2:Wk v2 (eCls d.clus)) (w3:Wk v3 (eRus d.ruls)):
  kont Tryz.prog (Tzy L e) (QZ (.tup [encD (zf9 d sb).1,pvZ (zf9 d sb).2])) [.c (sndN 9 c25)] .normal ⟨eZ X,H,n⟩:=by
 rw[AL]
 have fin:∀(x:ZS L e),Wk (.tup [.agg [.str d.nm,.int .i64 d.ver,.int .i64 d.sh,.int .i64 d.w,.int .i64 d.h,eIs d.holes,eSys d.syms,v1,v2,v3],pvZ x]) (.tup [encD d,pvZ x]):=fun x=>
  Wk.tup (.cons (Wk.agg (.cons (Wk.refl _) (.cons (Wk.refl _) (.cons (Wk.refl _) (.cons (Wk.refl _) (.cons (Wk.refl _) (.cons (Wk.refl _) (.cons (Wk.refl _) (.cons w1 (.cons w2 (.cons w3 .nil))))))))))) (.cons (Wk.refl _) .nil))
 have ez:zf9 d sb=zend d (zw 3 [125] sb).2:=rfl
 rw[ez]
 unfold zend
 by_cases hlt:(zw 3 [125] sb).2.n<L.length
 ·rw[if_pos hlt]
  simp only[eE,eC,eN,eX,reduceCtorEq,Nat.reduceEqDiff,↓reduceIte,Nat.reduceAdd,Nat.reduceLeDiff,Nat.reduceLT,Nat.reduceMod,Nat.reduceSub,Nat.reduceDiv,BV,Al,Tzy_fl,Rr,s1,s2,Aj,AY,AV,AH,List.length_map,c25,sndN,sndA,h0,h1,h2,h4,lt_T hlt]
  have:(if(zw 3 [125] sb).2.b=true then(zw 3 [125] sb).2 else FT (zw 3 [125] sb).2)=FT (zw 3 [125] sb).2:=by
   cases hb:(zw 3 [125] sb).2 with
   |mk n b le=>cases b<;>rfl
  rw[this]
  exact⟨by omega,fin _⟩
 ·rw[if_neg hlt]
  simp only[eE,eC,eN,eX,reduceCtorEq,Nat.reduceEqDiff,↓reduceIte,Nat.reduceAdd,Nat.reduceLeDiff,Nat.reduceLT,Nat.reduceMod,Nat.reduceSub,Nat.reduceDiv,BV,Al,Rr,s2,Aj,AY,AV,AH,List.length_map,c25,sndN,sndA,h0,h1,h2,h4,lt_F hlt]
  exact⟨by omega,fin _⟩
theorem z8 (hf:Ab H n) (hn:5≤n) (h0:hget H 0=some (bxZ sb)) (h1:hget H 1=some (.box zD)) (h2:hget H 2=some (.box zP)) (h4:hget H 4=some (.box [.str d.nm,.int .i64 d.ver,.int .i64 d.sh,.int .i64 d.w,.int .i64 d.h,eIs d.holes,eSys d.syms,v1,v2,.sl .nil []])) (w1:Wk v1 (eRgs d.regs)) (w2:Wk v2 (eCls d.clus)):
  kont Tryz.prog (Tzy L e) (QZ (.tup [encD (zf8 d sb).1,pvZ (zf8 d sb).2])) [.c (sndN 8 c25)] .normal ⟨eZ X,H,n⟩:=by
 have hl':L.length<1000000000:=hl
 rw[AL]
 simp only[eE,c25,sndN,sndA]
 refine AW (fun v:VZ L e DRul×List (Nat×Bool×AVal)=>⟨eZ v.2,v.1.H,v.1.n⟩)
  (fun v=>IY (zis 1 CN) EU 12 Am (fun l=>[.str d.nm,.int .i64 d.ver,.int .i64 d.sh,.int .i64 d.w,.int .i64 d.h,eIs d.holes,eSys d.syms,v1,v2,l]) sb H v.1) (fun v=>L.length-v.1.s.n)
  (⟨sb,[],.nil,H,n⟩,X) rfl ⟨rfl,rfl,Nat.zero_le _,hf,h0,h4,rfl,rfl,.inl rfl,hn,.inr rfl⟩ ?_
 rintro⟨⟨sa,acc,tk,H1,n1⟩,X1⟩ hI
 have hI2:=hI
 obtain⟨e1,e2,hlen,hfr,hp,hx,hk1,hk2,htk,hn1,hes⟩:=hI2
 simp only at e1 e2 hlen hfr hp hx hk1 hk2 htk hn1 hes
 rw[h1]at hk1
 rw[h2]at hk2
 have hi:Zi (zis (L:=L) (e:=e) 1 CN) EU:=G8 M2
 have hle:=sa.le
 by_cases hs:zis 1 CN sa=true
 case neg=>
  have hs':zis 1 CN sa=false:=by simpa using hs
  rw[Cp hs]at e1 e2
  rw[List.append_nil]at e1
  have ez:zf8 d sb=zf9 {d with ruls:=(BE (zis 1 CN) EU sb).1} (BE (zis 1 CN) EU sb).2:=rfl
  rw[ez,e1,e2]
  simp only[eE,Nat.reduceEqDiff,↓reduceIte,Nat.reduceAdd,hp,hs',s2,Aj,AY,AV,AH,HP]
  rw[AL]
  simp only[eE,eC,Nat.reduceEqDiff,↓reduceIte]
  exact z9 hl (d:={d with ruls:=acc}) hfr hn1 hp hk1 hk2 hx w1 w2 (Wk.sl (hes.imp id fun q=>by rw[q];rfl))
 have h2':=hi sa hs
 have h3:=(EU sa).2.le
 generalize hy:EU sa=y at h2' h3
 have hta:tkG 12 5 (hset H1 (n1+5) (.box [.str [],.str [],.int .i64 0,.int .i64 0,.sl .nil [],.sl .nil [],.int .i64 0,.int .i64 0,.int .i64 0,.int .i64 0,.str [],.int .i64 0])) tk:=htk.set (.inr (.inr (hfr _ (by omega))))
 have htb:tkG 12 5 (hset (hset H1 (n1+5) (.box [.str [],.str [],.int .i64 0,.int .i64 0,.sl .nil [],.sl .nil [],.int .i64 0,.int .i64 0,.int .i64 0,.int .i64 0,.str [],.int .i64 0])) (n1+6) (.box zP)) tk:=hta.set (.inr (.inr (by rw[AC _ _ _ _ (by omega)];exact hfr _ (by omega))))
 have htc:tkG 12 5 (hset (hset (hset H1 (n1+5) (.box [.str [],.str [],.int .i64 0,.int .i64 0,.sl .nil [],.sl .nil [],.int .i64 0,.int .i64 0,.int .i64 0,.int .i64 0,.str [],.int .i64 0])) (n1+6) (.box zP)) (n1+5) (.box (BB y.1))) tk:=htb.set (.inr (.inl ⟨_,by rw[AC _ _ _ _ (by omega)];exact AB ..⟩))
 have ht2:tkG 12 5 (hset (hset (hset (hset H1 (n1+5) (.box [.str [],.str [],.int .i64 0,.int .i64 0,.sl .nil [],.sl .nil [],.int .i64 0,.int .i64 0,.int .i64 0,.int .i64 0,.str [],.int .i64 0])) (n1+6) (.box zP)) (n1+5) (.box (BB y.1))) (n1+6) (bxZ y.2)) tk:=htc.set (.inr (.inl ⟨_,by rw[AC _ _ _ _ (by omega)];exact AB ..⟩))
 have hf2:Ab (hset (hset (hset (hset H1 (n1+5) (.box [.str [],.str [],.int .i64 0,.int .i64 0,.sl .nil [],.sl .nil [],.int .i64 0,.int .i64 0,.int .i64 0,.int .i64 0,.str [],.int .i64 0])) (n1+6) (.box zP)) (n1+5) (.box (BB y.1))) (n1+6) (bxZ y.2)) (n1+13):=(((hfr.hset (m:=n1+13) (by omega) (by omega)).hset (Nat.le_refl _) (by omega)).hset (Nat.le_refl _) (by omega)).hset (Nat.le_refl _) (by omega)
 have hlow:∀id,id<5→hget (hset (hset (hset (hset H1 (n1+5) (.box [.str [],.str [],.int .i64 0,.int .i64 0,.sl .nil [],.sl .nil [],.int .i64 0,.int .i64 0,.int .i64 0,.int .i64 0,.str [],.int .i64 0])) (n1+6) (.box zP)) (n1+5) (.box (BB y.1))) (n1+6) (bxZ y.2)) id=hget H1 id:=fun id hid=>by
  rw[AC _ _ _ _ (by omega),AC _ _ _ _ (by omega),AC _ _ _ _ (by omega),AC _ _ _ _ (by omega)]
 have hN:=hI.next (m:=n1+13) (n3:=n1+16) hi hs hlow ht2 hf2 (by omega) (by omega)
 rw[hy]at hN
 have kk4:hget (AK (hset (hset (hset (hset H1 (n1+5) (.box [.str [],.str [],.int .i64 0,.int .i64 0,.sl .nil [],.sl .nil [],.int .i64 0,.int .i64 0,.int .i64 0,.int .i64 0,.str [],.int .i64 0])) (n1+6) (.box zP)) (n1+5) (.box (BB y.1))) (n1+6) (bxZ y.2)) tk) 4=hget H1 4:=by rw[Aa ht2 (.inl (by decide)),hlow 4 (by decide)]
 have kk0:hget (AK (hset (hset (hset (hset H1 (n1+5) (.box [.str [],.str [],.int .i64 0,.int .i64 0,.sl .nil [],.sl .nil [],.int .i64 0,.int .i64 0,.int .i64 0,.int .i64 0,.str [],.int .i64 0])) (n1+6) (.box zP)) (n1+5) (.box (BB y.1))) (n1+6) (bxZ y.2)) tk) 0=hget H1 0:=by rw[Aa ht2 (.inl (by decide)),hlow 0 (by decide)]
 have kk6:hget (AK (hset (hset (hset (hset H1 (n1+5) (.box [.str [],.str [],.int .i64 0,.int .i64 0,.sl .nil [],.sl .nil [],.int .i64 0,.int .i64 0,.int .i64 0,.int .i64 0,.str [],.int .i64 0])) (n1+6) (.box zP)) (n1+5) (.box (BB y.1))) (n1+6) (bxZ y.2)) tk) (n1+6)=some (bxZ y.2):=by
  rw[Aa ht2 (.inr ⟨_,AB ..⟩)];exact AB ..
 have q1:CF (hset (hset (hset (hset H1 (n1+5) (.box [.str [],.str [],.int .i64 0,.int .i64 0,.sl .nil [],.sl .nil [],.int .i64 0,.int .i64 0,.int .i64 0,.int .i64 0,.str [],.int .i64 0])) (n1+6) (.box zP)) (n1+5) (.box (BB y.1))) (n1+6) (bxZ y.2)) 12 tk=True:=eq_true ht2.app
 have q2:(acc.length≤35184372088831)=True:=eq_true (by omega)
 have q3:Ao (acc.length+1) 152=True:=eq_true (Ar (by omega) (by decide))
 have y54:(n1+5=4)=False:=eq_false (by omega)
 have y64:(n1+6=4)=False:=eq_false (by omega)
 have y134:(n1+13=4)=False:=eq_false (by omega)
 have y130:(n1+13=0)=False:=eq_false (by omega)
 have y136:(n1+13=n1+6)=False:=eq_false (by omega)
 have y46:(4=n1+6)=False:=eq_false (by omega)
 have y65:(n1+6=n1+5)=False:=eq_false (by omega)
 have y56:(n1+5=n1+6)=False:=eq_false (by omega)
 simp only[eE,eC,eN,reduceCtorEq,Nat.reduceEqDiff,↓reduceIte,Nat.reduceAdd,Nat.reduceLeDiff,Nat.reduceMul,Nat.reduceLT,Tzy_ru,HP,s1,s2,Aj,AY,AV,AH,Option.getD_some,List.length_map,List.getElem?_cons_zero,List.getElem?_cons_succ,hp,hx,hs,hy,q1,q2,q3,y54,y64,y134,y130,y136,y46,y65,y56,kk4,kk0,kk6,fr1 hfr]
 exact .mk (⟨y.2,acc++[y.1],.own (n1+13) 12,_,n1+16⟩,[]) (by simp only[List.map_append,List.map_cons,List.map_nil]) hN (by simp only[];omega)
theorem z7 (hf:Ab H n) (hn:5≤n) (h0:hget H 0=some (bxZ sb)) (h1:hget H 1=some (.box zD)) (h2:hget H 2=some (.box zP)) (h4:hget H 4=some (.box [.str d.nm,.int .i64 d.ver,.int .i64 d.sh,.int .i64 d.w,.int .i64 d.h,eIs d.holes,eSys d.syms,v1,.sl .nil [],.sl .nil []])) (w1:Wk v1 (eRgs d.regs)):
  kont Tryz.prog (Tzy L e) (QZ (.tup [encD (zf7 d sb).1,pvZ (zf7 d sb).2])) [.c (sndN 7 c25)] .normal ⟨eZ X,H,n⟩:=by
 have hl':L.length<1000000000:=hl
 rw[AL]
 simp only[eE,c25,sndN,sndA]
 refine AW (fun v:VZ L e DClu×List (Nat×Bool×AVal)=>⟨eZ v.2,v.1.H,v.1.n⟩)
  (fun v=>IY (zis 1 CK) zclu 6 BI (fun l=>[.str d.nm,.int .i64 d.ver,.int .i64 d.sh,.int .i64 d.w,.int .i64 d.h,eIs d.holes,eSys d.syms,v1,l,.sl .nil []]) sb H v.1) (fun v=>L.length-v.1.s.n)
  (⟨sb,[],.nil,H,n⟩,X) rfl ⟨rfl,rfl,Nat.zero_le _,hf,h0,h4,rfl,rfl,.inl rfl,hn,.inr rfl⟩ ?_
 rintro⟨⟨sa,acc,tk,H1,n1⟩,X1⟩ hI
 have hI2:=hI
 obtain⟨e1,e2,hlen,hfr,hp,hx,hk1,hk2,htk,hn1,hes⟩:=hI2
 simp only at e1 e2 hlen hfr hp hx hk1 hk2 htk hn1 hes
 rw[h1]at hk1
 rw[h2]at hk2
 have hi:Zi (zis (L:=L) (e:=e) 1 CK) zclu:=G8 Qo
 have hle:=sa.le
 by_cases hs:zis 1 CK sa=true
 case neg=>
  have hs':zis 1 CK sa=false:=by simpa using hs
  rw[Cp hs]at e1 e2
  rw[List.append_nil]at e1
  have ez:zf7 d sb=zf8 {d with clus:=(BE (zis 1 CK) zclu sb).1} (BE (zis 1 CK) zclu sb).2:=rfl
  rw[ez,e1,e2]
  simp only[eE,Nat.reduceEqDiff,↓reduceIte,Nat.reduceAdd,hp,hs',s2,Aj,AY,AV,AH,HP]
  rw[AL]
  simp only[eE,eC,Nat.reduceEqDiff,↓reduceIte]
  exact z8 hl (d:={d with clus:=acc}) hfr hn1 hp hk1 hk2 hx w1 (Wk.sl (hes.imp id fun q=>by rw[q];rfl))
 have h2':=hi sa hs
 have h3:=(zclu sa).2.le
 generalize hy:zclu sa=y at h2' h3
 have hta:tkG 6 5 (hset H1 (n1+5) (.box [.str [],.str [],.int .i64 0,.int .i64 0,.int .i64 0,.int .i64 0])) tk:=htk.set (.inr (.inr (hfr _ (by omega))))
 have htb:tkG 6 5 (hset (hset H1 (n1+5) (.box [.str [],.str [],.int .i64 0,.int .i64 0,.int .i64 0,.int .i64 0])) (n1+6) (.box zP)) tk:=hta.set (.inr (.inr (by rw[AC _ _ _ _ (by omega)];exact hfr _ (by omega))))
 have htc:tkG 6 5 (hset (hset (hset H1 (n1+5) (.box [.str [],.str [],.int .i64 0,.int .i64 0,.int .i64 0,.int .i64 0])) (n1+6) (.box zP)) (n1+5) (.box [.str y.1.nm,.str y.1.on,.int .i64 y.1.fam,.int .i64 y.1.ty,.int .i64 y.1.lo,.int .i64 y.1.hi])) tk:=htb.set (.inr (.inl ⟨_,by rw[AC _ _ _ _ (by omega)];exact AB ..⟩))
 have ht2:tkG 6 5 (hset (hset (hset (hset H1 (n1+5) (.box [.str [],.str [],.int .i64 0,.int .i64 0,.int .i64 0,.int .i64 0])) (n1+6) (.box zP)) (n1+5) (.box [.str y.1.nm,.str y.1.on,.int .i64 y.1.fam,.int .i64 y.1.ty,.int .i64 y.1.lo,.int .i64 y.1.hi])) (n1+6) (bxZ y.2)) tk:=htc.set (.inr (.inl ⟨_,by rw[AC _ _ _ _ (by omega)];exact AB ..⟩))
 have hf2:Ab (hset (hset (hset (hset H1 (n1+5) (.box [.str [],.str [],.int .i64 0,.int .i64 0,.int .i64 0,.int .i64 0])) (n1+6) (.box zP)) (n1+5) (.box [.str y.1.nm,.str y.1.on,.int .i64 y.1.fam,.int .i64 y.1.ty,.int .i64 y.1.lo,.int .i64 y.1.hi])) (n1+6) (bxZ y.2)) (n1+13):=(((hfr.hset (m:=n1+13) (by omega) (by omega)).hset (Nat.le_refl _) (by omega)).hset (Nat.le_refl _) (by omega)).hset (Nat.le_refl _) (by omega)
 have hlow:∀id,id<5→hget (hset (hset (hset (hset H1 (n1+5) (.box [.str [],.str [],.int .i64 0,.int .i64 0,.int .i64 0,.int .i64 0])) (n1+6) (.box zP)) (n1+5) (.box [.str y.1.nm,.str y.1.on,.int .i64 y.1.fam,.int .i64 y.1.ty,.int .i64 y.1.lo,.int .i64 y.1.hi])) (n1+6) (bxZ y.2)) id=hget H1 id:=fun id hid=>by
  rw[AC _ _ _ _ (by omega),AC _ _ _ _ (by omega),AC _ _ _ _ (by omega),AC _ _ _ _ (by omega)]
 have hN:=hI.next (m:=n1+13) (n3:=n1+16) hi hs hlow ht2 hf2 (by omega) (by omega)
 rw[hy]at hN
 have kk4:hget (AK (hset (hset (hset (hset H1 (n1+5) (.box [.str [],.str [],.int .i64 0,.int .i64 0,.int .i64 0,.int .i64 0])) (n1+6) (.box zP)) (n1+5) (.box [.str y.1.nm,.str y.1.on,.int .i64 y.1.fam,.int .i64 y.1.ty,.int .i64 y.1.lo,.int .i64 y.1.hi])) (n1+6) (bxZ y.2)) tk) 4=hget H1 4:=by rw[Aa ht2 (.inl (by decide)),hlow 4 (by decide)]
 have kk0:hget (AK (hset (hset (hset (hset H1 (n1+5) (.box [.str [],.str [],.int .i64 0,.int .i64 0,.int .i64 0,.int .i64 0])) (n1+6) (.box zP)) (n1+5) (.box [.str y.1.nm,.str y.1.on,.int .i64 y.1.fam,.int .i64 y.1.ty,.int .i64 y.1.lo,.int .i64 y.1.hi])) (n1+6) (bxZ y.2)) tk) 0=hget H1 0:=by rw[Aa ht2 (.inl (by decide)),hlow 0 (by decide)]
 have kk6:hget (AK (hset (hset (hset (hset H1 (n1+5) (.box [.str [],.str [],.int .i64 0,.int .i64 0,.int .i64 0,.int .i64 0])) (n1+6) (.box zP)) (n1+5) (.box [.str y.1.nm,.str y.1.on,.int .i64 y.1.fam,.int .i64 y.1.ty,.int .i64 y.1.lo,.int .i64 y.1.hi])) (n1+6) (bxZ y.2)) tk) (n1+6)=some (bxZ y.2):=by
  rw[Aa ht2 (.inr ⟨_,AB ..⟩)];exact AB ..
 have q1:CF (hset (hset (hset (hset H1 (n1+5) (.box [.str [],.str [],.int .i64 0,.int .i64 0,.int .i64 0,.int .i64 0])) (n1+6) (.box zP)) (n1+5) (.box [.str y.1.nm,.str y.1.on,.int .i64 y.1.fam,.int .i64 y.1.ty,.int .i64 y.1.lo,.int .i64 y.1.hi])) (n1+6) (bxZ y.2)) 6 tk=True:=eq_true ht2.app
 have q2:(acc.length≤35184372088831)=True:=eq_true (by omega)
 have q3:Ao (acc.length+1) 64=True:=eq_true (Ar (by omega) (by decide))
 have y54:(n1+5=4)=False:=eq_false (by omega)
 have y64:(n1+6=4)=False:=eq_false (by omega)
 have y134:(n1+13=4)=False:=eq_false (by omega)
 have y130:(n1+13=0)=False:=eq_false (by omega)
 have y136:(n1+13=n1+6)=False:=eq_false (by omega)
 have y46:(4=n1+6)=False:=eq_false (by omega)
 have y65:(n1+6=n1+5)=False:=eq_false (by omega)
 have y56:(n1+5=n1+6)=False:=eq_false (by omega)
 simp only[eE,eC,eN,reduceCtorEq,Nat.reduceEqDiff,↓reduceIte,Nat.reduceAdd,Nat.reduceLeDiff,Nat.reduceMul,Nat.reduceLT,Tzy_cl,HP,s1,s2,Aj,AY,AV,AH,Option.getD_some,List.length_map,List.getElem?_cons_zero,List.getElem?_cons_succ,hp,hx,hs,hy,q1,q2,q3,y54,y64,y134,y130,y136,y46,y65,y56,kk4,kk0,kk6,fr1 hfr]
 exact .mk (⟨y.2,acc++[y.1],.own (n1+13) 6,_,n1+16⟩,[]) (by simp only[List.map_append,List.map_cons,List.map_nil]) hN (by simp only[];omega)
theorem z6 (hf:Ab H n) (hn:5≤n) (h0:hget H 0=some (bxZ sb)) (h1:hget H 1=some (.box zD)) (h2:hget H 2=some (.box zP)) (h4:hget H 4=some (.box [.str d.nm,.int .i64 d.ver,.int .i64 d.sh,.int .i64 d.w,.int .i64 d.h,eIs d.holes,eSys d.syms,.sl .nil [],.sl .nil [],.sl .nil []])):
  kont Tryz.prog (Tzy L e) (QZ (.tup [encD (zf6 d sb).1,pvZ (zf6 d sb).2])) [.c (sndN 6 c25)] .normal ⟨eZ X,H,n⟩:=by
 have hl':L.length<1000000000:=hl
 rw[AL]
 simp only[eE,c25,sndN,sndA]
 refine AW (fun v:VZ L e DReg×List (Nat×Bool×AVal)=>⟨eZ v.2,v.1.H,v.1.n⟩)
  (fun v=>IY (zis 1 Bl) zreg 2 DF (fun l=>[.str d.nm,.int .i64 d.ver,.int .i64 d.sh,.int .i64 d.w,.int .i64 d.h,eIs d.holes,eSys d.syms,l,.sl .nil [],.sl .nil []]) sb H v.1) (fun v=>L.length-v.1.s.n)
  (⟨sb,[],.nil,H,n⟩,X) rfl ⟨rfl,rfl,Nat.zero_le _,hf,h0,h4,rfl,rfl,.inl rfl,hn,.inr rfl⟩ ?_
 rintro⟨⟨sa,acc,tk,H1,n1⟩,X1⟩ hI
 have hI2:=hI
 obtain⟨e1,e2,hlen,hfr,hp,hx,hk1,hk2,htk,hn1,hes⟩:=hI2
 simp only at e1 e2 hlen hfr hp hx hk1 hk2 htk hn1 hes
 rw[h1]at hk1
 rw[h2]at hk2
 have hi:Zi (zis (L:=L) (e:=e) 1 Bl) zreg:=G8 Qn
 have hle:=sa.le
 by_cases hs:zis 1 Bl sa=true
 case neg=>
  have hs':zis 1 Bl sa=false:=by simpa using hs
  rw[Cp hs]at e1 e2
  rw[List.append_nil]at e1
  have ez:zf6 d sb=zf7 {d with regs:=(BE (zis 1 Bl) zreg sb).1} (BE (zis 1 Bl) zreg sb).2:=rfl
  rw[ez,e1,e2]
  simp only[eE,Nat.reduceEqDiff,↓reduceIte,Nat.reduceAdd,hp,hs',s2,Aj,AY,AV,AH,HP]
  rw[AL]
  simp only[eE,eC,Nat.reduceEqDiff,↓reduceIte]
  exact z7 hl (d:={d with regs:=acc}) hfr hn1 hp hk1 hk2 hx (Wk.sl (hes.imp id fun q=>by rw[q];rfl))
 have h2':=hi sa hs
 have h3:=(zreg sa).2.le
 generalize hy:zreg sa=y at h2' h3
 have hta:tkG 2 5 (hset H1 (n1+5) (.box [.str [],.sl .nil []])) tk:=htk.set (.inr (.inr (hfr _ (by omega))))
 have htb:tkG 2 5 (hset (hset H1 (n1+5) (.box [.str [],.sl .nil []])) (n1+6) (.box zP)) tk:=hta.set (.inr (.inr (by rw[AC _ _ _ _ (by omega)];exact hfr _ (by omega))))
 have htc:tkG 2 5 (hset (hset (hset H1 (n1+5) (.box [.str [],.sl .nil []])) (n1+6) (.box zP)) (n1+5) (.box [.str y.1.nm,eLl y.1.ls])) tk:=htb.set (.inr (.inl ⟨_,by rw[AC _ _ _ _ (by omega)];exact AB ..⟩))
 have ht2:tkG 2 5 (hset (hset (hset (hset H1 (n1+5) (.box [.str [],.sl .nil []])) (n1+6) (.box zP)) (n1+5) (.box [.str y.1.nm,eLl y.1.ls])) (n1+6) (bxZ y.2)) tk:=htc.set (.inr (.inl ⟨_,by rw[AC _ _ _ _ (by omega)];exact AB ..⟩))
 have hf2:Ab (hset (hset (hset (hset H1 (n1+5) (.box [.str [],.sl .nil []])) (n1+6) (.box zP)) (n1+5) (.box [.str y.1.nm,eLl y.1.ls])) (n1+6) (bxZ y.2)) (n1+13):=(((hfr.hset (m:=n1+13) (by omega) (by omega)).hset (Nat.le_refl _) (by omega)).hset (Nat.le_refl _) (by omega)).hset (Nat.le_refl _) (by omega)
 have hlow:∀id,id<5→hget (hset (hset (hset (hset H1 (n1+5) (.box [.str [],.sl .nil []])) (n1+6) (.box zP)) (n1+5) (.box [.str y.1.nm,eLl y.1.ls])) (n1+6) (bxZ y.2)) id=hget H1 id:=fun id hid=>by
  rw[AC _ _ _ _ (by omega),AC _ _ _ _ (by omega),AC _ _ _ _ (by omega),AC _ _ _ _ (by omega)]
 have hN:=hI.next (m:=n1+13) (n3:=n1+16) hi hs hlow ht2 hf2 (by omega) (by omega)
 rw[hy]at hN
 have kk4:hget (AK (hset (hset (hset (hset H1 (n1+5) (.box [.str [],.sl .nil []])) (n1+6) (.box zP)) (n1+5) (.box [.str y.1.nm,eLl y.1.ls])) (n1+6) (bxZ y.2)) tk) 4=hget H1 4:=by rw[Aa ht2 (.inl (by decide)),hlow 4 (by decide)]
 have kk0:hget (AK (hset (hset (hset (hset H1 (n1+5) (.box [.str [],.sl .nil []])) (n1+6) (.box zP)) (n1+5) (.box [.str y.1.nm,eLl y.1.ls])) (n1+6) (bxZ y.2)) tk) 0=hget H1 0:=by rw[Aa ht2 (.inl (by decide)),hlow 0 (by decide)]
 have kk6:hget (AK (hset (hset (hset (hset H1 (n1+5) (.box [.str [],.sl .nil []])) (n1+6) (.box zP)) (n1+5) (.box [.str y.1.nm,eLl y.1.ls])) (n1+6) (bxZ y.2)) tk) (n1+6)=some (bxZ y.2):=by
  rw[Aa ht2 (.inr ⟨_,AB ..⟩)];exact AB ..
 have q1:CF (hset (hset (hset (hset H1 (n1+5) (.box [.str [],.sl .nil []])) (n1+6) (.box zP)) (n1+5) (.box [.str y.1.nm,eLl y.1.ls])) (n1+6) (bxZ y.2)) 2 tk=True:=eq_true ht2.app
 have q2:(acc.length≤35184372088831)=True:=eq_true (by omega)
 have q3:Ao (acc.length+1) 40=True:=eq_true (Ar (by omega) (by decide))
 have y54:(n1+5=4)=False:=eq_false (by omega)
 have y64:(n1+6=4)=False:=eq_false (by omega)
 have y134:(n1+13=4)=False:=eq_false (by omega)
 have y130:(n1+13=0)=False:=eq_false (by omega)
 have y136:(n1+13=n1+6)=False:=eq_false (by omega)
 have y46:(4=n1+6)=False:=eq_false (by omega)
 have y65:(n1+6=n1+5)=False:=eq_false (by omega)
 have y56:(n1+5=n1+6)=False:=eq_false (by omega)
 simp only[eE,eC,eN,reduceCtorEq,Nat.reduceEqDiff,↓reduceIte,Nat.reduceAdd,Nat.reduceLeDiff,Nat.reduceMul,Nat.reduceLT,Tzy_rg,HP,s1,s2,Aj,AY,AV,AH,Option.getD_some,List.length_map,List.getElem?_cons_zero,List.getElem?_cons_succ,hp,hx,hs,hy,q1,q2,q3,y54,y64,y134,y130,y136,y46,y65,y56,kk4,kk0,kk6,fr1 hfr]
 exact .mk (⟨y.2,acc++[y.1],.own (n1+13) 2,_,n1+16⟩,[]) (by simp only[List.map_append,List.map_cons,List.map_nil]) hN (by simp only[];omega)
theorem p25 (s:ZS L e):Pur Tryz.prog 25 [pvZ s] (.tup [encD (FU s).1,pvZ (FU s).2]):=by
 refine .mk ⟨AQ 0 s,trivial⟩ ⟨Ai 0 _,AQ 0 _,trivial⟩ (a25 (AF (Tzy_ok (L:=L) (e:=e) hl) (AE ?_)))
 simp only[eE,reduceCtorEq,Nat.reduceEqDiff,↓reduceIte,Nat.reduceAdd,c25]
 iterate 5 (rw[AL];simp only[eE,reduceCtorEq,Nat.reduceEqDiff,↓reduceIte,Nat.reduceAdd,Nat.reduceLeDiff,Nat.reduceLT,s1,s2,Aj,AY,AV,AH,dG0_ok,Rp,AT,List.getElem?_cons_zero,List.getElem?_cons_succ,Option.getD_some,Tzy_gd,Tzy_ss,Tzy_w,Rr,Tzy_nm,Tzy_nb])
 generalize hD:Ex (dG ((Ap (zw 1 EA s).2).1,(znum (zw 1 EW (Ap (zw 1 EA s).2).2).2).1)) (zw 3 [123] (znum (zw 1 EW (Ap (zw 1 EA s).2).2).2).2).2=G
 have ez:FU s=zf6 {G.1 with syms:=(Ft G.2).1} (Ft G.2).2:=by subst hD;rfl
 rw[ez]
 refine z6 hl (X:=[]) (d:={G.1 with syms:=(Ft G.2).1}) ?_ ?_ ?_ ?_ ?_ ?_
 ·intro id hid
  simp only[AA]
  repeat rw[if_neg (by omega)]
  rfl
 ·decide
 ·exact AB ..
 ·simp only[AA];rfl
 ·simp only[AA];rfl
 ·rw[AC _ _ _ _ (by decide)];exact AB ..
end
end Go.AM
end
section
set_option maxRecDepth 20000
set_option linter.all false
namespace Go.AM
open Go.Proofs Go.Lib
def zs0 (L:List Tkn) (e:Int):ZS L e:=⟨0,false,Nat.zero_le _⟩
def Tzp (L:List Tkn) (e:Int):Tab:=tadd 24 (s1 dS (fun x=>x.length<1000000000) fun x=>lexV x) (tadd 25 (s1 (dZ L e) (fun _=>True) fun s=>.tup [encD (FU s).1,pvZ (FU s).2]) tnil)
theorem Tzp_l {L:List Tkn} {e:Int} (a:List AVal) (H:AD):Tzp L e 24 a H=s1 dS (fun x=>x.length<1000000000) (fun x=>lexV x) a H:=rfl
theorem Tzp_r {L:List Tkn} {e:Int} (a:List AVal) (H:AD):Tzp L e 25 a H=s1 (dZ L e) (fun _=>True) (fun s=>.tup [encD (FU s).1,pvZ (FU s).2]) a H:=rfl
end Go.AM
end
section
set_option maxRecDepth 20000
set_option linter.all false
namespace Go.AM
open Go.Proofs Go.Lib
abbrev eTk (l:List Tkn):AVal:=.sl (.none 4) (l.map encK)
theorem Ay (n:Nat) (l:List Tkn):(eTk l).under n:=⟨trivial,Bu n l⟩
theorem wkT {a b:List Tkn} {t:Tok} (ht:t.esz=4) (h:a=b):Wk (.sl t (a.map encK)) (eTk b):=h▸Wk.sl (.inl ht)
theorem p80 (w:List Tkn) (x:Bs) (hw:w.length+1≤900000000):Pur Tryz.prog 80 [eTk w,.str x] (eTk (w++[kI x])):=by
 refine .mk ⟨Ay 0 w,trivial,trivial⟩ (Ay 0 _) (a80 (AF AI.tnil (AE ?_)))
 have q1:(w.length≤35184372088831)=True:=eq_true (by omega)
 have q2:(w.length≤35184372088832)=True:=eq_true (by omega)
 have q3:Ao (w.length+1) 40=True:=eq_true (Ar (by omega) (by decide))
 have q4:Ao w.length 40=True:=eq_true (Ar (by omega) (by decide))
 simp only[eE,eN,reduceCtorEq,Nat.reduceEqDiff,↓reduceIte,Nat.reduceAdd,Nat.reduceLeDiff,Nat.reduceMul,Nat.reduceLT,List.length_map,c80,q1,q2,q3,q4]
 refine(congrArg (fun z=>Wk (.sl (.own 6 4) z) _) ?_).mpr (wkT (a:=w++[kI x]) rfl rfl)
 simp
theorem p81 (w:List Tkn) (x:Bs) (hw:w.length+1≤900000000):Pur Tryz.prog 81 [eTk w,.str x] (eTk (w++[kS x])):=by
 refine .mk ⟨Ay 0 w,trivial,trivial⟩ (Ay 0 _) (a81 (AF AI.tnil (AE ?_)))
 have q1:(w.length≤35184372088831)=True:=eq_true (by omega)
 have q2:(w.length≤35184372088832)=True:=eq_true (by omega)
 have q3:Ao (w.length+1) 40=True:=eq_true (Ar (by omega) (by decide))
 have q4:Ao w.length 40=True:=eq_true (Ar (by omega) (by decide))
 simp only[eE,eN,reduceCtorEq,Nat.reduceEqDiff,↓reduceIte,Nat.reduceAdd,Nat.reduceLeDiff,Nat.reduceMul,Nat.reduceLT,List.length_map,c81,q1,q2,q3,q4]
 refine(congrArg (fun z=>Wk (.sl (.own 6 4) z) _) ?_).mpr (wkT (a:=w++[kS x]) rfl rfl)
 simp
theorem p82 (w:List Tkn) (x:Int) (hw:w.length+1≤900000000):Pur Tryz.prog 82 [eTk w,.int .i64 x] (eTk (w++[kN x])):=by
 refine .mk ⟨Ay 0 w,trivial,trivial⟩ (Ay 0 _) (a82 (AF AI.tnil (AE ?_)))
 have q1:(w.length≤35184372088831)=True:=eq_true (by omega)
 have q2:(w.length≤35184372088832)=True:=eq_true (by omega)
 have q3:Ao (w.length+1) 40=True:=eq_true (Ar (by omega) (by decide))
 have q4:Ao w.length 40=True:=eq_true (Ar (by omega) (by decide))
 simp only[eE,eN,reduceCtorEq,Nat.reduceEqDiff,↓reduceIte,Nat.reduceAdd,Nat.reduceLeDiff,Nat.reduceMul,Nat.reduceLT,List.length_map,c82,q1,q2,q3,q4]
 refine(congrArg (fun z=>Wk (.sl (.own 6 4) z) _) ?_).mpr (wkT (a:=w++[kN x]) rfl rfl)
 simp
def Tpa:Tab:=tadd 80 (s2 dKs dS (fun w _=>w.length+1≤900000000) (fun w x=>eTk (w++[kI x]))) (tadd 81 (s2 dKs dS (fun w _=>w.length+1≤900000000) (fun w x=>eTk (w++[kS x]))) (tadd 82 (s2 dKs dI (fun w _=>w.length+1≤900000000) (fun w x=>eTk (w++[kN x]))) (tnil)))
theorem M8:AI Tryz.prog Tpa:=(((AI.tnil.add (q2 fun a b h=>p82 a b h)).add (q2 fun a b h=>p81 a b h)).add (q2 fun a b h=>p80 a b h))
theorem Kz (a:List AVal) (H:AD):Tpa 80 a H=s2 dKs dS (fun w _=>w.length+1≤900000000) (fun w x=>eTk (w++[kI x])) a H:=rfl
theorem F3 (a:List AVal) (H:AD):Tpa 81 a H=s2 dKs dS (fun w _=>w.length+1≤900000000) (fun w x=>eTk (w++[kS x])) a H:=rfl
theorem HQ (a:List AVal) (H:AD):Tpa 82 a H=s2 dKs dI (fun w _=>w.length+1≤900000000) (fun w x=>eTk (w++[kN x])) a H:=rfl
theorem p83 (w:List Tkn) (l:List Int) (hw:w.length+(comT oneN l).length≤900000000):Pur Tryz.prog 83 [eTk w,eIs l] (eTk (w++comT oneN l)):=by
 refine .mk ⟨Ay 0 w,Bn 0 l,trivial⟩ (Ay 0 _) (a83 (AF M8 (AE ?_)))
 have hll:l.length≤(comT oneN l).length:=Dg (fun _=>Nat.le_refl _) l
 simp only[eE,eN,reduceCtorEq,Nat.reduceEqDiff,↓reduceIte,Nat.reduceAdd,c83]
 refine AW (fun i:Nat=>⟨[(0,true,eTk (w++comT oneN (l.take i))),(1,true,eIs l),(5,true,.int .i64 i)],hnil,0⟩) (fun i=>i≤l.length) (fun i=>l.length-i) 0 (by simp [comT]) (Nat.zero_le _) ?_
 intro i hi
 by_cases hlt:i<l.length
 case neg=>
  have:i=l.length:=by omega
  subst this
  rw[List.take_length]
  simp only[eE,eC,eN,reduceCtorEq,Nat.reduceEqDiff,↓reduceIte,List.length_map,lt_F hlt]
  exact Wk.refl _
 have hg:=List.getElem?_eq_getElem hlt
 have e:=AO (k:=i) (by omega)
 have eQ:=Df oneN hlt
 have eP:=G7 oneN (l:=l) (i+1)
 rw[eQ]at eP
 simp only[List.length_append]at eP
 have e1:(oneN l[i]).length=1:=rfl
 by_cases hi0:i=0
 ·have j0:((0:Int)<(i:Int))=False:=eq_false (by omega)
  rw[if_pos hi0]at eQ eP
  have q1:((w++comT oneN (l.take i)).length+1≤900000000)=True:=eq_true (by simp only[List.length_append,List.length_cons,List.length_nil]at eP⊢;omega)
  simp only[eE,eC,eN,reduceCtorEq,Nat.reduceEqDiff,↓reduceIte,Int.reduceEq,s2,By,A9,Ae,AX,Option.getD_some,Int.toNat_natCast,Int.natCast_nonneg,List.length_map,List.getElem?_map,lt_T hlt,hg,e,j0,HQ,q1]
  exact .mk (i+1) (by rw[eQ];simp) hlt (by omega)
 ·have j0:((0:Int)<(i:Int))=True:=eq_true (by omega)
  rw[if_neg hi0]at eQ eP
  have q1:((w++comT oneN (l.take i)).length+1≤900000000)=True:=eq_true (by simp only[List.length_append,List.length_cons,List.length_nil]at eP⊢;omega)
  have q2:(((w++comT oneN (l.take i))++[kS [44]]).length+1≤900000000)=True:=eq_true (by simp only[List.length_append,List.length_cons,List.length_nil]at eP⊢;omega)
  simp only[eE,eC,eN,reduceCtorEq,Nat.reduceEqDiff,↓reduceIte,Int.reduceEq,s2,AV,AH,By,A9,Ae,AX,Option.getD_some,Int.toNat_natCast,Int.natCast_nonneg,List.length_map,List.getElem?_map,lt_T hlt,hg,e,j0,F3,HQ,q1,q2]
  exact .mk (i+1) (by rw[eQ];simp) hlt (by omega)
theorem p117 (w:List Tkn) (l:List Bs) (hw:w.length+(setT l).length≤900000000):Pur Tryz.prog 117 [eTk w,eSs l] (eTk (w++setT l)):=by
 refine .mk ⟨Ay 0 w,Bo 0 l,trivial⟩ (Ay 0 _) (a117 (AF M8 (AE ?_)))
 have hll:l.length≤(comT oneI l).length:=Dg (fun _=>Nat.le_refl _) l
 have hS:(setT l).length=(comT oneI l).length+2:=by simp [setT]
 have p1:(w.length+1≤900000000)=True:=eq_true (by omega)
 simp only[eE,eN,reduceCtorEq,Nat.reduceEqDiff,↓reduceIte,Nat.reduceAdd,s2,AV,AH,Ae,AX,c117,F3,p1]
 refine AW (fun i:Nat=>⟨[(0,true,eTk ((w++[kS [123]])++comT oneI (l.take i))),(1,true,eSs l),(5,true,.int .i64 i)],hnil,0⟩) (fun i=>i≤l.length) (fun i=>l.length-i) 0 (by simp [comT]) (Nat.zero_le _) ?_
 intro i hi
 by_cases hlt:i<l.length
 case neg=>
  have:i=l.length:=by omega
  subst this
  rw[List.take_length]
  have q9:(((w++[kS [123]])++comT oneI l).length+1≤900000000)=True:=eq_true (by simp only[List.length_append,List.length_cons,List.length_nil];omega)
  simp only[eE,eC,eN,reduceCtorEq,Nat.reduceEqDiff,↓reduceIte,s2,AV,AH,Ae,AX,List.length_map,lt_F hlt,F3,q9]
  exact wkT rfl (by simp [setT])
 have hg:=List.getElem?_eq_getElem hlt
 have e:=AO (k:=i) (by omega)
 have eQ:=Df oneI hlt
 have eP:=G7 oneI (l:=l) (i+1)
 rw[eQ]at eP
 simp only[List.length_append]at eP
 have e1:(oneI l[i]).length=1:=rfl
 by_cases hi0:i=0
 ·have j0:((0:Int)<(i:Int))=False:=eq_false (by omega)
  rw[if_pos hi0]at eQ eP
  have q1:(((w++[kS [123]])++comT oneI (l.take i)).length+1≤900000000)=True:=eq_true (by simp only[List.length_append,List.length_cons,List.length_nil]at eP⊢;omega)
  simp only[eE,eC,eN,reduceCtorEq,Nat.reduceEqDiff,↓reduceIte,Int.reduceEq,s2,AV,AH,Ae,AX,Option.getD_some,Int.toNat_natCast,Int.natCast_nonneg,List.length_map,List.getElem?_map,lt_T hlt,hg,e,j0,Kz,q1]
  exact .mk (i+1) (by rw[eQ];simp) hlt (by omega)
 ·have j0:((0:Int)<(i:Int))=True:=eq_true (by omega)
  rw[if_neg hi0]at eQ eP
  have q1:(((w++[kS [123]])++comT oneI (l.take i)).length+1≤900000000)=True:=eq_true (by simp only[List.length_append,List.length_cons,List.length_nil]at eP⊢;omega)
  have q2:((((w++[kS [123]])++comT oneI (l.take i))++[kS [44]]).length+1≤900000000)=True:=eq_true (by simp only[List.length_append,List.length_cons,List.length_nil]at eP⊢;omega)
  simp only[eE,eC,eN,reduceCtorEq,Nat.reduceEqDiff,↓reduceIte,Int.reduceEq,s2,AV,AH,Ae,AX,Option.getD_some,Int.toNat_natCast,Int.natCast_nonneg,List.length_map,List.getElem?_map,lt_T hlt,hg,e,j0,Kz,F3,q1,q2]
  exact .mk (i+1) (by rw[eQ];simp) hlt (by omega)
def Tpb:Tab:=tadd 83 (s2 dKs dIs (fun w l=>w.length+(comT oneN l).length≤900000000) (fun w l=>eTk (w++comT oneN l))) (tadd 117 (s2 dKs dSs (fun w l=>w.length+(setT l).length≤900000000) (fun w l=>eTk (w++setT l))) (Tpa))
theorem Q3:AI Tryz.prog Tpb:=((M8.add (q2 fun a b h=>p117 a b h)).add (q2 fun a b h=>p83 a b h))
theorem EJ (a:List AVal) (H:AD):Tpb 80 a H=s2 dKs dS (fun w _=>w.length+1≤900000000) (fun w x=>eTk (w++[kI x])) a H:=rfl
theorem FV (a:List AVal) (H:AD):Tpb 82 a H=s2 dKs dI (fun w _=>w.length+1≤900000000) (fun w x=>eTk (w++[kN x])) a H:=rfl
theorem p116 (w:List Tkn) (x:DRul) (hw:w.length+(bndT opF x.op x.n x.byN).length≤900000000):Pur Tryz.prog 116 [eTk w,Am x] (eTk (w++bndT opF x.op x.n x.byN)):=by
 refine .mk ⟨Ay 0 w,Ah 0 x,trivial⟩ (Ay 0 _) (a116 (AF Q3 (AE ?_)))
 have hlen:(bndT opF x.op x.n x.byN).length=2:=by unfold bndT limT;split<;>rfl
 rw[hlen]at hw
 have hop:(x.op=1∧opF x.op=wIs)∨(x.op≠1∧x.op=2∧opF x.op=Es)∨(x.op≠1∧x.op≠2∧opF x.op=Ed):=by
  unfold opF
  by_cases h1:x.op=1
  ·exact .inl ⟨h1,if_pos h1⟩
  ·by_cases h2:x.op=2
   ·exact .inr (.inl ⟨h1,h2,by rw[if_neg h1,if_pos h2]⟩)
   ·exact .inr (.inr ⟨h1,h2,by rw[if_neg h1,if_neg h2]⟩)
 by_cases hb:x.byN=[]
 ·have hsc:scmp .neq x.byN []=false:=by rw[hb];rfl
  have hli:limT x.n x.byN=[kN x.n]:=by unfold limT;rw[if_pos hb]
  rcases hop with⟨h1,ho⟩|⟨h1,h2,ho⟩|⟨h1,h2,ho⟩
  ·have z1:=eq_true h1
   simp only[eE,eC,eN,reduceCtorEq,Nat.reduceEqDiff,↓reduceIte,Nat.reduceAdd,Nat.reduceLeDiff,s2,AV,AH,By,A9,Ae,AX,c116,EJ,FV,hsc,z1]
   (repeat' apply And.intro)<;>first|(exact wkT rfl (by simp [bndT,ho,hli]))|omega|(simp only[List.length_append,List.length_cons,List.length_nil];omega)
  ·have z1:=eq_false h1
   have z2:=eq_true h2
   simp only[eE,eC,eN,reduceCtorEq,Nat.reduceEqDiff,↓reduceIte,Nat.reduceAdd,Nat.reduceLeDiff,s2,AV,AH,By,A9,Ae,AX,c116,EJ,FV,hsc,z1,z2]
   (repeat' apply And.intro)<;>first|(exact wkT rfl (by simp [bndT,ho,hli]))|omega|(simp only[List.length_append,List.length_cons,List.length_nil];omega)
  ·have z1:=eq_false h1
   have z2:=eq_false h2
   simp only[eE,eC,eN,reduceCtorEq,Nat.reduceEqDiff,↓reduceIte,Nat.reduceAdd,Nat.reduceLeDiff,s2,AV,AH,By,A9,Ae,AX,c116,EJ,FV,hsc,z1,z2]
   (repeat' apply And.intro)<;>first|(exact wkT rfl (by simp [bndT,ho,hli]))|omega|(simp only[List.length_append,List.length_cons,List.length_nil];omega)
 ·have hsc:scmp .neq x.byN []=true:=by cases hq:x.byN with|nil=>exact absurd hq hb|cons a r=>rfl
  have hli:limT x.n x.byN=[kI x.byN]:=by unfold limT;rw[if_neg hb]
  rcases hop with⟨h1,ho⟩|⟨h1,h2,ho⟩|⟨h1,h2,ho⟩
  ·have z1:=eq_true h1
   simp only[eE,eC,eN,reduceCtorEq,Nat.reduceEqDiff,↓reduceIte,Nat.reduceAdd,Nat.reduceLeDiff,s2,AV,AH,Ae,AX,c116,EJ,hsc,z1]
   (repeat' apply And.intro)<;>first|(exact wkT rfl (by simp [bndT,ho,hli]))|omega|(simp only[List.length_append,List.length_cons,List.length_nil];omega)
  ·have z1:=eq_false h1
   have z2:=eq_true h2
   simp only[eE,eC,eN,reduceCtorEq,Nat.reduceEqDiff,↓reduceIte,Nat.reduceAdd,Nat.reduceLeDiff,s2,AV,AH,Ae,AX,c116,EJ,hsc,z1,z2]
   (repeat' apply And.intro)<;>first|(exact wkT rfl (by simp [bndT,ho,hli]))|omega|(simp only[List.length_append,List.length_cons,List.length_nil];omega)
  ·have z1:=eq_false h1
   have z2:=eq_false h2
   simp only[eE,eC,eN,reduceCtorEq,Nat.reduceEqDiff,↓reduceIte,Nat.reduceAdd,Nat.reduceLeDiff,s2,AV,AH,Ae,AX,c116,EJ,hsc,z1,z2]
   (repeat' apply And.intro)<;>first|(exact wkT rfl (by simp [bndT,ho,hli]))|omega|(simp only[List.length_append,List.length_cons,List.length_nil];omega)
end Go.AM
end
section
set_option maxRecDepth 20000
set_option linter.all false
namespace Go.AM
open Go.Proofs Go.Lib
def Tpc:Tab:=tadd 116 (s2 dKs dRu (fun w x=>w.length+(bndT opF x.op x.n x.byN).length≤900000000) (fun w x=>eTk (w++bndT opF x.op x.n x.byN))) (Tpb)
theorem M9:AI Tryz.prog Tpc:=(Q3.add (q2 fun a b h=>p116 a b h))
theorem E2 (a:List AVal) (H:AD):Tpc 116 a H=s2 dKs dRu (fun w x=>w.length+(bndT opF x.op x.n x.byN).length≤900000000) (fun w x=>eTk (w++bndT opF x.op x.n x.byN)) a H:=rfl
theorem GH (a:List AVal) (H:AD):Tpc 117 a H=s2 dKs dSs (fun w l=>w.length+(setT l).length≤900000000) (fun w l=>eTk (w++setT l)) a H:=rfl
theorem BF (a:List AVal) (H:AD):Tpc 80 a H=s2 dKs dS (fun w _=>w.length+1≤900000000) (fun w x=>eTk (w++[kI x])) a H:=rfl
theorem IJ (a:List AVal) (H:AD):Tpc 81 a H=s2 dKs dS (fun w _=>w.length+1≤900000000) (fun w x=>eTk (w++[kS x])) a H:=rfl
theorem HS (a:List AVal) (H:AD):Tpc 82 a H=s2 dKs dI (fun w _=>w.length+1≤900000000) (fun w x=>eTk (w++[kN x])) a H:=rfl
theorem p85 (w:List Tkn) (x:DRul) (hw:w.length+(Au opF true x).length≤900000000):Pur Tryz.prog 85 [eTk w,Am x] (eTk (w++Au opF true x)):=by
 refine .mk ⟨Ay 0 w,Ah 0 x,trivial⟩ (Ay 0 _) (a85 (AF M9 (AE ?_)))
 obtain⟨nm,on,kd,fam,ns,os,set,oth,op,vn,bn,clue⟩:=x
 by_cases k1:kd=1
 ·subst k1
  have hB:Au opF true ⟨nm,on,1,fam,ns,os,set,oth,op,vn,bn,clue⟩=[kI Bp,kI on,kI D9]:=rfl
  rw[hB]at hw⊢
  simp only[eE,eC,eN,reduceCtorEq,Nat.reduceEqDiff,↓reduceIte,Nat.reduceAdd,Nat.reduceLeDiff,Int.reduceLE,s2,AV,AH,Ae,AX,Int.le_refl,c85,BF]
  (repeat' apply And.intro)<;>first|(exact wkT rfl (by simp))|(simp only[List.length_append,List.length_cons,List.length_nil]at hw⊢;omega)|(simp only[List.length_append,List.length_cons,List.length_nil]at hw;omega)
 by_cases k2:kd=2
 ·subst k2
  have hB:Au opF true ⟨nm,on,2,fam,ns,os,set,oth,op,vn,bn,clue⟩=kI Bp::kI on::kI CP::(setT ns++bndT opF op vn bn):=rfl
  rw[hB]at hw⊢
  simp only[eE,eC,eN,reduceCtorEq,Nat.reduceEqDiff,↓reduceIte,Nat.reduceAdd,Nat.reduceLeDiff,Int.reduceEq,Int.reduceLE,s2,AV,AH,Ae,AX,Gw,Er,DM,CQ,c85,E2,GH,BF]
  (repeat' apply And.intro)<;>first|(exact wkT rfl (by simp))|(simp only[List.length_append,List.length_cons,List.length_nil]at hw⊢;omega)|(simp only[List.length_append,List.length_cons,List.length_nil]at hw;omega)
 by_cases k3:kd=3
 ·subst k3
  have hB:Au opF true ⟨nm,on,3,fam,ns,os,set,oth,op,vn,bn,clue⟩=kI Bp::kI on::kI wSum::bndT opF op vn bn:=rfl
  rw[hB]at hw⊢
  simp only[eE,eC,eN,reduceCtorEq,Nat.reduceEqDiff,↓reduceIte,Nat.reduceAdd,Nat.reduceLeDiff,Int.reduceEq,Int.reduceLE,s2,AV,AH,Ae,AX,DM,CQ,c85,E2,BF]
  (repeat' apply And.intro)<;>first|(exact wkT rfl (by simp))|(simp only[List.length_append,List.length_cons,List.length_nil]at hw⊢;omega)|(simp only[List.length_append,List.length_cons,List.length_nil]at hw;omega)
 by_cases k4:kd=4
 ·subst k4
  have hB:Au opF true ⟨nm,on,4,fam,ns,os,set,oth,op,vn,bn,clue⟩=[kI Bp,kI on,kI FN]:=rfl
  rw[hB]at hw⊢
  simp only[eE,eC,eN,reduceCtorEq,Nat.reduceEqDiff,↓reduceIte,Nat.reduceAdd,Nat.reduceLeDiff,Int.reduceEq,Int.reduceLE,s2,AV,AH,Ae,AX,c85,BF]
  (repeat' apply And.intro)<;>first|(exact wkT rfl (by simp))|(simp only[List.length_append,List.length_cons,List.length_nil]at hw⊢;omega)|(simp only[List.length_append,List.length_cons,List.length_nil]at hw;omega)
 by_cases k5:kd=5
 ·subst k5
  have hB:Au opF true ⟨nm,on,5,fam,ns,os,set,oth,op,vn,bn,clue⟩=kI Bp::kI on::kI Cm::(setT ns++[kI wBy,kI bn]):=rfl
  rw[hB]at hw⊢
  simp only[eE,eC,eN,reduceCtorEq,Nat.reduceEqDiff,↓reduceIte,Nat.reduceAdd,Nat.reduceLeDiff,Int.reduceEq,Int.reduceLE,s2,AV,AH,Ae,AX,Gw,Er,Int.le_refl,c85,GH,BF]
  (repeat' apply And.intro)<;>first|(exact wkT rfl (by simp))|(simp only[List.length_append,List.length_cons,List.length_nil]at hw⊢;omega)|(simp only[List.length_append,List.length_cons,List.length_nil]at hw;omega)
 by_cases k6:kd=6
 ·subst k6
  have hB:Au opF true ⟨nm,on,6,fam,ns,os,set,oth,op,vn,bn,clue⟩=[kI Bq]:=rfl
  rw[hB]at hw⊢
  simp only[eE,eC,eN,reduceCtorEq,Nat.reduceEqDiff,↓reduceIte,Nat.reduceAdd,Nat.reduceLeDiff,Int.reduceEq,Int.reduceLE,s2,AV,AH,Ae,AX,c85,BF]
  (repeat' apply And.intro)<;>first|(exact wkT rfl (by simp))|(simp only[List.length_cons,List.length_nil]at hw⊢;omega)|(simp only[List.length_append,List.length_cons,List.length_nil]at hw;omega)
 by_cases k7:kd=7
 ·subst k7
  have hB:Au opF true ⟨nm,on,7,fam,ns,os,set,oth,op,vn,bn,clue⟩=[kI Cw,kN vn]:=rfl
  rw[hB]at hw⊢
  simp only[eE,eC,eN,reduceCtorEq,Nat.reduceEqDiff,↓reduceIte,Nat.reduceAdd,Nat.reduceLeDiff,Int.reduceEq,Int.reduceLE,s2,AV,AH,By,A9,Ae,AX,c85,BF,HS]
  (repeat' apply And.intro)<;>first|(exact wkT rfl (by simp))|(simp only[List.length_append,List.length_cons,List.length_nil]at hw⊢;omega)|(simp only[List.length_append,List.length_cons,List.length_nil]at hw;omega)
 by_cases k8:kd=8
 ·subst k8
  have hB:Au opF true ⟨nm,on,8,fam,ns,os,set,oth,op,vn,bn,clue⟩=kI wNot::(setT ns++kI Cn::setT os):=rfl
  rw[hB]at hw⊢
  simp only[eE,eC,eN,reduceCtorEq,Nat.reduceEqDiff,↓reduceIte,Nat.reduceAdd,Nat.reduceLeDiff,Int.reduceEq,Int.reduceLE,s2,AV,AH,Ae,AX,Gw,Er,c85,GH,BF]
  (repeat' apply And.intro)<;>first|(exact wkT rfl (by simp))|(simp only[List.length_append,List.length_cons,List.length_nil]at hw⊢;omega)|(simp only[List.length_append,List.length_cons,List.length_nil]at hw;omega)
 by_cases k9:kd=9
 ·subst k9
  have hB:Au opF true ⟨nm,on,9,fam,ns,os,set,oth,op,vn,bn,clue⟩=kI FK::setT ns:=rfl
  rw[hB]at hw⊢
  simp only[eE,eC,eN,reduceCtorEq,Nat.reduceEqDiff,↓reduceIte,Nat.reduceAdd,Nat.reduceLeDiff,Int.reduceEq,Int.reduceLE,s2,AV,AH,Ae,AX,Gw,Er,c85,GH,BF]
  (repeat' apply And.intro)<;>first|(exact wkT rfl (by simp))|(simp only[List.length_append,List.length_cons,List.length_nil]at hw⊢;omega)|(simp only[List.length_append,List.length_cons,List.length_nil]at hw;omega)
 by_cases k10:kd=10
 ·subst k10
  have hB:Au opF true ⟨nm,on,10,fam,ns,os,set,oth,op,vn,bn,clue⟩=kI FL::setT ns:=rfl
  rw[hB]at hw⊢
  simp only[eE,eC,eN,reduceCtorEq,Nat.reduceEqDiff,↓reduceIte,Nat.reduceAdd,Nat.reduceLeDiff,Int.reduceEq,Int.reduceLE,s2,AV,AH,Ae,AX,Gw,Er,c85,GH,BF]
  (repeat' apply And.intro)<;>first|(exact wkT rfl (by simp))|(simp only[List.length_append,List.length_cons,List.length_nil]at hw⊢;omega)|(simp only[List.length_append,List.length_cons,List.length_nil]at hw;omega)
 by_cases k11:kd=11
 ·subst k11
  have hB:Au opF true ⟨nm,on,11,fam,ns,os,set,oth,op,vn,bn,clue⟩=[kI Cx,kI bn]:=rfl
  rw[hB]at hw⊢
  simp only[eE,eC,eN,reduceCtorEq,Nat.reduceEqDiff,↓reduceIte,Nat.reduceAdd,Nat.reduceLeDiff,Int.reduceEq,Int.reduceLE,s2,AV,AH,Ae,AX,c85,BF]
  (repeat' apply And.intro)<;>first|(exact wkT rfl (by simp))|(simp only[List.length_append,List.length_cons,List.length_nil]at hw⊢;omega)|(simp only[List.length_append,List.length_cons,List.length_nil]at hw;omega)
 by_cases k12:kd=12
 ·subst k12
  have hB:Au opF true ⟨nm,on,12,fam,ns,os,set,oth,op,vn,bn,clue⟩=[kI FM,kI on]:=rfl
  rw[hB]at hw⊢
  simp only[eE,eC,eN,reduceCtorEq,Nat.reduceEqDiff,↓reduceIte,Nat.reduceAdd,Nat.reduceLeDiff,Int.reduceEq,Int.reduceLE,s2,AV,AH,Ae,AX,c85,BF]
  (repeat' apply And.intro)<;>first|(exact wkT rfl (by simp))|(simp only[List.length_append,List.length_cons,List.length_nil]at hw⊢;omega)|(simp only[List.length_append,List.length_cons,List.length_nil]at hw;omega)
 have hB:Au opF true ⟨nm,on,kd,fam,ns,os,set,oth,op,vn,bn,clue⟩=kI Cl::bndT opF op vn bn:=by
  unfold Au
  simp [k1,k2,k3,k4,k5,k6,k7,k8,k9,k10,k11,k12]
 rw[hB]at hw⊢
 have hr:(1≤kd∧kd≤5)=False:=eq_false (by omega)
 by_cases h1:1≤kd
 ·have h5:(kd≤5)=False:=eq_false (by omega)
  simp only[eE,eC,eN,reduceCtorEq,Nat.reduceEqDiff,↓reduceIte,Nat.reduceAdd,Nat.reduceLeDiff,s2,AV,AH,Ae,AX,DM,CQ,c85,E2,BF,k1,k2,k3,k4,k5,k6,k7,k8,k9,k10,k11,k12,eq_true h1,h5]
  (repeat' apply And.intro)<;>first|(exact wkT rfl (by simp))|(simp only[List.length_append,List.length_cons,List.length_nil]at hw⊢;omega)|(simp only[List.length_append,List.length_cons,List.length_nil]at hw;omega)
 ·simp only[eE,eC,eN,reduceCtorEq,Nat.reduceEqDiff,↓reduceIte,Nat.reduceAdd,Nat.reduceLeDiff,s2,AV,AH,Ae,AX,DM,CQ,c85,E2,BF,k1,k2,k3,k4,k5,k6,k7,k8,k9,k10,k11,k12,eq_false h1]
  (repeat' apply And.intro)<;>first|(exact wkT rfl (by simp))|(simp only[List.length_append,List.length_cons,List.length_nil]at hw⊢;omega)|(simp only[List.length_append,List.length_cons,List.length_nil]at hw;omega)
theorem p84 (w:List Tkn) (x:DClu) (hw:w.length+(cluT x).length≤900000000):Pur Tryz.prog 84 [eTk w,BI x] (eTk (w++cluT x)):=by
 refine .mk ⟨Ay 0 w,Dd 0 x,trivial⟩ (Ay 0 _) (a84 (AF M9 (AE ?_)))
 obtain⟨nm,on,fam,ty,lo,hi⟩:=x
 by_cases k1:ty=1
 ·subst k1
  have hB:cluT ⟨nm,on,fam,1,lo,hi⟩=[kI CK,kI nm,kI wOn,kI on,kI wSym,kS [59]]:=rfl
  rw[hB]at hw⊢
  simp only[eE,eC,eN,reduceCtorEq,Nat.reduceEqDiff,↓reduceIte,Nat.reduceAdd,Nat.reduceLeDiff,s2,AV,AH,Ae,AX,c84,BF,IJ]
  (repeat' apply And.intro)<;>first|(exact wkT rfl (by simp))|(simp only[List.length_append,List.length_cons,List.length_nil]at hw⊢;omega)|(simp only[List.length_append,List.length_cons,List.length_nil]at hw;omega)
 by_cases k2:ty=2
 ·subst k2
  have hB:cluT ⟨nm,on,fam,2,lo,hi⟩=[kI CK,kI nm,kI wOn,kI on,kI BC,kN lo,kI wTo,kN hi,kS [59]]:=rfl
  rw[hB]at hw⊢
  simp only[eE,eC,eN,reduceCtorEq,Nat.reduceEqDiff,↓reduceIte,Nat.reduceAdd,Nat.reduceLeDiff,Int.reduceEq,s2,AV,AH,By,A9,Ae,AX,c84,BF,IJ,HS]
  (repeat' apply And.intro)<;>first|(exact wkT rfl (by simp))|(simp only[List.length_append,List.length_cons,List.length_nil]at hw⊢;omega)|(simp only[List.length_append,List.length_cons,List.length_nil]at hw;omega)
 have hB:cluT ⟨nm,on,fam,ty,lo,hi⟩=[kI CK,kI nm,kI wOn,kI on,kI Cm,kS [59]]:=by unfold cluT cluB;simp [k1,k2]
 rw[hB]at hw⊢
 simp only[eE,eC,eN,reduceCtorEq,Nat.reduceEqDiff,↓reduceIte,Nat.reduceAdd,Nat.reduceLeDiff,s2,AV,AH,Ae,AX,c84,BF,IJ,k1,k2]
 (repeat' apply And.intro)<;>first|(exact wkT rfl (by simp))|(simp only[List.length_append,List.length_cons,List.length_nil]at hw⊢;omega)|(simp only[List.length_append,List.length_cons,List.length_nil]at hw;omega)
end Go.AM
end
section
set_option maxRecDepth 20000
set_option linter.all false
namespace Go.AM
open Go.Proofs Go.Lib
theorem Rt {a b:Bs} {c d e f:Int}:dCl.ok (.agg [.str a,.str b,.int .i64 c,.int .i64 d,.int .i64 e,.int .i64 f])=True:=dCl_ok ⟨a,b,c,d,e,f⟩
theorem PJ {a b:Bs} {c d e f:Int}:dCl.dec (.agg [.str a,.str b,.int .i64 c,.int .i64 d,.int .i64 e,.int .i64 f])=⟨a,b,c,d,e,f⟩:=TB ⟨a,b,c,d,e,f⟩
def Tpd:Tab:=tadd 85 (s2 dKs dRu (fun w x=>w.length+(Au opF true x).length≤900000000) (fun w x=>eTk (w++Au opF true x))) (tadd 84 (s2 dKs dCl (fun w x=>w.length+(cluT x).length≤900000000) (fun w x=>eTk (w++cluT x))) (Tpc))
theorem Tpd_ok:AI Tryz.prog Tpd:=((M9.add (q2 fun a b h=>p84 a b h)).add (q2 fun a b h=>p85 a b h))
theorem PK (a:List AVal) (H:AD):Tpd 85 a H=s2 dKs dRu (fun w x=>w.length+(Au opF true x).length≤900000000) (fun w x=>eTk (w++Au opF true x)) a H:=rfl
theorem PM (a:List AVal) (H:AD):Tpd 84 a H=s2 dKs dCl (fun w x=>w.length+(cluT x).length≤900000000) (fun w x=>eTk (w++cluT x)) a H:=rfl
theorem Tpd_Bound (a:List AVal) (H:AD):Tpd 116 a H=s2 dKs dRu (fun w x=>w.length+(bndT opF x.op x.n x.byN).length≤900000000) (fun w x=>eTk (w++bndT opF x.op x.n x.byN)) a H:=rfl
theorem GI (a:List AVal) (H:AD):Tpd 83 a H=s2 dKs dIs (fun w l=>w.length+(comT oneN l).length≤900000000) (fun w l=>eTk (w++comT oneN l)) a H:=rfl
theorem Tpd_Set (a:List AVal) (H:AD):Tpd 117 a H=s2 dKs dSs (fun w l=>w.length+(setT l).length≤900000000) (fun w l=>eTk (w++setT l)) a H:=rfl
theorem CB (a:List AVal) (H:AD):Tpd 80 a H=s2 dKs dS (fun w _=>w.length+1≤900000000) (fun w x=>eTk (w++[kI x])) a H:=rfl
theorem CC (a:List AVal) (H:AD):Tpd 81 a H=s2 dKs dS (fun w _=>w.length+1≤900000000) (fun w x=>eTk (w++[kS x])) a H:=rfl
theorem EK (a:List AVal) (H:AD):Tpd 82 a H=s2 dKs dI (fun w _=>w.length+1≤900000000) (fun w x=>eTk (w++[kN x])) a H:=rfl
abbrev QT (tot:List Tkn):AExit→AS→Prop:=Cg [.t 2] (Ret (eTk tot))
abbrev eT (w:List Tkn) (X:List (Nat×Bool×AVal)):List (Nat×Bool×AVal):=(1,true,.ptr 0 0)::(3,true,eTk w)::X
abbrev hT (d:Dcl):AD:=hset hnil 0 (.box (A0 d))
def F12 (d:Dcl):List Tkn:=d.ruls.flatMap (A1 opF true)++[kS [125]]
def F11 (d:Dcl):List Tkn:=d.clus.flatMap cluT++F12 d
def F10 (d:Dcl):List Tkn:=d.regs.flatMap regT++F11 d
def F8 (d:Dcl):List Tkn:=comT symT d.syms++kS [59]::F10 d
def F6 (d:Dcl):List Tkn:=B4 d.holes++kS [59]::kI EC::F8 d
def F4 (d:Dcl):List Tkn:=FP d.sh::kN d.w::kI wBy::kN d.h::F6 d
theorem decl_F (d:Dcl):BP opF true d=kI EA::kI d.nm::kI EW::kN d.ver::kS [123]::kI Et::F4 d:=by
 unfold BP Jt F4 F6 F8 F10 F11 F12
 simp
section
variable {d:Dcl} {w tot:List Tkn} {X:List (Nat×Bool×AVal)}
theorem td12 (h:w++F12 d=tot) (hf:tot.length≤900000000):kont Tryz.prog Tpd (QT tot) [.c (sndN 12 c32)] .normal ⟨eT w X,hT d,2⟩:=by
 rw[AL]
 have hx0:hget (hT d) 0=some (.box (A0 d)):=AB ..
 have hll:d.ruls.length≤900000000:=by
  have h3:=BW (f:=(A1 opF true)) (fun x=>by simp [A1]) d.ruls
  subst h
  simp only[F12,List.length_append]at hf
  omega
 generalize hH:hT d=H at hx0
 simp only[eE,eN,Nat.reduceEqDiff,↓reduceIte,c32,sndN,sndA]
 refine AW (fun v:Nat×List (Nat×Bool×AVal)=>⟨(1,true,.ptr 0 0)::(3,true,eTk (w++(d.ruls.take v.1).flatMap (A1 opF true)))::(8,true,.int .i64 v.1)::[],H,2⟩) (fun v=>v.1≤d.ruls.length) (fun v=>d.ruls.length-v.1) (0,X) (by simp) (Nat.zero_le _) ?_
 rintro⟨i,X1⟩ hi
 simp only at hi
 by_cases hlt:i<d.ruls.length
 case neg=>
  have:i=d.ruls.length:=by omega
  subst this
  simp only[List.take_length]
  have q1:((w++d.ruls.flatMap (A1 opF true)).length+1≤900000000)=True:=eq_true (by
   subst h
   simp only[F12,List.length_append,List.length_cons,List.length_nil]at hf⊢
   omega)
  simp only[eE,eC,eN,Nat.reduceEqDiff,↓reduceIte,Nat.reduceAdd,CC,s2,AV,AH,Ae,AX,hx0,List.length_map,lt_F hlt,q1]
  exact wkT rfl (by rw[←h];simp [F12])
 have hg:=List.getElem?_eq_getElem hlt
 have e:=AO (k:=i) (by omega)
 have hsz:(w++(d.ruls.take i).flatMap (A1 opF true)).length+((A1 opF true) d.ruls[i]).length≤900000000:=by
  have h3:=EI (A1 opF true) hlt
  subst h
  simp only[F12,List.length_append,h3]at hf⊢
  omega
 have hft:=Bv (A1 opF true) hlt
 generalize d.ruls[i]=x at hg hsz hft
 obtain⟨nm,on,kd,fam,ns,os,set,oth,op,vn,bn,clue⟩:=x
 generalize hpre:w++(d.ruls.take i).flatMap (A1 opF true)=pre at hsz
 simp only[eE,eC,eN,Nat.reduceEqDiff,↓reduceIte,Nat.reduceAdd,Nat.reduceLeDiff,Int.reduceEq,PK,CB,CC,s2,AV,AH,Ae,AX,DM,CQ,hx0,Option.getD_some,Int.toNat_natCast,Int.natCast_nonneg,List.length_map,List.getElem?_map,lt_T hlt,hg,e]
 (repeat' apply And.intro)<;>first|(exact lpN.mk (i+1,[]) (by rw[hft,←List.append_assoc,hpre];simp [A1]) hlt (by simp only[];omega))|(exact lpN.mk (i+1,[]) (by rw[hft,←List.append_assoc,hpre]) hlt (by simp only[];omega))|omega|(unfold A1 at hsz;first|(simp only[List.length_append,List.length_cons,List.length_nil]at hsz⊢;omega)|(simp only[List.length_append,List.length_cons,List.length_nil]at hsz;omega))
theorem td11 (h:w++F11 d=tot) (hf:tot.length≤900000000):kont Tryz.prog Tpd (QT tot) [.c (sndN 11 c32)] .normal ⟨eT w X,hT d,2⟩:=by
 rw[AL]
 have hx0:hget (hT d) 0=some (.box (A0 d)):=AB ..
 have hll:d.clus.length≤900000000:=by
  have h3:=BW (f:=cluT) (fun x=>by simp [cluT]) d.clus
  subst h
  simp only[F11,List.length_append]at hf
  omega
 generalize hH:hT d=H at hx0
 simp only[eE,eN,Nat.reduceEqDiff,↓reduceIte,c32,sndN,sndA]
 refine AW (fun v:Nat×List (Nat×Bool×AVal)=>⟨(1,true,.ptr 0 0)::(3,true,eTk (w++(d.clus.take v.1).flatMap cluT))::(7,true,.int .i64 v.1)::[],H,2⟩) (fun v=>v.1≤d.clus.length) (fun v=>d.clus.length-v.1) (0,X) (by simp) (Nat.zero_le _) ?_
 rintro⟨i,X1⟩ hi
 simp only at hi
 by_cases hlt:i<d.clus.length
 case neg=>
  have:i=d.clus.length:=by omega
  subst this
  simp only[List.take_length]
  subst hH
  simp only[eE,Nat.reduceEqDiff,↓reduceIte,Nat.reduceAdd,Nat.reduceLeDiff,lt_F hlt,hx0,List.length_map]
  rw[AL]
  simp only[eE,eC,Nat.reduceEqDiff,↓reduceIte]
  exact td12 (by rw[←h];simp [F11]) hf
 have hg:=List.getElem?_eq_getElem hlt
 have e:=AO (k:=i) (by omega)
 have hsz:(w++(d.clus.take i).flatMap cluT).length+(cluT d.clus[i]).length≤900000000:=by
  have h3:=EI cluT hlt
  subst h
  simp only[F11,List.length_append,h3]at hf⊢
  omega
 have hft:=Bv cluT hlt
 generalize d.clus[i]=x at hg hsz hft
 obtain⟨nm,on,fam,ty,lo,hi⟩:=x
 generalize hpre:w++(d.clus.take i).flatMap cluT=pre at hsz
 simp only[eE,eC,eN,Nat.reduceEqDiff,↓reduceIte,Nat.reduceAdd,Nat.reduceLeDiff,Int.reduceEq,PM,s2,Ae,AX,Rt,PJ,hx0,Option.getD_some,Int.toNat_natCast,Int.natCast_nonneg,List.length_map,List.getElem?_map,lt_T hlt,hg,e]
 (repeat' apply And.intro)<;>first|(exact lpN.mk (i+1,[]) (by rw[hft,←List.append_assoc,hpre];simp [cluT]) hlt (by simp only[];omega))|(exact lpN.mk (i+1,[]) (by rw[hft,←List.append_assoc,hpre]) hlt (by simp only[];omega))|omega|(unfold cluT at hsz;first|(simp only[List.length_append,List.length_cons,List.length_nil]at hsz⊢;omega)|(simp only[List.length_append,List.length_cons,List.length_nil]at hsz;omega))
theorem td10 (h:w++F10 d=tot) (hf:tot.length≤900000000):kont Tryz.prog Tpd (QT tot) [.c (sndN 10 c32)] .normal ⟨eT w X,hT d,2⟩:=by
 rw[AL]
 have hx0:hget (hT d) 0=some (.box (A0 d)):=AB ..
 have hll:d.regs.length≤900000000:=by
  have h3:=BW (f:=regT) (fun x=>by simp [regT]) d.regs
  subst h
  simp only[F10,List.length_append]at hf
  omega
 generalize hH:hT d=H at hx0
 simp only[eE,eN,Nat.reduceEqDiff,↓reduceIte,c32,sndN,sndA]
 refine AW (fun v:Nat×List (Nat×Bool×AVal)=>⟨(1,true,.ptr 0 0)::(3,true,eTk (w++(d.regs.take v.1).flatMap regT))::(5,true,.int .i64 v.1)::[],H,2⟩) (fun v=>v.1≤d.regs.length) (fun v=>d.regs.length-v.1) (0,X) (by simp) (Nat.zero_le _) ?_
 rintro⟨i,X1⟩ hi
 simp only at hi
 by_cases hlt:i<d.regs.length
 case neg=>
  have:i=d.regs.length:=by omega
  subst this
  simp only[List.take_length]
  subst hH
  simp only[eE,Nat.reduceEqDiff,↓reduceIte,Nat.reduceAdd,Nat.reduceLeDiff,lt_F hlt,hx0,List.length_map]
  rw[AL]
  simp only[eE,eC,Nat.reduceEqDiff,↓reduceIte]
  exact td11 (by rw[←h];simp [F10]) hf
 have hg:=List.getElem?_eq_getElem hlt
 have e:=AO (k:=i) (by omega)
 have hsz:(w++(d.regs.take i).flatMap regT).length+(regT d.regs[i]).length≤900000000:=by
  have h3:=EI regT hlt
  subst h
  simp only[F10,List.length_append,h3]at hf⊢
  omega
 have hft:=Bv regT hlt
 generalize d.regs[i]=x at hg hsz hft
 obtain⟨nm,ls⟩:=x
 generalize hpre:w++(d.regs.take i).flatMap regT=pre at hsz
 have hr:(regT ⟨nm,ls⟩).length=3+((ls.flatMap A7).length+1):=by unfold regT;simp only[List.length_append,List.length_cons,List.length_nil];omega
 rw[hr]at hsz
 have hfl:=BW (f:=A7) (fun x=>by simp [A7]) ls
 have p1:(pre.length+1≤900000000)=True:=eq_true (by omega)
 have p2:((pre++[kI Bl]).length+1≤900000000)=True:=eq_true (by simp only[List.length_append,List.length_cons,List.length_nil];omega)
 have p3:(((pre++[kI Bl])++[kI nm]).length+1≤900000000)=True:=eq_true (by simp only[List.length_append,List.length_cons,List.length_nil];omega)
 simp only[eE,eC,eN,Nat.reduceEqDiff,↓reduceIte,Nat.reduceAdd,Nat.reduceLeDiff,CB,CC,s2,AV,AH,Ae,AX,hx0,Option.getD_some,Int.toNat_natCast,Int.natCast_nonneg,List.length_map,List.getElem?_map,lt_T hlt,hg,p1,p2,p3]
 refine AW (fun j:Nat=>⟨(1,true,.ptr 0 0)::(3,true,eTk ((((pre++[kI Bl])++[kI nm])++[kS [123]])++(ls.take j).flatMap A7))::(5,true,.int .i64 i)::(6,true,.int .i64 j)::[],H,2⟩) (fun j=>j≤ls.length) (fun j=>ls.length-j) 0 (by simp) (Nat.zero_le _) ?_
 intro j hj
 by_cases hlj:j<ls.length
 case neg=>
  have:j=ls.length:=by omega
  subst this
  rw[List.take_length]
  have p4:(((((pre++[kI Bl])++[kI nm])++[kS [123]])++ls.flatMap A7).length+1≤900000000)=True:=eq_true (by simp only[List.length_append,List.length_cons,List.length_nil];omega)
  simp only[eE,eC,eN,Nat.reduceEqDiff,↓reduceIte,Nat.reduceAdd,Nat.reduceLeDiff,Int.reduceEq,CC,s2,AV,AH,Ae,AX,hx0,Option.getD_some,Int.toNat_natCast,Int.natCast_nonneg,List.length_map,List.getElem?_map,lt_F hlj,lt_T hlt,hg,p4,e]
  exact lpN.mk (i+1,[]) (by rw[hft,←List.append_assoc,hpre];simp [regT]) hlt (by simp only[];omega)
 have hgj:=List.getElem?_eq_getElem hlj
 have ej:=AO (k:=j) (by omega)
 have h4:=EI A7 hlj
 have h5:=Bv A7 hlj
 have hr2:(A7 ls[j]).length=(comT oneN ls[j]).length+1:=by unfold A7;simp
 have h6:=congrArg List.length h4
 simp only[List.length_append,hr2]at h6
 have p5:((((((pre++[kI Bl])++[kI nm])++[kS [123]])++(ls.take j).flatMap A7)).length+(comT oneN ls[j]).length≤900000000)=True:=eq_true (by simp only[List.length_append,List.length_cons,List.length_nil];omega)
 have p6:(((((((pre++[kI Bl])++[kI nm])++[kS [123]])++(ls.take j).flatMap A7))++comT oneN ls[j]).length+1≤900000000)=True:=eq_true (by simp only[List.length_append,List.length_cons,List.length_nil];omega)
 simp only[eE,eC,eN,Nat.reduceEqDiff,↓reduceIte,Nat.reduceAdd,Nat.reduceLeDiff,Int.reduceEq,GI,CC,s2,AV,AH,Ae,AX,B1,BS,hx0,Option.getD_some,Int.toNat_natCast,Int.natCast_nonneg,List.length_map,List.getElem?_map,lt_T hlt,hg,lt_T hlj,hgj,ej,p5,p6]
 exact lpN.mk (j+1) (by rw[h5];simp [A7]) hlj (by omega)
theorem td8 (h:w++F8 d=tot) (hf:tot.length≤900000000):kont Tryz.prog Tpd (QT tot) [.c (sndN 8 c32)] .normal ⟨eT w X,hT d,2⟩:=by
 rw[AL]
 have hx0:hget (hT d) 0=some (.box (A0 d)):=AB ..
 have hcl:w.length+(comT symT d.syms).length+1≤900000000:=by
  subst h
  simp only[F8,List.length_append,List.length_cons]at hf
  omega
 have hll:d.syms.length≤900000000:=by
  have h3:=Dg (one:=symT) (fun x=>by simp [symT]) d.syms
  omega
 generalize hH:hT d=H at hx0
 simp only[eE,eN,Nat.reduceEqDiff,↓reduceIte,c32,sndN,sndA]
 refine AW (fun v:Nat×List (Nat×Bool×AVal)=>⟨(1,true,.ptr 0 0)::(3,true,eTk (w++comT symT (d.syms.take v.1)))::(4,true,.int .i64 v.1)::[],H,2⟩) (fun v=>v.1≤d.syms.length) (fun v=>d.syms.length-v.1) (0,X) (by simp [comT]) (Nat.zero_le _) ?_
 rintro⟨i,X1⟩ hi
 simp only at hi
 by_cases hlt:i<d.syms.length
 case neg=>
  have:i=d.syms.length:=by omega
  subst this
  simp only[List.take_length]
  subst hH
  have p1:((w++comT symT d.syms).length+1≤900000000)=True:=eq_true (by simp only[List.length_append];omega)
  simp only[eE,Nat.reduceEqDiff,↓reduceIte,Nat.reduceAdd,Nat.reduceLeDiff,lt_F hlt,hx0,List.length_map]
  rw[AL]
  simp only[eE,eC,Nat.reduceEqDiff,↓reduceIte]
  rw[AL]
  simp only[eE,Nat.reduceEqDiff,↓reduceIte,s2,AV,AH,Ae,AX,p1,CC]
  exact td10 (d:=d) (w:=(w++comT symT d.syms)++[kS [59]]) (X:=_) (by rw[←h];simp [F8]) hf
 have hg:=List.getElem?_eq_getElem hlt
 have e:=AO (k:=i) (by omega)
 have eQ:=Df symT hlt
 have eP:=G7 symT (l:=d.syms) (i+1)
 rw[eQ]at eP
 simp only[List.length_append]at eP
 have e1:(symT d.syms[i]).length=3:=rfl
 generalize d.syms[i]=x at hg eQ eP e1
 obtain⟨nm,v⟩:=x
 by_cases hi0:i=0
 ·have j0:((0:Int)<(i:Int))=False:=eq_false (by omega)
  rw[if_pos hi0]at eQ eP
  have hsz:(w++comT symT (d.syms.take i)).length+3≤900000000:=by simp only[List.length_append,List.length_nil]at eP⊢;omega
  generalize hpre:w++comT symT (d.syms.take i)=pre at hsz
  simp only[eE,eC,eN,Nat.reduceEqDiff,↓reduceIte,Nat.reduceAdd,Nat.reduceLeDiff,Int.reduceEq,CB,CC,EK,s2,AV,AH,By,A9,Ae,AX,hx0,Option.getD_some,Int.toNat_natCast,Int.natCast_nonneg,List.length_map,List.getElem?_map,lt_T hlt,hg,e,j0]
  (repeat' apply And.intro)<;>first|(exact lpN.mk (i+1,[]) (by rw[eQ,←List.append_assoc,←List.append_assoc,List.append_nil,hpre];simp [symT]) hlt (by simp only[];omega))|omega|(simp only[List.length_append,List.length_cons,List.length_nil]at hsz⊢;omega)|(simp only[List.length_append,List.length_cons,List.length_nil]at hsz;omega)
 ·have j0:((0:Int)<(i:Int))=True:=eq_true (by omega)
  rw[if_neg hi0]at eQ eP
  have hsz:(w++comT symT (d.syms.take i)).length+4≤900000000:=by simp only[List.length_append,List.length_cons,List.length_nil]at eP⊢;omega
  generalize hpre:w++comT symT (d.syms.take i)=pre at hsz
  simp only[eE,eC,eN,Nat.reduceEqDiff,↓reduceIte,Nat.reduceAdd,Nat.reduceLeDiff,Int.reduceEq,CB,CC,EK,s2,AV,AH,By,A9,Ae,AX,hx0,Option.getD_some,Int.toNat_natCast,Int.natCast_nonneg,List.length_map,List.getElem?_map,lt_T hlt,hg,e,j0]
  (repeat' apply And.intro)<;>first|(exact lpN.mk (i+1,[]) (by rw[eQ,←List.append_assoc,←List.append_assoc,hpre];simp [symT]) hlt (by simp only[];omega))|omega|(simp only[List.length_append,List.length_cons,List.length_nil]at hsz⊢;omega)|(simp only[List.length_append,List.length_cons,List.length_nil]at hsz;omega)
end
end Go.AM
end
section
set_option maxRecDepth 20000
set_option linter.all false
namespace Go.AM
open Go.Proofs Go.Lib
theorem Ru {t:Tok} (h:t.esz=4):dKs.ok (.sl t [])=True:=eq_true ⟨.inl h,rfl⟩
theorem p32 (d:Dcl) (hw:(BP opF true d).length≤900000000):Pur Tryz.prog 32 [encD d] (eTk (BP opF true d)):=by
 refine .mk ⟨Ai 0 d,trivial⟩ (Ay 0 _) (a32 (AF Tpd_ok (AE ?_)))
 have hx0:hget (hT d) 0=some (.box (A0 d)):=AB ..
 have q0:dKs.ok (.sl (.exact 4) [])=True:=Ru rfl
 have q1:dKs.dec (.sl (.exact 4) [])=[]:=rfl
 have hF:=decl_F d
 have hh:(BP opF true d).length=6+(1+(3+((B4 d.holes).length+(2+(F8 d).length)))):=by
  rw[hF]
  unfold F4 F6
  simp only[List.length_append,List.length_cons]
  omega
 have fin:∀(w:List Tkn) (X:List (Nat×Bool×AVal)),w++([kS [59],kI EC]++F8 d)=BP opF true d→kont Tryz.prog Tpd (QT (BP opF true d)) [.c (sndN 7 c32)] .normal ⟨eT w X,hT d,2⟩:=fun w X h=>by
  have hl:=congrArg List.length h
  simp only[List.length_append,List.length_cons,List.length_nil]at hl
  have p1:(w.length+1≤900000000)=True:=eq_true (by omega)
  have p2:(w.length+2≤900000000)=True:=eq_true (by omega)
  rw[AL]
  simp only[eE,Nat.reduceEqDiff,↓reduceIte,Nat.reduceAdd,c32,sndN,sndA,p1,p2,s2,AV,AH,Ae,AX,List.length_append,CB,CC]
  exact td8 (d:=d) (w:=(w++[kS [59]])++[kI EC]) (X:=_) (by rw[←h];simp) hw
 have mid:∀(w:List Tkn) (X:List (Nat×Bool×AVal)),w++([kN d.w,kI wBy,kN d.h]++(B4 d.holes++([kS [59],kI EC]++F8 d)))=BP opF true d→kont Tryz.prog Tpd (QT (BP opF true d)) [.c (sndN 5 c32)] .normal ⟨eT w X,hT d,2⟩:=fun w X h=>by
  have hl:=congrArg List.length h
  simp only[List.length_append,List.length_cons,List.length_nil]at hl
  have p1:(w.length+1≤900000000)=True:=eq_true (by omega)
  have p2:(w.length+2≤900000000)=True:=eq_true (by omega)
  have p3:(w.length+3≤900000000)=True:=eq_true (by omega)
  rw[AL]
  simp only[eE,Nat.reduceEqDiff,↓reduceIte,Nat.reduceAdd,Nat.reduceLeDiff,c32,sndN,sndA,p1,p2,p3,s2,AV,AH,By,A9,Ae,AX,List.length_append,CB,EK]
  rw[AL]
  by_cases hh0:d.holes=[]
  ·have j0:((0:Int)<(d.holes.length:Int))=False:=eq_false (by rw[hh0];decide)
   simp only[eE,Nat.reduceEqDiff,↓reduceIte,Nat.reduceAdd,Nat.reduceLeDiff,j0,List.length_map]
   rw[AL]
   simp only[eE,eC,Nat.reduceEqDiff,↓reduceIte]
   exact fin (((w++[kN d.w])++[kI wBy])++[kN d.h]) _ (by rw[←h];simp [B4,hh0])
  ·have j0:((0:Int)<(d.holes.length:Int))=True:=eq_true (by have:=List.length_pos_iff.2 hh0;omega)
   have hhl:(B4 d.holes).length=(comT oneN d.holes).length+1:=by unfold B4;rw[if_neg hh0];rfl
   rw[hhl]at hl
   have p4:(w.length+4≤900000000)=True:=eq_true (by omega)
   have p5:(w.length+(4+(comT oneN d.holes).length)≤900000000)=True:=eq_true (by omega)
   simp only[eE,Nat.reduceEqDiff,↓reduceIte,Nat.reduceAdd,Nat.reduceLeDiff,j0,List.length_map]
   rw[AL]
   simp only[eE,eC,Nat.reduceEqDiff,↓reduceIte,Nat.reduceAdd,Nat.reduceLeDiff,p4,p5,s2,AV,AH,Ae,AX,B1,BS,List.length_append,GI,CB]
   exact fin (((((w++[kN d.w])++[kI wBy])++[kN d.h])++[kI Eu])++comT oneN d.holes) _ (by rw[←h];simp [B4,hh0])
 simp only[eE,Nat.reduceEqDiff,↓reduceIte,Nat.reduceAdd,c32]
 iterate 3 (rw[AL];simp only[eE,Nat.reduceEqDiff,↓reduceIte,Nat.reduceAdd,Nat.reduceLeDiff,Nat.reduceMul,q0,q1,s2,AV,AH,By,A9,Ae,AX,CB,CC,EK])
 rw[AL]
 by_cases hs:d.sh=2
 ·have j0:(d.sh=2)=True:=eq_true hs
  simp only[eE,Nat.reduceEqDiff,↓reduceIte,Nat.reduceAdd,Nat.reduceLeDiff,j0]
  rw[AL]
  simp only[eE,eC,Nat.reduceEqDiff,↓reduceIte,Nat.reduceAdd,Nat.reduceLeDiff,s2,AV,AH,Ae,AX,CB]
  exact mid [kI EA,kI d.nm,kI EW,kN d.ver,kS [123],kI Et,kI wHex] _ (by rw[hF];simp [F4,F6,FP,hs])
 ·have j0:(d.sh=2)=False:=eq_false hs
  simp only[eE,Nat.reduceEqDiff,↓reduceIte,Nat.reduceAdd,Nat.reduceLeDiff,j0]
  rw[AL]
  simp only[eE,eC,Nat.reduceEqDiff,↓reduceIte,Nat.reduceAdd,Nat.reduceLeDiff,s2,AV,AH,Ae,AX,CB]
  exact mid [kI EA,kI d.nm,kI EW,kN d.ver,kS [123],kI Et,kI EB] _ (by rw[hF];simp [F4,F6,FP,hs])
end Go.AM
end
section
set_option maxRecDepth 20000
set_option linter.all false
namespace Go.AM
open Go.Proofs Go.Lib
structure VBr where
 i:Nat
 tk:Tok
 H:AD
 n:Nat
structure IBr (d:Dcl) (es len:Nat) (v:VBr):Prop where
 hi:v.i≤len
 fr:Ab v.H v.n
 h0:hget v.H 0=some (.box (A0 d))
 h1:hget v.H 1=some (.box zB)
 tok:tkG es 2 v.H v.tk
 es:v.tk.esz=es
 hn:2≤v.n
theorem IBr.next {d:Dcl} {es len i n k m:Nat} {tk:Tok} {H:AD} {cs:List AVal} (h:IBr d es len ⟨i,tk,H,n⟩) (hlt:i<len) (hk:5<k) (hm:k<m) (hnk:n≤n+k):IBr d es len ⟨i+1,.own (n+k) es,hset (AK (hset H (n+5) (.box cs)) tk) (n+k) .tok,n+m⟩:=by
 obtain⟨hi,hf,h0,h1,ht,he,hn⟩:=h
 simp only at hi hf h0 h1 ht he hn
 have ht2:tkG es 2 (hset H (n+5) (.box cs)) tk:=ht.set (.inr (.inr (hf _ (by omega))))
 have hf2:Ab (hset H (n+5) (.box cs)) (n+k):=hf.hset (by omega) (by omega)
 refine⟨hlt,(BO ht2 hf2).hset (by simp only[];omega) (by simp only[];omega),?_,?_,.inr (.inr ⟨_,rfl,by omega,AB ..⟩),rfl,by simp only[];omega⟩
 ·simp only[]
  rw[AC _ _ _ _ (by omega),Aa ht2 (.inl (by decide)),AC _ _ _ _ (by omega)];exact h0
 ·simp only[]
  rw[AC _ _ _ _ (by omega),Aa ht2 (.inl (by decide)),AC _ _ _ _ (by omega)];exact h1
theorem p17 (d:Dcl) (hc:few d.clus) (hr:few d.ruls):Pur Tryz.prog 17 [encD d] (encD (C6 d)):=by
 have hcl:d.clus.length<1000000000:=hc
 have hrl:d.ruls.length<1000000000:=hr
 refine .mk ⟨Ai 0 d,trivial⟩ (Ai 0 _) (a17 (AF AI.tnil (AE ?_)))
 simp only[eE,eN,reduceCtorEq,Nat.reduceEqDiff,↓reduceIte,Nat.reduceAdd,Nat.reduceLeDiff,Nat.reduceMul,c17]
 refine AW (fun v:VBr=>⟨[(1,true,.ptr 0 0),(2,true,.ptr 1 0),(3,true,.sl v.tk (((d.clus.take v.i).map bCl).map BI)),(4,true,.int .i64 v.i)],v.H,v.n⟩) (IBr d 6 d.clus.length) (fun v=>d.clus.length-v.i)
  ⟨0,.exact 6,hset (hset hnil 0 (.box (A0 d))) 1 (.box zB),2⟩ rfl ⟨Nat.zero_le _,?_,rfl,rfl,.inr (.inl rfl),rfl,Nat.le_refl _⟩ ?_
 ·intro id hid
  have:2≤id:=hid
  simp only[AA]
  repeat rw[if_neg (by omega)]
  rfl
 rintro⟨i,tk,H1,n1⟩ hI
 have hI2:=hI
 obtain⟨hi,hf,h0,h1,ht,he,hn⟩:=hI2
 simp only at hi hf h0 h1 ht he hn
 by_cases hlt:i<d.clus.length
 case pos=>
  have hg:=List.getElem?_eq_getElem hlt
  have e:=AO (k:=i) (by omega)
  have htk:=List.take_succ_eq_append_getElem hlt
  generalize d.clus[i]=x at hg htk
  have hN:=hI.next (k:=10) (m:=12) (cs:=[.str x.nm,.str x.on,.int .i64 0,.int .i64 x.ty,.int .i64 x.lo,.int .i64 x.hi]) hlt (by decide) (by decide) (by omega)
  have ht2:tkG 6 2 (hset H1 (n1+5) (.box [.str x.nm,.str x.on,.int .i64 0,.int .i64 x.ty,.int .i64 x.lo,.int .i64 x.hi])) tk:=ht.set (.inr (.inr (hf _ (by omega))))
  have q1:CF (hset H1 (n1+5) (.box [.str x.nm,.str x.on,.int .i64 0,.int .i64 x.ty,.int .i64 x.lo,.int .i64 x.hi])) 6 tk=True:=eq_true ht2.app
  have hml:((d.clus.take i).map bCl).length=i:=by rw[List.length_map,List.length_take];omega
  have hml2:(d.clus.take i).length=i:=by rw[List.length_take];omega
  have q2:(i≤35184372088831)=True:=eq_true (by omega)
  have q3:Ao (i+1) 64=True:=eq_true (Ar (by omega) (by decide))
  have y0:(n1+5=0)=False:=eq_false (by omega)
  have y1:(n1+5=n1+10)=False:=eq_false (by omega)
  simp only[eE,eC,eN,reduceCtorEq,Nat.reduceEqDiff,↓reduceIte,Nat.reduceAdd,Nat.reduceLeDiff,Nat.reduceMul,Nat.reduceLT,Int.reduceEq,AT,Option.getD_some,Int.toNat_natCast,Int.natCast_nonneg,List.length_map,List.getElem?_map,lt_T hlt,h0,hg,e,hml,q1,q2,q3,y1,fr1 hf]
  exact .mk ⟨i+1,.own (n1+10) 6,_,n1+12⟩ (by rw[htk];simp [bCl]) hN (by simp only[];omega)
 have hie:i=d.clus.length:=by omega
 subst hie
 simp only[List.take_length]
 simp only[eE,eC,eN,Nat.reduceEqDiff,↓reduceIte,Nat.reduceAdd,Nat.reduceLeDiff,Nat.reduceMul,List.length_map,lt_F hlt,h0]
 refine AW (fun v:VBr=>⟨[(1,true,.ptr 0 0),(2,true,.ptr 1 0),(3,true,.sl tk ((d.clus.map bCl).map BI)),(6,true,.sl v.tk (((d.ruls.take v.i).map bRu).map Am)),(7,true,.int .i64 v.i)],v.H,v.n⟩) (IBr d 12 d.ruls.length) (fun v=>d.ruls.length-v.i)
  ⟨0,.exact 12,H1,n1⟩ rfl ⟨Nat.zero_le _,hf,h0,h1,.inr (.inl rfl),rfl,hn⟩ ?_
 clear hlt hI hi
 rintro⟨i,tk2,H2,n2⟩ hI
 have hI2:=hI
 obtain⟨hi,hf2,h02,h12,ht2,he2,hn2⟩:=hI2
 simp only at hi hf2 h02 h12 ht2 he2 hn2
 by_cases hlt:i<d.ruls.length
 case pos=>
  have hg:=List.getElem?_eq_getElem hlt
  have e:=AO (k:=i) (by omega)
  have htk:=List.take_succ_eq_append_getElem hlt
  generalize d.ruls[i]=x at hg htk
  have hN:=hI.next (k:=10) (m:=12) (cs:=BB (bRu x)) hlt (by decide) (by decide) (by omega)
  have ht3:tkG 12 2 (hset H2 (n2+5) (.box (BB (bRu x)))) tk2:=ht2.set (.inr (.inr (hf2 _ (by omega))))
  have q1:CF (hset H2 (n2+5) (.box (BB (bRu x)))) 12 tk2=True:=eq_true ht3.app
  have hml:((d.ruls.take i).map bRu).length=i:=by rw[List.length_map,List.length_take];omega
  have hml2:(d.ruls.take i).length=i:=by rw[List.length_take];omega
  have q2:(i≤35184372088831)=True:=eq_true (by omega)
  have q3:Ao (i+1) 152=True:=eq_true (Ar (by omega) (by decide))
  have y0:(n2+5=0)=False:=eq_false (by omega)
  have y1:(n2+5=n2+10)=False:=eq_false (by omega)
  simp only[bRu]at q1
  simp only[eE,eC,eN,reduceCtorEq,Nat.reduceEqDiff,↓reduceIte,Nat.reduceAdd,Nat.reduceLeDiff,Nat.reduceMul,Nat.reduceLT,Int.reduceEq,AT,Option.getD_some,Int.toNat_natCast,Int.natCast_nonneg,List.length_map,List.getElem?_map,lt_T hlt,h02,hg,e,hml,q1,q2,q3,y1,fr1 hf2]
  exact .mk ⟨i+1,.own (n2+10) 12,_,n2+12⟩ (by rw[htk];simp [bRu]) hN (by simp only[];omega)
 have hie:i=d.ruls.length:=by omega
 subst hie
 simp only[List.take_length]
 simp only[eE,eC,eN,reduceCtorEq,Nat.reduceEqDiff,↓reduceIte,Nat.reduceAdd,Nat.reduceLeDiff,Al,AT,List.length_map,lt_F hlt,h02,h12]
 exact Wk.agg (.cons (Wk.refl _) (.cons (Wk.refl _) (.cons (Wk.refl _) (.cons (Wk.refl _) (.cons (Wk.refl _) (.cons (Wk.refl _) (.cons (Wk.refl _) (.cons (Wk.refl _) (.cons (Wk.sl (.inl he)) (.cons (Wk.sl (.inl he2)) .nil))))))))))
end Go.AM
end
