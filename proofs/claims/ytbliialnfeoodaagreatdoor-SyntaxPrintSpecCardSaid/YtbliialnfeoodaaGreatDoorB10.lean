/-
  Declarations: the reference's reader, plainly · Declarations: the reference's reader does what the grammar says · Declarations: the reference's reader, its small steps · Declarations: the reference's reader, its lists · Declarations: the reference's reader, its larger steps · Declarations: the reference's reader, rules · Declarations: the reference's reader, symbols and regions · Declarations: the reference's reader, regions · Declarations: the reference's reader, whole · Declarations: the reference's Parse · Declarations: the reference's tokens · Declarations: the reference's tokens of rules and clues · Declarations: the reference's tokens of a declaration · Declarations: the reference's Tokens · Declarations: the reference's Bare.
  Conditions: none beyond those of its parts.
-/
import Derived.Test.YtbliialnfeoodaaGreatDoorB9
import Derived.Test.YtbliialnfeoodaaGreatDoorB8
import Derived.Test.YtbliialnfeoodaaGreatDoorB5
import Derived.Test.YtbliialnfeoodaaGreatDoorB6

section
set_option maxRecDepth 20000
set_option linter.all false
namespace Go.AM
open Go.Proofs Go.Lib
structure ZS (L:List Tkn) (e:Int) where
 n:Nat
 b:Bool
 le:n≤L.length
def zk {α:Type}:Bool→α→List Tkn→Rs α
 |true,_,r=>.bad r
 |false,a,r=>.ok a r
def gB {α:Type}:Bool→(List Tkn→Rs α)→List Tkn→Rs α
 |true,_,r=>.bad r
 |false,g,r=>g r
section
variable {L:List Tkn} {e:Int} {α β:Type}
def ZS.pl (s:ZS L e):Int:=if s.b=true then plc e (L.drop s.n)else 0
def FX (s:ZS L e):ZS L e:=⟨s.n,true,s.le⟩
def zhd (f:Tkn→Bool) (s:ZS L e):Bool:=!s.b&&(match L[s.n]? with|some t=>f t|none=>false)
theorem E0 {f:Tkn→Bool} {s:ZS L e} (h:zhd f s=true):s.n<L.length:=by
 unfold zhd at h
 rw[Bool.and_eq_true]at h
 rcases Nat.lt_or_ge s.n L.length with q|q
 ·exact q
 ·rw[List.getElem?_eq_none q]at h;exact absurd h.2 (by simp)
theorem M3 {f:Tkn→Bool} {s:ZS L e} (h:zhd f s=true):s.b=false:=by
 unfold zhd at h
 rw[Bool.and_eq_true]at h
 simpa using h.1
def zis (k:Int) (w:Bs):ZS L e→Bool:=zhd fun t=>decide (t.K=k)&&decide (t.T=w)
def Dt:ZS L e→Bool:=zhd fun t=>decide (t.K=1)
def DO:ZS L e→Bool:=zhd fun t=>decide (t.K=2)&&decide (0≤t.N)&&decide (t.N≤65536)
def zone (f:Tkn→Bool) (v:Tkn→α) (z:α) (s:ZS L e):α×ZS L e:=if h:zhd f s=true then(v (L[s.n]'(E0 h)),⟨s.n+1,s.b,E0 h⟩)else(z,FX s)
def zw (k:Int) (w:Bs):ZS L e→Unit×ZS L e:=zone (fun t=>decide (t.K=k)&&decide (t.T=w)) (fun _=>()) ()
def As:ZS L e→Bs×ZS L e:=zone (fun t=>decide (t.K=1)) (fun t=>t.T) []
def znum:ZS L e→Int×ZS L e:=zone (fun t=>decide (t.K=2)&&decide (0≤t.N)&&decide (t.N≤65536)) (fun t=>t.N) 0
def zret (a:α) (s:ZS L e):α×ZS L e:=(a,s)
def zbd (f:ZS L e→α×ZS L e) (K:α→ZS L e→β×ZS L e) (s:ZS L e):β×ZS L e:=K (f s).1 (f s).2
def zif (w:Bs) (f g:ZS L e→α×ZS L e) (s:ZS L e):α×ZS L e:=if zis 1 w s=true then f s else g s
def Eb (t:ZS L e→Bool) (f:ZS L e→α×ZS L e):Nat→ZS L e→List α×ZS L e
 |0,s=>([],s)
 |k+1,s=>if t s=true then((f s).1::(Eb t f k (f s).2).1,(Eb t f k (f s).2).2)else([],s)
def BH (t:ZS L e→Bool) (f:ZS L e→α×ZS L e) (s:ZS L e):List α×ZS L e:=Eb t f (L.length-s.n+1) s
def Zm (f:ZS L e→α×ZS L e):Prop:=∀s,s.n≤(f s).2.n
def Zi (t:ZS L e→Bool) (f:ZS L e→α×ZS L e):Prop:=∀s,t s=true→s.n<(f s).2.n
theorem GI {t:ZS L e→Bool} {f:ZS L e→α×ZS L e} (h:Zi t f):∀(k j:Nat) (s:ZS L e),L.length-s.n<k→L.length-s.n<j→Eb t f k s=Eb t f j s
 |0,_,_,h1,_=>by omega
 |_+1,0,_,_,h2=>by omega
 |k+1,j+1,s,h1,h2=>by
  unfold Eb
  by_cases hs:t s=true
  ·rw[if_pos hs,if_pos hs]
   have h3:=h s hs
   have h4:=(f s).2.le
   rw[GI h k j (f s).2 (by omega) (by omega)]
  ·rw[if_neg hs,if_neg hs]
theorem GJ {t:ZS L e→Bool} {f:ZS L e→α×ZS L e} (h:Zi t f) {s:ZS L e} (hs:t s=true):BH t f s=((f s).1::(BH t f (f s).2).1,(BH t f (f s).2).2):=by
 have h3:=h s hs
 have h4:=(f s).2.le
 unfold BH
 rw[Eb,if_pos hs,GI h (L.length-s.n) (L.length-(f s).2.n+1) (f s).2 (by omega) (by omega)]
theorem Ct {t:ZS L e→Bool} {f:ZS L e→α×ZS L e} {s:ZS L e} (hs:¬t s=true):BH t f s=([],s):=by
 unfold BH
 rw[Eb,if_neg hs]
theorem Zm.one (f:Tkn→Bool) (v:Tkn→α) (z:α):Zm (zone (L:=L) (e:=e) f v z):=fun s=>by
 unfold zone
 split
 ·exact Nat.le_succ _
 ·exact Nat.le_refl _
theorem Zm.ret (a:α):Zm (zret (L:=L) (e:=e) a):=fun s=>Nat.le_refl _
theorem Zm.bd {f:ZS L e→α×ZS L e} {K:α→ZS L e→β×ZS L e} (h:Zm f) (k:∀a,Zm (K a)):Zm (zbd f K):=fun s=>Nat.le_trans (h s) (k _ _)
theorem Zm.if {w:Bs} {f g:ZS L e→α×ZS L e} (h:Zm f) (k:Zm g):Zm (zif w f g):=fun s=>by
 unfold zif
 split
 ·exact h s
 ·exact k s
theorem Zm.loop {t:ZS L e→Bool} {f:ZS L e→α×ZS L e} (h:Zm f):Zm (BH t f):=fun s=>by
 have:∀k (s:ZS L e),s.n≤(Eb t f k s).2.n:=fun k=>by
  induction k with
  |zero=>intro s;exact Nat.le_refl _
  |succ k ih=>
   intro s
   unfold Eb
   split
   ·exact Nat.le_trans (h s) (ih _)
   ·exact Nat.le_refl _
 exact this _ s
def Zr (f:ZS L e→α×ZS L e) (g:List Tkn→Rs α):Prop:=∀s,gB s.b g (L.drop s.n)=zk (f s).2.b (f s).1 (L.drop (f s).2.n)
theorem Zr.ret (a:α):Zr (zret (L:=L) (e:=e) a) (Rs.ok a):=fun s=>by
 show gB s.b _ _=zk s.b a (L.drop s.n)
 cases s.b<;>rfl
theorem Zr.bd {f:ZS L e→α×ZS L e} {g:List Tkn→Rs α} {K:α→ZS L e→β×ZS L e} {G:α→List Tkn→Rs β} (h:Zr f g) (k:∀a,Zr (K a) (G a)):Zr (zbd f K) fun l=>(g l).bd (G):=fun s=>by
 have h1:=h s
 have h2:=k (f s).1 (f s).2
 have e1:gB s.b (fun l=>(g l).bd G) (L.drop s.n)=(gB s.b g (L.drop s.n)).bd G:=by cases s.b<;>rfl
 rw[e1,h1]
 unfold zbd
 rw[←h2]
 cases (f s).2.b<;>rfl
theorem Zr.eq {f:ZS L e→α×ZS L e} {g g':List Tkn→Rs α} (h:Zr f g) (e:∀l,g l=g' l):Zr f g':=(funext e:g=g')▸h
theorem Zr.fn {f f':ZS L e→α×ZS L e} {g:List Tkn→Rs α} (h:Zr f g) (e:∀s,f s=f' s):Zr f' g:=(funext e:f=f')▸h
theorem Zr.one {p:Tkn→Bool} {v:Tkn→α} {z:α} {g:List Tkn→Rs α} (h1:g []= .bad []) (h2:∀t∈L,∀r,g (t::r)=if p t=true then .ok (v t) r else .bad (t::r)):Zr (zone (L:=L) (e:=e) p v z) g:=fun s=>by
 unfold zone
 by_cases h:zhd p s=true
 ·rw[dif_pos h]
  have hb:=M3 h
  have hl:=E0 h
  have hp:p L[s.n]=true:=by
   unfold zhd at h
   rw[List.getElem?_eq_getElem hl,Bool.and_eq_true]at h;exact h.2
  rw[hb,List.drop_eq_getElem_cons hl]
  show g _= .ok _ _
  rw[h2 _ (List.getElem_mem hl),if_pos hp]
 ·rw[dif_neg h]
  show gB s.b g _= .bad _
  cases hb:s.b with
  |true=>rfl
  |false=>
   show g _=_
   rcases Nat.lt_or_ge s.n L.length with hl|hl
   ·rw[List.drop_eq_getElem_cons hl]
    show g _= .bad (L.drop s.n)
    rw[h2 _ (List.getElem_mem hl),if_neg,List.drop_eq_getElem_cons hl]
    intro hp
    exact h (by unfold zhd;rw[hb,List.getElem?_eq_getElem hl];exact hp)
   ·show g (L.drop s.n)= .bad (L.drop s.n)
    rw[List.drop_eq_nil_of_le hl];exact h1
theorem Zr.loop {t:ZS L e→Bool} {f:ZS L e→α×ZS L e} {t':List Tkn→Bool} {g:List Tkn→Rs α} (ht:∀s,t s=(!s.b&&t' (L.drop s.n))) (h:Zr f g) (hi:Zi t f) (hL:Lt g):Zr (BH t f) (BD t' g):=by
 have key:∀(k:Nat) (s:ZS L e),L.length-s.n=k→gB s.b (BD t' g) (L.drop s.n)=zk (BH t f s).2.b (BH t f s).1 (L.drop (BH t f s).2.n):=fun k=>by
  induction k using Nat.strongRecOn with
  |_ k ih=>
   intro s hk
   by_cases hs:t s=true
   ·rw[GJ hi hs]
    have h1:=hi s hs
    have h2:=(f s).2.le
    have h3:=ih (L.length-(f s).2.n) (by omega) (f s).2 rfl
    have h4:=h s
    have h5:s.b=false∧t' (L.drop s.n)=true:=by
     have:=ht s
     rw[hs]at this
     cases hb:s.b with
     |true=>rw[hb]at this;cases this
     |false=>rw[hb]at this;exact⟨rfl,by simpa using this.symm⟩
    rw[h5.1]at h4⊢
    show BD t' g _=_
    rw[G9 hL h5.2]
    change g (L.drop s.n)=_ at h4
    rw[h4]
    cases hb:(f s).2.b with
    |true=>
     rw[hb]at h3
     change Rs.bad _=_ at h3
     show Rs.bad _=_
     cases hb2:(BH t f (f s).2).2.b with
     |true=>rw[hb2]at h3;injection h3 with h3;rw[h3];rfl
     |false=>rw[hb2]at h3;cases h3
    |false=>
     rw[hb]at h3
     change BD t' g _=_ at h3
     show(BD t' g _).bd _=_
     rw[h3]
     cases (BH t f (f s).2).2.b<;>rfl
   ·rw[Ct hs]
    cases hb:s.b with
    |true=>rfl
    |false=>
     have:=ht s
     rw[hb,Bool.not_false,Bool.true_and]at this
     show BD t' g _= .ok [] _
     exact L3 hL (by rw[←this];simpa using hs)
 exact fun s=>key _ s rfl
theorem Zr.if {w:Bs} {f f':ZS L e→α×ZS L e} {g g':List Tkn→Rs α} (ht:∀s:ZS L e,zis 1 w s=(!s.b&&hdW w (L.drop s.n))) (h:Zr f fun l=>(need w l).bd fun _ r=>g r) (h':Zr f' g'):Zr (zif w f f') fun l=>if hdW w l=true then g l.tail else g' l:=fun s=>by
 unfold zif
 have h0:=ht s
 by_cases hs:zis 1 w s=true
 ·rw[if_pos hs]
  rw[hs]at h0
  have h5:s.b=false∧hdW w (L.drop s.n)=true:=by
   cases hb:s.b with
   |true=>rw[hb]at h0;cases h0
   |false=>rw[hb]at h0;exact⟨rfl,by simpa using h0.symm⟩
  rw[←h s,h5.1]
  show(if _ then _ else _)=(need w _).bd _
  unfold need
  rw[if_pos h5.2,if_pos h5.2];rfl
 ·rw[if_neg hs,←h' s]
  cases hb:s.b with
  |true=>rfl
  |false=>
   rw[hb,Bool.not_false,Bool.true_and]at h0
   show(if _ then _ else _)=_
   rw[if_neg (by rw[←h0];exact hs)];rfl
def C6 (f:ZS L e→α×ZS L e):ZS L e→List α×ZS L e:=zbd f fun a=>zbd (BH (zis 3 [44]) (zbd (zw 3 [44]) fun _=>f)) fun l=>zret (a::l)
def zset:ZS L e→List Bs×ZS L e:=zbd (zw 3 [123]) fun _=>zbd (C6 As) fun ss=>zbd (zw 3 [125]) fun _=>zret ss
def HO:ZS L e→Int×ZS L e:=zif wHex (zbd (zw 1 wHex) fun _=>zret 2) (zbd (zw 1 EF) fun _=>zret 1)
def HP (h0:List Int):ZS L e→List Int×ZS L e:=zif Ey (zbd (zw 1 Ey) fun _=>C6 znum) (zret h0)
def E2 (d:Dcl):ZS L e→Dcl×ZS L e:=zbd (zw 1 Ex) fun _=>zbd HO fun sh=>zbd znum fun w=>zbd (zw 1 wBy) fun _=>zbd znum fun h=>zbd (HP d.holes) fun ho=>zbd (zw 3 [59]) fun _=>zret {d with sh:=sh,w:=w,h:=h,holes:=ho}
def zsym:ZS L e→DSym×ZS L e:=zbd As fun s=>zbd (zw 3 [61]) fun _=>zbd znum fun v=>zret ⟨s,v⟩
def Fx:ZS L e→List DSym×ZS L e:=zbd (zw 1 EG) fun _=>zbd (C6 zsym) fun l=>zbd (zw 3 [59]) fun _=>zret l
def zrl:ZS L e→List Int×ZS L e:=zbd (C6 znum) fun l=>zbd (zw 3 [59]) fun _=>zret l
def zreg:ZS L e→DReg×ZS L e:=zbd (zw 1 Bo) fun _=>zbd As fun s=>zbd (zw 3 [123]) fun _=>zbd (BH DO zrl) fun ls=>zbd (zw 3 [125]) fun _=>zret ⟨s,ls⟩
def zclu:ZS L e→DClu×ZS L e:=zbd (zw 1 CO) fun _=>zbd As fun s=>zbd (zw 1 wOn) fun _=>zbd As fun o=>
 zif wSym (zbd (zw 1 wSym) fun _=>zbd (zw 3 [59]) fun _=>zret ⟨s,o,0,1,0,0⟩)
  (zif BF (zbd (zw 1 BF) fun _=>zbd znum fun a=>zbd (zw 1 wTo) fun _=>zbd znum fun b=>zbd (zw 3 [59]) fun _=>zret ⟨s,o,0,2,a,b⟩)
   (zbd (zw 1 Cq) fun _=>zbd (zw 3 [59]) fun _=>zret ⟨s,o,0,3,0,0⟩))
def zop:ZS L e→Int×ZS L e:=zif wIs (zbd (zw 1 wIs) fun _=>zret 1) (zif Ew (zbd (zw 1 Ew) fun _=>zret 2) (zbd (zw 1 Eh) fun _=>zret 3))
def zlim (x:DRul) (s:ZS L e):DRul×ZS L e:=if Dt s=true then({x with byN:=(As s).1},(As s).2)else({x with n:=(znum s).1},(znum s).2)
def Bl (x:DRul):ZS L e→DRul×ZS L e:=zbd zop fun o=>zlim {x with op:=o}
def EX (x:DRul):ZS L e→DRul×ZS L e:=
 zif ED (zbd (zw 1 ED) fun _=>zret {x with kind:=1})
 (zif CT (zbd (zw 1 CT) fun _=>zbd zset fun ss=>Bl {x with kind:=2,ns:=ss})
 (zif wSum (zbd (zw 1 wSum) fun _=>Bl {x with kind:=3})
 (zif FS (zbd (zw 1 FS) fun _=>zret {x with kind:=4})
 (zbd (zw 1 Cq) fun _=>zbd zset fun ss=>zbd (zw 1 wBy) fun _=>zbd As fun s=>zret {x with kind:=5,ns:=ss,byN:=s}))))
def DQ (x:DRul):ZS L e→DRul×ZS L e:=
 zif Bt (zbd (zw 1 Bt) fun _=>zbd As fun s=>EX {x with on:=s})
 (zif Bu (zbd (zw 1 Bu) fun _=>zret {x with kind:=6})
 (zif C0 (zbd (zw 1 C0) fun _=>zbd znum fun n=>zret {x with kind:=7,n:=n})
 (zif wNot (zbd (zw 1 wNot) fun _=>zbd zset fun ss=>zbd (zw 1 Cr) fun _=>zbd zset fun os=>zret {x with kind:=8,ns:=ss,os:=os})
 (zif FO (zbd (zw 1 FO) fun _=>zbd zset fun ss=>zret {x with kind:=9,ns:=ss})
 (zif FP (zbd (zw 1 FP) fun _=>zbd zset fun ss=>zret {x with kind:=10,ns:=ss})
 (zif C1 (zbd (zw 1 C1) fun _=>zbd As fun s=>zret {x with kind:=11,byN:=s})
 (zif FQ (zbd (zw 1 FQ) fun _=>zbd As fun s=>zret {x with kind:=12,on:=s})
 (zbd (zw 1 Cp) fun _=>Bl {x with kind:=13}))))))))
def EY:ZS L e→DRul×ZS L e:=zbd (zw 1 CR) fun _=>zbd As fun s=>zbd (zw 3 [58]) fun _=>zbd (DQ {rul0 with nm:=s}) fun x=>zbd (zw 3 [59]) fun _=>zret x
def zend (d:Dcl) (s:ZS L e):Dcl×ZS L e:=if s.n<L.length then(d,if s.b=true then s else FX s)else(d,s)
def FY:ZS L e→Dcl×ZS L e:=zbd (zw 1 EE) fun _=>zbd As fun nm=>zbd (zw 1 Ea) fun _=>zbd znum fun v=>zbd (zw 3 [123]) fun _=>zbd (E2 ⟨nm,v,0,0,0,[],[],[],[],[]⟩) fun d=>zbd Fx fun ss=>
 zbd (BH (zis 1 Bo) zreg) fun rs=>zbd (BH (zis 1 CO) zclu) fun cs=>zbd (BH (zis 1 CR) EY) fun us=>zbd (zw 3 [125]) fun _=>zend {d with syms:=ss,regs:=rs,clus:=cs,ruls:=us}
end
end Go.AM
end
section
set_option maxRecDepth 20000
set_option linter.all false
namespace Go.AM
open Go.Proofs Go.Lib
section
variable {L:List Tkn} {e:Int} {α β:Type}
theorem hd_1 {t:Tkn} (hv:Af t=true) {w:Bs} (hw:B0 w=true) (r:List Tkn):(decide (t.K=1)&&decide (t.T=w))=hdW w (t::r):=by
 rw[Bool.eq_iff_iff]
 simp only[hdW,Bool.and_eq_true,decide_eq_true_eq]
 constructor
 ·rintro⟨h1,h2⟩;exact⟨by omega,h2⟩
 ·rintro⟨h1,h2⟩
  refine⟨?_,h2⟩
  rcases Classical.em (t.K=1)with hk|hk
  ·exact hk
  ·obtain⟨_,b,eb,hb⟩:=Kn hv hk h1
   rw[←h2,eb]at hw
   simp only[B0,Bool.and_eq_true]at hw
   have:=hw.1.2
   simp only[List.getElem?_cons_zero,Option.getD_some]at this
   rw[Ko hb]at this;cases this
theorem hd_3 {t:Tkn} (hv:Af t=true) {b:UInt8} (hb:sgnB b=true) (r:List Tkn):(decide (t.K=3)&&decide (t.T=[b]))=hdW [b] (t::r):=by
 rw[Bool.eq_iff_iff]
 simp only[hdW,Bool.and_eq_true,decide_eq_true_eq]
 constructor
 ·rintro⟨h1,h2⟩;exact⟨by omega,h2⟩
 ·rintro⟨h1,h2⟩
  refine⟨?_,h2⟩
  rcases Classical.em (t.K=1)with hk|hk
  ·have:=(G6 hv hk).2
   rw[h2]at this
   simp only[B0,Bool.and_eq_true]at this
   have:=this.1.2
   simp only[List.getElem?_cons_zero,Option.getD_some]at this
   rw[Ko hb]at this;cases this
  ·unfold Af at hv
   rw[if_neg hk,if_neg h1]at hv
   split at hv
   ·assumption
   ·cases hv
variable (hv:Vd L)
include hv
theorem Aj (w:Bs) (hw:B0 w=true):Zr (zw (L:=L) (e:=e) 1 w) (need w):=Zr.one rfl fun t ht r=>by
 rw[hd_1 (hv t ht) hw r];rfl
theorem Bn (b:UInt8) (hb:sgnB b=true):Zr (zw (L:=L) (e:=e) 3 [b]) (need [b]):=Zr.one rfl fun t ht r=>by
 rw[hd_3 (hv t ht) hb r];rfl
theorem M4 {p:Tkn→Bool} {t':List Tkn→Bool} (h0:t' []=false) (h:∀t∈L,∀r,p t=t' (t::r)) (s:ZS L e):zhd p s=(!s.b&&t' (L.drop s.n)):=by
 unfold zhd
 rcases Nat.lt_or_ge s.n L.length with hl|hl
 ·rw[List.getElem?_eq_getElem hl,List.drop_eq_getElem_cons hl,←h _ (List.getElem_mem hl)]
 ·rw[List.getElem?_eq_none hl,List.drop_eq_nil_of_le hl,h0]
theorem A0 (w:Bs) (hw:B0 w=true) (s:ZS L e):zis 1 w s=(!s.b&&hdW w (L.drop s.n)):=M4 hv rfl (fun t ht r=>hd_1 (hv t ht) hw r) s
theorem PH (b:UInt8) (hb:sgnB b=true) (s:ZS L e):zis 3 [b] s=(!s.b&&hdW [b] (L.drop s.n)):=M4 hv rfl (fun t ht r=>hd_3 (hv t ht) hb r) s
theorem Qq {t:Tkn} (ht:t∈L) (r:List Tkn):(decide (t.K=2)&&decide (0≤t.N)&&decide (t.N≤65536))=BK (t::r):=by
 rw[Bool.eq_iff_iff]
 simp only[BK,Bool.and_eq_true,decide_eq_true_eq]
 exact⟨fun⟨⟨a,b⟩,c⟩=>⟨a,c⟩,fun⟨a,c⟩=>⟨⟨a,(FL (hv t ht) a).1⟩,c⟩⟩
theorem Rb (s:ZS L e):DO s=(!s.b&&BK (L.drop s.n)):=M4 hv rfl (fun t ht r=>Qq hv ht r) s
theorem Ec:Zr (znum (L:=L) (e:=e)) nmbR:=Zr.one rfl fun t ht r=>by
 rw[Qq hv ht r]
 simp [BK,nmbR]
omit hv in
theorem CP:Zr (As (L:=L) (e:=e)) Bf:=Zr.one rfl fun t ht r=>by
 unfold Bf Js
 by_cases hk:t.K=1
 ·simp [hk,Rs.bd]
 ·simp [hk,Rs.bd]
omit hv in
theorem HD {k:Int} {w:Bs} {f:ZS L e→α×ZS L e} (h:Zm f):Zi (zis k w) (zbd (zw k w) fun _=>f):=fun s hs=>by
 have h1:(zw k w s).2.n=s.n+1:=by
  unfold zw zone
  rw[dif_pos (show zhd _ s=true from hs)]
 exact Nat.lt_of_lt_of_le (by omega) (h (zw k w s).2)
theorem IJ {f:ZS L e→α×ZS L e} {g:List Tkn→Rs α} (h:Zr f g) (hm:Zm f) (hL:Lt g):Zr (C6 f) (CN g):=
 Zr.bd h fun a=>Zr.bd (Zr.loop (PH hv 44 rfl) (Zr.bd (Bn hv 44 rfl) fun _=>h) (HD hm) (Jv hL.le)) fun l=>Zr.ret _
omit hv
theorem zm_w {k:Int} {w:Bs}:Zm (zw (L:=L) (e:=e) k w):=Zm.one _ _ _
theorem B9:Zm (As (L:=L) (e:=e)):=Zm.one _ _ _
theorem Ed:Zm (znum (L:=L) (e:=e)):=Zm.one _ _ _
theorem M5 {f:ZS L e→α×ZS L e} (h:Zm f):Zm (C6 f):=h.bd fun _=>(Zm.loop (zm_w.bd fun _=>h)).bd fun _=>Zm.ret _
theorem HQ:Zm (zset (L:=L) (e:=e)):=zm_w.bd fun _=>(M5 B9).bd fun _=>zm_w.bd fun _=>Zm.ret _
theorem Qr:Zm (zsym (L:=L) (e:=e)):=B9.bd fun _=>zm_w.bd fun _=>Ed.bd fun _=>Zm.ret _
theorem zm_rl:Zm (zrl (L:=L) (e:=e)):=(M5 Ed).bd fun _=>zm_w.bd fun _=>Zm.ret _
theorem zi_rl:Zi (DO (L:=L) (e:=e)) zrl:=fun s hs=>by
 have h1:(znum s).2.n=s.n+1:=by
  unfold znum zone
  rw[dif_pos (show zhd _ s=true from hs)]
 have h2:(znum s).2.n≤(C6 znum s).2.n:=((Zm.loop (zm_w.bd fun _=>Ed)).bd fun l=>Zm.ret ((znum s).1::l)) (znum s).2
 have h3:(C6 znum s).2.n≤(zrl s).2.n:=(zm_w.bd fun _=>Zm.ret _) (C6 znum s).2
 omega
theorem Qs:Zm (zbd As fun s=>zbd (zw (L:=L) (e:=e) 3 [123]) fun _=>zbd (BH DO zrl) fun ls=>zbd (zw 3 [125]) fun _=>zret (⟨s,ls⟩:DReg)):=B9.bd fun _=>zm_w.bd fun _=>(Zm.loop zm_rl).bd fun _=>zm_w.bd fun _=>Zm.ret _
theorem Qt:Zm (zbd As fun s=>zbd (zw (L:=L) (e:=e) 1 wOn) fun _=>zbd As fun o=>
 zif wSym (zbd (zw 1 wSym) fun _=>zbd (zw 3 [59]) fun _=>zret (⟨s,o,0,1,0,0⟩:DClu))
  (zif BF (zbd (zw 1 BF) fun _=>zbd znum fun a=>zbd (zw 1 wTo) fun _=>zbd znum fun b=>zbd (zw 3 [59]) fun _=>zret ⟨s,o,0,2,a,b⟩)
   (zbd (zw 1 Cq) fun _=>zbd (zw 3 [59]) fun _=>zret ⟨s,o,0,3,0,0⟩))):=
 B9.bd fun _=>zm_w.bd fun _=>B9.bd fun _=>Zm.if (zm_w.bd fun _=>zm_w.bd fun _=>Zm.ret _) (Zm.if (zm_w.bd fun _=>Ed.bd fun _=>zm_w.bd fun _=>Ed.bd fun _=>zm_w.bd fun _=>Zm.ret _) (zm_w.bd fun _=>zm_w.bd fun _=>Zm.ret _))
theorem zm_op:Zm (zop (L:=L) (e:=e)):=Zm.if (zm_w.bd fun _=>Zm.ret _) (Zm.if (zm_w.bd fun _=>Zm.ret _) (zm_w.bd fun _=>Zm.ret _))
theorem zm_lim (x:DRul):Zm (zlim (L:=L) (e:=e) x):=fun s=>by
 unfold zlim
 split
 ·exact B9 s
 ·exact Ed s
theorem IN (x:DRul):Zm (Bl (L:=L) (e:=e) x):=zm_op.bd fun _=>zm_lim _
theorem Rd (x:DRul):Zm (EX (L:=L) (e:=e) x):=Zm.if (zm_w.bd fun _=>Zm.ret _) (Zm.if (zm_w.bd fun _=>HQ.bd fun _=>IN _) (Zm.if (zm_w.bd fun _=>IN _) (Zm.if (zm_w.bd fun _=>Zm.ret _) (zm_w.bd fun _=>HQ.bd fun _=>zm_w.bd fun _=>B9.bd fun _=>Zm.ret _))))
theorem Re (x:DRul):Zm (DQ (L:=L) (e:=e) x):=Zm.if (zm_w.bd fun _=>B9.bd fun _=>Rd _) (Zm.if (zm_w.bd fun _=>Zm.ret _) (Zm.if (zm_w.bd fun _=>Ed.bd fun _=>Zm.ret _) (Zm.if (zm_w.bd fun _=>HQ.bd fun _=>zm_w.bd fun _=>HQ.bd fun _=>Zm.ret _) (Zm.if (zm_w.bd fun _=>HQ.bd fun _=>Zm.ret _) (Zm.if (zm_w.bd fun _=>HQ.bd fun _=>Zm.ret _) (Zm.if (zm_w.bd fun _=>B9.bd fun _=>Zm.ret _) (Zm.if (zm_w.bd fun _=>B9.bd fun _=>Zm.ret _) (zm_w.bd fun _=>IN _))))))))
theorem M6:Zm (zbd (As (L:=L) (e:=e)) fun s=>zbd (zw 3 [58]) fun _=>zbd (DQ {rul0 with nm:=s}) fun x=>zbd (zw 3 [59]) fun _=>zret x):=B9.bd fun _=>zm_w.bd fun _=>(Re _).bd fun _=>zm_w.bd fun _=>Zm.ret _
include hv
theorem HS:Zr (zset (L:=L) (e:=e)) setR:=Zr.bd (Bn hv 123 rfl) fun _=>Zr.bd (IJ hv CP B9 Av) fun _=>Zr.bd (Bn hv 125 rfl) fun _=>Zr.ret _
theorem zr_sym:Zr (zsym (L:=L) (e:=e)) symR:=Zr.bd CP fun _=>Zr.bd (Bn hv 61 rfl) fun _=>Zr.bd (Ec hv) fun _=>Zr.ret _
theorem zr_rl:Zr (zrl (L:=L) (e:=e)) Dm:=Zr.bd (IJ hv (Ec hv) Ed Bg) fun _=>Zr.bd (Bn hv 59 rfl) fun _=>Zr.ret _
theorem zr_reg:Zr (zreg (L:=L) (e:=e)) (G2 Bo regR):=Zr.bd (Aj hv Bo rfl) fun _=>Zr.bd CP fun _=>Zr.bd (Bn hv 123 rfl) fun _=>Zr.bd (Zr.loop (Rb hv) (zr_rl hv) zi_rl FT) fun _=>Zr.bd (Bn hv 125 rfl) fun _=>Zr.ret _
theorem zr_op:Zr (zop (L:=L) (e:=e)) opR:=Zr.if (g:=Rs.ok 1) (A0 hv _ rfl) (Zr.bd (Aj hv _ rfl) fun _=>Zr.ret _) (Zr.if (g:=Rs.ok 2) (A0 hv _ rfl) (Zr.bd (Aj hv _ rfl) fun _=>Zr.ret _) (Zr.bd (Aj hv _ rfl) fun _=>Zr.ret _))
theorem PI:Zr (HO (L:=L) (e:=e)) EI:=Zr.if (g:=Rs.ok 2) (A0 hv _ rfl) (Zr.bd (Aj hv _ rfl) fun _=>Zr.ret _) (Zr.bd (Aj hv _ rfl) fun _=>Zr.ret _)
theorem PJ:Zr (HP (L:=L) (e:=e) []) EJ:=Zr.if (A0 hv _ rfl) (Zr.bd (Aj hv _ rfl) fun _=>IJ hv (Ec hv) Ed Bg) (Zr.ret _)
theorem zr_lim (x:DRul) (h1:x.n=0) (h2:x.byN=[]):Zr (zlim (L:=L) (e:=e) x) fun l=>(limR l).bd fun p r=>.ok {x with n:=p.1,byN:=p.2} r:=fun s=>by
 have ha:=CP s
 have hb:=Ec hv s
 unfold zlim
 by_cases hn:Dt s=true
 ·rw[if_pos hn]
  have hlt:=E0 hn
  have hbb:=M3 hn
  have hk:L[s.n].K=1:=by
   unfold Dt zhd at hn
   rw[List.getElem?_eq_getElem hlt,Bool.and_eq_true,decide_eq_true_eq]at hn;exact hn.2
  rw[hbb]at ha⊢
  change Bf _=_ at ha
  show(limR _).bd _=_
  have hq:BK (L.drop s.n)=false:=by rw[List.drop_eq_getElem_cons hlt];simp [BK,hk]
  unfold limR
  rw[hq,if_neg (by decide),ha]
  cases (As s).2.b with
  |true=>rfl
  |false=>show Rs.ok _ _=Rs.ok _ _;cases x;simp_all
 ·rw[if_neg hn]
  cases hbb:s.b with
  |true=>
   rw[hbb]at hb
   change Rs.bad _=_ at hb
   show Rs.bad _=_
   cases hc:(znum s).2.b with
   |true=>rw[hc]at hb;injection hb with hb;rw[hb];rfl
   |false=>rw[hc]at hb;cases hb
  |false=>
   rw[hbb]at hb ha
   change nmbR _=_ at hb
   show(limR _).bd _=_
   unfold limR
   by_cases hq:BK (L.drop s.n)=true
   ·rw[if_pos hq,hb]
    cases (znum s).2.b with
    |true=>rfl
    |false=>show Rs.ok _ _=Rs.ok _ _;cases x;simp_all
   ·rw[if_neg hq]
    have hnn:Bf (L.drop s.n)= .bad (L.drop s.n):=by
     rcases Nat.lt_or_ge s.n L.length with hl|hl
     ·rw[List.drop_eq_getElem_cons hl]
      have:¬L[s.n].K=1:=fun hk=>hn (by unfold Dt zhd;rw[hbb,List.getElem?_eq_getElem hl];simp [hk])
      simp [Bf,Js,this,Rs.bd]
     ·rw[List.drop_eq_nil_of_le hl];rfl
    have hmm:nmbR (L.drop s.n)= .bad (L.drop s.n):=by
     rcases Nat.lt_or_ge s.n L.length with hl|hl
     ·rw[List.drop_eq_getElem_cons hl]at hq⊢
      simp only[BK,Bool.and_eq_true,decide_eq_true_eq]at hq
      simp [nmbR,hq]
     ·rw[List.drop_eq_nil_of_le hl];rfl
    rw[hnn]
    rw[hmm]at hb
    show Rs.bad _=_
    cases hc:(znum s).2.b with
    |true=>rw[hc]at hb;injection hb with hb;rw[hb];rfl
    |false=>rw[hc]at hb;cases hb
theorem IP (x:DRul) (h1:x.n=0) (h2:x.byN=[]):Zr (Bl (L:=L) (e:=e) x) fun l=>(bndR l).bd fun b r=>.ok {x with op:=b.1,n:=b.2.1,byN:=b.2.2} r:=
 (Zr.bd (zr_op hv) fun o=>zr_lim hv {x with op:=o} h1 h2).eq fun l=>by
  unfold bndR
  rw[BW]
  congr 1
  funext o r
  rw[BW]
  rfl
theorem Rf (x:DRul) (h1:x.n=0) (h2:x.byN=[]):Zr (EX (L:=L) (e:=e) x) (EH x):=
 Zr.if (g:=Rs.ok _) (A0 hv _ rfl) (Zr.bd (Aj hv _ rfl) fun _=>Zr.ret _)
 (Zr.if (A0 hv _ rfl) (Zr.bd (Aj hv _ rfl) fun _=>Zr.bd (HS hv) fun ss=>IP hv {x with kind:=2,ns:=ss} h1 h2)
 (Zr.if (A0 hv _ rfl) (Zr.bd (Aj hv _ rfl) fun _=>IP hv {x with kind:=3} h1 h2)
 (Zr.if (g:=Rs.ok _) (A0 hv _ rfl) (Zr.bd (Aj hv _ rfl) fun _=>Zr.ret _)
 (Zr.bd (Aj hv _ rfl) fun _=>Zr.bd (HS hv) fun _=>Zr.bd (Aj hv _ rfl) fun _=>Zr.bd CP fun _=>Zr.ret _))))
theorem PK (x:DRul) (h1:x.n=0) (h2:x.byN=[]):Zr (zbd (zw (L:=L) (e:=e) 1 Cp) fun _=>Bl {x with kind:=13}) fun l=>if hdW Cp l=true then(bndR l.tail).bd fun b r=>.ok {x with kind:=13,op:=b.1,n:=b.2.1,byN:=b.2.2} r else .bad l:=
 (Zr.bd (Aj hv Cp rfl) fun _=>IP hv {x with kind:=13} h1 h2).eq fun l=>by
  unfold need
  by_cases hw:hdW Cp l=true
  ·rw[if_pos hw,if_pos hw];rfl
  ·rw[if_neg hw,if_neg hw];rfl
theorem Rg (x:DRul) (h1:x.n=0) (h2:x.byN=[]):Zr (DQ (L:=L) (e:=e) x) (Ds x):=
 Zr.if (A0 hv Bt rfl) (Zr.bd (Aj hv Bt rfl) fun _=>Zr.bd CP fun s=>Rf hv {x with on:=s} h1 h2)
 (Zr.if (g:=Rs.ok _) (A0 hv Bu rfl) (Zr.bd (Aj hv Bu rfl) fun _=>Zr.ret {x with kind:=6})
 (Zr.if (A0 hv C0 rfl) (Zr.bd (Aj hv C0 rfl) fun _=>Zr.bd (Ec hv) fun n=>Zr.ret {x with kind:=7,n:=n})
 (Zr.if (A0 hv wNot rfl) (Zr.bd (Aj hv wNot rfl) fun _=>Zr.bd (HS hv) fun ss=>Zr.bd (Aj hv Cr rfl) fun _=>Zr.bd (HS hv) fun os=>Zr.ret {x with kind:=8,ns:=ss,os:=os})
 (Zr.if (A0 hv FO rfl) (Zr.bd (Aj hv FO rfl) fun _=>Zr.bd (HS hv) fun ss=>Zr.ret {x with kind:=9,ns:=ss})
 (Zr.if (A0 hv FP rfl) (Zr.bd (Aj hv FP rfl) fun _=>Zr.bd (HS hv) fun ss=>Zr.ret {x with kind:=10,ns:=ss})
 (Zr.if (A0 hv C1 rfl) (Zr.bd (Aj hv C1 rfl) fun _=>Zr.bd CP fun s=>Zr.ret {x with kind:=11,byN:=s})
 (Zr.if (A0 hv FQ rfl) (Zr.bd (Aj hv FQ rfl) fun _=>Zr.bd CP fun s=>Zr.ret {x with kind:=12,on:=s})
 (PK hv x h1 h2))))))))
theorem Rh:Zr (EY (L:=L) (e:=e)) (G2 CR G1):=Zr.bd (Aj hv CR rfl) fun _=>Zr.bd CP fun s=>Zr.bd (Bn hv 58 rfl) fun _=>Zr.bd (Rg hv {rul0 with nm:=s} rfl rfl) fun _=>Zr.bd (Bn hv 59 rfl) fun _=>Zr.ret _
theorem Ri (s o:Bs):Zr (zbd (zw (L:=L) (e:=e) 1 Cq) fun _=>zbd (zw 3 [59]) fun _=>zret (⟨s,o,0,3,0,0⟩:DClu)) fun l=>(need Cq l).bd fun _ l=>(need [59] l).bd fun _ r=>Rs.ok (⟨s,o,0,3,0,0⟩:DClu) r:=
 Zr.bd (Aj hv Cq rfl) fun _=>Zr.bd (Bn hv 59 rfl) fun _=>Zr.ret (⟨s,o,0,3,0,0⟩:DClu)
theorem Rj (s o:Bs):Zr (zbd (zw (L:=L) (e:=e) 1 BF) fun _=>zbd znum fun a=>zbd (zw 1 wTo) fun _=>zbd znum fun b=>zbd (zw 3 [59]) fun _=>zret (⟨s,o,0,2,a,b⟩:DClu)) fun l=>(need BF l).bd fun _ l=>(nmbR l).bd fun a l=>(need wTo l).bd fun _ l=>(nmbR l).bd fun b l=>(need [59] l).bd fun _ r=>Rs.ok (⟨s,o,0,2,a,b⟩:DClu) r:=
 Zr.bd (Aj hv BF rfl) fun _=>Zr.bd (Ec hv) fun a=>Zr.bd (Aj hv wTo rfl) fun _=>Zr.bd (Ec hv) fun b=>Zr.bd (Bn hv 59 rfl) fun _=>Zr.ret (⟨s,o,0,2,a,b⟩:DClu)
theorem Rk (s o:Bs):Zr (zbd (zw (L:=L) (e:=e) 1 wSym) fun _=>zbd (zw 3 [59]) fun _=>zret (⟨s,o,0,1,0,0⟩:DClu)) fun l=>(need wSym l).bd fun _ l=>(need [59] l).bd fun _ r=>Rs.ok (⟨s,o,0,1,0,0⟩:DClu) r:=
 Zr.bd (Aj hv wSym rfl) fun _=>Zr.bd (Bn hv 59 rfl) fun _=>Zr.ret (⟨s,o,0,1,0,0⟩:DClu)
theorem Rl (s o:Bs):Zr (zif wSym (zbd (zw (L:=L) (e:=e) 1 wSym) fun _=>zbd (zw 3 [59]) fun _=>zret (⟨s,o,0,1,0,0⟩:DClu))
  (zif BF (zbd (zw 1 BF) fun _=>zbd znum fun a=>zbd (zw 1 wTo) fun _=>zbd znum fun b=>zbd (zw 3 [59]) fun _=>zret ⟨s,o,0,2,a,b⟩)
   (zbd (zw 1 Cq) fun _=>zbd (zw 3 [59]) fun _=>zret ⟨s,o,0,3,0,0⟩)))
 fun r=>(if hdW wSym r=true then Rs.ok (⟨s,o,0,1,0,0⟩:DClu) r.tail else if hdW BF r=true then(nmbR r.tail).bd fun a r=>(need wTo r).bd fun _ r=>(nmbR r).bd fun b r=>.ok ⟨s,o,0,2,a,b⟩ r
  else(need Cq r).bd fun _ r=>.ok ⟨s,o,0,3,0,0⟩ r).bd fun x r=>(need [59] r).bd fun _ r=>.ok x r:=
 Zr.eq (Zr.if (A0 hv wSym rfl) (Rk hv s o) (Zr.if (A0 hv BF rfl) (Rj hv s o) (Ri hv s o))) fun r=>by
 by_cases w1:hdW wSym r=true
 ·rw[if_pos w1,if_pos w1];rfl
 ·rw[if_neg w1,if_neg w1]
  by_cases w2:hdW BF r=true
  ·rw[if_pos w2,if_pos w2]
   simp only[BW,Bh]
  ·rw[if_neg w2,if_neg w2]
   simp only[BW,Bh]
theorem zr_clu:Zr (zclu (L:=L) (e:=e)) (G2 CO cluR):=
 Zr.bd (Aj hv CO rfl) fun _=>Zr.bd CP fun s=>Zr.bd (Aj hv wOn rfl) fun _=>Zr.bd CP fun o=>Rl hv s o
theorem zr_end (d:Dcl):Zr (zend (L:=L) (e:=e) d) (endR d):=fun s=>by
 unfold zend
 rcases Nat.lt_or_ge s.n L.length with hl|hl
 ·rw[if_pos hl,List.drop_eq_getElem_cons hl]
  cases hb:s.b with
  |true=>
   rw[if_pos rfl]
   show Rs.bad _=zk s.b _ _
   rw[hb,List.drop_eq_getElem_cons hl];rfl
  |false=>
   rw[if_neg (by decide)]
   show Rs.bad _=Rs.bad (L.drop s.n)
   rw[List.drop_eq_getElem_cons hl]
 ·rw[if_neg (by omega),List.drop_eq_nil_of_le hl]
  show gB s.b (endR d) []=zk s.b d []
  cases s.b<;>rfl
theorem Rm (d:Dcl) (hh:d.holes=[]):Zr (E2 (L:=L) (e:=e) d) fun l=>(need Ex l).bd fun _ r=>(EI r).bd fun sh r=>(nmbR r).bd fun w r=>(need wBy r).bd fun _ r=>(nmbR r).bd fun h r=>(EJ r).bd fun ho r=>(need [59] r).bd fun _ r=>.ok {d with sh:=sh,w:=w,h:=h,holes:=ho} r:=by
 unfold E2
 rw[hh]
 exact Zr.bd (Aj hv _ rfl) fun _=>Zr.bd (PI hv) fun _=>Zr.bd (Ec hv) fun _=>Zr.bd (Aj hv _ rfl) fun _=>Zr.bd (Ec hv) fun _=>Zr.bd (PJ hv) fun _=>Zr.bd (Bn hv 59 rfl) fun _=>Zr.ret _
theorem Rn:Zr (Fx (L:=L) (e:=e)) fun l=>(need EG l).bd fun _ r=>(CN symR r).bd fun ss r=>(need [59] r).bd fun _ r=>.ok ss r:=
 Zr.bd (Aj hv _ rfl) fun _=>Zr.bd (IJ hv (zr_sym hv) Qr Jw) fun _=>Zr.bd (Bn hv 59 rfl) fun _=>Zr.ret _
theorem Ro:Zr (FY (L:=L) (e:=e)) C9:=(Zr.bd (Aj hv EE rfl) fun _=>Zr.bd CP fun nm=>Zr.bd (Aj hv Ea rfl) fun _=>Zr.bd (Ec hv) fun v=>Zr.bd (Bn hv 123 rfl) fun _=>Zr.bd (Rm hv ⟨nm,v,0,0,0,[],[],[],[],[]⟩ rfl) fun d=>Zr.bd (Rn hv) fun ss=>
 Zr.bd (Zr.loop (A0 hv _ rfl) (zr_reg hv) (HD Qs) (BX _ G4.le)) fun rs=>Zr.bd (Zr.loop (A0 hv _ rfl) (zr_clu hv) (HD Qt) (BX _ G3.le)) fun cs=>Zr.bd (Zr.loop (A0 hv _ rfl) (Rh hv) (HD M6) (BX _ EK.le)) fun us=>
 Zr.bd (Bn hv 125 rfl) fun _=>zr_end hv {d with syms:=ss,regs:=rs,clus:=cs,ruls:=us}).eq fun l=>by
 unfold C9 Mq On QN C8
 simp only[BW,Bh]
end
end Go.AM
end
section
set_option maxRecDepth 20000
set_option linter.all false
namespace Go.AM
open Go.Proofs Go.Lib
theorem E4 (s t:Bs):scmp .eql s t=decide (s=t):=rfl
abbrev pvZ {L:List Tkn} {e:Int} (s:ZS L e):AVal:=.agg [.sl (.none 4) (L.map encK),.int .i64 s.n,.int .i64 e,.bool s.b,.int .i64 s.pl]
def Rp (L:List Tkn) (e:Int):AVal→ZS L e
 | .agg [_,.int _ n,_,.bool b,_]=>if h:n.toNat≤L.length then⟨n.toNat,b,h⟩else⟨0,false,Nat.zero_le _⟩
 |_=>⟨0,false,Nat.zero_le _⟩
section
variable {L:List Tkn} {e:Int}
theorem I6 (s:ZS L e):Rp L e (pvZ s)=s:=by
 obtain⟨n,b,h⟩:=s
 show(if h:((n:Int)).toNat≤L.length then _ else _)=_
 rw[dif_pos (by simpa using h)]
 simp
def dZ (L:List Tkn) (e:Int):Dc (ZS L e):=dEx pvZ (Rp L e)
theorem Am (s:ZS L e):(dZ L e).ok (.agg [.sl (.none 4) (L.map encK),.int .i64 s.n,.int .i64 e,.bool s.b,.int .i64 s.pl])=True:=eq_true (by show pvZ s=pvZ (Rp L e (pvZ s));rw[I6])
theorem AZ (s:ZS L e):(dZ L e).dec (.agg [.sl (.none 4) (L.map encK),.int .i64 s.n,.int .i64 e,.bool s.b,.int .i64 s.pl])=s:=I6 s
theorem AR (k:Nat) (s:ZS L e):(pvZ s).under k:=⟨⟨trivial,Bx k L⟩,trivial,trivial,trivial,trivial,trivial⟩
variable (hl:few L)
include hl
theorem p73 (s:ZS L e):Pur Tryz.prog 73 [pvZ s] (pvZ (FX s)):=by
 refine .mk ⟨AR 0 s,trivial⟩ (AR 0 _) (a73 (AF AJ.tnil (AE ?_)))
 obtain⟨n,b,h⟩:=s
 have hl':L.length<1000000000:=hl
 cases b with
 |true=>
  simp only[eE,eC,eN,reduceCtorEq,Nat.reduceEqDiff,↓reduceIte,Nat.reduceAdd,Nat.reduceLeDiff,Ao,c73]
  exact Wk.refl _
 |false=>
  by_cases hlt:n<L.length
  ·have hg:=List.getElem?_eq_getElem hlt
   simp only[eE,eC,eN,reduceCtorEq,Nat.reduceEqDiff,↓reduceIte,Nat.reduceAdd,Nat.reduceLeDiff,Ao,Option.getD_some,Int.toNat_natCast,Int.natCast_nonneg,List.length_map,List.getElem?_map,c73,lt_T hlt,hg]
   have:plc e (L.drop n)=L[n].A:=by rw[List.drop_eq_getElem_cons hlt];rfl
   show Wk _ (.agg [_,_,_,_,.int .i64 (plc e (L.drop n))])
   rw[this];exact Wk.refl _
  ·simp only[eE,eC,eN,reduceCtorEq,Nat.reduceEqDiff,↓reduceIte,Nat.reduceAdd,Nat.reduceLeDiff,Ao,List.length_map,c73,lt_F hlt]
   have:plc e (L.drop n)=e:=by rw[List.drop_eq_nil_of_le (by omega)];rfl
   show Wk _ (.agg [_,_,_,_,.int .i64 (plc e (L.drop n))])
   rw[this];exact Wk.refl _
theorem p113 (s:ZS L e) (k:Int) (w:Bs):Pur Tryz.prog 113 [pvZ s,.int .i64 k,.str w] (.bool (zis k w s)):=by
 refine .mk ⟨AR 0 s,trivial,trivial,trivial⟩ trivial (a113 (AF AJ.tnil (AE ?_)))
 obtain⟨n,b,h⟩:=s
 have hl':L.length<1000000000:=hl
 cases b with
 |true=>
  simp only[eE,eC,eN,reduceCtorEq,Nat.reduceEqDiff,↓reduceIte,Nat.reduceAdd,Nat.reduceLeDiff,Bool.not_true,Int.toNat_natCast,Int.natCast_nonneg,List.length_map,List.getElem?_map,E4,c113]
  rfl
 |false=>
  by_cases hlt:n<L.length
  ·have hg:=List.getElem?_eq_getElem hlt
   simp only[eE,eC,eN,reduceCtorEq,Nat.reduceEqDiff,↓reduceIte,Nat.reduceAdd,Nat.reduceLeDiff,Bool.not_false,Option.getD_some,Int.toNat_natCast,Int.natCast_nonneg,List.length_map,List.getElem?_map,E4,c113,lt_T hlt,hg]
   simp [zis,zhd,hg]
  ·simp only[eE,eC,eN,reduceCtorEq,Nat.reduceEqDiff,↓reduceIte,Nat.reduceAdd,Nat.reduceLeDiff,Bool.not_false,Int.toNat_natCast,Int.natCast_nonneg,List.length_map,List.getElem?_map,E4,c113,lt_F hlt]
   have hg:=List.getElem?_eq_none (Nat.le_of_not_lt hlt)
   simp [zis,zhd,hg]
theorem p107 (s:ZS L e):Pur Tryz.prog 107 [pvZ s] (.bool (Dt s)):=by
 refine .mk ⟨AR 0 s,trivial⟩ trivial (a107 (AF AJ.tnil (AE ?_)))
 obtain⟨n,b,h⟩:=s
 have hl':L.length<1000000000:=hl
 cases b with
 |true=>
  simp only[eE,eC,eN,Nat.reduceEqDiff,↓reduceIte,Nat.reduceAdd,Nat.reduceLeDiff,Bool.not_true,Int.toNat_natCast,Int.natCast_nonneg,List.length_map,List.getElem?_map,c107]
  rfl
 |false=>
  by_cases hlt:n<L.length
  ·have hg:=List.getElem?_eq_getElem hlt
   simp only[eE,eC,eN,reduceCtorEq,Nat.reduceEqDiff,↓reduceIte,Nat.reduceAdd,Nat.reduceLeDiff,Bool.not_false,Option.getD_some,Int.toNat_natCast,Int.natCast_nonneg,List.length_map,List.getElem?_map,c107,lt_T hlt,hg]
   simp [Dt,zhd,hg]
  ·simp only[eE,eC,eN,reduceCtorEq,Nat.reduceEqDiff,↓reduceIte,Nat.reduceAdd,Nat.reduceLeDiff,Bool.not_false,Int.toNat_natCast,Int.natCast_nonneg,List.length_map,List.getElem?_map,c107,lt_F hlt]
   have hg:=List.getElem?_eq_none (Nat.le_of_not_lt hlt)
   simp [Dt,zhd,hg]
theorem p109 (s:ZS L e):Pur Tryz.prog 109 [pvZ s] (.bool (DO s)):=by
 refine .mk ⟨AR 0 s,trivial⟩ trivial (a109 (AF AJ.tnil (AE ?_)))
 obtain⟨n,b,h⟩:=s
 have hl':L.length<1000000000:=hl
 cases b with
 |true=>
  simp only[eE,eC,eN,Nat.reduceEqDiff,↓reduceIte,Nat.reduceAdd,Nat.reduceLeDiff,Bool.not_true,Int.toNat_natCast,Int.natCast_nonneg,List.length_map,List.getElem?_map,c109]
  rfl
 |false=>
  by_cases hlt:n<L.length
  ·have hg:=List.getElem?_eq_getElem hlt
   simp only[eE,eC,eN,reduceCtorEq,Nat.reduceEqDiff,↓reduceIte,Nat.reduceAdd,Nat.reduceLeDiff,Bool.not_false,Option.getD_some,Int.toNat_natCast,Int.natCast_nonneg,List.length_map,List.getElem?_map,c109,lt_T hlt,hg]
   simp [DO,zhd,hg]
  ·simp only[eE,eC,eN,reduceCtorEq,Nat.reduceEqDiff,↓reduceIte,Nat.reduceAdd,Nat.reduceLeDiff,Bool.not_false,Int.toNat_natCast,Int.natCast_nonneg,List.length_map,List.getElem?_map,c109,lt_F hlt]
   have hg:=List.getElem?_eq_none (Nat.le_of_not_lt hlt)
   simp [DO,zhd,hg]
omit hl
def Tzn (L:List Tkn) (e:Int):Tab:=tadd 113 (s3 (dZ L e) dI dS (fun _ _ _=>True) fun s k w=>.bool (zis k w s)) (tadd 73 (s1 (dZ L e) (fun _=>True) fun s=>pvZ (FX s)) (tadd 107 (s1 (dZ L e) (fun _=>True) fun s=>.bool (Dt s)) (tadd 109 (s1 (dZ L e) (fun _=>True) fun s=>.bool (DO s)) tnil)))
theorem I7 (hl:few L):AJ Tryz.prog (Tzn L e):=(((AJ.tnil.add (q1 fun s _=>p109 hl s)).add (q1 fun s _=>p107 hl s)).add (q1 fun s _=>p73 hl s)).add (q3 fun s k w _=>p113 hl s k w)
theorem PM (a:List AVal) (H:AD):Tzn L e 113 a H=s3 (dZ L e) dI dS (fun _ _ _=>True) (fun s k w=>.bool (zis k w s)) a H:=rfl
theorem Rq (a:List AVal) (H:AD):Tzn L e 73 a H=s1 (dZ L e) (fun _=>True) (fun s=>pvZ (FX s)) a H:=rfl
theorem Tzn_m (a:List AVal) (H:AD):Tzn L e 107 a H=s1 (dZ L e) (fun _=>True) (fun s=>.bool (Dt s)) a H:=rfl
theorem Tzn_b (a:List AVal) (H:AD):Tzn L e 109 a H=s1 (dZ L e) (fun _=>True) (fun s=>.bool (DO s)) a H:=rfl
include hl
theorem p69 (s:ZS L e) (w:Bs):Pur Tryz.prog 69 [pvZ s,.str w] (.bool (zis 1 w s)):=by
 refine .mk ⟨AR 0 s,trivial,trivial⟩ trivial (a69 (AF (I7 (L:=L) (e:=e) hl) (AE ?_)))
 simp only[eE,eN,reduceCtorEq,Nat.reduceEqDiff,↓reduceIte,Nat.reduceAdd,c69,PM,s3,Am,AZ,B1,BC,AW,AH]
theorem p112 (s:ZS L e) (w:Bs):Pur Tryz.prog 112 [pvZ s,.str w] (.bool (zis 3 w s)):=by
 refine .mk ⟨AR 0 s,trivial,trivial⟩ trivial (a112 (AF (I7 (L:=L) (e:=e) hl) (AE ?_)))
 simp only[eE,eN,reduceCtorEq,Nat.reduceEqDiff,↓reduceIte,Nat.reduceAdd,c112,PM,s3,Am,AZ,B1,BC,AW,AH]
theorem J3 {α:Type} {f:Tkn→Bool} {v:Tkn→α} {z:α} {s:ZS L e} (h:zhd f s=true):zone f v z s=(v (L[s.n]'(E0 h)),⟨s.n+1,s.b,E0 h⟩):=dif_pos h
theorem M7 {α:Type} {f:Tkn→Bool} {v:Tkn→α} {z:α} {s:ZS L e} (h:zhd f s=false):zone f v z s=(z,FX s):=dif_neg (by rw[h];decide)
theorem p108 (s:ZS L e) (k:Int) (w:Bs):Pur Tryz.prog 108 [pvZ s,.int .i64 k,.str w] (pvZ (zw k w s).2):=by
 refine .mk ⟨AR 0 s,trivial,trivial,trivial⟩ (AR 0 _) (a108 (AF (I7 (L:=L) (e:=e) hl) (AE ?_)))
 have hl':L.length<1000000000:=hl
 have hle:=s.le
 cases hz:zis k w s with
 |true=>
  have hlt:=E0 hz
  have hb:=M3 hz
  have hw:zw k w s=((),⟨s.n+1,s.b,hlt⟩):=J3 hl hz
  have e1:=AP (k:=s.n) (by omega)
  rw[hw]
  simp only[eE,eC,eN,reduceCtorEq,Nat.reduceEqDiff,↓reduceIte,Nat.reduceAdd,Nat.reduceLeDiff,Int.reduceEq,Bool.not_true,Ao,c108,PM,s3,Am,AZ,B1,BC,AW,AH,hz,e1]
  have:s.pl=(⟨s.n+1,s.b,hlt⟩:ZS L e).pl:=by unfold ZS.pl;rw[hb];rfl
  rw[this];exact Wk.refl _
 |false=>
  have hw:zw k w s=((),FX s):=M7 hl hz
  rw[hw]
  simp only[eE,eC,eN,reduceCtorEq,Nat.reduceEqDiff,↓reduceIte,Nat.reduceAdd,Bool.not_false,Ao,c108,PM,Rq,s1,s3,Am,AZ,B1,BC,AW,AH,hz]
  exact Wk.refl _
theorem p63 (s:ZS L e):Pur Tryz.prog 63 [pvZ s] (.tup [.str (As s).1,pvZ (As s).2]):=by
 refine .mk ⟨AR 0 s,trivial⟩ ⟨trivial,AR 0 _,trivial⟩ (a63 (AF (I7 (L:=L) (e:=e) hl) (AE ?_)))
 have hl':L.length<1000000000:=hl
 cases hz:Dt s with
 |true=>
  have hlt:=E0 hz
  have hb:=M3 hz
  have hg:=List.getElem?_eq_getElem hlt
  have hw:As s=(L[s.n].T,⟨s.n+1,s.b,hlt⟩):=J3 hl hz
  have e1:=AP (k:=s.n) (by omega)
  rw[hw]
  simp only[eE,eC,eN,reduceCtorEq,Nat.reduceEqDiff,↓reduceIte,Nat.reduceAdd,Nat.reduceLeDiff,Int.reduceEq,Bool.not_true,Ao,Option.getD_some,Int.toNat_natCast,Int.natCast_nonneg,List.length_map,List.getElem?_map,c63,Tzn_m,s1,Am,AZ,hz,lt_T hlt,hg,e1]
  have:s.pl=(⟨s.n+1,s.b,hlt⟩:ZS L e).pl:=by unfold ZS.pl;rw[hb];rfl
  rw[this];exact Wk.refl _
 |false=>
  have hw:As s=([],FX s):=M7 hl hz
  rw[hw]
  simp only[eE,eC,eN,reduceCtorEq,Nat.reduceEqDiff,↓reduceIte,Nat.reduceAdd,Bool.not_false,Ao,c63,Tzn_m,Rq,s1,Am,AZ,hz]
  exact Wk.refl _
theorem p65 (s:ZS L e):Pur Tryz.prog 65 [pvZ s] (.tup [.int .i64 (znum s).1,pvZ (znum s).2]):=by
 refine .mk ⟨AR 0 s,trivial⟩ ⟨trivial,AR 0 _,trivial⟩ (a65 (AF (I7 (L:=L) (e:=e) hl) (AE ?_)))
 have hl':L.length<1000000000:=hl
 cases hz:DO s with
 |true=>
  have hlt:=E0 hz
  have hb:=M3 hz
  have hg:=List.getElem?_eq_getElem hlt
  have hw:znum s=(L[s.n].N,⟨s.n+1,s.b,hlt⟩):=J3 hl hz
  have e1:=AP (k:=s.n) (by omega)
  rw[hw]
  simp only[eE,eC,eN,reduceCtorEq,Nat.reduceEqDiff,↓reduceIte,Nat.reduceAdd,Nat.reduceLeDiff,Int.reduceEq,Bool.not_true,Ao,Option.getD_some,Int.toNat_natCast,Int.natCast_nonneg,List.length_map,List.getElem?_map,c65,Tzn_b,s1,Am,AZ,hz,lt_T hlt,hg,e1]
  have:s.pl=(⟨s.n+1,s.b,hlt⟩:ZS L e).pl:=by unfold ZS.pl;rw[hb];rfl
  rw[this];exact Wk.refl _
 |false=>
  have hw:znum s=(0,FX s):=M7 hl hz
  rw[hw]
  simp only[eE,eC,eN,reduceCtorEq,Nat.reduceEqDiff,↓reduceIte,Nat.reduceAdd,Bool.not_false,Ao,c65,Tzn_b,Rq,s1,Am,AZ,hz]
  exact Wk.refl _
omit hl
def Tze (L:List Tkn) (e:Int):Tab:=tadd 108 (s3 (dZ L e) dI dS (fun _ _ _=>True) fun s k w=>pvZ (zw k w s).2) tnil
theorem Qu (hl:few L):AJ Tryz.prog (Tze L e):=AJ.tnil.add (q3 fun s k w _=>p108 hl s k w)
theorem Tze_e (a:List AVal) (H:AD):Tze L e 108 a H=s3 (dZ L e) dI dS (fun _ _ _=>True) (fun s k w=>pvZ (zw k w s).2) a H:=rfl
include hl
theorem p64 (s:ZS L e) (w:Bs):Pur Tryz.prog 64 [pvZ s,.str w] (pvZ (zw 1 w s).2):=by
 refine .mk ⟨AR 0 s,trivial,trivial⟩ (AR 0 _) (a64 (AF (Qu (L:=L) (e:=e) hl) (AE ?_)))
 simp only[eE,eN,reduceCtorEq,Nat.reduceEqDiff,↓reduceIte,Nat.reduceAdd,Ao,c64,Tze_e,s3,Am,AZ,B1,BC,AW,AH]
 exact Wk.refl _
theorem p67 (s:ZS L e) (w:Bs):Pur Tryz.prog 67 [pvZ s,.str w] (pvZ (zw 3 w s).2):=by
 refine .mk ⟨AR 0 s,trivial,trivial⟩ (AR 0 _) (a67 (AF (Qu (L:=L) (e:=e) hl) (AE ?_)))
 simp only[eE,eN,reduceCtorEq,Nat.reduceEqDiff,↓reduceIte,Nat.reduceAdd,Ao,c67,Tze_e,s3,Am,AZ,B1,BC,AW,AH]
 exact Wk.refl _
end
end Go.AM
end
section
set_option maxRecDepth 20000
set_option linter.all false
namespace Go.AM
open Go.Proofs Go.Lib
section
variable {L:List Tkn} {e:Int}
def Tzs (L:List Tkn) (e:Int):Tab:=tadd 64 (s2 (dZ L e) dS (fun _ _=>True) fun s w=>pvZ (zw 1 w s).2) (tadd 67 (s2 (dZ L e) dS (fun _ _=>True) fun s w=>pvZ (zw 3 w s).2)
 (tadd 69 (s2 (dZ L e) dS (fun _ _=>True) fun s w=>.bool (zis 1 w s)) (tadd 112 (s2 (dZ L e) dS (fun _ _=>True) fun s w=>.bool (zis 3 w s))
 (tadd 107 (s1 (dZ L e) (fun _=>True) fun s=>.bool (Dt s)) (tadd 109 (s1 (dZ L e) (fun _=>True) fun s=>.bool (DO s))
 (tadd 63 (s1 (dZ L e) (fun _=>True) fun s=>.tup [.str (As s).1,pvZ (As s).2]) (tadd 65 (s1 (dZ L e) (fun _=>True) fun s=>.tup [.int .i64 (znum s).1,pvZ (znum s).2]) tnil)))))))
theorem M8 (hl:few L):AJ Tryz.prog (Tzs L e):=(((((((AJ.tnil.add (q1 fun s _=>p65 hl s)).add (q1 fun s _=>p63 hl s)).add (q1 fun s _=>p109 hl s)).add (q1 fun s _=>p107 hl s)).add (q2 fun s w _=>p112 hl s w)).add (q2 fun s w _=>p69 hl s w)).add (q2 fun s w _=>p67 hl s w)).add (q2 fun s w _=>p64 hl s w)
variable (a:List AVal) (H:AD)
theorem Tzs_w:Tzs L e 64 a H=s2 (dZ L e) dS (fun _ _=>True) (fun s w=>pvZ (zw 1 w s).2) a H:=rfl
theorem PN:Tzs L e 67 a H=s2 (dZ L e) dS (fun _ _=>True) (fun s w=>pvZ (zw 3 w s).2) a H:=rfl
theorem Tzs_iw:Tzs L e 69 a H=s2 (dZ L e) dS (fun _ _=>True) (fun s w=>.bool (zis 1 w s)) a H:=rfl
theorem K0:Tzs L e 112 a H=s2 (dZ L e) dS (fun _ _=>True) (fun s w=>.bool (zis 3 w s)) a H:=rfl
theorem Tzs_im:Tzs L e 107 a H=s1 (dZ L e) (fun _=>True) (fun s=>.bool (Dt s)) a H:=rfl
theorem Tzs_ib:Tzs L e 109 a H=s1 (dZ L e) (fun _=>True) (fun s=>.bool (DO s)) a H:=rfl
theorem Qv:Tzs L e 63 a H=s1 (dZ L e) (fun _=>True) (fun s=>.tup [.str (As s).1,pvZ (As s).2]) a H:=rfl
theorem Qw:Tzs L e 65 a H=s1 (dZ L e) (fun _=>True) (fun s=>.tup [.int .i64 (znum s).1,pvZ (znum s).2]) a H:=rfl
end
structure VZ (L:List Tkn) (e:Int) (α:Type) where
 s:ZS L e
 acc:List α
 tk:Tok
 H:AD
 n:Nat
section
variable {L:List Tkn} {e:Int} {α:Type}
abbrev bxZ (s:ZS L e):AObj:=.box [.sl (.none 4) (L.map encK),.int .i64 s.n,.int .i64 e,.bool s.b,.int .i64 s.pl]
structure IZ (t:ZS L e→Bool) (f:ZS L e→α×ZS L e) (es i o lo:Nat) (s1:ZS L e) (zo:List AVal) (v:VZ L e α):Prop where
 eq1:(BH t f s1).1=v.acc++(BH t f v.s).1
 eq2:(BH t f s1).2=(BH t f v.s).2
 len:v.acc.length≤v.s.n
 fr:Ac v.H v.n
 hp:hget v.H i=some (bxZ v.s)
 ho:hget v.H o=some (.box zo)
 tok:tkG es lo v.H v.tk
 hn:lo≤v.n
 es:v.tk.esz=es
abbrev zP:List AVal:=[.sl .nil [],.int .i64 0,.int .i64 0,.bool false,.int .i64 0]
theorem IZ.next {t:ZS L e→Bool} {f:ZS L e→α×ZS L e} {es i o lo k m:Nat} {s1 sa:ZS L e} {zo:List AVal} {acc:List α} {tk:Tok} {H1:AD} {n1:Nat} (h:IZ t f es i o lo s1 zo ⟨sa,acc,tk,H1,n1⟩) (hi:Zi t f) (hs:t sa=true) (h1:i<lo) (h2:o<lo) (h3:i≠o) (hk:k<m) (hlk:n1≤n1+k):
  IZ t f es i o lo s1 zo ⟨(f sa).2,acc++[(f sa).1],.own (n1+k) es,hset (AL (hset H1 i (bxZ (f sa).2)) tk) (n1+k) .tok,n1+m⟩:=by
 obtain⟨e1,e2,hlen,hfr,hp,ho,htk,hn,hes⟩:=h
 simp only at e1 e2 hlen hfr hp ho htk hn hes
 rw[GJ hi hs]at e1 e2
 have hg:=hi sa hs
 have hil:i<n1:=hfr.lt hp
 have ht2:tkG es lo (hset H1 i (bxZ (f sa).2)) tk:=htk.set (.inl h1)
 refine⟨by rw[e1];simp,e2,by simp only[List.length_append,List.length_cons,List.length_nil];omega,(BR ht2 (hfr.hset (Nat.le_refl _) hil)).hset (by simp only[];omega) (by simp only[];omega),?_,?_,.inr (.inr ⟨_,rfl,by omega,AB ..⟩),by simp only[];omega,rfl⟩
 ·simp only[]
  rw[AC _ _ _ _ (by omega),Ab ht2 (.inl h1)];exact AB ..
 ·simp only[]
  rw[AC _ _ _ _ (by omega),Ab ht2 (.inl h2),AC _ _ _ _ h3];exact ho
variable (hl:few L)
include hl
theorem p110 (s:ZS L e):Pur Tryz.prog 110 [pvZ s] (.tup [eIs (C6 znum s).1,pvZ (C6 znum s).2]):=by
 refine .mk ⟨AR 0 s,trivial⟩ ⟨Bq 0 _,AR 0 _,trivial⟩ (a110 (AF (M8 (L:=L) (e:=e) hl) (AE ?_)))
 have hl':L.length<1000000000:=hl
 simp only[eE,eN,reduceCtorEq,Nat.reduceEqDiff,↓reduceIte,Nat.reduceAdd,Nat.reduceLeDiff,Nat.reduceMul,Nat.reduceLT,Qw,s1,Am,AZ,Option.getD_some,List.getElem?_cons_zero,List.getElem?_cons_succ,c110]
 refine AX (fun v:VZ L e Int=>⟨[(3,true,.ptr 2 0),(5,true,.ptr 8 0),(6,true,.sl v.tk ((((znum s).1::v.acc)).map eI))],v.H,v.n⟩)
  (IZ (zis 3 [44]) (zbd (zw 3 [44]) fun _=>znum) 1 8 2 9 (znum s).2 zP) (fun v=>L.length-v.s.n)
  ⟨(znum s).2,[],.exact 1,hset (hset (hset (hset hnil 0 (bxZ s)) 2 (.box zP)) 8 (.box zP)) 8 (bxZ (znum s).2),11⟩ rfl ⟨rfl,rfl,Nat.zero_le _,?_,rfl,rfl,.inr (.inl rfl),Nat.le_add_left 9 2,rfl⟩ ?_
 ·intro id hid
  have:11≤id:=hid
  simp only[AA]
  repeat rw[if_neg (by omega)]
  rfl
 rintro⟨sa,acc,tk,H1,n1⟩ hI
 have hI2:=hI
 obtain⟨e1,e2,hlen,hfr,hp,ho,htk,hn,hes⟩:=hI2
 simp only at e1 e2 hlen hfr hp ho htk hn hes
 have hi:=HD (k:=3) (w:=[44]) (f:=znum (L:=L) (e:=e)) Ed
 have hle:=sa.le
 have ez:C6 znum s=((znum s).1::(BH (zis 3 [44]) (zbd (zw 3 [44]) fun _=>znum) (znum s).2).1,(BH (zis 3 [44]) (zbd (zw 3 [44]) fun _=>znum) (znum s).2).2):=rfl
 by_cases hs:zis 3 [44] sa=true
 case neg=>
  have hs':zis 3 [44] sa=false:=by simpa using hs
  rw[Ct hs]at e1 e2
  rw[List.append_nil]at e1
  rw[ez,e1,e2]
  simp only[eE,eC,eN,Nat.reduceEqDiff,↓reduceIte,Nat.reduceAdd,Ao,K0,s2,Am,AZ,AW,AH,hp,ho,hs']
  exact Wk.tup (.cons (Wk.sl (.inl hes)) (.cons (Wk.refl _) .nil))
 have h2:=hi sa hs
 have h3:=(zbd (zw 3 [44]) (fun _=>znum) sa).2.le
 have ht2:tkG 1 9 (hset H1 8 (bxZ (znum (zw 3 [44] sa).2).2)) tk:=htk.set (.inl (by decide))
 have q1:CJ (hset H1 8 (bxZ (znum (zw 3 [44] sa).2).2)) 1 tk=True:=eq_true ht2.app
 have q2:(acc.length≤35184372088830)=True:=eq_true (by omega)
 have q3:Ar (acc.length+2) 8=True:=eq_true (Au (by omega) (by decide))
 have q4:(n1=5)=False:=eq_false (by omega)
 simp only[eE,eC,eN,reduceCtorEq,Nat.reduceEqDiff,↓reduceIte,Nat.reduceAdd,Nat.reduceLeDiff,Nat.reduceMul,Nat.reduceLT,PN,K0,Qw,s1,s2,Am,AZ,AW,AH,Option.getD_some,List.length_map,List.getElem?_cons_zero,List.getElem?_cons_succ,hp,hs,q1,q2,q3,q4,fr1 hfr]
 exact .mk ⟨_,acc++[(znum (zw 3 [44] sa).2).1],.own (n1+3) 1,hset (AL (hset H1 8 (bxZ (znum (zw 3 [44] sa).2).2)) tk) (n1+3) .tok,n1+5⟩ (by simp only[List.map_append,List.map_cons,List.map_nil]) (hI.next hi hs (by decide) (by decide) (by decide) (by decide) (by omega)) (by simp only[];omega)
theorem p131 (s:ZS L e):Pur Tryz.prog 131 [pvZ s] (.tup [eSs (zset s).1,pvZ (zset s).2]):=by
 refine .mk ⟨AR 0 s,trivial⟩ ⟨Br 0 _,AR 0 _,trivial⟩ (a131 (AF (M8 (L:=L) (e:=e) hl) (AE ?_)))
 have hl':L.length<1000000000:=hl
 simp only[eE,eN,reduceCtorEq,Nat.reduceEqDiff,↓reduceIte,Nat.reduceAdd,Nat.reduceLeDiff,Nat.reduceMul,Nat.reduceLT,PN,Qv,s1,s2,Am,AZ,AW,AH,Option.getD_some,List.getElem?_cons_zero,List.getElem?_cons_succ,c131]
 refine AX (fun v:VZ L e Bs=>⟨[(3,true,.ptr 2 0),(5,true,.ptr 9 0),(6,true,.sl v.tk ((((As (zw 3 [123] s).2).1::v.acc)).map .str))],v.H,v.n⟩)
  (IZ (zis 3 [44]) (zbd (zw 3 [44]) fun _=>As) 1 9 2 10 (As (zw 3 [123] s).2).2 zP) (fun v=>L.length-v.s.n)
  ⟨(As (zw 3 [123] s).2).2,[],.exact 1,hset (hset (hset (hset hnil 0 (bxZ s)) 2 (.box zP)) 9 (.box zP)) 9 (bxZ (As (zw 3 [123] s).2).2),12⟩ rfl ⟨rfl,rfl,Nat.zero_le _,?_,rfl,rfl,.inr (.inl rfl),Nat.le_add_left 10 2,rfl⟩ ?_
 ·intro id hid
  have:12≤id:=hid
  simp only[AA]
  repeat rw[if_neg (by omega)]
  rfl
 rintro⟨sa,acc,tk,H1,n1⟩ hI
 have hI2:=hI
 obtain⟨e1,e2,hlen,hfr,hp,ho,htk,hn,hes⟩:=hI2
 simp only at e1 e2 hlen hfr hp ho htk hn hes
 have hi:=HD (k:=3) (w:=[44]) (f:=As (L:=L) (e:=e)) B9
 have hle:=sa.le
 have ez:zset s=((As (zw 3 [123] s).2).1::(BH (zis 3 [44]) (zbd (zw 3 [44]) fun _=>As) (As (zw 3 [123] s).2).2).1,(zw 3 [125] (BH (zis 3 [44]) (zbd (zw 3 [44]) fun _=>As) (As (zw 3 [123] s).2).2).2).2):=rfl
 by_cases hs:zis 3 [44] sa=true
 case neg=>
  have hs':zis 3 [44] sa=false:=by simpa using hs
  rw[Ct hs]at e1 e2
  rw[List.append_nil]at e1
  rw[ez,e1,e2]
  simp only[eE,eC,eN,Nat.reduceEqDiff,↓reduceIte,Nat.reduceAdd,Ao,PN,K0,s2,Am,AZ,AW,AH,hp,ho,hs']
  exact Wk.tup (.cons (Wk.sl (.inl hes)) (.cons (Wk.refl _) .nil))
 have h2:=hi sa hs
 have h3:=(zbd (zw 3 [44]) (fun _=>As) sa).2.le
 have ht2:tkG 1 10 (hset H1 9 (bxZ (As (zw 3 [44] sa).2).2)) tk:=htk.set (.inl (by decide))
 have q1:CJ (hset H1 9 (bxZ (As (zw 3 [44] sa).2).2)) 1 tk=True:=eq_true ht2.app
 have q2:(acc.length≤35184372088830)=True:=eq_true (by omega)
 have q3:Ar (acc.length+2) 16=True:=eq_true (Au (by omega) (by decide))
 have q4:(n1=6)=False:=eq_false (by omega)
 simp only[eE,eC,eN,reduceCtorEq,Nat.reduceEqDiff,↓reduceIte,Nat.reduceAdd,Nat.reduceLeDiff,Nat.reduceMul,Nat.reduceLT,PN,K0,Qv,s1,s2,Am,AZ,AW,AH,Option.getD_some,List.length_map,List.getElem?_cons_zero,List.getElem?_cons_succ,hp,hs,q1,q2,q3,q4,fr1 hfr]
 exact .mk ⟨_,acc++[(As (zw 3 [44] sa).2).1],.own (n1+3) 1,hset (AL (hset H1 9 (bxZ (As (zw 3 [44] sa).2).2)) tk) (n1+3) .tok,n1+5⟩ (by simp only[List.map_append,List.map_cons,List.map_nil]) (hI.next hi hs (by decide) (by decide) (by decide) (by decide) (by omega)) (by simp only[];omega)
end
end Go.AM
end
section
set_option maxRecDepth 20000
set_option linter.all false
namespace Go.AM
open Go.Proofs Go.Lib
section
variable {L:List Tkn} {e:Int}
def Tzt (L:List Tkn) (e:Int):Tab:=tadd 110 (s1 (dZ L e) (fun _=>True) fun s=>.tup [eIs (C6 znum s).1,pvZ (C6 znum s).2]) (tadd 131 (s1 (dZ L e) (fun _=>True) fun s=>.tup [eSs (zset s).1,pvZ (zset s).2]) (Tzs L e))
theorem I8 (hl:few L):AJ Tryz.prog (Tzt L e):=((M8 hl).add (q1 fun s _=>p131 hl s)).add (q1 fun s _=>p110 hl s)
variable (a:List AVal) (H:AD)
theorem Qx:Tzt L e 110 a H=s1 (dZ L e) (fun _=>True) (fun s=>.tup [eIs (C6 znum s).1,pvZ (C6 znum s).2]) a H:=rfl
theorem Tzt_st:Tzt L e 131 a H=s1 (dZ L e) (fun _=>True) (fun s=>.tup [eSs (zset s).1,pvZ (zset s).2]) a H:=rfl
theorem E5:Tzt L e 64 a H=s2 (dZ L e) dS (fun _ _=>True) (fun s w=>pvZ (zw 1 w s).2) a H:=rfl
theorem I9:Tzt L e 67 a H=s2 (dZ L e) dS (fun _ _=>True) (fun s w=>pvZ (zw 3 w s).2) a H:=rfl
theorem Ee:Tzt L e 69 a H=s2 (dZ L e) dS (fun _ _=>True) (fun s w=>.bool (zis 1 w s)) a H:=rfl
theorem Tzt_is:Tzt L e 112 a H=s2 (dZ L e) dS (fun _ _=>True) (fun s w=>.bool (zis 3 w s)) a H:=rfl
theorem HT:Tzt L e 107 a H=s1 (dZ L e) (fun _=>True) (fun s=>.bool (Dt s)) a H:=rfl
theorem Tzt_ib:Tzt L e 109 a H=s1 (dZ L e) (fun _=>True) (fun s=>.bool (DO s)) a H:=rfl
theorem JA:Tzt L e 63 a H=s1 (dZ L e) (fun _=>True) (fun s=>.tup [.str (As s).1,pvZ (As s).2]) a H:=rfl
theorem GK:Tzt L e 65 a H=s1 (dZ L e) (fun _=>True) (fun s=>.tup [.int .i64 (znum s).1,pvZ (znum s).2]) a H:=rfl
end
section
variable {L:List Tkn} {e:Int} (hl:few L)
include hl
theorem p111 (s:ZS L e):Pur Tryz.prog 111 [pvZ s] (.tup [Ff (zsym s).1,pvZ (zsym s).2]):=by
 refine .mk ⟨AR 0 s,trivial⟩ ⟨Cn 0 _,AR 0 _,trivial⟩ (a111 (AF (I8 (L:=L) (e:=e) hl) (AE ?_)))
 simp only[eE,eN,eX,reduceCtorEq,Nat.reduceEqDiff,↓reduceIte,Nat.reduceAdd,Nat.reduceLeDiff,Nat.reduceLT,Nat.reduceMod,Nat.reduceSub,Nat.reduceDiv,BY,Ao,I9,JA,GK,s1,s2,Am,AZ,AW,AH,AU,Option.getD_some,List.getElem?_cons_zero,List.getElem?_cons_succ,c111]
 exact Wk.refl _
theorem p71 (s:ZS L e):Pur Tryz.prog 71 [pvZ s] (.tup [BL (zclu s).1,pvZ (zclu s).2]):=by
 refine .mk ⟨AR 0 s,trivial⟩ ⟨Dh 0 _,AR 0 _,trivial⟩ (a71 (AF (I8 (L:=L) (e:=e) hl) (AE ?_)))
 simp only[eE,eC,eN,reduceCtorEq,Nat.reduceEqDiff,↓reduceIte,Nat.reduceAdd,Nat.reduceLeDiff,Nat.reduceLT,E5,Ee,JA,s1,s2,Am,AZ,AW,AH,AU,Option.getD_some,List.getElem?_cons_zero,List.getElem?_cons_succ,c71]
 generalize h1:zis 1 wSym _=b1
 cases b1
 ·simp only[eE,eC,eN,Nat.reduceEqDiff,↓reduceIte,Nat.reduceAdd,Ee,s2,Am,AZ,AW,AH]
  generalize h2:zis 1 BF _=b2
  cases b2
  ·simp only[eE,eC,eN,reduceCtorEq,Nat.reduceEqDiff,↓reduceIte,Nat.reduceAdd,Nat.reduceLeDiff,Ao,E5,I9,s2,Am,AZ,AW,AH]
   simp only[zclu,zbd,zif,zret,h1,h2,Bool.false_eq_true,if_false]
   exact Wk.refl _
  ·simp only[eE,eC,eN,reduceCtorEq,Nat.reduceEqDiff,↓reduceIte,Nat.reduceAdd,Nat.reduceLeDiff,Nat.reduceLT,Ao,E5,I9,GK,s1,s2,Am,AZ,AW,AH,AU,Option.getD_some,List.getElem?_cons_zero,List.getElem?_cons_succ]
   simp only[zclu,zbd,zif,zret,h1,h2,Bool.false_eq_true,if_false,if_true]
   exact Wk.refl _
 ·simp only[eE,eC,eN,reduceCtorEq,Nat.reduceEqDiff,↓reduceIte,Nat.reduceAdd,Nat.reduceLeDiff,Ao,E5,I9,s2,Am,AZ,AW,AH]
  simp only[zclu,zbd,zif,zret,h1,if_true]
  exact Wk.refl _
theorem p132 (x:DRul) (s:ZS L e):Pur Tryz.prog 132 [Ap x,pvZ s] (.tup [Ap (Bl x s).1,pvZ (Bl x s).2]):=by
 refine .mk ⟨Ak 0 x,AR 0 s,trivial⟩ ⟨Ak 0 _,AR 0 _,trivial⟩ (a132 (AF (I8 (L:=L) (e:=e) hl) (AE ?_)))
 cases h1:zis 1 wIs s
 ·cases h2:zis 1 Ew s
  ·cases h3:Dt (zw 1 Eh s).2
   ·simp only[eE,eC,eN,eX,reduceCtorEq,Nat.reduceEqDiff,↓reduceIte,Nat.reduceAdd,Nat.reduceLeDiff,Nat.reduceLT,Nat.reduceMod,Nat.reduceSub,Nat.reduceDiv,BY,Ao,E5,Ee,HT,GK,s1,s2,Am,AZ,AW,AH,Option.getD_some,List.getElem?_cons_zero,List.getElem?_cons_succ,c132,h1,h2,h3]
    simp only[Bl,zop,zlim,zbd,zif,zret,h1,h2,h3,Bool.false_eq_true,if_false]
    exact Wk.refl _
   ·simp only[eE,eC,eN,eX,reduceCtorEq,Nat.reduceEqDiff,↓reduceIte,Nat.reduceAdd,Nat.reduceLeDiff,Nat.reduceLT,Nat.reduceMod,Nat.reduceSub,Nat.reduceDiv,BY,Ao,E5,Ee,HT,JA,s1,s2,Am,AZ,AW,AH,Option.getD_some,List.getElem?_cons_zero,List.getElem?_cons_succ,c132,h1,h2,h3]
    simp only[Bl,zop,zlim,zbd,zif,zret,h1,h2,h3,Bool.false_eq_true,if_false,if_true]
    exact Wk.refl _
  ·cases h3:Dt (zw 1 Ew s).2
   ·simp only[eE,eC,eN,eX,reduceCtorEq,Nat.reduceEqDiff,↓reduceIte,Nat.reduceAdd,Nat.reduceLeDiff,Nat.reduceLT,Nat.reduceMod,Nat.reduceSub,Nat.reduceDiv,BY,Ao,E5,Ee,HT,GK,s1,s2,Am,AZ,AW,AH,Option.getD_some,List.getElem?_cons_zero,List.getElem?_cons_succ,c132,h1,h2,h3]
    simp only[Bl,zop,zlim,zbd,zif,zret,h1,h2,h3,Bool.false_eq_true,if_false,if_true]
    exact Wk.refl _
   ·simp only[eE,eC,eN,eX,reduceCtorEq,Nat.reduceEqDiff,↓reduceIte,Nat.reduceAdd,Nat.reduceLeDiff,Nat.reduceLT,Nat.reduceMod,Nat.reduceSub,Nat.reduceDiv,BY,Ao,E5,Ee,HT,JA,s1,s2,Am,AZ,AW,AH,Option.getD_some,List.getElem?_cons_zero,List.getElem?_cons_succ,c132,h1,h2,h3]
    simp only[Bl,zop,zlim,zbd,zif,zret,h1,h2,h3,Bool.false_eq_true,if_false,if_true]
    exact Wk.refl _
 ·cases h3:Dt (zw 1 wIs s).2
  ·simp only[eE,eC,eN,eX,reduceCtorEq,Nat.reduceEqDiff,↓reduceIte,Nat.reduceAdd,Nat.reduceLeDiff,Nat.reduceLT,Nat.reduceMod,Nat.reduceSub,Nat.reduceDiv,BY,Ao,E5,Ee,HT,GK,s1,s2,Am,AZ,AW,AH,Option.getD_some,List.getElem?_cons_zero,List.getElem?_cons_succ,c132,h1,h3]
   simp only[Bl,zop,zlim,zbd,zif,zret,h1,h3,Bool.false_eq_true,if_false,if_true]
   exact Wk.refl _
  ·simp only[eE,eC,eN,eX,reduceCtorEq,Nat.reduceEqDiff,↓reduceIte,Nat.reduceAdd,Nat.reduceLeDiff,Nat.reduceLT,Nat.reduceMod,Nat.reduceSub,Nat.reduceDiv,BY,Ao,E5,Ee,HT,JA,s1,s2,Am,AZ,AW,AH,Option.getD_some,List.getElem?_cons_zero,List.getElem?_cons_succ,c132,h1,h3]
   simp only[Bl,zop,zlim,zbd,zif,zret,h1,h3,if_true]
   exact Wk.refl _
end
end Go.AM
end
section
set_option maxRecDepth 20000
set_option linter.all false
namespace Go.AM
open Go.Proofs Go.Lib
section
variable {nm on bn:Bs} {kd fam set oth op vn clue:Int} {ns os:List Bs}
theorem DR:dRu.ok (.agg [.str nm,.str on,.int .i64 kd,.int .i64 fam,.sl (.none 1) (ns.map .str),.sl (.none 1) (os.map .str),.int .i64 set,.int .i64 oth,.int .i64 op,.int .i64 vn,.str bn,.int .i64 clue])=True:=Ju ⟨nm,on,kd,fam,ns,os,set,oth,op,vn,bn,clue⟩
theorem CU:dRu.dec (.agg [.str nm,.str on,.int .i64 kd,.int .i64 fam,.sl (.none 1) (ns.map .str),.sl (.none 1) (os.map .str),.int .i64 set,.int .i64 oth,.int .i64 op,.int .i64 vn,.str bn,.int .i64 clue])=⟨nm,on,kd,fam,ns,os,set,oth,op,vn,bn,clue⟩:=Gz ⟨nm,on,kd,fam,ns,os,set,oth,op,vn,bn,clue⟩
theorem K1:dRu.dec (.agg [.str nm,.str [],.int .i64 0,.int .i64 0,.sl .nil [],.sl .nil [],.int .i64 0,.int .i64 0,.int .i64 0,.int .i64 0,.str [],.int .i64 0])={rul0 with nm:=nm}:=rfl
theorem Rr:dRu.ok (.agg [.str nm,.str [],.int .i64 0,.int .i64 0,.sl .nil [],.sl .nil [],.int .i64 0,.int .i64 0,.int .i64 0,.int .i64 0,.str [],.int .i64 0])=True:=eq_true (by
 show Wk _ (Ap (dRu.dec _))
 rw[K1]
 exact Wk.agg (.cons (Wk.refl _) (.cons (Wk.refl _) (.cons (Wk.refl _) (.cons (Wk.refl _) (.cons (Wk.sl (.inr rfl)) (.cons (Wk.sl (.inr rfl)) (.cons (Wk.refl _) (.cons (Wk.refl _) (.cons (Wk.refl _) (.cons (Wk.refl _) (.cons (Wk.refl _) (.cons (Wk.refl _) .nil)))))))))))))
end
section
variable {L:List Tkn} {e:Int}
def Tzu (L:List Tkn) (e:Int):Tab:=(tadd 132 (s2 dRu (dZ L e) (fun _ _=>True) (fun x s=>.tup [Ap (Bl x s).1,pvZ (Bl x s).2])) (tadd 111 (s1 (dZ L e) (fun _=>True) (fun s=>.tup [Ff (zsym s).1,pvZ (zsym s).2])) (Tzt L e)))
theorem Qy (hl:few L):AJ Tryz.prog (Tzu L e):=(((I8 hl).add (q1 fun s _=>p111 hl s)).add (q2 fun x s _=>p132 hl x s))
variable (a:List AVal) (H:AD)
theorem Qz:Tzu L e 132 a H=s2 dRu (dZ L e) (fun _ _=>True) (fun x s=>.tup [Ap (Bl x s).1,pvZ (Bl x s).2]) a H:=rfl
theorem M9:Tzu L e 64 a H=s2 (dZ L e) dS (fun _ _=>True) (fun s w=>pvZ (zw 1 w s).2) a H:=rfl
theorem JB:Tzu L e 69 a H=s2 (dZ L e) dS (fun _ _=>True) (fun s w=>.bool (zis 1 w s)) a H:=rfl
theorem Tzu_nm:Tzu L e 63 a H=s1 (dZ L e) (fun _=>True) (fun s=>.tup [.str (As s).1,pvZ (As s).2]) a H:=rfl
theorem Q1:Tzu L e 131 a H=s1 (dZ L e) (fun _=>True) (fun s=>.tup [eSs (zset s).1,pvZ (zset s).2]) a H:=rfl
end
section
variable {L:List Tkn} {e:Int} (hl:few L)
include hl
theorem p130 (x:DRul) (s:ZS L e):Pur Tryz.prog 130 [Ap x,pvZ s] (.tup [Ap (EX x s).1,pvZ (EX x s).2]):=by
 refine .mk ⟨Ak 0 x,AR 0 s,trivial⟩ ⟨Ak 0 _,AR 0 _,trivial⟩ (a130 (AF (Qy (L:=L) (e:=e) hl) (AE ?_)))
 cases h0:zis 1 ED s with
 |false=>
  cases h1:zis 1 CT s with
  |false=>
   cases h2:zis 1 wSum s with
   |false=>
    cases h3:zis 1 FS s with
    |false=>
     simp only[eE,eC,eN,eX,reduceCtorEq,Nat.reduceEqDiff,↓reduceIte,Nat.reduceAdd,Nat.reduceLeDiff,Nat.reduceLT,Nat.reduceMod,Nat.reduceSub,Nat.reduceDiv,BY,Ao,s1,s2,Am,AZ,AW,AH,AU,Option.getD_some,List.getElem?_cons_zero,List.getElem?_cons_succ,M9,JB,Tzu_nm,Q1,c130,h0,h1,h2,h3]
     simp only[EX,zbd,zif,zret,h0,h1,h2,h3,Bool.false_eq_true,if_false]
     exact Wk.refl _
    |true=>
     simp only[eE,eC,eN,reduceCtorEq,Nat.reduceEqDiff,↓reduceIte,Nat.reduceAdd,Nat.reduceLeDiff,Ao,s2,Am,AZ,AW,AH,M9,JB,c130,h0,h1,h2,h3]
     simp only[EX,zbd,zif,zret,h0,h1,h2,h3,Bool.false_eq_true,if_false,if_true]
     exact Wk.refl _
   |true=>
    simp only[eE,eC,eN,reduceCtorEq,Nat.reduceEqDiff,↓reduceIte,Nat.reduceAdd,Nat.reduceLeDiff,Nat.reduceLT,Ao,s2,Am,AZ,AW,AH,DR,CU,Option.getD_some,List.getElem?_cons_zero,List.getElem?_cons_succ,Qz,M9,JB,c130,h0,h1,h2]
    simp only[EX,zbd,zif,zret,h0,h1,h2,Bool.false_eq_true,if_false,if_true]
    exact Wk.refl _
  |true=>
   simp only[eE,eC,eN,reduceCtorEq,Nat.reduceEqDiff,↓reduceIte,Nat.reduceAdd,Nat.reduceLeDiff,Nat.reduceLT,Ao,s1,s2,Am,AZ,AW,AH,DR,CU,AU,Option.getD_some,List.getElem?_cons_zero,List.getElem?_cons_succ,Qz,M9,JB,Q1,c130,h0,h1]
   simp only[EX,zbd,zif,zret,h0,h1,Bool.false_eq_true,if_false,if_true]
   exact Wk.refl _
 |true=>
  simp only[eE,eC,eN,reduceCtorEq,Nat.reduceEqDiff,↓reduceIte,Nat.reduceAdd,Nat.reduceLeDiff,Ao,s2,Am,AZ,AW,AH,M9,JB,c130,h0]
  simp only[EX,zbd,zif,zret,h0,if_true]
  exact Wk.refl _
end
section
variable {L:List Tkn} {e:Int}
def Tzv (L:List Tkn) (e:Int):Tab:=(tadd 130 (s2 dRu (dZ L e) (fun _ _=>True) (fun x s=>.tup [Ap (EX x s).1,pvZ (EX x s).2])) (Tzu L e))
theorem Q2 (hl:few L):AJ Tryz.prog (Tzv L e):=((Qy hl).add (q2 fun x s _=>p130 hl x s))
variable (a:List AVal) (H:AD)
theorem Tzv_ea:Tzv L e 130 a H=s2 dRu (dZ L e) (fun _ _=>True) (fun x s=>.tup [Ap (EX x s).1,pvZ (EX x s).2]) a H:=rfl
theorem Tzv_bd:Tzv L e 132 a H=s2 dRu (dZ L e) (fun _ _=>True) (fun x s=>.tup [Ap (Bl x s).1,pvZ (Bl x s).2]) a H:=rfl
theorem IQ:Tzv L e 64 a H=s2 (dZ L e) dS (fun _ _=>True) (fun s w=>pvZ (zw 1 w s).2) a H:=rfl
theorem E6:Tzv L e 69 a H=s2 (dZ L e) dS (fun _ _=>True) (fun s w=>.bool (zis 1 w s)) a H:=rfl
theorem NA:Tzv L e 63 a H=s1 (dZ L e) (fun _=>True) (fun s=>.tup [.str (As s).1,pvZ (As s).2]) a H:=rfl
theorem Tzv_nb:Tzv L e 65 a H=s1 (dZ L e) (fun _=>True) (fun s=>.tup [.int .i64 (znum s).1,pvZ (znum s).2]) a H:=rfl
theorem NC:Tzv L e 131 a H=s1 (dZ L e) (fun _=>True) (fun s=>.tup [eSs (zset s).1,pvZ (zset s).2]) a H:=rfl
end
section
variable {L:List Tkn} {e:Int} (hl:few L)
include hl
theorem p114 (x:DRul) (s:ZS L e):Pur Tryz.prog 114 [Ap x,pvZ s] (.tup [Ap (DQ x s).1,pvZ (DQ x s).2]):=by
 refine .mk ⟨Ak 0 x,AR 0 s,trivial⟩ ⟨Ak 0 _,AR 0 _,trivial⟩ (a114 (AF (Q2 (L:=L) (e:=e) hl) (AE ?_)))
 cases h0:zis 1 Bt s with
 |false=>
  cases h1:zis 1 Bu s with
  |false=>
   cases h2:zis 1 C0 s with
   |false=>
    cases h3:zis 1 wNot s with
    |false=>
     cases h4:zis 1 FO s with
     |false=>
      cases h5:zis 1 FP s with
      |false=>
       cases h6:zis 1 C1 s with
       |false=>
        cases h7:zis 1 FQ s with
        |false=>
         simp only[eE,eC,eN,reduceCtorEq,Nat.reduceEqDiff,↓reduceIte,Nat.reduceAdd,Nat.reduceLeDiff,Nat.reduceLT,Ao,s2,Am,AZ,AW,AH,DR,CU,Option.getD_some,List.getElem?_cons_zero,List.getElem?_cons_succ,Tzv_bd,IQ,E6,c114,h0,h1,h2,h3,h4,h5,h6,h7]
         simp only[DQ,zbd,zif,zret,h0,h1,h2,h3,h4,h5,h6,h7,Bool.false_eq_true,if_false]
         exact Wk.refl _
        |true=>
         simp only[eE,eC,eN,eX,reduceCtorEq,Nat.reduceEqDiff,↓reduceIte,Nat.reduceAdd,Nat.reduceLeDiff,Nat.reduceLT,Nat.reduceMod,Nat.reduceSub,Nat.reduceDiv,BY,Ao,s1,s2,Am,AZ,AW,AH,AU,Option.getD_some,List.getElem?_cons_zero,List.getElem?_cons_succ,IQ,E6,NA,c114,h0,h1,h2,h3,h4,h5,h6,h7]
         simp only[DQ,zbd,zif,zret,h0,h1,h2,h3,h4,h5,h6,h7,Bool.false_eq_true,if_false,if_true]
         exact Wk.refl _
       |true=>
        simp only[eE,eC,eN,eX,reduceCtorEq,Nat.reduceEqDiff,↓reduceIte,Nat.reduceAdd,Nat.reduceLeDiff,Nat.reduceLT,Nat.reduceMod,Nat.reduceSub,Nat.reduceDiv,BY,Ao,s1,s2,Am,AZ,AW,AH,AU,Option.getD_some,List.getElem?_cons_zero,List.getElem?_cons_succ,IQ,E6,NA,c114,h0,h1,h2,h3,h4,h5,h6]
        simp only[DQ,zbd,zif,zret,h0,h1,h2,h3,h4,h5,h6,Bool.false_eq_true,if_false,if_true]
        exact Wk.refl _
      |true=>
       simp only[eE,eC,eN,eX,reduceCtorEq,Nat.reduceEqDiff,↓reduceIte,Nat.reduceAdd,Nat.reduceLeDiff,Nat.reduceLT,Nat.reduceMod,Nat.reduceSub,Nat.reduceDiv,BY,Ao,s1,s2,Am,AZ,AW,AH,AU,Option.getD_some,List.getElem?_cons_zero,List.getElem?_cons_succ,IQ,E6,NC,c114,h0,h1,h2,h3,h4,h5]
       simp only[DQ,zbd,zif,zret,h0,h1,h2,h3,h4,h5,Bool.false_eq_true,if_false,if_true]
       exact Wk.refl _
     |true=>
      simp only[eE,eC,eN,eX,reduceCtorEq,Nat.reduceEqDiff,↓reduceIte,Nat.reduceAdd,Nat.reduceLeDiff,Nat.reduceLT,Nat.reduceMod,Nat.reduceSub,Nat.reduceDiv,BY,Ao,s1,s2,Am,AZ,AW,AH,AU,Option.getD_some,List.getElem?_cons_zero,List.getElem?_cons_succ,IQ,E6,NC,c114,h0,h1,h2,h3,h4]
      simp only[DQ,zbd,zif,zret,h0,h1,h2,h3,h4,Bool.false_eq_true,if_false,if_true]
      exact Wk.refl _
    |true=>
     simp only[eE,eC,eN,eX,reduceCtorEq,Nat.reduceEqDiff,↓reduceIte,Nat.reduceAdd,Nat.reduceLeDiff,Nat.reduceLT,Nat.reduceMod,Nat.reduceSub,Nat.reduceDiv,BY,Ao,s1,s2,Am,AZ,AW,AH,AU,Option.getD_some,List.getElem?_cons_zero,List.getElem?_cons_succ,IQ,E6,NC,c114,h0,h1,h2,h3]
     simp only[DQ,zbd,zif,zret,h0,h1,h2,h3,Bool.false_eq_true,if_false,if_true]
     exact Wk.refl _
   |true=>
    simp only[eE,eC,eN,eX,reduceCtorEq,Nat.reduceEqDiff,↓reduceIte,Nat.reduceAdd,Nat.reduceLeDiff,Nat.reduceLT,Nat.reduceMod,Nat.reduceSub,Nat.reduceDiv,BY,Ao,s1,s2,Am,AZ,AW,AH,AU,Option.getD_some,List.getElem?_cons_zero,List.getElem?_cons_succ,IQ,E6,Tzv_nb,c114,h0,h1,h2]
    simp only[DQ,zbd,zif,zret,h0,h1,h2,Bool.false_eq_true,if_false,if_true]
    exact Wk.refl _
  |true=>
   simp only[eE,eC,eN,reduceCtorEq,Nat.reduceEqDiff,↓reduceIte,Nat.reduceAdd,Nat.reduceLeDiff,Ao,s2,Am,AZ,AW,AH,IQ,E6,c114,h0,h1]
   simp only[DQ,zbd,zif,zret,h0,h1,Bool.false_eq_true,if_false,if_true]
   exact Wk.refl _
 |true=>
  simp only[eE,eC,eN,reduceCtorEq,Nat.reduceEqDiff,↓reduceIte,Nat.reduceAdd,Nat.reduceLeDiff,Nat.reduceLT,Ao,s1,s2,Am,AZ,AW,AH,DR,CU,Option.getD_some,List.getElem?_cons_zero,List.getElem?_cons_succ,Tzv_ea,IQ,E6,NA,c114,h0]
  simp only[DQ,zbd,zif,zret,h0,if_true]
  exact Wk.refl _
end
section
variable {L:List Tkn} {e:Int}
def Tzx (L:List Tkn) (e:Int):Tab:=(tadd 114 (s2 dRu (dZ L e) (fun _ _=>True) (fun x s=>.tup [Ap (DQ x s).1,pvZ (DQ x s).2])) (Tzv L e))
theorem K3 (hl:few L):AJ Tryz.prog (Tzx L e):=((Q2 hl).add (q2 fun x s _=>p114 hl x s))
variable (a:List AVal) (H:AD)
theorem Tzx_by:Tzx L e 114 a H=s2 dRu (dZ L e) (fun _ _=>True) (fun x s=>.tup [Ap (DQ x s).1,pvZ (DQ x s).2]) a H:=rfl
theorem Tzx_ea:Tzx L e 130 a H=s2 dRu (dZ L e) (fun _ _=>True) (fun x s=>.tup [Ap (EX x s).1,pvZ (EX x s).2]) a H:=rfl
theorem Tzx_bd:Tzx L e 132 a H=s2 dRu (dZ L e) (fun _ _=>True) (fun x s=>.tup [Ap (Bl x s).1,pvZ (Bl x s).2]) a H:=rfl
theorem Q3:Tzx L e 111 a H=s1 (dZ L e) (fun _=>True) (fun s=>.tup [Ff (zsym s).1,pvZ (zsym s).2]) a H:=rfl
theorem Rt:Tzx L e 64 a H=s2 (dZ L e) dS (fun _ _=>True) (fun s w=>pvZ (zw 1 w s).2) a H:=rfl
theorem L8:Tzx L e 67 a H=s2 (dZ L e) dS (fun _ _=>True) (fun s w=>pvZ (zw 3 w s).2) a H:=rfl
theorem Tzx_iw:Tzx L e 69 a H=s2 (dZ L e) dS (fun _ _=>True) (fun s w=>.bool (zis 1 w s)) a H:=rfl
theorem Q4:Tzx L e 112 a H=s2 (dZ L e) dS (fun _ _=>True) (fun s w=>.bool (zis 3 w s)) a H:=rfl
theorem Tzx_im:Tzx L e 107 a H=s1 (dZ L e) (fun _=>True) (fun s=>.bool (Dt s)) a H:=rfl
theorem Q5:Tzx L e 109 a H=s1 (dZ L e) (fun _=>True) (fun s=>.bool (DO s)) a H:=rfl
theorem Q6:Tzx L e 63 a H=s1 (dZ L e) (fun _=>True) (fun s=>.tup [.str (As s).1,pvZ (As s).2]) a H:=rfl
theorem Tzx_nb:Tzx L e 65 a H=s1 (dZ L e) (fun _=>True) (fun s=>.tup [.int .i64 (znum s).1,pvZ (znum s).2]) a H:=rfl
theorem Tzx_ns:Tzx L e 110 a H=s1 (dZ L e) (fun _=>True) (fun s=>.tup [eIs (C6 znum s).1,pvZ (C6 znum s).2]) a H:=rfl
theorem Tzx_st:Tzx L e 131 a H=s1 (dZ L e) (fun _=>True) (fun s=>.tup [eSs (zset s).1,pvZ (zset s).2]) a H:=rfl
end
section
variable {L:List Tkn} {e:Int} (hl:few L)
include hl
theorem p72 (s:ZS L e):Pur Tryz.prog 72 [pvZ s] (.tup [Ap (EY s).1,pvZ (EY s).2]):=by
 refine .mk ⟨AR 0 s,trivial⟩ ⟨Ak 0 _,AR 0 _,trivial⟩ (a72 (AF (K3 (L:=L) (e:=e) hl) (AE ?_)))
 simp only[eE,eN,reduceCtorEq,Nat.reduceEqDiff,↓reduceIte,Nat.reduceAdd,Nat.reduceLeDiff,Nat.reduceLT,Ao,s1,s2,Am,AZ,AW,AH,Rr,K1,AU,Option.getD_some,List.getElem?_cons_zero,List.getElem?_cons_succ,Tzx_by,Rt,L8,Q6,c72]
 simp only[EY,zbd,zret]
 exact Wk.refl _
end
end Go.AM
end
section
set_option maxRecDepth 20000
set_option linter.all false
namespace Go.AM
open Go.Proofs Go.Lib
section
variable {L:List Tkn} {e:Int} {α:Type}
theorem IZ.set {t:ZS L e→Bool} {f:ZS L e→α×ZS L e} {es i o lo j:Nat} {s1 sa:ZS L e} {zo cs:List AVal} {acc:List α} {tk:Tok} {H1:AD} {n1:Nat} (h:IZ t f es i o lo s1 zo ⟨sa,acc,tk,H1,n1⟩) (h1:j<lo) (h2:j≠i) (h3:j≠o):IZ t f es i o lo s1 zo ⟨sa,acc,tk,hset H1 j (.box cs),n1⟩:=by
 obtain⟨e1,e2,hlen,hfr,hp,ho,htk,hn,hes⟩:=h
 simp only at e1 e2 hlen hfr hp ho htk hn hes
 exact⟨e1,e2,hlen,hfr.hset (Nat.le_refl _) (show j<n1 by omega),by simp only[];rw[AC _ _ _ _ h2];exact hp,by simp only[];rw[AC _ _ _ _ h3];exact ho,htk.set (.inl h1),hn,hes⟩
structure IY (t:ZS L e→Bool) (f:ZS L e→α×ZS L e) (es:Nat) (enc:α→AVal) (mk:AVal→List AVal) (s1:ZS L e) (H0:AD) (v:VZ L e α):Prop where
 eq1:(BH t f s1).1=v.acc++(BH t f v.s).1
 eq2:(BH t f s1).2=(BH t f v.s).2
 len:v.acc.length≤v.s.n
 fr:Ac v.H v.n
 hp:hget v.H 0=some (bxZ v.s)
 hx:hget v.H 4=some (.box (mk (.sl v.tk (v.acc.map enc))))
 hk1:hget v.H 1=hget H0 1
 hk2:hget v.H 2=hget H0 2
 tok:tkG es 5 v.H v.tk
 hn:5≤v.n
 es:v.tk.esz=es∨v.acc=[]
theorem IY.next {t:ZS L e→Bool} {f:ZS L e→α×ZS L e} {es m n3:Nat} {enc:α→AVal} {mk:AVal→List AVal} {s1 sa:ZS L e} {H0 H1 H2:AD} {acc:List α} {tk:Tok} {n1:Nat} (h:IY t f es enc mk s1 H0 ⟨sa,acc,tk,H1,n1⟩) (hi:Zi t f) (hs:t sa=true)
  (ha:∀id,id<5→hget H2 id=hget H1 id) (ht:tkG es 5 H2 tk) (hf:Ac H2 m) (hm:m<n3) (hm5:5≤m):
  IY t f es enc mk s1 H0 ⟨(f sa).2,acc++[(f sa).1],.own m es,hset (hset (hset (AL H2 tk) m .tok) 4 (.box (mk (.sl (.own m es) ((acc++[(f sa).1]).map enc))))) 0 (bxZ (f sa).2),n3⟩:=by
 obtain⟨e1,e2,hlen,hfr,hp,hx,hk1,hk2,htk,hn,hes⟩:=h
 simp only at e1 e2 hlen hfr hp hx hk1 hk2 htk hn hes
 rw[GJ hi hs]at e1 e2
 have hg:=hi sa hs
 refine⟨by rw[e1];simp,e2,by simp only[List.length_append,List.length_cons,List.length_nil];omega,(((BR ht hf).hset (by simp only[];omega) (by simp only[];omega)).hset (Nat.le_refl _) (by simp only[];omega)).hset (Nat.le_refl _) (by simp only[];omega),AB ..,?_,?_,?_,.inr (.inr ⟨m,rfl,hm5,?_⟩),by simp only[];omega,.inl rfl⟩
 ·simp only[]
  rw[AC _ _ _ _ (by decide)];exact AB ..
 ·simp only[]
  rw[AC _ _ _ _ (by decide),AC _ _ _ _ (by decide),AC _ _ _ _ (by omega),Ab ht (.inl (by decide)),ha 1 (by decide)];exact hk1
 ·simp only[]
  rw[AC _ _ _ _ (by decide),AC _ _ _ _ (by decide),AC _ _ _ _ (by omega),Ab ht (.inl (by decide)),ha 2 (by decide)];exact hk2
 ·simp only[]
  rw[AC _ _ _ _ (by omega),AC _ _ _ _ (by omega)];exact AB ..
variable (hl:few L)
include hl
theorem p68 (s:ZS L e):Pur Tryz.prog 68 [pvZ s] (.tup [eSys (Fx s).1,pvZ (Fx s).2]):=by
 refine .mk ⟨AR 0 s,trivial⟩ ⟨⟨trivial,A5 (Cn 0) _⟩,AR 0 _,trivial⟩ (a68 (AF (K3 (L:=L) (e:=e) hl) (AE ?_)))
 have hl':L.length<1000000000:=hl
 simp only[eE,eN,reduceCtorEq,Nat.reduceEqDiff,↓reduceIte,Nat.reduceAdd,Nat.reduceLeDiff,Nat.reduceMul,Nat.reduceLT,Q3,Rt,s1,s2,Am,AZ,AW,AH,Option.getD_some,List.getElem?_cons_zero,List.getElem?_cons_succ,c68]
 generalize hs0:(zw 1 EG s).2=s0
 refine AX (fun v:VZ L e DSym=>⟨[(3,true,.ptr 2 0),(4,true,.ptr 9 0),(5,true,.ptr 10 0),(6,true,.sl v.tk ((((zsym s0).1::v.acc)).map Ff))],v.H,v.n⟩)
  (fun v=>IZ (zis 3 [44]) (zbd (zw 3 [44]) fun _=>zsym) 2 10 2 11 (zsym s0).2 zP v∧∃a b,hget v.H 9=some (.box [a,b])) (fun v=>L.length-v.s.n)
  ⟨(zsym s0).2,[],.exact 2,hset (hset (hset (hset (hset (hset hnil 0 (bxZ s)) 2 (.box zP)) 9 (.box [.str [],.int .i64 0])) 10 (.box zP)) 9 (.box [.str (zsym s0).1.nm,.int .i64 (zsym s0).1.v])) 10 (bxZ (zsym s0).2),13⟩ rfl ⟨⟨rfl,rfl,Nat.zero_le _,?_,rfl,rfl,.inr (.inl rfl),Nat.le_add_left 11 2,rfl⟩,_,_,rfl⟩ ?_
 ·intro id hid
  have:13≤id:=hid
  simp only[AA]
  repeat rw[if_neg (by omega)]
  rfl
 rintro⟨sa,acc,tk,H1,n1⟩ ⟨hI,c1',c2',h9⟩
 have hI2:=hI
 obtain⟨e1,e2,hlen,hfr,hp,ho,htk,hn,hes⟩:=hI2
 simp only at e1 e2 hlen hfr hp ho htk hn hes h9
 have hi:=HD (k:=3) (w:=[44]) (f:=zsym (L:=L) (e:=e)) Qr
 have hle:=sa.le
 have ez:Fx s=((zsym s0).1::(BH (zis 3 [44]) (zbd (zw 3 [44]) fun _=>zsym) (zsym s0).2).1,(zw 3 [59] (BH (zis 3 [44]) (zbd (zw 3 [44]) fun _=>zsym) (zsym s0).2).2).2):=by subst hs0;rfl
 by_cases hs:zis 3 [44] sa=true
 case neg=>
  have hs':zis 3 [44] sa=false:=by simpa using hs
  rw[Ct hs]at e1 e2
  rw[List.append_nil]at e1
  rw[ez,e1,e2]
  simp only[eE,eC,eN,Nat.reduceEqDiff,↓reduceIte,Nat.reduceAdd,Ao,L8,Q4,s2,Am,AZ,AW,AH,hp,ho,hs']
  exact Wk.tup (.cons (Wk.sl (.inl hes)) (.cons (Wk.refl _) .nil))
 have h2:=hi sa hs
 have h3:=(zbd (zw 3 [44]) (fun _=>zsym) sa).2.le
 generalize hy:zsym (zw 3 [44] sa).2=y at*
 have hI3:=hI.set (j:=9) (cs:=[.str y.1.nm,.int .i64 y.1.v]) (by decide) (by decide) (by decide)
 have ht1:tkG 2 11 (hset H1 9 (.box [.str y.1.nm,.int .i64 y.1.v])) tk:=htk.set (.inl (by decide))
 have ht2:tkG 2 11 (hset (hset H1 9 (.box [.str y.1.nm,.int .i64 y.1.v])) 10 (bxZ y.2)) tk:=ht1.set (.inl (by decide))
 have q1:CJ (hset (hset H1 9 (.box [.str y.1.nm,.int .i64 y.1.v])) 10 (bxZ y.2)) 2 tk=True:=eq_true ht2.app
 have q2:(acc.length≤35184372088830)=True:=eq_true (by omega)
 have q3:Ar (acc.length+2) 24=True:=eq_true (Au (by omega) (by decide))
 have q4:(n1=7)=False:=eq_false (by omega)
 have q5:(n1=6)=False:=eq_false (by omega)
 have hN:=hI3.next (k:=3) (m:=5) hi hs (by decide) (by decide) (by decide) (by decide) (by omega)
 have hy2:zbd (zw 3 [44]) (fun _=>zsym) sa=y:=hy
 rw[hy2]at hN h2 h3
 have ht3:=ht2.app
 have k9:hget (hset (AL (hset (hset H1 9 (.box [.str y.1.nm,.int .i64 y.1.v])) 10 (bxZ y.2)) tk) (n1+3) .tok) 9=some (.box [.str y.1.nm,.int .i64 y.1.v]):=by
  rw[AC _ _ _ _ (by omega),Ab ht2 (.inl (by decide)),AC _ _ _ _ (by decide)];exact AB ..
 simp only[eE,eC,eN,reduceCtorEq,Nat.reduceEqDiff,↓reduceIte,Nat.reduceAdd,Nat.reduceLeDiff,Nat.reduceMul,Nat.reduceLT,Q3,L8,Q4,s1,s2,Am,AZ,AW,AH,Option.getD_some,List.length_map,List.getElem?_cons_zero,List.getElem?_cons_succ,hp,hs,h9,hy,q1,q2,q3,q4,q5,fr1 hfr]
 exact .mk ⟨_,acc++[y.1],.own (n1+3) 2,hset (AL (hset (hset H1 9 (.box [.str y.1.nm,.int .i64 y.1.v])) 10 (bxZ y.2)) tk) (n1+3) .tok,n1+5⟩ (by simp only[List.map_append,List.map_cons,List.map_nil]) ⟨hN,_,_,k9⟩ (by simp only[];omega)
end
end Go.AM
end
section
set_option maxRecDepth 20000
set_option linter.all false
namespace Go.AM
open Go.Proofs Go.Lib
section
variable {L:List Tkn} {e:Int} {α:Type}
variable (hl:few L)
include hl
theorem p70 (s:ZS L e):Pur Tryz.prog 70 [pvZ s] (.tup [DJ (zreg s).1,pvZ (zreg s).2]):=by
 refine .mk ⟨AR 0 s,trivial⟩ ⟨Co 0 _,AR 0 _,trivial⟩ (a70 (AF (K3 (L:=L) (e:=e) hl) (AE ?_)))
 have hl':L.length<1000000000:=hl
 simp only[eE,eN,reduceCtorEq,Nat.reduceEqDiff,↓reduceIte,Nat.reduceAdd,Nat.reduceLeDiff,Nat.reduceLT,Rt,L8,Q6,s1,s2,Am,AZ,AW,AH,AU,Option.getD_some,List.getElem?_cons_zero,List.getElem?_cons_succ,c70]
 generalize hs0:(As (zw 1 Bo s).2).2=s0
 generalize hn0:(As (zw 1 Bo s).2).1=nm
 generalize hs3:(zw 3 [123] s0).2=sb
 generalize hH0:hset _ 0 (bxZ sb)=H0
 have k1:hget H0 1=some (.box [.str [],.sl .nil []]):=by rw[←hH0];rfl
 have k2:hget H0 2=some (.box zP):=by rw[←hH0];rfl
 have k4:hget H0 4=some (.box [.str nm,.sl .nil []]):=by rw[←hH0];rfl
 have k0:hget H0 0=some (bxZ sb):=by rw[←hH0];exact AB ..
 have kf:Ac H0 6:=by
  intro id hid
  rw[←hH0]
  simp only[AA]
  repeat rw[if_neg (by omega)]
  rfl
 clear hH0
 refine AX (fun v:VZ L e (List Int)=>⟨[(1,true,.ptr 0 0),(2,true,.ptr 1 0),(3,true,.ptr 2 0),(4,true,.ptr 4 0)],v.H,v.n⟩)
  (IY DO zrl 1 eIs (fun l=>[.str nm,l]) sb H0) (fun v=>L.length-v.s.n)
  ⟨sb,[],.nil,H0,6⟩ rfl ⟨rfl,rfl,Nat.zero_le _,kf,k0,k4,rfl,rfl,.inl rfl,Nat.le_add_left 5 1,.inr rfl⟩ ?_
 rintro⟨sa,acc,tk,H1,n1⟩ hI
 have hI2:=hI
 obtain⟨e1,e2,hlen,hfr,hp,hx,hk1,hk2,htk,hn,hes⟩:=hI2
 simp only at e1 e2 hlen hfr hp hx hk1 hk2 htk hn hes
 rw[k1]at hk1
 rw[k2]at hk2
 have hi:=zi_rl (L:=L) (e:=e)
 have hle:=sa.le
 have ez:zreg s=(⟨nm,(BH DO zrl sb).1⟩,(zw 3 [125] (BH DO zrl sb).2).2):=by subst hs3 hn0 hs0;rfl
 by_cases hs:DO sa=true
 case neg=>
  have hs':DO sa=false:=by simpa using hs
  rw[Ct hs]at e1 e2
  rw[List.append_nil]at e1
  rw[ez,e1,e2]
  simp only[eE,eC,eN,Nat.reduceEqDiff,↓reduceIte,Nat.reduceAdd,Ao,L8,Q5,s1,s2,Am,AZ,AW,AH,hp,hx,hk1,hk2,hs']
  exact Wk.tup (.cons (Wk.agg (.cons (Wk.refl _) (.cons (Wk.sl (hes.imp id fun q=>by rw[q];rfl)) .nil))) (.cons (Wk.refl _) .nil))
 have h2:=hi sa hs
 have h3:=(zrl sa).2.le
 have hz:zrl sa=((C6 znum sa).1,(zw 3 [59] (C6 znum sa).2).2):=rfl
 generalize hy:C6 znum sa=y at hz
 rw[hz]at h2 h3
 simp only at h2 h3
 have ht2:tkG 1 5 (hset H1 (n1+5) (bxZ y.2)) tk:=htk.set (.inr (.inr (hfr _ (by omega))))
 have hf2:Ac (hset H1 (n1+5) (bxZ y.2)) (n1+12):=hfr.hset (by omega) (by omega)
 have q1:CJ (hset H1 (n1+5) (bxZ y.2)) 1 tk=True:=eq_true ht2.app
 have q2:(acc.length≤35184372088831)=True:=eq_true (by omega)
 have q3:Ar (acc.length+1) 24=True:=eq_true (Au (by omega) (by decide))
 have y4:(n1+5=4)=False:=eq_false (by omega)
 have y4':(4=n1+5)=False:=eq_false (by omega)
 have y0:(n1+5=0)=False:=eq_false (by omega)
 have y12:(n1+12=4)=False:=eq_false (by omega)
 have y512:(n1+5=n1+12)=False:=eq_false (by omega)
 have y125:(n1+12=n1+5)=False:=eq_false (by omega)
 have kk4:hget (AL (hset H1 (n1+5) (bxZ y.2)) tk) 4=some (.box [.str nm,.sl tk (acc.map eIs)]):=by
  rw[Ab ht2 (.inl (by decide)),AC _ _ _ _ (by omega)];exact hx
 have kk0:hget (AL (hset H1 (n1+5) (bxZ y.2)) tk) 0=some (bxZ sa):=by
  rw[Ab ht2 (.inl (by decide)),AC _ _ _ _ (by omega)];exact hp
 have kk5:hget (AL (hset H1 (n1+5) (bxZ y.2)) tk) (n1+5)=some (bxZ y.2):=by
  rw[Ab ht2 (.inr ⟨_,AB ..⟩)];exact AB ..
 have hN:=hI.next (H2:=hset H1 (n1+5) (bxZ y.2)) (m:=n1+12) (n3:=n1+15) hi hs (fun id hid=>by rw[AC _ _ _ _ (by omega)]) ht2 hf2 (by omega) (by omega)
 rw[hz]at hN
 simp only[eE,eC,eN,reduceCtorEq,Nat.reduceEqDiff,↓reduceIte,Nat.reduceAdd,Nat.reduceLeDiff,Nat.reduceMul,Nat.reduceLT,L8,Q5,Tzx_ns,s1,s2,Am,AZ,AW,AH,AU,Option.getD_some,List.length_map,List.getElem?_cons_zero,List.getElem?_cons_succ,hp,hx,hs,hy,q1,q2,q3,y4,y4',y12,y512,y125,kk4,kk5,kk0,fr1 hfr]
 exact .mk ⟨(zw 3 [59] y.2).2,acc++[y.1],.own (n1+12) 1,_,n1+15⟩ (by simp only[List.map_append,List.map_cons,List.map_nil]) hN (by simp only[];omega)
end
end Go.AM
end
section
set_option maxRecDepth 20000
set_option linter.all false
namespace Go.AM
open Go.Proofs Go.Lib
abbrev encG (d:Dcl):AVal:=.agg [.str d.nm,.int .i64 d.ver,.int .i64 d.sh,.int .i64 d.w,.int .i64 d.h,eIs d.holes,.sl .nil [],.sl .nil [],.sl .nil [],.sl .nil []]
abbrev encG0 (x:Bs×Int):AVal:=.agg [.str x.1,.int .i64 x.2,.int .i64 0,.int .i64 0,.int .i64 0,.sl .nil [],.sl .nil [],.sl .nil [],.sl .nil [],.sl .nil []]
def decG0:AVal→Bs×Int
 | .agg (.str a:: .int _ b::_)=>(a,b)
 |_=>([],0)
def dG0:Dc (Bs×Int):=dEx encG0 decG0
theorem dG0_ok (a:Bs) (b:Int):dG0.ok (.agg [.str a,.int .i64 b,.int .i64 0,.int .i64 0,.int .i64 0,.sl .nil [],.sl .nil [],.sl .nil [],.sl .nil [],.sl .nil []])=True:=eq_true rfl
theorem Ru (a:Bs) (b:Int):dG0.dec (.agg [.str a,.int .i64 b,.int .i64 0,.int .i64 0,.int .i64 0,.sl .nil [],.sl .nil [],.sl .nil [],.sl .nil [],.sl .nil []])=(a,b):=rfl
abbrev dG (x:Bs×Int):Dcl:=⟨x.1,x.2,0,0,0,[],[],[],[],[]⟩
theorem L9 (k:Nat) (d:Dcl):(encG d).under k:=⟨trivial,trivial,trivial,trivial,trivial,Bq k _,⟨trivial,trivial⟩,⟨trivial,trivial⟩,⟨trivial,trivial⟩,⟨trivial,trivial⟩,trivial⟩
section
variable {L:List Tkn} {e:Int} (hl:few L)
include hl
theorem Rv (x:Bs×Int) (s:ZS L e):Pur Tryz.prog 66 [encG0 x,pvZ s] (.tup [encG (E2 (dG x) s).1,pvZ (E2 (dG x) s).2]):=by
 refine .mk ⟨⟨trivial,trivial,trivial,trivial,trivial,⟨trivial,trivial⟩,⟨trivial,trivial⟩,⟨trivial,trivial⟩,⟨trivial,trivial⟩,⟨trivial,trivial⟩,trivial⟩,AR 0 s,trivial⟩ ⟨L9 0 _,AR 0 _,trivial⟩ (a66 (AF (I8 (L:=L) (e:=e) hl) (AE ?_)))
 cases h1:zis 1 wHex (zw 1 Ex s).2 with
 |false=>
  simp only[eE,eC,eN,reduceCtorEq,Nat.reduceEqDiff,↓reduceIte,Nat.reduceAdd,Nat.reduceLeDiff,Nat.reduceLT,E5,Ee,GK,s1,s2,Am,AZ,AW,AH,List.getElem?_cons_zero,List.getElem?_cons_succ,Option.getD_some,c66,h1]
  generalize h2:zis 1 Ey _=b2
  cases b2
  ·simp only[eE,eC,eN,reduceCtorEq,Nat.reduceEqDiff,↓reduceIte,Nat.reduceAdd,Ao,I9,s2,Am,AZ,AW,AH]
   simp only[E2,zbd,HO,HP,zif,zret,h1,h2,Bool.false_eq_true,if_false]
   exact Wk.tup (.cons (Wk.agg (.cons (Wk.refl _) (.cons (Wk.refl _) (.cons (Wk.refl _) (.cons (Wk.refl _) (.cons (Wk.refl _) (.cons (Wk.sl (.inr rfl)) (.cons (Wk.refl _) (.cons (Wk.refl _) (.cons (Wk.refl _) (.cons (Wk.refl _) .nil))))))))))) (.cons (Wk.refl _) .nil))
  ·simp only[eE,eC,eN,reduceCtorEq,Nat.reduceEqDiff,↓reduceIte,Nat.reduceAdd,Nat.reduceLeDiff,Nat.reduceLT,Ao,E5,I9,Qx,s1,s2,Am,AZ,AW,AH,List.getElem?_cons_zero,List.getElem?_cons_succ,Option.getD_some]
   simp only[E2,zbd,HO,HP,zif,zret,h1,h2,Bool.false_eq_true,if_false,if_true]
   exact Wk.refl _
 |true=>
  simp only[eE,eC,eN,reduceCtorEq,Nat.reduceEqDiff,↓reduceIte,Nat.reduceAdd,Nat.reduceLeDiff,Nat.reduceLT,E5,Ee,GK,s1,s2,Am,AZ,AW,AH,List.getElem?_cons_zero,List.getElem?_cons_succ,Option.getD_some,c66,h1]
  generalize h2:zis 1 Ey _=b2
  cases b2
  ·simp only[eE,eC,eN,reduceCtorEq,Nat.reduceEqDiff,↓reduceIte,Nat.reduceAdd,Ao,I9,s2,Am,AZ,AW,AH]
   simp only[E2,zbd,HO,HP,zif,zret,h1,h2,Bool.false_eq_true,if_false,if_true]
   exact Wk.tup (.cons (Wk.agg (.cons (Wk.refl _) (.cons (Wk.refl _) (.cons (Wk.refl _) (.cons (Wk.refl _) (.cons (Wk.refl _) (.cons (Wk.sl (.inr rfl)) (.cons (Wk.refl _) (.cons (Wk.refl _) (.cons (Wk.refl _) (.cons (Wk.refl _) .nil))))))))))) (.cons (Wk.refl _) .nil))
  ·simp only[eE,eC,eN,reduceCtorEq,Nat.reduceEqDiff,↓reduceIte,Nat.reduceAdd,Nat.reduceLeDiff,Nat.reduceLT,Ao,E5,I9,Qx,s1,s2,Am,AZ,AW,AH,List.getElem?_cons_zero,List.getElem?_cons_succ,Option.getD_some]
   simp only[E2,zbd,HO,HP,zif,zret,h1,h2,if_true]
   exact Wk.refl _
end
section
variable {L:List Tkn} {e:Int}
def Tzy (L:List Tkn) (e:Int):Tab:=(tadd 66 (s2 dG0 (dZ L e) (fun _ _=>True) (fun x s=>.tup [encG (E2 (dG x) s).1,pvZ (E2 (dG x) s).2])) (tadd 73 (s1 (dZ L e) (fun _=>True) (fun s=>pvZ (FX s))) (tadd 68 (s1 (dZ L e) (fun _=>True) (fun s=>.tup [eSys (Fx s).1,pvZ (Fx s).2])) (tadd 70 (s1 (dZ L e) (fun _=>True) (fun s=>.tup [DJ (zreg s).1,pvZ (zreg s).2])) (tadd 71 (s1 (dZ L e) (fun _=>True) (fun s=>.tup [BL (zclu s).1,pvZ (zclu s).2])) (tadd 72 (s1 (dZ L e) (fun _=>True) (fun s=>.tup [Ap (EY s).1,pvZ (EY s).2])) (Tzx L e)))))))
theorem Tzy_ok (hl:few L):AJ Tryz.prog (Tzy L e):=(((((((K3 hl).add (q1 fun s _=>p72 hl s)).add (q1 fun s _=>p71 hl s)).add (q1 fun s _=>p70 hl s)).add (q1 fun s _=>p68 hl s)).add (q1 fun s _=>p73 hl s)).add (q2 fun x s _=>Rv hl x s))
variable (a:List AVal) (H:AD)
theorem Tzy_gd:Tzy L e 66 a H=s2 dG0 (dZ L e) (fun _ _=>True) (fun x s=>.tup [encG (E2 (dG x) s).1,pvZ (E2 (dG x) s).2]) a H:=rfl
theorem Tzy_fl:Tzy L e 73 a H=s1 (dZ L e) (fun _=>True) (fun s=>pvZ (FX s)) a H:=rfl
theorem Tzy_ss:Tzy L e 68 a H=s1 (dZ L e) (fun _=>True) (fun s=>.tup [eSys (Fx s).1,pvZ (Fx s).2]) a H:=rfl
theorem Tzy_rg:Tzy L e 70 a H=s1 (dZ L e) (fun _=>True) (fun s=>.tup [DJ (zreg s).1,pvZ (zreg s).2]) a H:=rfl
theorem Tzy_cl:Tzy L e 71 a H=s1 (dZ L e) (fun _=>True) (fun s=>.tup [BL (zclu s).1,pvZ (zclu s).2]) a H:=rfl
theorem Tzy_ru:Tzy L e 72 a H=s1 (dZ L e) (fun _=>True) (fun s=>.tup [Ap (EY s).1,pvZ (EY s).2]) a H:=rfl
theorem Tzy_w:Tzy L e 64 a H=s2 (dZ L e) dS (fun _ _=>True) (fun s w=>pvZ (zw 1 w s).2) a H:=rfl
theorem Rw:Tzy L e 67 a H=s2 (dZ L e) dS (fun _ _=>True) (fun s w=>pvZ (zw 3 w s).2) a H:=rfl
theorem HU:Tzy L e 69 a H=s2 (dZ L e) dS (fun _ _=>True) (fun s w=>.bool (zis 1 w s)) a H:=rfl
theorem Tzy_nm:Tzy L e 63 a H=s1 (dZ L e) (fun _=>True) (fun s=>.tup [.str (As s).1,pvZ (As s).2]) a H:=rfl
theorem Tzy_nb:Tzy L e 65 a H=s1 (dZ L e) (fun _=>True) (fun s=>.tup [.int .i64 (znum s).1,pvZ (znum s).2]) a H:=rfl
end
section
variable {L:List Tkn} {e:Int}
abbrev QZ (R:AVal):AExit→AS→Prop:=Ck [.c 2 10 true,.c 3 5 true] (Ret R)
abbrev eZ (X:List (Nat×Bool×AVal)):List (Nat×Bool×AVal):=(1,true,.ptr 0 0)::(2,true,.ptr 1 0)::(3,true,.ptr 2 0)::(4,true,.ptr 4 0)::X
abbrev zD:List AVal:=[.str [],.int .i64 0,.int .i64 0,.int .i64 0,.int .i64 0,.sl .nil [],.sl .nil [],.sl .nil [],.sl .nil [],.sl .nil []]
def zf9 (d:Dcl):ZS L e→Dcl×ZS L e:=zbd (zw 3 [125]) fun _=>zend d
def zf8 (d:Dcl):ZS L e→Dcl×ZS L e:=zbd (BH (zis 1 CR) EY) fun us=>zf9 {d with ruls:=us}
def zf7 (d:Dcl):ZS L e→Dcl×ZS L e:=zbd (BH (zis 1 CO) zclu) fun cs=>zf8 {d with clus:=cs}
def zf6 (d:Dcl):ZS L e→Dcl×ZS L e:=zbd (BH (zis 1 Bo) zreg) fun rs=>zf7 {d with regs:=rs}
variable (hl:few L) {d:Dcl} {sb:ZS L e} {H:AD} {n:Nat} {v0 v1 v2 v3:AVal} {X:List (Nat×Bool×AVal)}
include hl
theorem z9 (hf:Ac H n) (hn:5≤n) (h0:hget H 0=some (bxZ sb)) (h1:hget H 1=some (.box zD)) (h2:hget H 2=some (.box zP)) (h4:hget H 4=some (.box [.str d.nm,.int .i64 d.ver,.int .i64 d.sh,.int .i64 d.w,.int .i64 d.h,eIs d.holes,eSys d.syms,v1,v2,v3])) (w1:Wk v1 (eRgs d.regs)) (w2:Wk v2 (eCls d.clus)) (w3:Wk v3 (eRus d.ruls)):
  kont Tryz.prog (Tzy L e) (QZ (.tup [encD (zf9 d sb).1,pvZ (zf9 d sb).2])) [.c (sndN 9 c25)] .normal ⟨eZ X,H,n⟩:=by
 rw[AN]
 have fin:∀(x:ZS L e),Wk (.tup [.agg [.str d.nm,.int .i64 d.ver,.int .i64 d.sh,.int .i64 d.w,.int .i64 d.h,eIs d.holes,eSys d.syms,v1,v2,v3],pvZ x]) (.tup [encD d,pvZ x]):=fun x=>
  Wk.tup (.cons (Wk.agg (.cons (Wk.refl _) (.cons (Wk.refl _) (.cons (Wk.refl _) (.cons (Wk.refl _) (.cons (Wk.refl _) (.cons (Wk.refl _) (.cons (Wk.refl _) (.cons w1 (.cons w2 (.cons w3 .nil))))))))))) (.cons (Wk.refl _) .nil))
 have ez:zf9 d sb=zend d (zw 3 [125] sb).2:=rfl
 rw[ez]
 unfold zend
 by_cases hlt:(zw 3 [125] sb).2.n<L.length
 ·rw[if_pos hlt]
  simp only[eE,eC,eN,eX,reduceCtorEq,Nat.reduceEqDiff,↓reduceIte,Nat.reduceAdd,Nat.reduceLeDiff,Nat.reduceLT,Nat.reduceMod,Nat.reduceSub,Nat.reduceDiv,BY,Ao,Tzy_fl,Rw,s1,s2,Am,AZ,AW,AH,List.length_map,c25,sndN,sndA,h0,h1,h2,h4,lt_T hlt]
  have:(if(zw 3 [125] sb).2.b=true then(zw 3 [125] sb).2 else FX (zw 3 [125] sb).2)=FX (zw 3 [125] sb).2:=by
   cases hb:(zw 3 [125] sb).2 with
   |mk n b le=>cases b<;>rfl
  rw[this]
  exact⟨by omega,fin _⟩
 ·rw[if_neg hlt]
  simp only[eE,eC,eN,eX,reduceCtorEq,Nat.reduceEqDiff,↓reduceIte,Nat.reduceAdd,Nat.reduceLeDiff,Nat.reduceLT,Nat.reduceMod,Nat.reduceSub,Nat.reduceDiv,BY,Ao,Rw,s2,Am,AZ,AW,AH,List.length_map,c25,sndN,sndA,h0,h1,h2,h4,lt_F hlt]
  exact⟨by omega,fin _⟩
theorem z8 (hf:Ac H n) (hn:5≤n) (h0:hget H 0=some (bxZ sb)) (h1:hget H 1=some (.box zD)) (h2:hget H 2=some (.box zP)) (h4:hget H 4=some (.box [.str d.nm,.int .i64 d.ver,.int .i64 d.sh,.int .i64 d.w,.int .i64 d.h,eIs d.holes,eSys d.syms,v1,v2,.sl .nil []])) (w1:Wk v1 (eRgs d.regs)) (w2:Wk v2 (eCls d.clus)):
  kont Tryz.prog (Tzy L e) (QZ (.tup [encD (zf8 d sb).1,pvZ (zf8 d sb).2])) [.c (sndN 8 c25)] .normal ⟨eZ X,H,n⟩:=by
 have hl':L.length<1000000000:=hl
 rw[AN]
 simp only[eE,c25,sndN,sndA]
 refine AX (fun v:VZ L e DRul×List (Nat×Bool×AVal)=>⟨eZ v.2,v.1.H,v.1.n⟩)
  (fun v=>IY (zis 1 CR) EY 12 Ap (fun l=>[.str d.nm,.int .i64 d.ver,.int .i64 d.sh,.int .i64 d.w,.int .i64 d.h,eIs d.holes,eSys d.syms,v1,v2,l]) sb H v.1) (fun v=>L.length-v.1.s.n)
  (⟨sb,[],.nil,H,n⟩,X) rfl ⟨rfl,rfl,Nat.zero_le _,hf,h0,h4,rfl,rfl,.inl rfl,hn,.inr rfl⟩ ?_
 rintro⟨⟨sa,acc,tk,H1,n1⟩,X1⟩ hI
 have hI2:=hI
 obtain⟨e1,e2,hlen,hfr,hp,hx,hk1,hk2,htk,hn1,hes⟩:=hI2
 simp only at e1 e2 hlen hfr hp hx hk1 hk2 htk hn1 hes
 rw[h1]at hk1
 rw[h2]at hk2
 have hi:Zi (zis (L:=L) (e:=e) 1 CR) EY:=HD M6
 have hle:=sa.le
 by_cases hs:zis 1 CR sa=true
 case neg=>
  have hs':zis 1 CR sa=false:=by simpa using hs
  rw[Ct hs]at e1 e2
  rw[List.append_nil]at e1
  have ez:zf8 d sb=zf9 {d with ruls:=(BH (zis 1 CR) EY sb).1} (BH (zis 1 CR) EY sb).2:=rfl
  rw[ez,e1,e2]
  simp only[eE,Nat.reduceEqDiff,↓reduceIte,Nat.reduceAdd,hp,hs',s2,Am,AZ,AW,AH,HU]
  rw[AN]
  simp only[eE,eC,Nat.reduceEqDiff,↓reduceIte]
  exact z9 hl (d:={d with ruls:=acc}) hfr hn1 hp hk1 hk2 hx w1 w2 (Wk.sl (hes.imp id fun q=>by rw[q];rfl))
 have h2':=hi sa hs
 have h3:=(EY sa).2.le
 generalize hy:EY sa=y at h2' h3
 have hta:tkG 12 5 (hset H1 (n1+5) (.box [.str [],.str [],.int .i64 0,.int .i64 0,.sl .nil [],.sl .nil [],.int .i64 0,.int .i64 0,.int .i64 0,.int .i64 0,.str [],.int .i64 0])) tk:=htk.set (.inr (.inr (hfr _ (by omega))))
 have htb:tkG 12 5 (hset (hset H1 (n1+5) (.box [.str [],.str [],.int .i64 0,.int .i64 0,.sl .nil [],.sl .nil [],.int .i64 0,.int .i64 0,.int .i64 0,.int .i64 0,.str [],.int .i64 0])) (n1+6) (.box zP)) tk:=hta.set (.inr (.inr (by rw[AC _ _ _ _ (by omega)];exact hfr _ (by omega))))
 have htc:tkG 12 5 (hset (hset (hset H1 (n1+5) (.box [.str [],.str [],.int .i64 0,.int .i64 0,.sl .nil [],.sl .nil [],.int .i64 0,.int .i64 0,.int .i64 0,.int .i64 0,.str [],.int .i64 0])) (n1+6) (.box zP)) (n1+5) (.box (BE y.1))) tk:=htb.set (.inr (.inl ⟨_,by rw[AC _ _ _ _ (by omega)];exact AB ..⟩))
 have ht2:tkG 12 5 (hset (hset (hset (hset H1 (n1+5) (.box [.str [],.str [],.int .i64 0,.int .i64 0,.sl .nil [],.sl .nil [],.int .i64 0,.int .i64 0,.int .i64 0,.int .i64 0,.str [],.int .i64 0])) (n1+6) (.box zP)) (n1+5) (.box (BE y.1))) (n1+6) (bxZ y.2)) tk:=htc.set (.inr (.inl ⟨_,by rw[AC _ _ _ _ (by omega)];exact AB ..⟩))
 have hf2:Ac (hset (hset (hset (hset H1 (n1+5) (.box [.str [],.str [],.int .i64 0,.int .i64 0,.sl .nil [],.sl .nil [],.int .i64 0,.int .i64 0,.int .i64 0,.int .i64 0,.str [],.int .i64 0])) (n1+6) (.box zP)) (n1+5) (.box (BE y.1))) (n1+6) (bxZ y.2)) (n1+13):=(((hfr.hset (m:=n1+13) (by omega) (by omega)).hset (Nat.le_refl _) (by omega)).hset (Nat.le_refl _) (by omega)).hset (Nat.le_refl _) (by omega)
 have hlow:∀id,id<5→hget (hset (hset (hset (hset H1 (n1+5) (.box [.str [],.str [],.int .i64 0,.int .i64 0,.sl .nil [],.sl .nil [],.int .i64 0,.int .i64 0,.int .i64 0,.int .i64 0,.str [],.int .i64 0])) (n1+6) (.box zP)) (n1+5) (.box (BE y.1))) (n1+6) (bxZ y.2)) id=hget H1 id:=fun id hid=>by
  rw[AC _ _ _ _ (by omega),AC _ _ _ _ (by omega),AC _ _ _ _ (by omega),AC _ _ _ _ (by omega)]
 have hN:=hI.next (m:=n1+13) (n3:=n1+16) hi hs hlow ht2 hf2 (by omega) (by omega)
 rw[hy]at hN
 have kk4:hget (AL (hset (hset (hset (hset H1 (n1+5) (.box [.str [],.str [],.int .i64 0,.int .i64 0,.sl .nil [],.sl .nil [],.int .i64 0,.int .i64 0,.int .i64 0,.int .i64 0,.str [],.int .i64 0])) (n1+6) (.box zP)) (n1+5) (.box (BE y.1))) (n1+6) (bxZ y.2)) tk) 4=hget H1 4:=by rw[Ab ht2 (.inl (by decide)),hlow 4 (by decide)]
 have kk0:hget (AL (hset (hset (hset (hset H1 (n1+5) (.box [.str [],.str [],.int .i64 0,.int .i64 0,.sl .nil [],.sl .nil [],.int .i64 0,.int .i64 0,.int .i64 0,.int .i64 0,.str [],.int .i64 0])) (n1+6) (.box zP)) (n1+5) (.box (BE y.1))) (n1+6) (bxZ y.2)) tk) 0=hget H1 0:=by rw[Ab ht2 (.inl (by decide)),hlow 0 (by decide)]
 have kk6:hget (AL (hset (hset (hset (hset H1 (n1+5) (.box [.str [],.str [],.int .i64 0,.int .i64 0,.sl .nil [],.sl .nil [],.int .i64 0,.int .i64 0,.int .i64 0,.int .i64 0,.str [],.int .i64 0])) (n1+6) (.box zP)) (n1+5) (.box (BE y.1))) (n1+6) (bxZ y.2)) tk) (n1+6)=some (bxZ y.2):=by
  rw[Ab ht2 (.inr ⟨_,AB ..⟩)];exact AB ..
 have q1:CJ (hset (hset (hset (hset H1 (n1+5) (.box [.str [],.str [],.int .i64 0,.int .i64 0,.sl .nil [],.sl .nil [],.int .i64 0,.int .i64 0,.int .i64 0,.int .i64 0,.str [],.int .i64 0])) (n1+6) (.box zP)) (n1+5) (.box (BE y.1))) (n1+6) (bxZ y.2)) 12 tk=True:=eq_true ht2.app
 have q2:(acc.length≤35184372088831)=True:=eq_true (by omega)
 have q3:Ar (acc.length+1) 152=True:=eq_true (Au (by omega) (by decide))
 have y54:(n1+5=4)=False:=eq_false (by omega)
 have y64:(n1+6=4)=False:=eq_false (by omega)
 have y134:(n1+13=4)=False:=eq_false (by omega)
 have y130:(n1+13=0)=False:=eq_false (by omega)
 have y136:(n1+13=n1+6)=False:=eq_false (by omega)
 have y46:(4=n1+6)=False:=eq_false (by omega)
 have y65:(n1+6=n1+5)=False:=eq_false (by omega)
 have y56:(n1+5=n1+6)=False:=eq_false (by omega)
 simp only[eE,eC,eN,reduceCtorEq,Nat.reduceEqDiff,↓reduceIte,Nat.reduceAdd,Nat.reduceLeDiff,Nat.reduceMul,Nat.reduceLT,Tzy_ru,HU,s1,s2,Am,AZ,AW,AH,Option.getD_some,List.length_map,List.getElem?_cons_zero,List.getElem?_cons_succ,hp,hx,hs,hy,q1,q2,q3,y54,y64,y134,y130,y136,y46,y65,y56,kk4,kk0,kk6,fr1 hfr]
 exact .mk (⟨y.2,acc++[y.1],.own (n1+13) 12,_,n1+16⟩,[]) (by simp only[List.map_append,List.map_cons,List.map_nil]) hN (by simp only[];omega)
theorem z7 (hf:Ac H n) (hn:5≤n) (h0:hget H 0=some (bxZ sb)) (h1:hget H 1=some (.box zD)) (h2:hget H 2=some (.box zP)) (h4:hget H 4=some (.box [.str d.nm,.int .i64 d.ver,.int .i64 d.sh,.int .i64 d.w,.int .i64 d.h,eIs d.holes,eSys d.syms,v1,.sl .nil [],.sl .nil []])) (w1:Wk v1 (eRgs d.regs)):
  kont Tryz.prog (Tzy L e) (QZ (.tup [encD (zf7 d sb).1,pvZ (zf7 d sb).2])) [.c (sndN 7 c25)] .normal ⟨eZ X,H,n⟩:=by
 have hl':L.length<1000000000:=hl
 rw[AN]
 simp only[eE,c25,sndN,sndA]
 refine AX (fun v:VZ L e DClu×List (Nat×Bool×AVal)=>⟨eZ v.2,v.1.H,v.1.n⟩)
  (fun v=>IY (zis 1 CO) zclu 6 BL (fun l=>[.str d.nm,.int .i64 d.ver,.int .i64 d.sh,.int .i64 d.w,.int .i64 d.h,eIs d.holes,eSys d.syms,v1,l,.sl .nil []]) sb H v.1) (fun v=>L.length-v.1.s.n)
  (⟨sb,[],.nil,H,n⟩,X) rfl ⟨rfl,rfl,Nat.zero_le _,hf,h0,h4,rfl,rfl,.inl rfl,hn,.inr rfl⟩ ?_
 rintro⟨⟨sa,acc,tk,H1,n1⟩,X1⟩ hI
 have hI2:=hI
 obtain⟨e1,e2,hlen,hfr,hp,hx,hk1,hk2,htk,hn1,hes⟩:=hI2
 simp only at e1 e2 hlen hfr hp hx hk1 hk2 htk hn1 hes
 rw[h1]at hk1
 rw[h2]at hk2
 have hi:Zi (zis (L:=L) (e:=e) 1 CO) zclu:=HD Qt
 have hle:=sa.le
 by_cases hs:zis 1 CO sa=true
 case neg=>
  have hs':zis 1 CO sa=false:=by simpa using hs
  rw[Ct hs]at e1 e2
  rw[List.append_nil]at e1
  have ez:zf7 d sb=zf8 {d with clus:=(BH (zis 1 CO) zclu sb).1} (BH (zis 1 CO) zclu sb).2:=rfl
  rw[ez,e1,e2]
  simp only[eE,Nat.reduceEqDiff,↓reduceIte,Nat.reduceAdd,hp,hs',s2,Am,AZ,AW,AH,HU]
  rw[AN]
  simp only[eE,eC,Nat.reduceEqDiff,↓reduceIte]
  exact z8 hl (d:={d with clus:=acc}) hfr hn1 hp hk1 hk2 hx w1 (Wk.sl (hes.imp id fun q=>by rw[q];rfl))
 have h2':=hi sa hs
 have h3:=(zclu sa).2.le
 generalize hy:zclu sa=y at h2' h3
 have hta:tkG 6 5 (hset H1 (n1+5) (.box [.str [],.str [],.int .i64 0,.int .i64 0,.int .i64 0,.int .i64 0])) tk:=htk.set (.inr (.inr (hfr _ (by omega))))
 have htb:tkG 6 5 (hset (hset H1 (n1+5) (.box [.str [],.str [],.int .i64 0,.int .i64 0,.int .i64 0,.int .i64 0])) (n1+6) (.box zP)) tk:=hta.set (.inr (.inr (by rw[AC _ _ _ _ (by omega)];exact hfr _ (by omega))))
 have htc:tkG 6 5 (hset (hset (hset H1 (n1+5) (.box [.str [],.str [],.int .i64 0,.int .i64 0,.int .i64 0,.int .i64 0])) (n1+6) (.box zP)) (n1+5) (.box [.str y.1.nm,.str y.1.on,.int .i64 y.1.fam,.int .i64 y.1.ty,.int .i64 y.1.lo,.int .i64 y.1.hi])) tk:=htb.set (.inr (.inl ⟨_,by rw[AC _ _ _ _ (by omega)];exact AB ..⟩))
 have ht2:tkG 6 5 (hset (hset (hset (hset H1 (n1+5) (.box [.str [],.str [],.int .i64 0,.int .i64 0,.int .i64 0,.int .i64 0])) (n1+6) (.box zP)) (n1+5) (.box [.str y.1.nm,.str y.1.on,.int .i64 y.1.fam,.int .i64 y.1.ty,.int .i64 y.1.lo,.int .i64 y.1.hi])) (n1+6) (bxZ y.2)) tk:=htc.set (.inr (.inl ⟨_,by rw[AC _ _ _ _ (by omega)];exact AB ..⟩))
 have hf2:Ac (hset (hset (hset (hset H1 (n1+5) (.box [.str [],.str [],.int .i64 0,.int .i64 0,.int .i64 0,.int .i64 0])) (n1+6) (.box zP)) (n1+5) (.box [.str y.1.nm,.str y.1.on,.int .i64 y.1.fam,.int .i64 y.1.ty,.int .i64 y.1.lo,.int .i64 y.1.hi])) (n1+6) (bxZ y.2)) (n1+13):=(((hfr.hset (m:=n1+13) (by omega) (by omega)).hset (Nat.le_refl _) (by omega)).hset (Nat.le_refl _) (by omega)).hset (Nat.le_refl _) (by omega)
 have hlow:∀id,id<5→hget (hset (hset (hset (hset H1 (n1+5) (.box [.str [],.str [],.int .i64 0,.int .i64 0,.int .i64 0,.int .i64 0])) (n1+6) (.box zP)) (n1+5) (.box [.str y.1.nm,.str y.1.on,.int .i64 y.1.fam,.int .i64 y.1.ty,.int .i64 y.1.lo,.int .i64 y.1.hi])) (n1+6) (bxZ y.2)) id=hget H1 id:=fun id hid=>by
  rw[AC _ _ _ _ (by omega),AC _ _ _ _ (by omega),AC _ _ _ _ (by omega),AC _ _ _ _ (by omega)]
 have hN:=hI.next (m:=n1+13) (n3:=n1+16) hi hs hlow ht2 hf2 (by omega) (by omega)
 rw[hy]at hN
 have kk4:hget (AL (hset (hset (hset (hset H1 (n1+5) (.box [.str [],.str [],.int .i64 0,.int .i64 0,.int .i64 0,.int .i64 0])) (n1+6) (.box zP)) (n1+5) (.box [.str y.1.nm,.str y.1.on,.int .i64 y.1.fam,.int .i64 y.1.ty,.int .i64 y.1.lo,.int .i64 y.1.hi])) (n1+6) (bxZ y.2)) tk) 4=hget H1 4:=by rw[Ab ht2 (.inl (by decide)),hlow 4 (by decide)]
 have kk0:hget (AL (hset (hset (hset (hset H1 (n1+5) (.box [.str [],.str [],.int .i64 0,.int .i64 0,.int .i64 0,.int .i64 0])) (n1+6) (.box zP)) (n1+5) (.box [.str y.1.nm,.str y.1.on,.int .i64 y.1.fam,.int .i64 y.1.ty,.int .i64 y.1.lo,.int .i64 y.1.hi])) (n1+6) (bxZ y.2)) tk) 0=hget H1 0:=by rw[Ab ht2 (.inl (by decide)),hlow 0 (by decide)]
 have kk6:hget (AL (hset (hset (hset (hset H1 (n1+5) (.box [.str [],.str [],.int .i64 0,.int .i64 0,.int .i64 0,.int .i64 0])) (n1+6) (.box zP)) (n1+5) (.box [.str y.1.nm,.str y.1.on,.int .i64 y.1.fam,.int .i64 y.1.ty,.int .i64 y.1.lo,.int .i64 y.1.hi])) (n1+6) (bxZ y.2)) tk) (n1+6)=some (bxZ y.2):=by
  rw[Ab ht2 (.inr ⟨_,AB ..⟩)];exact AB ..
 have q1:CJ (hset (hset (hset (hset H1 (n1+5) (.box [.str [],.str [],.int .i64 0,.int .i64 0,.int .i64 0,.int .i64 0])) (n1+6) (.box zP)) (n1+5) (.box [.str y.1.nm,.str y.1.on,.int .i64 y.1.fam,.int .i64 y.1.ty,.int .i64 y.1.lo,.int .i64 y.1.hi])) (n1+6) (bxZ y.2)) 6 tk=True:=eq_true ht2.app
 have q2:(acc.length≤35184372088831)=True:=eq_true (by omega)
 have q3:Ar (acc.length+1) 64=True:=eq_true (Au (by omega) (by decide))
 have y54:(n1+5=4)=False:=eq_false (by omega)
 have y64:(n1+6=4)=False:=eq_false (by omega)
 have y134:(n1+13=4)=False:=eq_false (by omega)
 have y130:(n1+13=0)=False:=eq_false (by omega)
 have y136:(n1+13=n1+6)=False:=eq_false (by omega)
 have y46:(4=n1+6)=False:=eq_false (by omega)
 have y65:(n1+6=n1+5)=False:=eq_false (by omega)
 have y56:(n1+5=n1+6)=False:=eq_false (by omega)
 simp only[eE,eC,eN,reduceCtorEq,Nat.reduceEqDiff,↓reduceIte,Nat.reduceAdd,Nat.reduceLeDiff,Nat.reduceMul,Nat.reduceLT,Tzy_cl,HU,s1,s2,Am,AZ,AW,AH,Option.getD_some,List.length_map,List.getElem?_cons_zero,List.getElem?_cons_succ,hp,hx,hs,hy,q1,q2,q3,y54,y64,y134,y130,y136,y46,y65,y56,kk4,kk0,kk6,fr1 hfr]
 exact .mk (⟨y.2,acc++[y.1],.own (n1+13) 6,_,n1+16⟩,[]) (by simp only[List.map_append,List.map_cons,List.map_nil]) hN (by simp only[];omega)
theorem z6 (hf:Ac H n) (hn:5≤n) (h0:hget H 0=some (bxZ sb)) (h1:hget H 1=some (.box zD)) (h2:hget H 2=some (.box zP)) (h4:hget H 4=some (.box [.str d.nm,.int .i64 d.ver,.int .i64 d.sh,.int .i64 d.w,.int .i64 d.h,eIs d.holes,eSys d.syms,.sl .nil [],.sl .nil [],.sl .nil []])):
  kont Tryz.prog (Tzy L e) (QZ (.tup [encD (zf6 d sb).1,pvZ (zf6 d sb).2])) [.c (sndN 6 c25)] .normal ⟨eZ X,H,n⟩:=by
 have hl':L.length<1000000000:=hl
 rw[AN]
 simp only[eE,c25,sndN,sndA]
 refine AX (fun v:VZ L e DReg×List (Nat×Bool×AVal)=>⟨eZ v.2,v.1.H,v.1.n⟩)
  (fun v=>IY (zis 1 Bo) zreg 2 DJ (fun l=>[.str d.nm,.int .i64 d.ver,.int .i64 d.sh,.int .i64 d.w,.int .i64 d.h,eIs d.holes,eSys d.syms,l,.sl .nil [],.sl .nil []]) sb H v.1) (fun v=>L.length-v.1.s.n)
  (⟨sb,[],.nil,H,n⟩,X) rfl ⟨rfl,rfl,Nat.zero_le _,hf,h0,h4,rfl,rfl,.inl rfl,hn,.inr rfl⟩ ?_
 rintro⟨⟨sa,acc,tk,H1,n1⟩,X1⟩ hI
 have hI2:=hI
 obtain⟨e1,e2,hlen,hfr,hp,hx,hk1,hk2,htk,hn1,hes⟩:=hI2
 simp only at e1 e2 hlen hfr hp hx hk1 hk2 htk hn1 hes
 rw[h1]at hk1
 rw[h2]at hk2
 have hi:Zi (zis (L:=L) (e:=e) 1 Bo) zreg:=HD Qs
 have hle:=sa.le
 by_cases hs:zis 1 Bo sa=true
 case neg=>
  have hs':zis 1 Bo sa=false:=by simpa using hs
  rw[Ct hs]at e1 e2
  rw[List.append_nil]at e1
  have ez:zf6 d sb=zf7 {d with regs:=(BH (zis 1 Bo) zreg sb).1} (BH (zis 1 Bo) zreg sb).2:=rfl
  rw[ez,e1,e2]
  simp only[eE,Nat.reduceEqDiff,↓reduceIte,Nat.reduceAdd,hp,hs',s2,Am,AZ,AW,AH,HU]
  rw[AN]
  simp only[eE,eC,Nat.reduceEqDiff,↓reduceIte]
  exact z7 hl (d:={d with regs:=acc}) hfr hn1 hp hk1 hk2 hx (Wk.sl (hes.imp id fun q=>by rw[q];rfl))
 have h2':=hi sa hs
 have h3:=(zreg sa).2.le
 generalize hy:zreg sa=y at h2' h3
 have hta:tkG 2 5 (hset H1 (n1+5) (.box [.str [],.sl .nil []])) tk:=htk.set (.inr (.inr (hfr _ (by omega))))
 have htb:tkG 2 5 (hset (hset H1 (n1+5) (.box [.str [],.sl .nil []])) (n1+6) (.box zP)) tk:=hta.set (.inr (.inr (by rw[AC _ _ _ _ (by omega)];exact hfr _ (by omega))))
 have htc:tkG 2 5 (hset (hset (hset H1 (n1+5) (.box [.str [],.sl .nil []])) (n1+6) (.box zP)) (n1+5) (.box [.str y.1.nm,eLl y.1.ls])) tk:=htb.set (.inr (.inl ⟨_,by rw[AC _ _ _ _ (by omega)];exact AB ..⟩))
 have ht2:tkG 2 5 (hset (hset (hset (hset H1 (n1+5) (.box [.str [],.sl .nil []])) (n1+6) (.box zP)) (n1+5) (.box [.str y.1.nm,eLl y.1.ls])) (n1+6) (bxZ y.2)) tk:=htc.set (.inr (.inl ⟨_,by rw[AC _ _ _ _ (by omega)];exact AB ..⟩))
 have hf2:Ac (hset (hset (hset (hset H1 (n1+5) (.box [.str [],.sl .nil []])) (n1+6) (.box zP)) (n1+5) (.box [.str y.1.nm,eLl y.1.ls])) (n1+6) (bxZ y.2)) (n1+13):=(((hfr.hset (m:=n1+13) (by omega) (by omega)).hset (Nat.le_refl _) (by omega)).hset (Nat.le_refl _) (by omega)).hset (Nat.le_refl _) (by omega)
 have hlow:∀id,id<5→hget (hset (hset (hset (hset H1 (n1+5) (.box [.str [],.sl .nil []])) (n1+6) (.box zP)) (n1+5) (.box [.str y.1.nm,eLl y.1.ls])) (n1+6) (bxZ y.2)) id=hget H1 id:=fun id hid=>by
  rw[AC _ _ _ _ (by omega),AC _ _ _ _ (by omega),AC _ _ _ _ (by omega),AC _ _ _ _ (by omega)]
 have hN:=hI.next (m:=n1+13) (n3:=n1+16) hi hs hlow ht2 hf2 (by omega) (by omega)
 rw[hy]at hN
 have kk4:hget (AL (hset (hset (hset (hset H1 (n1+5) (.box [.str [],.sl .nil []])) (n1+6) (.box zP)) (n1+5) (.box [.str y.1.nm,eLl y.1.ls])) (n1+6) (bxZ y.2)) tk) 4=hget H1 4:=by rw[Ab ht2 (.inl (by decide)),hlow 4 (by decide)]
 have kk0:hget (AL (hset (hset (hset (hset H1 (n1+5) (.box [.str [],.sl .nil []])) (n1+6) (.box zP)) (n1+5) (.box [.str y.1.nm,eLl y.1.ls])) (n1+6) (bxZ y.2)) tk) 0=hget H1 0:=by rw[Ab ht2 (.inl (by decide)),hlow 0 (by decide)]
 have kk6:hget (AL (hset (hset (hset (hset H1 (n1+5) (.box [.str [],.sl .nil []])) (n1+6) (.box zP)) (n1+5) (.box [.str y.1.nm,eLl y.1.ls])) (n1+6) (bxZ y.2)) tk) (n1+6)=some (bxZ y.2):=by
  rw[Ab ht2 (.inr ⟨_,AB ..⟩)];exact AB ..
 have q1:CJ (hset (hset (hset (hset H1 (n1+5) (.box [.str [],.sl .nil []])) (n1+6) (.box zP)) (n1+5) (.box [.str y.1.nm,eLl y.1.ls])) (n1+6) (bxZ y.2)) 2 tk=True:=eq_true ht2.app
 have q2:(acc.length≤35184372088831)=True:=eq_true (by omega)
 have q3:Ar (acc.length+1) 40=True:=eq_true (Au (by omega) (by decide))
 have y54:(n1+5=4)=False:=eq_false (by omega)
 have y64:(n1+6=4)=False:=eq_false (by omega)
 have y134:(n1+13=4)=False:=eq_false (by omega)
 have y130:(n1+13=0)=False:=eq_false (by omega)
 have y136:(n1+13=n1+6)=False:=eq_false (by omega)
 have y46:(4=n1+6)=False:=eq_false (by omega)
 have y65:(n1+6=n1+5)=False:=eq_false (by omega)
 have y56:(n1+5=n1+6)=False:=eq_false (by omega)
 simp only[eE,eC,eN,reduceCtorEq,Nat.reduceEqDiff,↓reduceIte,Nat.reduceAdd,Nat.reduceLeDiff,Nat.reduceMul,Nat.reduceLT,Tzy_rg,HU,s1,s2,Am,AZ,AW,AH,Option.getD_some,List.length_map,List.getElem?_cons_zero,List.getElem?_cons_succ,hp,hx,hs,hy,q1,q2,q3,y54,y64,y134,y130,y136,y46,y65,y56,kk4,kk0,kk6,fr1 hfr]
 exact .mk (⟨y.2,acc++[y.1],.own (n1+13) 2,_,n1+16⟩,[]) (by simp only[List.map_append,List.map_cons,List.map_nil]) hN (by simp only[];omega)
theorem p25 (s:ZS L e):Pur Tryz.prog 25 [pvZ s] (.tup [encD (FY s).1,pvZ (FY s).2]):=by
 refine .mk ⟨AR 0 s,trivial⟩ ⟨Al 0 _,AR 0 _,trivial⟩ (a25 (AF (Tzy_ok (L:=L) (e:=e) hl) (AE ?_)))
 simp only[eE,reduceCtorEq,Nat.reduceEqDiff,↓reduceIte,Nat.reduceAdd,c25]
 iterate 5 (rw[AN];simp only[eE,reduceCtorEq,Nat.reduceEqDiff,↓reduceIte,Nat.reduceAdd,Nat.reduceLeDiff,Nat.reduceLT,s1,s2,Am,AZ,AW,AH,dG0_ok,Ru,AU,List.getElem?_cons_zero,List.getElem?_cons_succ,Option.getD_some,Tzy_gd,Tzy_ss,Tzy_w,Rw,Tzy_nm,Tzy_nb])
 generalize hD:E2 (dG ((As (zw 1 EE s).2).1,(znum (zw 1 Ea (As (zw 1 EE s).2).2).2).1)) (zw 3 [123] (znum (zw 1 Ea (As (zw 1 EE s).2).2).2).2).2=G
 have ez:FY s=zf6 {G.1 with syms:=(Fx G.2).1} (Fx G.2).2:=by subst hD;rfl
 rw[ez]
 refine z6 hl (X:=[]) (d:={G.1 with syms:=(Fx G.2).1}) ?_ ?_ ?_ ?_ ?_ ?_
 ·intro id hid
  simp only[AA]
  repeat rw[if_neg (by omega)]
  rfl
 ·decide
 ·exact AB ..
 ·simp only[AA];rfl
 ·simp only[AA];rfl
 ·rw[AC _ _ _ _ (by decide)];exact AB ..
end
end Go.AM
end
section
set_option maxRecDepth 20000
set_option linter.all false
namespace Go.AM
open Go.Proofs Go.Lib
def zs0 (L:List Tkn) (e:Int):ZS L e:=⟨0,false,Nat.zero_le _⟩
def Tzp (L:List Tkn) (e:Int):Tab:=tadd 24 (s1 dS (fun x=>x.length<1000000000) fun x=>lexV x) (tadd 25 (s1 (dZ L e) (fun _=>True) fun s=>.tup [encD (FY s).1,pvZ (FY s).2]) tnil)
theorem Tzp_l {L:List Tkn} {e:Int} (a:List AVal) (H:AD):Tzp L e 24 a H=s1 dS (fun x=>x.length<1000000000) (fun x=>lexV x) a H:=rfl
theorem Tzp_r {L:List Tkn} {e:Int} (a:List AVal) (H:AD):Tzp L e 25 a H=s1 (dZ L e) (fun _=>True) (fun s=>.tup [encD (FY s).1,pvZ (FY s).2]) a H:=rfl
end Go.AM
end
section
set_option maxRecDepth 20000
set_option linter.all false
namespace Go.AM
open Go.Proofs Go.Lib
abbrev eTk (l:List Tkn):AVal:=.sl (.none 4) (l.map encK)
theorem A1 (n:Nat) (l:List Tkn):(eTk l).under n:=⟨trivial,Bx n l⟩
theorem wkT {a b:List Tkn} {t:Tok} (ht:t.esz=4) (h:a=b):Wk (.sl t (a.map encK)) (eTk b):=h▸Wk.sl (.inl ht)
theorem p80 (w:List Tkn) (x:Bs) (hw:w.length+1≤900000000):Pur Tryz.prog 80 [eTk w,.str x] (eTk (w++[kI x])):=by
 refine .mk ⟨A1 0 w,trivial,trivial⟩ (A1 0 _) (a80 (AF AJ.tnil (AE ?_)))
 have q1:(w.length≤35184372088831)=True:=eq_true (by omega)
 have q2:(w.length≤35184372088832)=True:=eq_true (by omega)
 have q3:Ar (w.length+1) 40=True:=eq_true (Au (by omega) (by decide))
 have q4:Ar w.length 40=True:=eq_true (Au (by omega) (by decide))
 simp only[eE,eN,reduceCtorEq,Nat.reduceEqDiff,↓reduceIte,Nat.reduceAdd,Nat.reduceLeDiff,Nat.reduceMul,Nat.reduceLT,List.length_map,c80,q1,q2,q3,q4]
 refine(congrArg (fun z=>Wk (.sl (.own 6 4) z) _) ?_).mpr (wkT (a:=w++[kI x]) rfl rfl)
 simp
theorem p81 (w:List Tkn) (x:Bs) (hw:w.length+1≤900000000):Pur Tryz.prog 81 [eTk w,.str x] (eTk (w++[kS x])):=by
 refine .mk ⟨A1 0 w,trivial,trivial⟩ (A1 0 _) (a81 (AF AJ.tnil (AE ?_)))
 have q1:(w.length≤35184372088831)=True:=eq_true (by omega)
 have q2:(w.length≤35184372088832)=True:=eq_true (by omega)
 have q3:Ar (w.length+1) 40=True:=eq_true (Au (by omega) (by decide))
 have q4:Ar w.length 40=True:=eq_true (Au (by omega) (by decide))
 simp only[eE,eN,reduceCtorEq,Nat.reduceEqDiff,↓reduceIte,Nat.reduceAdd,Nat.reduceLeDiff,Nat.reduceMul,Nat.reduceLT,List.length_map,c81,q1,q2,q3,q4]
 refine(congrArg (fun z=>Wk (.sl (.own 6 4) z) _) ?_).mpr (wkT (a:=w++[kS x]) rfl rfl)
 simp
theorem p82 (w:List Tkn) (x:Int) (hw:w.length+1≤900000000):Pur Tryz.prog 82 [eTk w,.int .i64 x] (eTk (w++[kN x])):=by
 refine .mk ⟨A1 0 w,trivial,trivial⟩ (A1 0 _) (a82 (AF AJ.tnil (AE ?_)))
 have q1:(w.length≤35184372088831)=True:=eq_true (by omega)
 have q2:(w.length≤35184372088832)=True:=eq_true (by omega)
 have q3:Ar (w.length+1) 40=True:=eq_true (Au (by omega) (by decide))
 have q4:Ar w.length 40=True:=eq_true (Au (by omega) (by decide))
 simp only[eE,eN,reduceCtorEq,Nat.reduceEqDiff,↓reduceIte,Nat.reduceAdd,Nat.reduceLeDiff,Nat.reduceMul,Nat.reduceLT,List.length_map,c82,q1,q2,q3,q4]
 refine(congrArg (fun z=>Wk (.sl (.own 6 4) z) _) ?_).mpr (wkT (a:=w++[kN x]) rfl rfl)
 simp
def Tpa:Tab:=tadd 80 (s2 dKs dS (fun w _=>w.length+1≤900000000) (fun w x=>eTk (w++[kI x]))) (tadd 81 (s2 dKs dS (fun w _=>w.length+1≤900000000) (fun w x=>eTk (w++[kS x]))) (tadd 82 (s2 dKs dI (fun w _=>w.length+1≤900000000) (fun w x=>eTk (w++[kN x]))) (tnil)))
theorem ND:AJ Tryz.prog Tpa:=(((AJ.tnil.add (q2 fun a b h=>p82 a b h)).add (q2 fun a b h=>p81 a b h)).add (q2 fun a b h=>p80 a b h))
theorem K4 (a:List AVal) (H:AD):Tpa 80 a H=s2 dKs dS (fun w _=>w.length+1≤900000000) (fun w x=>eTk (w++[kI x])) a H:=rfl
theorem GA (a:List AVal) (H:AD):Tpa 81 a H=s2 dKs dS (fun w _=>w.length+1≤900000000) (fun w x=>eTk (w++[kS x])) a H:=rfl
theorem HV (a:List AVal) (H:AD):Tpa 82 a H=s2 dKs dI (fun w _=>w.length+1≤900000000) (fun w x=>eTk (w++[kN x])) a H:=rfl
theorem p83 (w:List Tkn) (l:List Int) (hw:w.length+(comT oneN l).length≤900000000):Pur Tryz.prog 83 [eTk w,eIs l] (eTk (w++comT oneN l)):=by
 refine .mk ⟨A1 0 w,Bq 0 l,trivial⟩ (A1 0 _) (a83 (AF ND (AE ?_)))
 have hll:l.length≤(comT oneN l).length:=Dk (fun _=>Nat.le_refl _) l
 simp only[eE,eN,reduceCtorEq,Nat.reduceEqDiff,↓reduceIte,Nat.reduceAdd,c83]
 refine AX (fun i:Nat=>⟨[(0,true,eTk (w++comT oneN (l.take i))),(1,true,eIs l),(5,true,.int .i64 i)],hnil,0⟩) (fun i=>i≤l.length) (fun i=>l.length-i) 0 (by simp [comT]) (Nat.zero_le _) ?_
 intro i hi
 by_cases hlt:i<l.length
 case neg=>
  have:i=l.length:=by omega
  subst this
  rw[List.take_length]
  simp only[eE,eC,eN,reduceCtorEq,Nat.reduceEqDiff,↓reduceIte,List.length_map,lt_F hlt]
  exact Wk.refl _
 have hg:=List.getElem?_eq_getElem hlt
 have e:=AP (k:=i) (by omega)
 have eQ:=Dj oneN hlt
 have eP:=HC oneN (l:=l) (i+1)
 rw[eQ]at eP
 simp only[List.length_append]at eP
 have e1:(oneN l[i]).length=1:=rfl
 by_cases hi0:i=0
 ·have j0:((0:Int)<(i:Int))=False:=eq_false (by omega)
  rw[if_pos hi0]at eQ eP
  have q1:((w++comT oneN (l.take i)).length+1≤900000000)=True:=eq_true (by simp only[List.length_append,List.length_cons,List.length_nil]at eP⊢;omega)
  simp only[eE,eC,eN,reduceCtorEq,Nat.reduceEqDiff,↓reduceIte,Int.reduceEq,s2,B1,BC,Ah,AY,Option.getD_some,Int.toNat_natCast,Int.natCast_nonneg,List.length_map,List.getElem?_map,lt_T hlt,hg,e,j0,HV,q1]
  exact .mk (i+1) (by rw[eQ];simp) hlt (by omega)
 ·have j0:((0:Int)<(i:Int))=True:=eq_true (by omega)
  rw[if_neg hi0]at eQ eP
  have q1:((w++comT oneN (l.take i)).length+1≤900000000)=True:=eq_true (by simp only[List.length_append,List.length_cons,List.length_nil]at eP⊢;omega)
  have q2:(((w++comT oneN (l.take i))++[kS [44]]).length+1≤900000000)=True:=eq_true (by simp only[List.length_append,List.length_cons,List.length_nil]at eP⊢;omega)
  simp only[eE,eC,eN,reduceCtorEq,Nat.reduceEqDiff,↓reduceIte,Int.reduceEq,s2,AW,AH,B1,BC,Ah,AY,Option.getD_some,Int.toNat_natCast,Int.natCast_nonneg,List.length_map,List.getElem?_map,lt_T hlt,hg,e,j0,GA,HV,q1,q2]
  exact .mk (i+1) (by rw[eQ];simp) hlt (by omega)
theorem p117 (w:List Tkn) (l:List Bs) (hw:w.length+(setT l).length≤900000000):Pur Tryz.prog 117 [eTk w,eSs l] (eTk (w++setT l)):=by
 refine .mk ⟨A1 0 w,Br 0 l,trivial⟩ (A1 0 _) (a117 (AF ND (AE ?_)))
 have hll:l.length≤(comT oneI l).length:=Dk (fun _=>Nat.le_refl _) l
 have hS:(setT l).length=(comT oneI l).length+2:=by simp [setT]
 have p1:(w.length+1≤900000000)=True:=eq_true (by omega)
 simp only[eE,eN,reduceCtorEq,Nat.reduceEqDiff,↓reduceIte,Nat.reduceAdd,s2,AW,AH,Ah,AY,c117,GA,p1]
 refine AX (fun i:Nat=>⟨[(0,true,eTk ((w++[kS [123]])++comT oneI (l.take i))),(1,true,eSs l),(5,true,.int .i64 i)],hnil,0⟩) (fun i=>i≤l.length) (fun i=>l.length-i) 0 (by simp [comT]) (Nat.zero_le _) ?_
 intro i hi
 by_cases hlt:i<l.length
 case neg=>
  have:i=l.length:=by omega
  subst this
  rw[List.take_length]
  have q9:(((w++[kS [123]])++comT oneI l).length+1≤900000000)=True:=eq_true (by simp only[List.length_append,List.length_cons,List.length_nil];omega)
  simp only[eE,eC,eN,reduceCtorEq,Nat.reduceEqDiff,↓reduceIte,s2,AW,AH,Ah,AY,List.length_map,lt_F hlt,GA,q9]
  exact wkT rfl (by simp [setT])
 have hg:=List.getElem?_eq_getElem hlt
 have e:=AP (k:=i) (by omega)
 have eQ:=Dj oneI hlt
 have eP:=HC oneI (l:=l) (i+1)
 rw[eQ]at eP
 simp only[List.length_append]at eP
 have e1:(oneI l[i]).length=1:=rfl
 by_cases hi0:i=0
 ·have j0:((0:Int)<(i:Int))=False:=eq_false (by omega)
  rw[if_pos hi0]at eQ eP
  have q1:(((w++[kS [123]])++comT oneI (l.take i)).length+1≤900000000)=True:=eq_true (by simp only[List.length_append,List.length_cons,List.length_nil]at eP⊢;omega)
  simp only[eE,eC,eN,reduceCtorEq,Nat.reduceEqDiff,↓reduceIte,Int.reduceEq,s2,AW,AH,Ah,AY,Option.getD_some,Int.toNat_natCast,Int.natCast_nonneg,List.length_map,List.getElem?_map,lt_T hlt,hg,e,j0,K4,q1]
  exact .mk (i+1) (by rw[eQ];simp) hlt (by omega)
 ·have j0:((0:Int)<(i:Int))=True:=eq_true (by omega)
  rw[if_neg hi0]at eQ eP
  have q1:(((w++[kS [123]])++comT oneI (l.take i)).length+1≤900000000)=True:=eq_true (by simp only[List.length_append,List.length_cons,List.length_nil]at eP⊢;omega)
  have q2:((((w++[kS [123]])++comT oneI (l.take i))++[kS [44]]).length+1≤900000000)=True:=eq_true (by simp only[List.length_append,List.length_cons,List.length_nil]at eP⊢;omega)
  simp only[eE,eC,eN,reduceCtorEq,Nat.reduceEqDiff,↓reduceIte,Int.reduceEq,s2,AW,AH,Ah,AY,Option.getD_some,Int.toNat_natCast,Int.natCast_nonneg,List.length_map,List.getElem?_map,lt_T hlt,hg,e,j0,K4,GA,q1,q2]
  exact .mk (i+1) (by rw[eQ];simp) hlt (by omega)
def Tpb:Tab:=tadd 83 (s2 dKs dIs (fun w l=>w.length+(comT oneN l).length≤900000000) (fun w l=>eTk (w++comT oneN l))) (tadd 117 (s2 dKs dSs (fun w l=>w.length+(setT l).length≤900000000) (fun w l=>eTk (w++setT l))) (Tpa))
theorem Q7:AJ Tryz.prog Tpb:=((ND.add (q2 fun a b h=>p117 a b h)).add (q2 fun a b h=>p83 a b h))
theorem EN (a:List AVal) (H:AD):Tpb 80 a H=s2 dKs dS (fun w _=>w.length+1≤900000000) (fun w x=>eTk (w++[kI x])) a H:=rfl
theorem FZ (a:List AVal) (H:AD):Tpb 82 a H=s2 dKs dI (fun w _=>w.length+1≤900000000) (fun w x=>eTk (w++[kN x])) a H:=rfl
theorem p116 (w:List Tkn) (x:DRul) (hw:w.length+(bndT opF x.op x.n x.byN).length≤900000000):Pur Tryz.prog 116 [eTk w,Ap x] (eTk (w++bndT opF x.op x.n x.byN)):=by
 refine .mk ⟨A1 0 w,Ak 0 x,trivial⟩ (A1 0 _) (a116 (AF Q7 (AE ?_)))
 have hlen:(bndT opF x.op x.n x.byN).length=2:=by unfold bndT limT;split<;>rfl
 rw[hlen]at hw
 have hop:(x.op=1∧opF x.op=wIs)∨(x.op≠1∧x.op=2∧opF x.op=Ew)∨(x.op≠1∧x.op≠2∧opF x.op=Eh):=by
  unfold opF
  by_cases h1:x.op=1
  ·exact .inl ⟨h1,if_pos h1⟩
  ·by_cases h2:x.op=2
   ·exact .inr (.inl ⟨h1,h2,by rw[if_neg h1,if_pos h2]⟩)
   ·exact .inr (.inr ⟨h1,h2,by rw[if_neg h1,if_neg h2]⟩)
 by_cases hb:x.byN=[]
 ·have hsc:scmp .neq x.byN []=false:=by rw[hb];rfl
  have hli:limT x.n x.byN=[kN x.n]:=by unfold limT;rw[if_pos hb]
  rcases hop with⟨h1,ho⟩|⟨h1,h2,ho⟩|⟨h1,h2,ho⟩
  ·have z1:=eq_true h1
   simp only[eE,eC,eN,reduceCtorEq,Nat.reduceEqDiff,↓reduceIte,Nat.reduceAdd,Nat.reduceLeDiff,s2,AW,AH,B1,BC,Ah,AY,c116,EN,FZ,hsc,z1]
   (repeat' apply And.intro)<;>first|(exact wkT rfl (by simp [bndT,ho,hli]))|omega|(simp only[List.length_append,List.length_cons,List.length_nil];omega)
  ·have z1:=eq_false h1
   have z2:=eq_true h2
   simp only[eE,eC,eN,reduceCtorEq,Nat.reduceEqDiff,↓reduceIte,Nat.reduceAdd,Nat.reduceLeDiff,s2,AW,AH,B1,BC,Ah,AY,c116,EN,FZ,hsc,z1,z2]
   (repeat' apply And.intro)<;>first|(exact wkT rfl (by simp [bndT,ho,hli]))|omega|(simp only[List.length_append,List.length_cons,List.length_nil];omega)
  ·have z1:=eq_false h1
   have z2:=eq_false h2
   simp only[eE,eC,eN,reduceCtorEq,Nat.reduceEqDiff,↓reduceIte,Nat.reduceAdd,Nat.reduceLeDiff,s2,AW,AH,B1,BC,Ah,AY,c116,EN,FZ,hsc,z1,z2]
   (repeat' apply And.intro)<;>first|(exact wkT rfl (by simp [bndT,ho,hli]))|omega|(simp only[List.length_append,List.length_cons,List.length_nil];omega)
 ·have hsc:scmp .neq x.byN []=true:=by cases hq:x.byN with|nil=>exact absurd hq hb|cons a r=>rfl
  have hli:limT x.n x.byN=[kI x.byN]:=by unfold limT;rw[if_neg hb]
  rcases hop with⟨h1,ho⟩|⟨h1,h2,ho⟩|⟨h1,h2,ho⟩
  ·have z1:=eq_true h1
   simp only[eE,eC,eN,reduceCtorEq,Nat.reduceEqDiff,↓reduceIte,Nat.reduceAdd,Nat.reduceLeDiff,s2,AW,AH,Ah,AY,c116,EN,hsc,z1]
   (repeat' apply And.intro)<;>first|(exact wkT rfl (by simp [bndT,ho,hli]))|omega|(simp only[List.length_append,List.length_cons,List.length_nil];omega)
  ·have z1:=eq_false h1
   have z2:=eq_true h2
   simp only[eE,eC,eN,reduceCtorEq,Nat.reduceEqDiff,↓reduceIte,Nat.reduceAdd,Nat.reduceLeDiff,s2,AW,AH,Ah,AY,c116,EN,hsc,z1,z2]
   (repeat' apply And.intro)<;>first|(exact wkT rfl (by simp [bndT,ho,hli]))|omega|(simp only[List.length_append,List.length_cons,List.length_nil];omega)
  ·have z1:=eq_false h1
   have z2:=eq_false h2
   simp only[eE,eC,eN,reduceCtorEq,Nat.reduceEqDiff,↓reduceIte,Nat.reduceAdd,Nat.reduceLeDiff,s2,AW,AH,Ah,AY,c116,EN,hsc,z1,z2]
   (repeat' apply And.intro)<;>first|(exact wkT rfl (by simp [bndT,ho,hli]))|omega|(simp only[List.length_append,List.length_cons,List.length_nil];omega)
end Go.AM
end
section
set_option maxRecDepth 20000
set_option linter.all false
namespace Go.AM
open Go.Proofs Go.Lib
def Tpc:Tab:=tadd 116 (s2 dKs dRu (fun w x=>w.length+(bndT opF x.op x.n x.byN).length≤900000000) (fun w x=>eTk (w++bndT opF x.op x.n x.byN))) (Tpb)
theorem NE:AJ Tryz.prog Tpc:=(Q7.add (q2 fun a b h=>p116 a b h))
theorem E7 (a:List AVal) (H:AD):Tpc 116 a H=s2 dKs dRu (fun w x=>w.length+(bndT opF x.op x.n x.byN).length≤900000000) (fun w x=>eTk (w++bndT opF x.op x.n x.byN)) a H:=rfl
theorem GL (a:List AVal) (H:AD):Tpc 117 a H=s2 dKs dSs (fun w l=>w.length+(setT l).length≤900000000) (fun w l=>eTk (w++setT l)) a H:=rfl
theorem BI (a:List AVal) (H:AD):Tpc 80 a H=s2 dKs dS (fun w _=>w.length+1≤900000000) (fun w x=>eTk (w++[kI x])) a H:=rfl
theorem IS (a:List AVal) (H:AD):Tpc 81 a H=s2 dKs dS (fun w _=>w.length+1≤900000000) (fun w x=>eTk (w++[kS x])) a H:=rfl
theorem HW (a:List AVal) (H:AD):Tpc 82 a H=s2 dKs dI (fun w _=>w.length+1≤900000000) (fun w x=>eTk (w++[kN x])) a H:=rfl
theorem p85 (w:List Tkn) (x:DRul) (hw:w.length+(Ax opF true x).length≤900000000):Pur Tryz.prog 85 [eTk w,Ap x] (eTk (w++Ax opF true x)):=by
 refine .mk ⟨A1 0 w,Ak 0 x,trivial⟩ (A1 0 _) (a85 (AF NE (AE ?_)))
 obtain⟨nm,on,kd,fam,ns,os,set,oth,op,vn,bn,clue⟩:=x
 by_cases k1:kd=1
 ·subst k1
  have hB:Ax opF true ⟨nm,on,1,fam,ns,os,set,oth,op,vn,bn,clue⟩=[kI Bt,kI on,kI ED]:=rfl
  rw[hB]at hw⊢
  simp only[eE,eC,eN,reduceCtorEq,Nat.reduceEqDiff,↓reduceIte,Nat.reduceAdd,Nat.reduceLeDiff,Int.reduceLE,s2,AW,AH,Ah,AY,Int.le_refl,c85,BI]
  (repeat' apply And.intro)<;>first|(exact wkT rfl (by simp))|(simp only[List.length_append,List.length_cons,List.length_nil]at hw⊢;omega)|(simp only[List.length_append,List.length_cons,List.length_nil]at hw;omega)
 by_cases k2:kd=2
 ·subst k2
  have hB:Ax opF true ⟨nm,on,2,fam,ns,os,set,oth,op,vn,bn,clue⟩=kI Bt::kI on::kI CT::(setT ns++bndT opF op vn bn):=rfl
  rw[hB]at hw⊢
  simp only[eE,eC,eN,reduceCtorEq,Nat.reduceEqDiff,↓reduceIte,Nat.reduceAdd,Nat.reduceLeDiff,Int.reduceEq,Int.reduceLE,s2,AW,AH,Ah,AY,G0,Ev,DR,CU,c85,E7,GL,BI]
  (repeat' apply And.intro)<;>first|(exact wkT rfl (by simp))|(simp only[List.length_append,List.length_cons,List.length_nil]at hw⊢;omega)|(simp only[List.length_append,List.length_cons,List.length_nil]at hw;omega)
 by_cases k3:kd=3
 ·subst k3
  have hB:Ax opF true ⟨nm,on,3,fam,ns,os,set,oth,op,vn,bn,clue⟩=kI Bt::kI on::kI wSum::bndT opF op vn bn:=rfl
  rw[hB]at hw⊢
  simp only[eE,eC,eN,reduceCtorEq,Nat.reduceEqDiff,↓reduceIte,Nat.reduceAdd,Nat.reduceLeDiff,Int.reduceEq,Int.reduceLE,s2,AW,AH,Ah,AY,DR,CU,c85,E7,BI]
  (repeat' apply And.intro)<;>first|(exact wkT rfl (by simp))|(simp only[List.length_append,List.length_cons,List.length_nil]at hw⊢;omega)|(simp only[List.length_append,List.length_cons,List.length_nil]at hw;omega)
 by_cases k4:kd=4
 ·subst k4
  have hB:Ax opF true ⟨nm,on,4,fam,ns,os,set,oth,op,vn,bn,clue⟩=[kI Bt,kI on,kI FS]:=rfl
  rw[hB]at hw⊢
  simp only[eE,eC,eN,reduceCtorEq,Nat.reduceEqDiff,↓reduceIte,Nat.reduceAdd,Nat.reduceLeDiff,Int.reduceEq,Int.reduceLE,s2,AW,AH,Ah,AY,c85,BI]
  (repeat' apply And.intro)<;>first|(exact wkT rfl (by simp))|(simp only[List.length_append,List.length_cons,List.length_nil]at hw⊢;omega)|(simp only[List.length_append,List.length_cons,List.length_nil]at hw;omega)
 by_cases k5:kd=5
 ·subst k5
  have hB:Ax opF true ⟨nm,on,5,fam,ns,os,set,oth,op,vn,bn,clue⟩=kI Bt::kI on::kI Cq::(setT ns++[kI wBy,kI bn]):=rfl
  rw[hB]at hw⊢
  simp only[eE,eC,eN,reduceCtorEq,Nat.reduceEqDiff,↓reduceIte,Nat.reduceAdd,Nat.reduceLeDiff,Int.reduceEq,Int.reduceLE,s2,AW,AH,Ah,AY,G0,Ev,Int.le_refl,c85,GL,BI]
  (repeat' apply And.intro)<;>first|(exact wkT rfl (by simp))|(simp only[List.length_append,List.length_cons,List.length_nil]at hw⊢;omega)|(simp only[List.length_append,List.length_cons,List.length_nil]at hw;omega)
 by_cases k6:kd=6
 ·subst k6
  have hB:Ax opF true ⟨nm,on,6,fam,ns,os,set,oth,op,vn,bn,clue⟩=[kI Bu]:=rfl
  rw[hB]at hw⊢
  simp only[eE,eC,eN,reduceCtorEq,Nat.reduceEqDiff,↓reduceIte,Nat.reduceAdd,Nat.reduceLeDiff,Int.reduceEq,Int.reduceLE,s2,AW,AH,Ah,AY,c85,BI]
  (repeat' apply And.intro)<;>first|(exact wkT rfl (by simp))|(simp only[List.length_cons,List.length_nil]at hw⊢;omega)|(simp only[List.length_append,List.length_cons,List.length_nil]at hw;omega)
 by_cases k7:kd=7
 ·subst k7
  have hB:Ax opF true ⟨nm,on,7,fam,ns,os,set,oth,op,vn,bn,clue⟩=[kI C0,kN vn]:=rfl
  rw[hB]at hw⊢
  simp only[eE,eC,eN,reduceCtorEq,Nat.reduceEqDiff,↓reduceIte,Nat.reduceAdd,Nat.reduceLeDiff,Int.reduceEq,Int.reduceLE,s2,AW,AH,B1,BC,Ah,AY,c85,BI,HW]
  (repeat' apply And.intro)<;>first|(exact wkT rfl (by simp))|(simp only[List.length_append,List.length_cons,List.length_nil]at hw⊢;omega)|(simp only[List.length_append,List.length_cons,List.length_nil]at hw;omega)
 by_cases k8:kd=8
 ·subst k8
  have hB:Ax opF true ⟨nm,on,8,fam,ns,os,set,oth,op,vn,bn,clue⟩=kI wNot::(setT ns++kI Cr::setT os):=rfl
  rw[hB]at hw⊢
  simp only[eE,eC,eN,reduceCtorEq,Nat.reduceEqDiff,↓reduceIte,Nat.reduceAdd,Nat.reduceLeDiff,Int.reduceEq,Int.reduceLE,s2,AW,AH,Ah,AY,G0,Ev,c85,GL,BI]
  (repeat' apply And.intro)<;>first|(exact wkT rfl (by simp))|(simp only[List.length_append,List.length_cons,List.length_nil]at hw⊢;omega)|(simp only[List.length_append,List.length_cons,List.length_nil]at hw;omega)
 by_cases k9:kd=9
 ·subst k9
  have hB:Ax opF true ⟨nm,on,9,fam,ns,os,set,oth,op,vn,bn,clue⟩=kI FO::setT ns:=rfl
  rw[hB]at hw⊢
  simp only[eE,eC,eN,reduceCtorEq,Nat.reduceEqDiff,↓reduceIte,Nat.reduceAdd,Nat.reduceLeDiff,Int.reduceEq,Int.reduceLE,s2,AW,AH,Ah,AY,G0,Ev,c85,GL,BI]
  (repeat' apply And.intro)<;>first|(exact wkT rfl (by simp))|(simp only[List.length_append,List.length_cons,List.length_nil]at hw⊢;omega)|(simp only[List.length_append,List.length_cons,List.length_nil]at hw;omega)
 by_cases k10:kd=10
 ·subst k10
  have hB:Ax opF true ⟨nm,on,10,fam,ns,os,set,oth,op,vn,bn,clue⟩=kI FP::setT ns:=rfl
  rw[hB]at hw⊢
  simp only[eE,eC,eN,reduceCtorEq,Nat.reduceEqDiff,↓reduceIte,Nat.reduceAdd,Nat.reduceLeDiff,Int.reduceEq,Int.reduceLE,s2,AW,AH,Ah,AY,G0,Ev,c85,GL,BI]
  (repeat' apply And.intro)<;>first|(exact wkT rfl (by simp))|(simp only[List.length_append,List.length_cons,List.length_nil]at hw⊢;omega)|(simp only[List.length_append,List.length_cons,List.length_nil]at hw;omega)
 by_cases k11:kd=11
 ·subst k11
  have hB:Ax opF true ⟨nm,on,11,fam,ns,os,set,oth,op,vn,bn,clue⟩=[kI C1,kI bn]:=rfl
  rw[hB]at hw⊢
  simp only[eE,eC,eN,reduceCtorEq,Nat.reduceEqDiff,↓reduceIte,Nat.reduceAdd,Nat.reduceLeDiff,Int.reduceEq,Int.reduceLE,s2,AW,AH,Ah,AY,c85,BI]
  (repeat' apply And.intro)<;>first|(exact wkT rfl (by simp))|(simp only[List.length_append,List.length_cons,List.length_nil]at hw⊢;omega)|(simp only[List.length_append,List.length_cons,List.length_nil]at hw;omega)
 by_cases k12:kd=12
 ·subst k12
  have hB:Ax opF true ⟨nm,on,12,fam,ns,os,set,oth,op,vn,bn,clue⟩=[kI FQ,kI on]:=rfl
  rw[hB]at hw⊢
  simp only[eE,eC,eN,reduceCtorEq,Nat.reduceEqDiff,↓reduceIte,Nat.reduceAdd,Nat.reduceLeDiff,Int.reduceEq,Int.reduceLE,s2,AW,AH,Ah,AY,c85,BI]
  (repeat' apply And.intro)<;>first|(exact wkT rfl (by simp))|(simp only[List.length_append,List.length_cons,List.length_nil]at hw⊢;omega)|(simp only[List.length_append,List.length_cons,List.length_nil]at hw;omega)
 have hB:Ax opF true ⟨nm,on,kd,fam,ns,os,set,oth,op,vn,bn,clue⟩=kI Cp::bndT opF op vn bn:=by
  unfold Ax
  simp [k1,k2,k3,k4,k5,k6,k7,k8,k9,k10,k11,k12]
 rw[hB]at hw⊢
 have hr:(1≤kd∧kd≤5)=False:=eq_false (by omega)
 by_cases h1:1≤kd
 ·have h5:(kd≤5)=False:=eq_false (by omega)
  simp only[eE,eC,eN,reduceCtorEq,Nat.reduceEqDiff,↓reduceIte,Nat.reduceAdd,Nat.reduceLeDiff,s2,AW,AH,Ah,AY,DR,CU,c85,E7,BI,k1,k2,k3,k4,k5,k6,k7,k8,k9,k10,k11,k12,eq_true h1,h5]
  (repeat' apply And.intro)<;>first|(exact wkT rfl (by simp))|(simp only[List.length_append,List.length_cons,List.length_nil]at hw⊢;omega)|(simp only[List.length_append,List.length_cons,List.length_nil]at hw;omega)
 ·simp only[eE,eC,eN,reduceCtorEq,Nat.reduceEqDiff,↓reduceIte,Nat.reduceAdd,Nat.reduceLeDiff,s2,AW,AH,Ah,AY,DR,CU,c85,E7,BI,k1,k2,k3,k4,k5,k6,k7,k8,k9,k10,k11,k12,eq_false h1]
  (repeat' apply And.intro)<;>first|(exact wkT rfl (by simp))|(simp only[List.length_append,List.length_cons,List.length_nil]at hw⊢;omega)|(simp only[List.length_append,List.length_cons,List.length_nil]at hw;omega)
theorem p84 (w:List Tkn) (x:DClu) (hw:w.length+(cluT x).length≤900000000):Pur Tryz.prog 84 [eTk w,BL x] (eTk (w++cluT x)):=by
 refine .mk ⟨A1 0 w,Dh 0 x,trivial⟩ (A1 0 _) (a84 (AF NE (AE ?_)))
 obtain⟨nm,on,fam,ty,lo,hi⟩:=x
 by_cases k1:ty=1
 ·subst k1
  have hB:cluT ⟨nm,on,fam,1,lo,hi⟩=[kI CO,kI nm,kI wOn,kI on,kI wSym,kS [59]]:=rfl
  rw[hB]at hw⊢
  simp only[eE,eC,eN,reduceCtorEq,Nat.reduceEqDiff,↓reduceIte,Nat.reduceAdd,Nat.reduceLeDiff,s2,AW,AH,Ah,AY,c84,BI,IS]
  (repeat' apply And.intro)<;>first|(exact wkT rfl (by simp))|(simp only[List.length_append,List.length_cons,List.length_nil]at hw⊢;omega)|(simp only[List.length_append,List.length_cons,List.length_nil]at hw;omega)
 by_cases k2:ty=2
 ·subst k2
  have hB:cluT ⟨nm,on,fam,2,lo,hi⟩=[kI CO,kI nm,kI wOn,kI on,kI BF,kN lo,kI wTo,kN hi,kS [59]]:=rfl
  rw[hB]at hw⊢
  simp only[eE,eC,eN,reduceCtorEq,Nat.reduceEqDiff,↓reduceIte,Nat.reduceAdd,Nat.reduceLeDiff,Int.reduceEq,s2,AW,AH,B1,BC,Ah,AY,c84,BI,IS,HW]
  (repeat' apply And.intro)<;>first|(exact wkT rfl (by simp))|(simp only[List.length_append,List.length_cons,List.length_nil]at hw⊢;omega)|(simp only[List.length_append,List.length_cons,List.length_nil]at hw;omega)
 have hB:cluT ⟨nm,on,fam,ty,lo,hi⟩=[kI CO,kI nm,kI wOn,kI on,kI Cq,kS [59]]:=by unfold cluT cluB;simp [k1,k2]
 rw[hB]at hw⊢
 simp only[eE,eC,eN,reduceCtorEq,Nat.reduceEqDiff,↓reduceIte,Nat.reduceAdd,Nat.reduceLeDiff,s2,AW,AH,Ah,AY,c84,BI,IS,k1,k2]
 (repeat' apply And.intro)<;>first|(exact wkT rfl (by simp))|(simp only[List.length_append,List.length_cons,List.length_nil]at hw⊢;omega)|(simp only[List.length_append,List.length_cons,List.length_nil]at hw;omega)
end Go.AM
end
section
set_option maxRecDepth 20000
set_option linter.all false
namespace Go.AM
open Go.Proofs Go.Lib
theorem Rx {a b:Bs} {c d e f:Int}:dCl.ok (.agg [.str a,.str b,.int .i64 c,.int .i64 d,.int .i64 e,.int .i64 f])=True:=dCl_ok ⟨a,b,c,d,e,f⟩
theorem PO {a b:Bs} {c d e f:Int}:dCl.dec (.agg [.str a,.str b,.int .i64 c,.int .i64 d,.int .i64 e,.int .i64 f])=⟨a,b,c,d,e,f⟩:=TF ⟨a,b,c,d,e,f⟩
def Tpd:Tab:=tadd 85 (s2 dKs dRu (fun w x=>w.length+(Ax opF true x).length≤900000000) (fun w x=>eTk (w++Ax opF true x))) (tadd 84 (s2 dKs dCl (fun w x=>w.length+(cluT x).length≤900000000) (fun w x=>eTk (w++cluT x))) (Tpc))
theorem Tpd_ok:AJ Tryz.prog Tpd:=((NE.add (q2 fun a b h=>p84 a b h)).add (q2 fun a b h=>p85 a b h))
theorem PP (a:List AVal) (H:AD):Tpd 85 a H=s2 dKs dRu (fun w x=>w.length+(Ax opF true x).length≤900000000) (fun w x=>eTk (w++Ax opF true x)) a H:=rfl
theorem PQ (a:List AVal) (H:AD):Tpd 84 a H=s2 dKs dCl (fun w x=>w.length+(cluT x).length≤900000000) (fun w x=>eTk (w++cluT x)) a H:=rfl
theorem Tpd_Bound (a:List AVal) (H:AD):Tpd 116 a H=s2 dKs dRu (fun w x=>w.length+(bndT opF x.op x.n x.byN).length≤900000000) (fun w x=>eTk (w++bndT opF x.op x.n x.byN)) a H:=rfl
theorem GM (a:List AVal) (H:AD):Tpd 83 a H=s2 dKs dIs (fun w l=>w.length+(comT oneN l).length≤900000000) (fun w l=>eTk (w++comT oneN l)) a H:=rfl
theorem Tpd_Set (a:List AVal) (H:AD):Tpd 117 a H=s2 dKs dSs (fun w l=>w.length+(setT l).length≤900000000) (fun w l=>eTk (w++setT l)) a H:=rfl
theorem CF (a:List AVal) (H:AD):Tpd 80 a H=s2 dKs dS (fun w _=>w.length+1≤900000000) (fun w x=>eTk (w++[kI x])) a H:=rfl
theorem CG (a:List AVal) (H:AD):Tpd 81 a H=s2 dKs dS (fun w _=>w.length+1≤900000000) (fun w x=>eTk (w++[kS x])) a H:=rfl
theorem EO (a:List AVal) (H:AD):Tpd 82 a H=s2 dKs dI (fun w _=>w.length+1≤900000000) (fun w x=>eTk (w++[kN x])) a H:=rfl
abbrev QT (tot:List Tkn):AExit→AS→Prop:=Ck [.t 2] (Ret (eTk tot))
abbrev eT (w:List Tkn) (X:List (Nat×Bool×AVal)):List (Nat×Bool×AVal):=(1,true,.ptr 0 0)::(3,true,eTk w)::X
abbrev hT (d:Dcl):AD:=hset hnil 0 (.box (A3 d))
def F12 (d:Dcl):List Tkn:=d.ruls.flatMap (A4 opF true)++[kS [125]]
def F11 (d:Dcl):List Tkn:=d.clus.flatMap cluT++F12 d
def F10 (d:Dcl):List Tkn:=d.regs.flatMap regT++F11 d
def F8 (d:Dcl):List Tkn:=comT symT d.syms++kS [59]::F10 d
def F6 (d:Dcl):List Tkn:=B7 d.holes++kS [59]::kI EG::F8 d
def F4 (d:Dcl):List Tkn:=FU d.sh::kN d.w::kI wBy::kN d.h::F6 d
theorem decl_F (d:Dcl):BS opF true d=kI EE::kI d.nm::kI Ea::kN d.ver::kS [123]::kI Ex::F4 d:=by
 unfold BS Jx F4 F6 F8 F10 F11 F12
 simp
section
variable {d:Dcl} {w tot:List Tkn} {X:List (Nat×Bool×AVal)}
theorem td12 (h:w++F12 d=tot) (hf:tot.length≤900000000):kont Tryz.prog Tpd (QT tot) [.c (sndN 12 c32)] .normal ⟨eT w X,hT d,2⟩:=by
 rw[AN]
 have hx0:hget (hT d) 0=some (.box (A3 d)):=AB ..
 have hll:d.ruls.length≤900000000:=by
  have h3:=BZ (f:=(A4 opF true)) (fun x=>by simp [A4]) d.ruls
  subst h
  simp only[F12,List.length_append]at hf
  omega
 generalize hH:hT d=H at hx0
 simp only[eE,eN,Nat.reduceEqDiff,↓reduceIte,c32,sndN,sndA]
 refine AX (fun v:Nat×List (Nat×Bool×AVal)=>⟨(1,true,.ptr 0 0)::(3,true,eTk (w++(d.ruls.take v.1).flatMap (A4 opF true)))::(8,true,.int .i64 v.1)::[],H,2⟩) (fun v=>v.1≤d.ruls.length) (fun v=>d.ruls.length-v.1) (0,X) (by simp) (Nat.zero_le _) ?_
 rintro⟨i,X1⟩ hi
 simp only at hi
 by_cases hlt:i<d.ruls.length
 case neg=>
  have:i=d.ruls.length:=by omega
  subst this
  simp only[List.take_length]
  have q1:((w++d.ruls.flatMap (A4 opF true)).length+1≤900000000)=True:=eq_true (by
   subst h
   simp only[F12,List.length_append,List.length_cons,List.length_nil]at hf⊢
   omega)
  simp only[eE,eC,eN,Nat.reduceEqDiff,↓reduceIte,Nat.reduceAdd,CG,s2,AW,AH,Ah,AY,hx0,List.length_map,lt_F hlt,q1]
  exact wkT rfl (by rw[←h];simp [F12])
 have hg:=List.getElem?_eq_getElem hlt
 have e:=AP (k:=i) (by omega)
 have hsz:(w++(d.ruls.take i).flatMap (A4 opF true)).length+((A4 opF true) d.ruls[i]).length≤900000000:=by
  have h3:=EM (A4 opF true) hlt
  subst h
  simp only[F12,List.length_append,h3]at hf⊢
  omega
 have hft:=By (A4 opF true) hlt
 generalize d.ruls[i]=x at hg hsz hft
 obtain⟨nm,on,kd,fam,ns,os,set,oth,op,vn,bn,clue⟩:=x
 generalize hpre:w++(d.ruls.take i).flatMap (A4 opF true)=pre at hsz
 simp only[eE,eC,eN,Nat.reduceEqDiff,↓reduceIte,Nat.reduceAdd,Nat.reduceLeDiff,Int.reduceEq,PP,CF,CG,s2,AW,AH,Ah,AY,DR,CU,hx0,Option.getD_some,Int.toNat_natCast,Int.natCast_nonneg,List.length_map,List.getElem?_map,lt_T hlt,hg,e]
 (repeat' apply And.intro)<;>first|(exact lpN.mk (i+1,[]) (by rw[hft,←List.append_assoc,hpre];simp [A4]) hlt (by simp only[];omega))|(exact lpN.mk (i+1,[]) (by rw[hft,←List.append_assoc,hpre]) hlt (by simp only[];omega))|omega|(unfold A4 at hsz;first|(simp only[List.length_append,List.length_cons,List.length_nil]at hsz⊢;omega)|(simp only[List.length_append,List.length_cons,List.length_nil]at hsz;omega))
theorem td11 (h:w++F11 d=tot) (hf:tot.length≤900000000):kont Tryz.prog Tpd (QT tot) [.c (sndN 11 c32)] .normal ⟨eT w X,hT d,2⟩:=by
 rw[AN]
 have hx0:hget (hT d) 0=some (.box (A3 d)):=AB ..
 have hll:d.clus.length≤900000000:=by
  have h3:=BZ (f:=cluT) (fun x=>by simp [cluT]) d.clus
  subst h
  simp only[F11,List.length_append]at hf
  omega
 generalize hH:hT d=H at hx0
 simp only[eE,eN,Nat.reduceEqDiff,↓reduceIte,c32,sndN,sndA]
 refine AX (fun v:Nat×List (Nat×Bool×AVal)=>⟨(1,true,.ptr 0 0)::(3,true,eTk (w++(d.clus.take v.1).flatMap cluT))::(7,true,.int .i64 v.1)::[],H,2⟩) (fun v=>v.1≤d.clus.length) (fun v=>d.clus.length-v.1) (0,X) (by simp) (Nat.zero_le _) ?_
 rintro⟨i,X1⟩ hi
 simp only at hi
 by_cases hlt:i<d.clus.length
 case neg=>
  have:i=d.clus.length:=by omega
  subst this
  simp only[List.take_length]
  subst hH
  simp only[eE,Nat.reduceEqDiff,↓reduceIte,Nat.reduceAdd,Nat.reduceLeDiff,lt_F hlt,hx0,List.length_map]
  rw[AN]
  simp only[eE,eC,Nat.reduceEqDiff,↓reduceIte]
  exact td12 (by rw[←h];simp [F11]) hf
 have hg:=List.getElem?_eq_getElem hlt
 have e:=AP (k:=i) (by omega)
 have hsz:(w++(d.clus.take i).flatMap cluT).length+(cluT d.clus[i]).length≤900000000:=by
  have h3:=EM cluT hlt
  subst h
  simp only[F11,List.length_append,h3]at hf⊢
  omega
 have hft:=By cluT hlt
 generalize d.clus[i]=x at hg hsz hft
 obtain⟨nm,on,fam,ty,lo,hi⟩:=x
 generalize hpre:w++(d.clus.take i).flatMap cluT=pre at hsz
 simp only[eE,eC,eN,Nat.reduceEqDiff,↓reduceIte,Nat.reduceAdd,Nat.reduceLeDiff,Int.reduceEq,PQ,s2,Ah,AY,Rx,PO,hx0,Option.getD_some,Int.toNat_natCast,Int.natCast_nonneg,List.length_map,List.getElem?_map,lt_T hlt,hg,e]
 (repeat' apply And.intro)<;>first|(exact lpN.mk (i+1,[]) (by rw[hft,←List.append_assoc,hpre];simp [cluT]) hlt (by simp only[];omega))|(exact lpN.mk (i+1,[]) (by rw[hft,←List.append_assoc,hpre]) hlt (by simp only[];omega))|omega|(unfold cluT at hsz;first|(simp only[List.length_append,List.length_cons,List.length_nil]at hsz⊢;omega)|(simp only[List.length_append,List.length_cons,List.length_nil]at hsz;omega))
theorem td10 (h:w++F10 d=tot) (hf:tot.length≤900000000):kont Tryz.prog Tpd (QT tot) [.c (sndN 10 c32)] .normal ⟨eT w X,hT d,2⟩:=by
 rw[AN]
 have hx0:hget (hT d) 0=some (.box (A3 d)):=AB ..
 have hll:d.regs.length≤900000000:=by
  have h3:=BZ (f:=regT) (fun x=>by simp [regT]) d.regs
  subst h
  simp only[F10,List.length_append]at hf
  omega
 generalize hH:hT d=H at hx0
 simp only[eE,eN,Nat.reduceEqDiff,↓reduceIte,c32,sndN,sndA]
 refine AX (fun v:Nat×List (Nat×Bool×AVal)=>⟨(1,true,.ptr 0 0)::(3,true,eTk (w++(d.regs.take v.1).flatMap regT))::(5,true,.int .i64 v.1)::[],H,2⟩) (fun v=>v.1≤d.regs.length) (fun v=>d.regs.length-v.1) (0,X) (by simp) (Nat.zero_le _) ?_
 rintro⟨i,X1⟩ hi
 simp only at hi
 by_cases hlt:i<d.regs.length
 case neg=>
  have:i=d.regs.length:=by omega
  subst this
  simp only[List.take_length]
  subst hH
  simp only[eE,Nat.reduceEqDiff,↓reduceIte,Nat.reduceAdd,Nat.reduceLeDiff,lt_F hlt,hx0,List.length_map]
  rw[AN]
  simp only[eE,eC,Nat.reduceEqDiff,↓reduceIte]
  exact td11 (by rw[←h];simp [F10]) hf
 have hg:=List.getElem?_eq_getElem hlt
 have e:=AP (k:=i) (by omega)
 have hsz:(w++(d.regs.take i).flatMap regT).length+(regT d.regs[i]).length≤900000000:=by
  have h3:=EM regT hlt
  subst h
  simp only[F10,List.length_append,h3]at hf⊢
  omega
 have hft:=By regT hlt
 generalize d.regs[i]=x at hg hsz hft
 obtain⟨nm,ls⟩:=x
 generalize hpre:w++(d.regs.take i).flatMap regT=pre at hsz
 have hr:(regT ⟨nm,ls⟩).length=3+((ls.flatMap BA).length+1):=by unfold regT;simp only[List.length_append,List.length_cons,List.length_nil];omega
 rw[hr]at hsz
 have hfl:=BZ (f:=BA) (fun x=>by simp [BA]) ls
 have p1:(pre.length+1≤900000000)=True:=eq_true (by omega)
 have p2:((pre++[kI Bo]).length+1≤900000000)=True:=eq_true (by simp only[List.length_append,List.length_cons,List.length_nil];omega)
 have p3:(((pre++[kI Bo])++[kI nm]).length+1≤900000000)=True:=eq_true (by simp only[List.length_append,List.length_cons,List.length_nil];omega)
 simp only[eE,eC,eN,Nat.reduceEqDiff,↓reduceIte,Nat.reduceAdd,Nat.reduceLeDiff,CF,CG,s2,AW,AH,Ah,AY,hx0,Option.getD_some,Int.toNat_natCast,Int.natCast_nonneg,List.length_map,List.getElem?_map,lt_T hlt,hg,p1,p2,p3]
 refine AX (fun j:Nat=>⟨(1,true,.ptr 0 0)::(3,true,eTk ((((pre++[kI Bo])++[kI nm])++[kS [123]])++(ls.take j).flatMap BA))::(5,true,.int .i64 i)::(6,true,.int .i64 j)::[],H,2⟩) (fun j=>j≤ls.length) (fun j=>ls.length-j) 0 (by simp) (Nat.zero_le _) ?_
 intro j hj
 by_cases hlj:j<ls.length
 case neg=>
  have:j=ls.length:=by omega
  subst this
  rw[List.take_length]
  have p4:(((((pre++[kI Bo])++[kI nm])++[kS [123]])++ls.flatMap BA).length+1≤900000000)=True:=eq_true (by simp only[List.length_append,List.length_cons,List.length_nil];omega)
  simp only[eE,eC,eN,Nat.reduceEqDiff,↓reduceIte,Nat.reduceAdd,Nat.reduceLeDiff,Int.reduceEq,CG,s2,AW,AH,Ah,AY,hx0,Option.getD_some,Int.toNat_natCast,Int.natCast_nonneg,List.length_map,List.getElem?_map,lt_F hlj,lt_T hlt,hg,p4,e]
  exact lpN.mk (i+1,[]) (by rw[hft,←List.append_assoc,hpre];simp [regT]) hlt (by simp only[];omega)
 have hgj:=List.getElem?_eq_getElem hlj
 have ej:=AP (k:=j) (by omega)
 have h4:=EM BA hlj
 have h5:=By BA hlj
 have hr2:(BA ls[j]).length=(comT oneN ls[j]).length+1:=by unfold BA;simp
 have h6:=congrArg List.length h4
 simp only[List.length_append,hr2]at h6
 have p5:((((((pre++[kI Bo])++[kI nm])++[kS [123]])++(ls.take j).flatMap BA)).length+(comT oneN ls[j]).length≤900000000)=True:=eq_true (by simp only[List.length_append,List.length_cons,List.length_nil];omega)
 have p6:(((((((pre++[kI Bo])++[kI nm])++[kS [123]])++(ls.take j).flatMap BA))++comT oneN ls[j]).length+1≤900000000)=True:=eq_true (by simp only[List.length_append,List.length_cons,List.length_nil];omega)
 simp only[eE,eC,eN,Nat.reduceEqDiff,↓reduceIte,Nat.reduceAdd,Nat.reduceLeDiff,Int.reduceEq,GM,CG,s2,AW,AH,Ah,AY,B4,BV,hx0,Option.getD_some,Int.toNat_natCast,Int.natCast_nonneg,List.length_map,List.getElem?_map,lt_T hlt,hg,lt_T hlj,hgj,ej,p5,p6]
 exact lpN.mk (j+1) (by rw[h5];simp [BA]) hlj (by omega)
theorem td8 (h:w++F8 d=tot) (hf:tot.length≤900000000):kont Tryz.prog Tpd (QT tot) [.c (sndN 8 c32)] .normal ⟨eT w X,hT d,2⟩:=by
 rw[AN]
 have hx0:hget (hT d) 0=some (.box (A3 d)):=AB ..
 have hcl:w.length+(comT symT d.syms).length+1≤900000000:=by
  subst h
  simp only[F8,List.length_append,List.length_cons]at hf
  omega
 have hll:d.syms.length≤900000000:=by
  have h3:=Dk (one:=symT) (fun x=>by simp [symT]) d.syms
  omega
 generalize hH:hT d=H at hx0
 simp only[eE,eN,Nat.reduceEqDiff,↓reduceIte,c32,sndN,sndA]
 refine AX (fun v:Nat×List (Nat×Bool×AVal)=>⟨(1,true,.ptr 0 0)::(3,true,eTk (w++comT symT (d.syms.take v.1)))::(4,true,.int .i64 v.1)::[],H,2⟩) (fun v=>v.1≤d.syms.length) (fun v=>d.syms.length-v.1) (0,X) (by simp [comT]) (Nat.zero_le _) ?_
 rintro⟨i,X1⟩ hi
 simp only at hi
 by_cases hlt:i<d.syms.length
 case neg=>
  have:i=d.syms.length:=by omega
  subst this
  simp only[List.take_length]
  subst hH
  have p1:((w++comT symT d.syms).length+1≤900000000)=True:=eq_true (by simp only[List.length_append];omega)
  simp only[eE,Nat.reduceEqDiff,↓reduceIte,Nat.reduceAdd,Nat.reduceLeDiff,lt_F hlt,hx0,List.length_map]
  rw[AN]
  simp only[eE,eC,Nat.reduceEqDiff,↓reduceIte]
  rw[AN]
  simp only[eE,Nat.reduceEqDiff,↓reduceIte,s2,AW,AH,Ah,AY,p1,CG]
  exact td10 (d:=d) (w:=(w++comT symT d.syms)++[kS [59]]) (X:=_) (by rw[←h];simp [F8]) hf
 have hg:=List.getElem?_eq_getElem hlt
 have e:=AP (k:=i) (by omega)
 have eQ:=Dj symT hlt
 have eP:=HC symT (l:=d.syms) (i+1)
 rw[eQ]at eP
 simp only[List.length_append]at eP
 have e1:(symT d.syms[i]).length=3:=rfl
 generalize d.syms[i]=x at hg eQ eP e1
 obtain⟨nm,v⟩:=x
 by_cases hi0:i=0
 ·have j0:((0:Int)<(i:Int))=False:=eq_false (by omega)
  rw[if_pos hi0]at eQ eP
  have hsz:(w++comT symT (d.syms.take i)).length+3≤900000000:=by simp only[List.length_append,List.length_nil]at eP⊢;omega
  generalize hpre:w++comT symT (d.syms.take i)=pre at hsz
  simp only[eE,eC,eN,Nat.reduceEqDiff,↓reduceIte,Nat.reduceAdd,Nat.reduceLeDiff,Int.reduceEq,CF,CG,EO,s2,AW,AH,B1,BC,Ah,AY,hx0,Option.getD_some,Int.toNat_natCast,Int.natCast_nonneg,List.length_map,List.getElem?_map,lt_T hlt,hg,e,j0]
  (repeat' apply And.intro)<;>first|(exact lpN.mk (i+1,[]) (by rw[eQ,←List.append_assoc,←List.append_assoc,List.append_nil,hpre];simp [symT]) hlt (by simp only[];omega))|omega|(simp only[List.length_append,List.length_cons,List.length_nil]at hsz⊢;omega)|(simp only[List.length_append,List.length_cons,List.length_nil]at hsz;omega)
 ·have j0:((0:Int)<(i:Int))=True:=eq_true (by omega)
  rw[if_neg hi0]at eQ eP
  have hsz:(w++comT symT (d.syms.take i)).length+4≤900000000:=by simp only[List.length_append,List.length_cons,List.length_nil]at eP⊢;omega
  generalize hpre:w++comT symT (d.syms.take i)=pre at hsz
  simp only[eE,eC,eN,Nat.reduceEqDiff,↓reduceIte,Nat.reduceAdd,Nat.reduceLeDiff,Int.reduceEq,CF,CG,EO,s2,AW,AH,B1,BC,Ah,AY,hx0,Option.getD_some,Int.toNat_natCast,Int.natCast_nonneg,List.length_map,List.getElem?_map,lt_T hlt,hg,e,j0]
  (repeat' apply And.intro)<;>first|(exact lpN.mk (i+1,[]) (by rw[eQ,←List.append_assoc,←List.append_assoc,hpre];simp [symT]) hlt (by simp only[];omega))|omega|(simp only[List.length_append,List.length_cons,List.length_nil]at hsz⊢;omega)|(simp only[List.length_append,List.length_cons,List.length_nil]at hsz;omega)
end
end Go.AM
end
section
set_option maxRecDepth 20000
set_option linter.all false
namespace Go.AM
open Go.Proofs Go.Lib
theorem Ry {t:Tok} (h:t.esz=4):dKs.ok (.sl t [])=True:=eq_true ⟨.inl h,rfl⟩
theorem p32 (d:Dcl) (hw:(BS opF true d).length≤900000000):Pur Tryz.prog 32 [encD d] (eTk (BS opF true d)):=by
 refine .mk ⟨Al 0 d,trivial⟩ (A1 0 _) (a32 (AF Tpd_ok (AE ?_)))
 have hx0:hget (hT d) 0=some (.box (A3 d)):=AB ..
 have q0:dKs.ok (.sl (.exact 4) [])=True:=Ry rfl
 have q1:dKs.dec (.sl (.exact 4) [])=[]:=rfl
 have hF:=decl_F d
 have hh:(BS opF true d).length=6+(1+(3+((B7 d.holes).length+(2+(F8 d).length)))):=by
  rw[hF]
  unfold F4 F6
  simp only[List.length_append,List.length_cons]
  omega
 have fin:∀(w:List Tkn) (X:List (Nat×Bool×AVal)),w++([kS [59],kI EG]++F8 d)=BS opF true d→kont Tryz.prog Tpd (QT (BS opF true d)) [.c (sndN 7 c32)] .normal ⟨eT w X,hT d,2⟩:=fun w X h=>by
  have hl:=congrArg List.length h
  simp only[List.length_append,List.length_cons,List.length_nil]at hl
  have p1:(w.length+1≤900000000)=True:=eq_true (by omega)
  have p2:(w.length+2≤900000000)=True:=eq_true (by omega)
  rw[AN]
  simp only[eE,Nat.reduceEqDiff,↓reduceIte,Nat.reduceAdd,c32,sndN,sndA,p1,p2,s2,AW,AH,Ah,AY,List.length_append,CF,CG]
  exact td8 (d:=d) (w:=(w++[kS [59]])++[kI EG]) (X:=_) (by rw[←h];simp) hw
 have mid:∀(w:List Tkn) (X:List (Nat×Bool×AVal)),w++([kN d.w,kI wBy,kN d.h]++(B7 d.holes++([kS [59],kI EG]++F8 d)))=BS opF true d→kont Tryz.prog Tpd (QT (BS opF true d)) [.c (sndN 5 c32)] .normal ⟨eT w X,hT d,2⟩:=fun w X h=>by
  have hl:=congrArg List.length h
  simp only[List.length_append,List.length_cons,List.length_nil]at hl
  have p1:(w.length+1≤900000000)=True:=eq_true (by omega)
  have p2:(w.length+2≤900000000)=True:=eq_true (by omega)
  have p3:(w.length+3≤900000000)=True:=eq_true (by omega)
  rw[AN]
  simp only[eE,Nat.reduceEqDiff,↓reduceIte,Nat.reduceAdd,Nat.reduceLeDiff,c32,sndN,sndA,p1,p2,p3,s2,AW,AH,B1,BC,Ah,AY,List.length_append,CF,EO]
  rw[AN]
  by_cases hh0:d.holes=[]
  ·have j0:((0:Int)<(d.holes.length:Int))=False:=eq_false (by rw[hh0];decide)
   simp only[eE,Nat.reduceEqDiff,↓reduceIte,Nat.reduceAdd,Nat.reduceLeDiff,j0,List.length_map]
   rw[AN]
   simp only[eE,eC,Nat.reduceEqDiff,↓reduceIte]
   exact fin (((w++[kN d.w])++[kI wBy])++[kN d.h]) _ (by rw[←h];simp [B7,hh0])
  ·have j0:((0:Int)<(d.holes.length:Int))=True:=eq_true (by have:=List.length_pos_iff.2 hh0;omega)
   have hhl:(B7 d.holes).length=(comT oneN d.holes).length+1:=by unfold B7;rw[if_neg hh0];rfl
   rw[hhl]at hl
   have p4:(w.length+4≤900000000)=True:=eq_true (by omega)
   have p5:(w.length+(4+(comT oneN d.holes).length)≤900000000)=True:=eq_true (by omega)
   simp only[eE,Nat.reduceEqDiff,↓reduceIte,Nat.reduceAdd,Nat.reduceLeDiff,j0,List.length_map]
   rw[AN]
   simp only[eE,eC,Nat.reduceEqDiff,↓reduceIte,Nat.reduceAdd,Nat.reduceLeDiff,p4,p5,s2,AW,AH,Ah,AY,B4,BV,List.length_append,GM,CF]
   exact fin (((((w++[kN d.w])++[kI wBy])++[kN d.h])++[kI Ey])++comT oneN d.holes) _ (by rw[←h];simp [B7,hh0])
 simp only[eE,Nat.reduceEqDiff,↓reduceIte,Nat.reduceAdd,c32]
 iterate 3 (rw[AN];simp only[eE,Nat.reduceEqDiff,↓reduceIte,Nat.reduceAdd,Nat.reduceLeDiff,Nat.reduceMul,q0,q1,s2,AW,AH,B1,BC,Ah,AY,CF,CG,EO])
 rw[AN]
 by_cases hs:d.sh=2
 ·have j0:(d.sh=2)=True:=eq_true hs
  simp only[eE,Nat.reduceEqDiff,↓reduceIte,Nat.reduceAdd,Nat.reduceLeDiff,j0]
  rw[AN]
  simp only[eE,eC,Nat.reduceEqDiff,↓reduceIte,Nat.reduceAdd,Nat.reduceLeDiff,s2,AW,AH,Ah,AY,CF]
  exact mid [kI EE,kI d.nm,kI Ea,kN d.ver,kS [123],kI Ex,kI wHex] _ (by rw[hF];simp [F4,F6,FU,hs])
 ·have j0:(d.sh=2)=False:=eq_false hs
  simp only[eE,Nat.reduceEqDiff,↓reduceIte,Nat.reduceAdd,Nat.reduceLeDiff,j0]
  rw[AN]
  simp only[eE,eC,Nat.reduceEqDiff,↓reduceIte,Nat.reduceAdd,Nat.reduceLeDiff,s2,AW,AH,Ah,AY,CF]
  exact mid [kI EE,kI d.nm,kI Ea,kN d.ver,kS [123],kI Ex,kI EF] _ (by rw[hF];simp [F4,F6,FU,hs])
end Go.AM
end
section
set_option maxRecDepth 20000
set_option linter.all false
namespace Go.AM
open Go.Proofs Go.Lib
structure VBr where
 i:Nat
 tk:Tok
 H:AD
 n:Nat
structure IBr (d:Dcl) (es len:Nat) (v:VBr):Prop where
 hi:v.i≤len
 fr:Ac v.H v.n
 h0:hget v.H 0=some (.box (A3 d))
 h1:hget v.H 1=some (.box zB)
 tok:tkG es 2 v.H v.tk
 es:v.tk.esz=es
 hn:2≤v.n
theorem IBr.next {d:Dcl} {es len i n k m:Nat} {tk:Tok} {H:AD} {cs:List AVal} (h:IBr d es len ⟨i,tk,H,n⟩) (hlt:i<len) (hk:5<k) (hm:k<m) (hnk:n≤n+k):IBr d es len ⟨i+1,.own (n+k) es,hset (AL (hset H (n+5) (.box cs)) tk) (n+k) .tok,n+m⟩:=by
 obtain⟨hi,hf,h0,h1,ht,he,hn⟩:=h
 simp only at hi hf h0 h1 ht he hn
 have ht2:tkG es 2 (hset H (n+5) (.box cs)) tk:=ht.set (.inr (.inr (hf _ (by omega))))
 have hf2:Ac (hset H (n+5) (.box cs)) (n+k):=hf.hset (by omega) (by omega)
 refine⟨hlt,(BR ht2 hf2).hset (by simp only[];omega) (by simp only[];omega),?_,?_,.inr (.inr ⟨_,rfl,by omega,AB ..⟩),rfl,by simp only[];omega⟩
 ·simp only[]
  rw[AC _ _ _ _ (by omega),Ab ht2 (.inl (by decide)),AC _ _ _ _ (by omega)];exact h0
 ·simp only[]
  rw[AC _ _ _ _ (by omega),Ab ht2 (.inl (by decide)),AC _ _ _ _ (by omega)];exact h1
theorem p17 (d:Dcl) (hc:few d.clus) (hr:few d.ruls):Pur Tryz.prog 17 [encD d] (encD (DA d)):=by
 have hcl:d.clus.length<1000000000:=hc
 have hrl:d.ruls.length<1000000000:=hr
 refine .mk ⟨Al 0 d,trivial⟩ (Al 0 _) (a17 (AF AJ.tnil (AE ?_)))
 simp only[eE,eN,reduceCtorEq,Nat.reduceEqDiff,↓reduceIte,Nat.reduceAdd,Nat.reduceLeDiff,Nat.reduceMul,c17]
 refine AX (fun v:VBr=>⟨[(1,true,.ptr 0 0),(2,true,.ptr 1 0),(3,true,.sl v.tk (((d.clus.take v.i).map bCl).map BL)),(4,true,.int .i64 v.i)],v.H,v.n⟩) (IBr d 6 d.clus.length) (fun v=>d.clus.length-v.i)
  ⟨0,.exact 6,hset (hset hnil 0 (.box (A3 d))) 1 (.box zB),2⟩ rfl ⟨Nat.zero_le _,?_,rfl,rfl,.inr (.inl rfl),rfl,Nat.le_refl _⟩ ?_
 ·intro id hid
  have:2≤id:=hid
  simp only[AA]
  repeat rw[if_neg (by omega)]
  rfl
 rintro⟨i,tk,H1,n1⟩ hI
 have hI2:=hI
 obtain⟨hi,hf,h0,h1,ht,he,hn⟩:=hI2
 simp only at hi hf h0 h1 ht he hn
 by_cases hlt:i<d.clus.length
 case pos=>
  have hg:=List.getElem?_eq_getElem hlt
  have e:=AP (k:=i) (by omega)
  have htk:=List.take_succ_eq_append_getElem hlt
  generalize d.clus[i]=x at hg htk
  have hN:=hI.next (k:=10) (m:=12) (cs:=[.str x.nm,.str x.on,.int .i64 0,.int .i64 x.ty,.int .i64 x.lo,.int .i64 x.hi]) hlt (by decide) (by decide) (by omega)
  have ht2:tkG 6 2 (hset H1 (n1+5) (.box [.str x.nm,.str x.on,.int .i64 0,.int .i64 x.ty,.int .i64 x.lo,.int .i64 x.hi])) tk:=ht.set (.inr (.inr (hf _ (by omega))))
  have q1:CJ (hset H1 (n1+5) (.box [.str x.nm,.str x.on,.int .i64 0,.int .i64 x.ty,.int .i64 x.lo,.int .i64 x.hi])) 6 tk=True:=eq_true ht2.app
  have hml:((d.clus.take i).map bCl).length=i:=by rw[List.length_map,List.length_take];omega
  have hml2:(d.clus.take i).length=i:=by rw[List.length_take];omega
  have q2:(i≤35184372088831)=True:=eq_true (by omega)
  have q3:Ar (i+1) 64=True:=eq_true (Au (by omega) (by decide))
  have y0:(n1+5=0)=False:=eq_false (by omega)
  have y1:(n1+5=n1+10)=False:=eq_false (by omega)
  simp only[eE,eC,eN,reduceCtorEq,Nat.reduceEqDiff,↓reduceIte,Nat.reduceAdd,Nat.reduceLeDiff,Nat.reduceMul,Nat.reduceLT,Int.reduceEq,AU,Option.getD_some,Int.toNat_natCast,Int.natCast_nonneg,List.length_map,List.getElem?_map,lt_T hlt,h0,hg,e,hml,q1,q2,q3,y1,fr1 hf]
  exact .mk ⟨i+1,.own (n1+10) 6,_,n1+12⟩ (by rw[htk];simp [bCl]) hN (by simp only[];omega)
 have hie:i=d.clus.length:=by omega
 subst hie
 simp only[List.take_length]
 simp only[eE,eC,eN,Nat.reduceEqDiff,↓reduceIte,Nat.reduceAdd,Nat.reduceLeDiff,Nat.reduceMul,List.length_map,lt_F hlt,h0]
 refine AX (fun v:VBr=>⟨[(1,true,.ptr 0 0),(2,true,.ptr 1 0),(3,true,.sl tk ((d.clus.map bCl).map BL)),(6,true,.sl v.tk (((d.ruls.take v.i).map bRu).map Ap)),(7,true,.int .i64 v.i)],v.H,v.n⟩) (IBr d 12 d.ruls.length) (fun v=>d.ruls.length-v.i)
  ⟨0,.exact 12,H1,n1⟩ rfl ⟨Nat.zero_le _,hf,h0,h1,.inr (.inl rfl),rfl,hn⟩ ?_
 clear hlt hI hi
 rintro⟨i,tk2,H2,n2⟩ hI
 have hI2:=hI
 obtain⟨hi,hf2,h02,h12,ht2,he2,hn2⟩:=hI2
 simp only at hi hf2 h02 h12 ht2 he2 hn2
 by_cases hlt:i<d.ruls.length
 case pos=>
  have hg:=List.getElem?_eq_getElem hlt
  have e:=AP (k:=i) (by omega)
  have htk:=List.take_succ_eq_append_getElem hlt
  generalize d.ruls[i]=x at hg htk
  have hN:=hI.next (k:=10) (m:=12) (cs:=BE (bRu x)) hlt (by decide) (by decide) (by omega)
  have ht3:tkG 12 2 (hset H2 (n2+5) (.box (BE (bRu x)))) tk2:=ht2.set (.inr (.inr (hf2 _ (by omega))))
  have q1:CJ (hset H2 (n2+5) (.box (BE (bRu x)))) 12 tk2=True:=eq_true ht3.app
  have hml:((d.ruls.take i).map bRu).length=i:=by rw[List.length_map,List.length_take];omega
  have hml2:(d.ruls.take i).length=i:=by rw[List.length_take];omega
  have q2:(i≤35184372088831)=True:=eq_true (by omega)
  have q3:Ar (i+1) 152=True:=eq_true (Au (by omega) (by decide))
  have y0:(n2+5=0)=False:=eq_false (by omega)
  have y1:(n2+5=n2+10)=False:=eq_false (by omega)
  simp only[bRu]at q1
  simp only[eE,eC,eN,reduceCtorEq,Nat.reduceEqDiff,↓reduceIte,Nat.reduceAdd,Nat.reduceLeDiff,Nat.reduceMul,Nat.reduceLT,Int.reduceEq,AU,Option.getD_some,Int.toNat_natCast,Int.natCast_nonneg,List.length_map,List.getElem?_map,lt_T hlt,h02,hg,e,hml,q1,q2,q3,y1,fr1 hf2]
  exact .mk ⟨i+1,.own (n2+10) 12,_,n2+12⟩ (by rw[htk];simp [bRu]) hN (by simp only[];omega)
 have hie:i=d.ruls.length:=by omega
 subst hie
 simp only[List.take_length]
 simp only[eE,eC,eN,reduceCtorEq,Nat.reduceEqDiff,↓reduceIte,Nat.reduceAdd,Nat.reduceLeDiff,Ao,AU,List.length_map,lt_F hlt,h02,h12]
 exact Wk.agg (.cons (Wk.refl _) (.cons (Wk.refl _) (.cons (Wk.refl _) (.cons (Wk.refl _) (.cons (Wk.refl _) (.cons (Wk.refl _) (.cons (Wk.refl _) (.cons (Wk.refl _) (.cons (Wk.sl (.inl he)) (.cons (Wk.sl (.inl he2)) .nil))))))))))
end Go.AM
end
