/-
  Kinds, plainly: other names of symbols, other numbers, errors · Kinds: functions without arguments; Same of kinds that B.
  Conditions: none beyond those of its parts.
-/
import Derived.Test.YtbngedlokkndkaaGreatDoorB9
import Derived.Test.YtbngedlokkndkaaGreatDoorB8
import Derived.Test.YtbngedlokkndkaaGreatDoorB12
import Derived.Test.YtbngedlokkndkaaGreatDoorB7
import Derived.KernelRfl
import Derived.Test.YtbngedlokkndkaaGreatDoorB5

set_option maxRecDepth 20000
set_option linter.all false
namespace Go.AM
open Go.Lib Go.Proofs Go.Proofs.Tryz
section
def HL(m:List UInt8)(s:xz):xz:={s with nm:=s.nm++m}
def Ea(m:List UInt8)(r:zj):zj:={r with ns:=r.ns.map (· ++m),os:=r.os.map (· ++m)}
def Cd(m:List UInt8)(d:x8):x8:={d with sI:=d.sI.map (HL m),sC:=d.sC.map (Ea m)}
variable {d:x8} {m:List UInt8} {α β:Type}
theorem Xc{s:List UInt8}{l:List (List UInt8)}:(l.map (· ++m)).findIdx? (λx=>decide (x=s++m))=l.findIdx? (λx=>decide (x=s)):=by
 rw[List.findIdx?_map];congr 1;funext x;simp [Function.comp]
theorem PD{l:List (List UInt8)}:∀ns:List (List UInt8),CI (l.map (· ++m)) (ns.map (· ++m))=CI l ns
 |[]=>rfl
 |s::r=>by
  rw[oL,CI,CI,Xc,PD r]
theorem Nz:∀l:List (List UInt8),Ak (l.map (· ++m))=Ak l
 |[]=>rfl
 |s::r=>by
  rw[oL,Ak,Ak,Nz r,List.any_map];congr 2;funext x;simp [Function.comp]
theorem JL{γ δ:Type}{f:α->Option β}{f':γ->Option δ}{g:γ->α}{h:δ->β}(e:∀x,f (g x)=(f' x).map h):∀l:List γ,Ae f (l.map g)=(Ae f' l).map (List.map h)
 |[]=>rfl
 |x::r=>by
  rw[oL,Ae,Ae,e x,JL e r];cases f' x<;>cases Ae f' r<;>rfl
theorem T9:(Cd m d).sI.map (·.nm)=(d.sI.map (·.nm)).map (· ++m):=by
 show(d.sI.map (HL m)).map (·.nm)=_;rw[pO,pO];rfl
theorem ae(r:zj):BJ (Cd m d) (Ea m r)=(BJ d r).map (Ea m):=by
 unfold BJ;have e1:Bd (Cd m d)=Bd d:=rfl;have e2:(Cd m d).sD=d.sD:=rfl;have e3:(Ea m r).on=r.on:=rfl;have e4:(Ea m r).tY=r.tY:=rfl;have e5:(Ea m r).ns=r.ns.map (· ++m):=rfl;have e6:(Ea m r).os=r.os.map (· ++m):=rfl;rw[e1,e2,e3,e4,e5,e6,T9,PD,PD];split<;>rfl
theorem QT:B3 (Cd m d)=(B3 d).map (Cd m):=by
 unfold B3;have e0:(Cd m d).sI.length=d.sI.length:=o6 ..;have e1:Bd (Cd m d)=Bd d:=rfl;have e2:(Cd m d).sD=d.sD:=rfl;have e3:Bq (Cd m d)=Bq d:=rfl;have e4:(Cd m d).sC=d.sC.map (Ea m):=rfl;have e5:((d.sC.map (Ea m)).map (·.nm))=d.sC.map (·.nm):=by rw[pO];rfl
 rw[e0,T9,Nz,e1,e2,e3,e4,e5,JL (f':=BJ d) (h:=Ea m) (λr=>ae r)];split
 ·rfl
 split
 ·rfl
 split
 ·rfl
 split
 ·rfl
 cases Ae (Bq d) d.sD with
 |none=>rfl
 |some cs=>
  simp only[];split
  ·rfl
  ·cases Ae (BJ d) d.sC<;>rfl
theorem JM{f:α->β}(h:∀a b,f a=f b->a=b):∀{l l':List α},l.map f=l'.map f->l=l'
 |[],[],_=>rfl
 |[],_::_,e=>by cases e
 |_::_,[],e=>by cases e
 |a::l,b::l',e=>by
  rw[oL,oL,List.cons.injEq]at e;rw[h _ _ e.1,JM h e.2]
theorem PE{a b:List UInt8}(h:a++m=b++m):a=b:=List.append_cancel_right h
theorem Xd{a b:xz}(h:HL m a=HL m b):a=b:=by
 cases a;cases b;simp only[HL,xz.mk.injEq]at h⊢;exact⟨PE h.1,h.2⟩
theorem Xe{a b:zj}(h:Ea m a=Ea m b):a=b:=by
 cases a;cases b;simp only[Ea,zj.mk.injEq]at h⊢;obtain⟨h1,h2,h3,h4,h5,h6,h7⟩:=h;exact⟨h1,h2,h3,h4,JM (λ_ _=>PE) h5,JM (λ_ _=>PE) h6,h7⟩
theorem Xf{a b:x8}(h:Cd m a=Cd m b):a=b:=by
 cases a;cases b;simp only[Cd,x8.mk.injEq]at h⊢;obtain⟨h1,h2,h3,h4,h5,h6,h7,h8,h9,h10⟩:=h;exact⟨h1,h2,h3,h4,h5,h6,JM (λ_ _=>Xd) h7,h8,h9,JM (λ_ _=>Xe) h10⟩
theorem ah{cl:List x7}{r:zj}:DW cl (Ea m r)=DW cl r:=by
 unfold DW Ea Kh;simp only[o6]
theorem Xg:Bv (Cd m d)=Bv d:=by
 unfold Bv;have e1:(Cd m d).sI=d.sI.map (HL m):=rfl;have e2:(Cd m d).sC=d.sC.map (Ea m):=rfl;have e3:(Cd m d).sD=d.sD:=rfl;have e4:∀i,DX (d.sC.map (Ea m)) i=DX d.sC i:=λi=>by
  unfold DX;rw[List.filter_map,o6];rfl
 rw[e1,e2,e3,List.all_map,List.all_map];have e5:DW d.sD∘Ea m=DW d.sD:=by funext r;exact ah
 rw[e5];simp only[e4];rfl
theorem SX{rs:List zj}:Bl (rs.map (Ea m))=Bl rs:=by
 unfold Bl;rw[o6];congr 2;funext i;rw[oO];cases rs[i]?<;>rfl
theorem ai:EH (Cd m d)=EH d:=by
 unfold EH;have e0:If (Cd m d)=If d:=by
  unfold If Cd;simp only[o6]
 rw[e0,QT];split
 ·rfl
 cases B3 d with
 |error e=>rfl
 |ok x=>
  simp only[Except.map];have e1:(Cd m x≠Cd m d)=(x≠d):=propext ⟨λh e=>h (by rw[e]),λh e=>h (Xf e)⟩;have e2:Bl (Cd m d).sC=Bl d.sC:=SX;have e3:(Cd m d).uw=d.uw/\(Cd m d).sh=d.sh/\(Cd m d).w=d.w/\(Cd m d).h=d.h/\(Cd m d).sB=d.sB/\(Cd m d).sJ=d.sJ:=⟨rfl,rfl,rfl,rfl,rfl,rfl⟩;obtain⟨a1,a2,a3,a4,a5,a6⟩:=e3;rw[a1,a2,a3,a4,a5,a6,e2,Xg];simp only[e1]
def iw(m:List UInt8)(k:uV):uV:={k with d:=Cd m k.d}
theorem Vb:Ck (Cd m d)=(Ck d).map (iw m):=by
 unfold Ck;rw[QT];cases B3 d with
 |error e=>rfl
 |ok x=>
  simp only[Except.map,ai];split
  ·rfl
  ·have e3:(Cd m x).sh=x.sh/\(Cd m x).w=x.w/\(Cd m x).h=x.h/\(Cd m x).sB=x.sB:=⟨rfl,rfl,rfl,rfl⟩;obtain⟨a2,a3,a4,a5⟩:=e3;rw[a2,a3,a4,a5];cases Aq x.sh x.w x.h x.sB<;>rfl
def Ib(a:Int)(c:x7):x7:={c with tQ:=a}
def KA(a b c e:Int)(r:zj):zj:={r with tQ:=a,set:=b,sU:=c,sM:=e}
def LX(a b c e:Int)(d:x8):x8:={d with sD:=d.sD.map (Ib a),sC:=d.sC.map (KA a b c e)}
theorem GN{γ:Type}{f:α->Option β}{f':γ->Option β}{g:γ->α}(e:∀x,f (g x)=f' x):∀l:List γ,Ae f (l.map g)=Ae f' l
 |[]=>rfl
 |x::r=>by rw[oL,Ae,Ae,e x,GN e r]
theorem Xh{a b c e:Int}:B3 (LX a b c e d)=B3 d:=by
 unfold B3;have e0:(LX a b c e d).sI=d.sI:=rfl;have e1:Bd (LX a b c e d)=Bd d:=rfl;have e2:(LX a b c e d).sD=d.sD.map (Ib a):=rfl;have e4:(LX a b c e d).sC=d.sC.map (KA a b c e):=rfl;have e5:((d.sC.map (KA a b c e)).map (·.nm))=d.sC.map (·.nm):=by rw[pO];rfl
 have e6:((d.sD.map (Ib a)).map (·.nm))=d.sD.map (·.nm):=by rw[pO];rfl
 have e7:Ae (Bq (LX a b c e d)) (d.sD.map (Ib a))=Ae (Bq d) d.sD:=GN (λx=>rfl) _;have e8:Ae (BJ (LX a b c e d)) (d.sC.map (KA a b c e))=Ae (BJ d) d.sC:=GN (λx=>by
  unfold BJ;rw[e1,e0,e2,e6];rfl) _
 rw[e0,e1,e2,e4,e5,e6,e7,e8];rfl
theorem Vc{a b c e:Int}:Ck (LX a b c e d)=Ck d:=by
 unfold Ck;rw[Xh]
end
def SK(r:Fs):List Fs->AB->Prop×Fs:=λa _=>match a with
 |[]=>(True,r)
 |_=>(False,.sH [])
def q0v{tF:FuncId}{r:Fs}(h:A6 prog tF [] r):∀args H n,(SK r args H).1->Ad prog tF args H n (SK r args H).2:=by
 intro args H n hh;unfold SK at hh⊢;split at hh
 ·exact h.quiet H n
 ·exact hh.elim
def Xi{d:x8}(h:C1 d=true):d.sJ.length<999999000:=by
 unfold C1 at h;simp only[oo,oC]at h;omega
def Xj{k:uV}(h:uL k):uy k:=⟨h.d,h.ho,h.ce,h.nb,(by have:=h.ls;show k.ls.length<_;have:k.ls.length<_:=this;omega),h.lx⟩
def L9:uL DY:=⟨⟨zd,zd,zd,λr hr=>(by cases hr),zd,zd,λr hr=>(by cases hr)⟩,zd,zd,⟨zd,λr hr=>(by cases hr)⟩,zd,λr hr=>(by cases hr)⟩
section
abbrev W:=BitVec 32
abbrev eW(x:W):Fs:=.int .u32 (x.toNat:Int)
abbrev eB(b:UInt8):Fs:=.int .u8 (b.toNat:Int)
abbrev F4(l:List UInt8):Fs:=.sl (.none 1) (l.map eB)
variable {n:Nat}
theorem wu32(h:n<4294967296):IntKind.wrap .u32 (n:Int)=n:=by
 simp only[IntKind.wrap,IntKind.bits,IntKind.signed,qB,oP,pb];omega
theorem GO(h:n<18446744073709551616):IntKind.wrap .u64 (n:Int)=n:=by
 simp only[IntKind.wrap,IntKind.bits,IntKind.signed,qB,oP,pb];omega
theorem UA(x:W):BitVec.ofInt 32 (x.toNat:Int)=x:=by rw[rV,BitVec.ofNat_toNat,BitVec.setWidth_eq]
theorem wW(x:W):IntKind.wrap .u32 (x.toNat:Int)=x.toNat:=wu32 x.isLt
section
variable (x y:W)
theorem Ej:IntKind.wrap .u32 ((x.toNat:Int)+(y.toNat:Int))=((x+y).toNat:Int):=by
 rw[BitVec.toNat_add,<-Int.natCast_add];simp only[IntKind.wrap,IntKind.bits,IntKind.signed,qB,oP,pb];omega
theorem MA:F8 .xor .u32 (x.toNat:Int) (y.toNat:Int)=((x^^^y).toNat:Int):=by
 show IntKind.wrap .u32 ((BitVec.ofInt 32 _^^^BitVec.ofInt 32 _).toNat:Int)=_;rw[UA,UA,wW]
theorem Xk:F8 .and .u32 (x.toNat:Int) (y.toNat:Int)=((x&&&y).toNat:Int):=by
 show IntKind.wrap .u32 ((BitVec.ofInt 32 _&&&BitVec.ofInt 32 _).toNat:Int)=_;rw[UA,UA,wW]
theorem QU:F8 .or .u32 (x.toNat:Int) (y.toNat:Int)=((x|||y).toNat:Int):=by
 show IntKind.wrap .u32 ((BitVec.ofInt 32 _|||BitVec.ofInt 32 _).toNat:Int)=_;rw[UA,UA,wW]
theorem iy:F8 .xor .u32 (if IntKind.signed .u32 then -1 else IntKind.max .u32) (x.toNat:Int)=((~~~x).toNat:Int):=by
 show IntKind.wrap .u32 ((BitVec.ofInt 32 4294967295^^^BitVec.ofInt 32 _).toNat:Int)=_;rw[UA,wW,show BitVec.ofInt 32 4294967295=BitVec.allOnes 32 by rfl,BitVec.allOnes_xor]
theorem MB{n:Nat}(h:n<=32):C7 .shr .u32 (x.toNat:Int) (n:Int)=((x>>>n).toNat:Int):=by
 show Int.fdiv (x.toNat:Int) (2^(min (n:Int).toNat 32))=_;rw[oH,rr h,BitVec.toNat_ushiftRight,Nat.shiftRight_eq_div_pow];rw[rW _ (by exact Int.pow_nonneg zd)];rw[Int.natCast_ediv];norm_cast
theorem KB{n:Nat}(h:n<=32):C7 .shl .u32 (x.toNat:Int) (n:Int)=((x<<<n).toNat:Int):=by
 show IntKind.wrap .u32 ((x.toNat:Int)*2^(min (n:Int).toNat 32))=_;rw[oH,rr h,BitVec.toNat_shiftLeft,Nat.shiftLeft_eq];simp only[IntKind.wrap,IntKind.bits,IntKind.signed,qB,oP,pb]
 norm_cast
end
def N0(x:W)(s:Nat):W:=x<<<s|||x>>>(32-s)
def FC(l:List UInt8):W:=l.foldl (λn c=>n<<<8|||BitVec.ofNat 32 c.toNat) 0
def Vd(v:W)(a b c:Nat):W:=N0 v (32-a)^^^N0 v (32-b)^^^N0 v (32-c)
def fK(l:List W):W:=
 let t:=l.length
 let x:=l.getD (t-15) 0
 let y:=l.getD (t-2) 0
 l.getD (t-16) 0+(N0 x 25^^^N0 x 14^^^x>>>3)+l.getD (t-7) 0+(N0 y 15^^^N0 y 13^^^y>>>10)
def Am(sO:List UInt8):Nat->List W
 |0=>[]
 |t+1=>Am sO t++[if t<16 then FC ((sO.drop (4*t)).take 4)else fK (Am sO t)]
theorem GX(sO:List UInt8):∀t,(Am sO t).length=t
 |0=>rfl
 |t+1=>by rw[Am,ou,GX sO t];rfl
def kW:List W:=[0x428a2f98,0x71374491,0xb5c0fbcf,0xe9b5dba5,0x3956c25b,0x59f111f1,0x923f82a4,0xab1c5ed5,
 0xd807aa98,0x12835b01,0x243185be,0x550c7dc3,0x72be5d74,0x80deb1fe,0x9bdc06a7,0xc19bf174,
 0xe49b69c1,0xefbe4786,0x0fc19dc6,0x240ca1cc,0x2de92c6f,0x4a7484aa,0x5cb0a9dc,0x76f988da,
 0x983e5152,0xa831c66d,0xb00327c8,0xbf597fc7,0xc6e00bf3,0xd5a79147,0x06ca6351,0x14292967,
 0x27b70a85,0x2e1b2138,0x4d2c6dfc,0x53380d13,0x650a7354,0x766a0abb,0x81c2c92e,0x92722c85,
 0xa2bfe8a1,0xa81a664b,0xc24b8b70,0xc76c51a3,0xd192e819,0xd6990624,0xf40e3585,0x106aa070,
 0x19a4c116,0x1e376c08,0x2748774c,0x34b0bcb5,0x391c0cb3,0x4ed8aa4a,0x5b9cca4f,0x682e6ff3,
 0x748f82ee,0x78a5636f,0x84c87814,0x8cc70208,0x90befffa,0xa4506ceb,0xbef9a3f7,0xc67178f2]
structure W8 where
 a:W
 b:W
 c:W
 d:W
 e:W
 f:W
 g:W
 h:W
def W8.l(s:W8):List W:=[s.a,s.b,s.c,s.d,s.e,s.f,s.g,s.h]
def SY(s:W8)(k w:W):W8:=
 let p:=s.h+Vd s.e 6 11 25+(s.g^^^s.e&&&(s.f^^^s.g))+k+w
 let q:=Vd s.a 2 13 22+(s.a&&&s.b|||s.c&&&(s.a|||s.b))
 ⟨p+q,s.a,s.b,s.c,s.d+p,s.e,s.f,s.g⟩
def A3(s:W8)(ws:List W):Nat->W8
 |0=>s
 |t+1=>SY (A3 s ws t) (kW.getD t 0) (ws.getD t 0)
def E6(s:W8)(sO:List UInt8):W8:=
 let v:=A3 s (Am sO 64) 64
 ⟨s.a+v.a,s.b+v.b,s.c+v.c,s.d+v.d,s.e+v.e,s.f+v.f,s.g+v.g,s.h+v.h⟩
theorem ch_eq(e f g:W):(e&&&f)^^^(~~~e&&&g)=g^^^e&&&(f^^^g):=by
 ext i hi;simp only[BitVec.getElem_xor,BitVec.getElem_and,BitVec.getElem_not];cases e[i]<;>cases f[i]<;>cases g[i]<;>rfl
theorem iz(a b c:W):(a&&&b)^^^(a&&&c)^^^(b&&&c)=a&&&b|||c&&&(a|||b):=by
 ext i hi;simp only[BitVec.getElem_xor,BitVec.getElem_and,BitVec.getElem_or];cases a[i]<;>cases b[i]<;>cases c[i]<;>rfl
theorem i5(x:W)(h:n<=32):x>>>n|||x<<<(32-n)=N0 x (32-n):=by
 unfold N0;rw[BitVec.or_comm,show 32-(32-n)=n by omega]
end
def PF(k:Int):Nat:=(F8 .and .u64 (IntKind.wrap .u64 k) 31).toNat
def i6(k:Int):PF k<32/\F8 .and .u64 (IntKind.wrap .u64 k) 31=(PF k:Int):=by
 have h:F8 .and .u64 (IntKind.wrap .u64 k) 31=(((BitVec.ofInt 64 (IntKind.wrap .u64 k))&&&31#64).toNat:Int):=by
  show IntKind.wrap .u64 ((BitVec.ofInt 64 _&&&BitVec.ofInt 64 31).toNat:Int)=_;rw[show BitVec.ofInt 64 31=31#64 by rfl];exact GO (BitVec.isLt _)
 have h2:((BitVec.ofInt 64 (IntKind.wrap .u64 k))&&&31#64).toNat<=31:=by
  rw[BitVec.toNat_and];exact Nat.and_le_right
 unfold PF;rw[h];exact⟨zo,zo⟩
def Z5(x:Int):Prop:=((BitVec.ofInt 32 x).toNat:Int)=x
def QV(x:W):Z5 (x.toNat:Int)=True:=o7 (by unfold Z5;rw[UA])
def fM:List Fs->AB->Prop×Fs:=λa _=>match a with
 |[.int .u32 x,.int .i64 k]=>(Z5 x,eW (N0 (BitVec.ofInt 32 x) (PF k)))
 |_=>(False,.sH [])
def p168(x:W)(k:Int):A6 prog 168 [eW x,.int .i64 k] (eW (N0 x (PF k))):=by
 refine .mk ⟨zt,zt,zt⟩ zt (c168.a (AE AG.sE (AF ?_)));obtain⟨h1,h2⟩:=i6 k;generalize PF k=s at h1 h2;have e1:=KB x (n:=s) zo;have e2:=MB x (n:=32-s) zo;have w:IntKind.wrap .u64 (32-(s:Int))=((32-s:Nat):Int):=by rw[show(32:Int)-s=((32-s:Nat):Int)by omega];exact GO zo
 have e3:=QU (x<<<s) (x>>>(32-s));simp only[eE,eN,seval,oS,c168,h2,e1,w,e2,e3];rfl
def qRl:∀args H n,(fM args H).1->Ad prog 168 args H n (fM args H).2:=by
 intro args H n hh;unfold fM at hh⊢;split at hh
 ·rename_i x k;have h:Z5 x:=hh;have:=(p168 (BitVec.ofInt 32 x) k).quiet H n;unfold eW at this;unfold Z5 at h;rw[h]at this;exact this
 ·exact hh.elim
section
def Ve(v:W)(a b c:Int):W:=N0 v (PF (IntKind.wrap .i64 (0-a)))^^^N0 v (PF (IntKind.wrap .i64 (0-b)))^^^N0 v (PF (IntKind.wrap .i64 (0-c)))
def nS:List Fs->AB->Prop×Fs:=λa _=>match a with
 |[.int .u32 x,.int .i64 a,.int .i64 b,.int .i64 c]=>(Z5 x,eW (Ve (BitVec.ofInt 32 x) a b c))
 |_=>(False,.sH [])
def Trl:Bk:=AJ 168 fM sE
def i7:AG prog Trl:=AG.sE.add qRl
def p169(v:W)(a b c:Int):A6 prog 169 [eW v,.int .i64 a,.int .i64 b,.int .i64 c] (eW (Ve v a b c)):=by
 refine .mk ⟨zt,zt,zt,zt,zt⟩ zt (c169.a (AE i7 (AF ?_)));simp only[eE,eN,seval,c169,Trl,fM,QV,UA,MA,AJ];rfl
def qRt:∀args H n,(nS args H).1->Ad prog 169 args H n (nS args H).2:=by
 intro args H n hh;unfold nS at hh⊢;split at hh
 ·rename_i x a b c;have h:Z5 x:=hh;have:=(p169 (BitVec.ofInt 32 x) a b c).quiet H n;unfold eW at this;unfold Z5 at h;rw[h]at this;exact this
 ·exact hh.elim
def Xl(b:UInt8):IntKind.wrap .u32 (b.toNat:Int)=((BitVec.ofNat 32 b.toNat).toNat:Int):=by
 have:=b.toNat_lt;rw[wu32 zo,qW,qU zo]
variable {l:List Fs} {i k n:Nat}
theorem Vf{m:List UInt8}(h:i<m.length):FC (m.take (i+1))=FC (m.take i)<<<8|||BitVec.ofNat 32 m[i].toNat:=by
 unfold FC;rw[oG,o8 h,List.foldl_append];rfl
theorem p167(l:List UInt8)(h:4<=l.length):A6 prog 167 [F4 l] (eW (FC (l.take 4))):=by
 refine .mk ⟨⟨zt,Af (f:=eB) (λ_=>zt) _⟩,zt⟩ zt (c167.a (AE AG.sE (AF ?_)));have h4:((4:Int)<=(l.length:Int))=True:=o7 zo;simp only[eE,eN,seval,eY,c167,h4];generalize hm:l.take 4=m;have hml:m.length=4:=by rw[<-hm,oJ];omega
 have hmm:List.take 4 (l.map eB)=m.map eB:=by rw[<-hm,rc]
 rw[hmm,o6,hml];refine AQ (λi:Nat=>⟨[(2,true,eW (FC (m.take i))),(6,true,.sl (.none 1) (m.map eB)),(7,true,.int .i64 4),(8,true,.int .i64 i)],Ac,0⟩) (λi=>i<=4) (λi=>4-i) 0 rfl zd ?_;rintro i hi;by_cases e9:i<4
 ·have hl:i<m.length:=zo
  have hg:=o8 hl;have e:=AI (k:=i) zo;have n1:((i:Int)<4)=True:=o7 zo;have e1:C7 .shl .u32 ((FC (m.take i)).toNat:Int) 8=((FC (m.take i)<<<8).toNat:Int):=KB _ (n:=8) zd;have nx:=Vf hl;generalize m[i]=b at hg nx;simp only[eZ,seval,eY,n1,hml,hg,e,e1,Xl,QU,show((4:Nat):Int)=4 from rfl];exact .mk (i+1) (by simp only[nx]) e9 zo
 ·obtain rfl:i=4:=zo
  have ht:m.take 4=m:=oY zo;simp only[eZ,seval,show(((4:Nat):Int)<4)=False by decide,ht]
def C5(k n:Nat):List UInt8:=(List.range k).map λj=>UInt8.ofNat (n>>>(8*(k-1-j)))
def MC(k n i:Nat)(l:List Fs):List Fs:=l.take (k-i)++((C5 k n).drop (k-i)).map eB
structure VPt where
 i:Nat
 H:AB
theorem B8(k n:Nat):(C5 k n).length=k:=by unfold C5;rw[o6,qi]
theorem Xm(hl:l.length=k)(hi:i<k):(MC k n i l).set (k-1-i) (eB (UInt8.ofNat (n>>>(8*i))))=MC k n (i+1) l:=by
 unfold MC;have h1:k-i=(k-(i+1))+1:=zo
 have h2:k-1-i=k-(i+1):=zo
 rw[h2,h1];generalize hj:k-(i+1)=j;have hjk:j<k:=zo
 have hb:(C5 k n)[j]'(by rw[B8];exact hjk)=UInt8.ofNat (n>>>(8*i)):=by
  unfold C5;rw[rK,List.getElem_range];congr 3;omega
 rw[oG,o8 zo,oT,qG _ _ (by rw[oJ];omega),oJ];rw[show j-min j l.length=0 by omega,oX (l:=C5 k n) (i:=j) (by rw[B8];exact hjk),hb];rfl
theorem MD{H:AB}{ob:xq}(h:AD H i=some ob):sA H i ob=H:=by
 funext j;show(if i=j then some ob else H j)=H j;by_cases e:i=j
 ·rw[oE e,<-e];exact h.symm
 ·rw[og e]
theorem Xn{s:Nat}(h:s<=64):C7 .shr .u64 (n:Int) (s:Int)=((n>>>s:Nat):Int):=by
 show Int.fdiv (n:Int) (2^(min (s:Int).toNat 64))=_;rw[oH,rr h,Nat.shiftRight_eq_div_pow,rW _ (by exact Int.pow_nonneg zd),Int.natCast_ediv];norm_cast
theorem K0(n:Nat):IntKind.wrap .u8 (n:Int)=((UInt8.ofNat n).toNat:Int):=by
 simp only[IntKind.wrap,IntKind.bits,IntKind.signed,qB,oP,pb];rw[UInt8.toNat_ofNat'];norm_cast
theorem aj{A:List Fs}{off j:Nat}{v:Fs}(hl:l.length=k)(hj:j<k)(ho:off<=A.length):(A.take off++l++A.drop (off+k)).set (off+j) v=A.take off++l.set j v++A.drop (off+k):=by
 have h1:(A.take off).length=off:=by rw[oJ];omega
 rw[oT,qG _ _ zo,h1,show off+j-off=j by omega,List.set_append_left _ _ zo,oT]
theorem ao(hl:l.length=k)(hi:i<=k):(MC k n i l).length=k:=by
 unfold MC;rw[ou,oJ,o6,pi,B8];omega
theorem Xo{H:AB}{m id off cap:Nat}{A:List Fs}(n:Nat)(h:AD H id=some (.arr 1 A))(hk:off+k<=A.length)(hA:A.length<1000000000)(h8:k<=8)(hn:n<18446744073709551616):AO prog 99 [.ref id 1 off k cap,.int .u64 n] H m λo H' n'=>o= .ret (.sH [])/\n'=m/\H'=sA H id (.arr 1 (A.take off++(C5 k n).map eB++A.drop (off+k))):=by
 refine c99.a (AE AG.sE (AF ?_));simp only[eE,eN,seval,c99];have sf:((A.drop off).take k).length=k:=by rw[oJ,pi];omega
 refine AQ (λi:Nat=>⟨[(0,true,.ref id 1 off k cap),(1,true,.int .u64 n),(6,true,.int .i64 k),(7,true,.int .i64 i)],sA H id (.arr 1 (A.take off++MC k n i ((A.drop off).take k)++A.drop (off+k))),m⟩) (λi=>i<=k) (λi=>k-i) 0 ?_ (oq _) ?_
 ·have:A.take off++MC k n 0 ((A.drop off).take k)++A.drop (off+k)=A:=by
   unfold MC;rw[Nat.sub_zero,qf (l:=C5 k n) (by rw[B8];exact od k),pc,oR,List.take_take,Nat.min_self,oT];rw[show A.drop (off+k)=(A.drop off).drop k by rw[rf],qX,qX]
  rw[this,MD h];rfl
 rintro i hi;by_cases e9:i<k
 ·have e:=AI (k:=i) zo;have e1:IntKind.wrap .i64 ((k:Int)-1)=((k-1:Nat):Int):=by rw[An zo zo];omega
  have e2:IntKind.wrap .i64 (((k-1:Nat):Int)-(i:Int))=((k-1-i:Nat):Int):=by rw[An zo zo];omega
  have e3:IntKind.wrap .i64 (8*(i:Int))=((8*i:Nat):Int):=by rw[An zo zo];omega
  have e4:=Xn (n:=n) (s:=8*i) zo;have hj:k-1-i<k:=zo
  have hLn:=ao (n:=n) sf hi;have w9:(off+(k-1-i)<(A.take off++MC k n i ((A.drop off).take k)++A.drop (off+k)).length)=True:=o7 (by
   rw[ou,ou,hLn,oJ];omega)
  have hset':=aj (A:=A) (off:=off) (v:=eB (UInt8.ofNat (n>>>(8*i)))) hLn hj zo;rw[Xm sf e9]at hset';simp only[eZ,seval,eY,AT e9,e,e1,e2,e3,e4,K0,AT hj,w9,AH];exact .mk (i+1) (by simp only[<-hset']) e9 zo
 ·obtain rfl:i=k:=zo
  have:MC i n i ((A.drop off).take i)=(C5 i n).map eB:=by
   unfold MC;rw[sa,pZ,oW,qC]
  rw[this];simp only[eZ,seval,Ah e9]
end
section
def LY:Fs->UInt8
 | .int _ n=>UInt8.ofNat n.toNat
 |_=>0
def E7(l:List UInt8):(l.map eB).map LY=l:=by
 rw[pO];have:LY∘eB=id:=by
  funext b;show UInt8.ofNat ((b.toNat:Int)).toNat=b;rw[oH];exact UInt8.ofNat_toNat
 rw[this,rP]
def nU:List Fs->AB->Prop×Fs:=λa _=>match a with
 |[.sl (.none 1) L]=>(4<=L.length/\(L.map LY).map eB=L,eW (FC ((L.map LY).take 4)))
 |_=>(False,.sH [])
def qWd:∀args H n,(nU args H).1->Ad prog 167 args H n (nU args H).2:=by
 intro args H n hh;unfold nU at hh⊢;split at hh
 ·rename_i L;obtain⟨h1,h2⟩:=hh;have:=(p167 (L.map LY) (by rw[o6];exact h1)).quiet H n;unfold F4 at this;rw[h2]at this;exact this
 ·exact hh.elim
def aq:Bk:=AJ 167 nU (AJ 168 fM (AJ 169 nS sE))
def au:AG prog aq:=((AG.sE.add qRt).add qRl).add qWd
section
variable (a:List Fs) (H:AB)
theorem i8:aq 167 a H=nU a H:=rfl
theorem i9:aq 168 a H=fM a H:=rfl
theorem jA:aq 169 a H=nS a H:=rfl
end
def EC(l:List UInt8)(t:Nat):List Fs:=(Am l t++List.replicate (64-t) 0).map eW
variable {l:List UInt8} {t i:Nat}
theorem GY(h:t<=64):(EC l t).length=64:=by
 unfold EC;rw[o6,ou,GX,pf];omega
theorem JN{v:W}(h:t<64)(hv:Am l (t+1)=Am l t++[v]):sQ (EC l t) t [eW v]=EC l (t+1):=by
 unfold sQ EC;have h1:(Am l t).length=t:=GX l t;rw[hv,show 64-t=(64-(t+1))+1 by omega,rX,oD,oD,oD,oL,pL (by rw[o6,h1];exact od t),oY (by rw[o6,h1];exact od t)];rw[show t+[eW v].length=t+1 from rfl,rJ,qf (by rw[o6,h1];omega),o6,h1,show t+1-t=1 by omega,oW];rfl
theorem Lk{j:Nat}(h:j<t)(ht:t<=64):(EC l t)[j]?=some (eW ((Am l t).getD j 0)):=by
 unfold EC;have h1:(Am l t).length=t:=GX l t;rw[oO,pH zo,o8 zo,pM,o8 zo];rfl
theorem hd1{L:List Fs}{j:Nat}{x d:Fs}(h:L[j]?=some x):(List.take 1 (L.drop j)).headD d=x:=by
 obtain⟨h1,h2⟩:=pK.1 h;rw[oX h1,h2];rfl
theorem rl_7:PF (-7)=25:=by kernel_rfl
theorem rl_18:PF (-18)=14:=by kernel_rfl
theorem rl_17:PF (-17)=15:=by kernel_rfl
theorem rl_19:PF (-19)=13:=by kernel_rfl
theorem sh_3(x:W):C7 .shr .u32 (x.toNat:Int) 3=((x>>>3).toNat:Int):=MB x (n:=3) zd
theorem fN(x:W):C7 .shr .u32 (x.toNat:Int) 10=((x>>>10).toNat:Int):=MB x (n:=10) zd
theorem ME(h:¬i<16):Am l (i+1)=Am l i++[(Am l i).getD (i-16) 0+(N0 ((Am l i).getD (i-15) 0) 25^^^N0 ((Am l i).getD (i-15) 0) 14^^^(Am l i).getD (i-15) 0>>>3)+(Am l i).getD (i-7) 0+(N0 ((Am l i).getD (i-2) 0) 15^^^N0 ((Am l i).getD (i-2) 0) 13^^^(Am l i).getD (i-2) 0>>>10)]:=by
 rw[Am,og h];unfold fK;simp only[GX]
theorem rot_a(v:W):Ve v 6 11 25=Vd v 6 11 25:=by
 unfold Ve Vd;rw[show PF (IntKind.wrap .i64 (0-6))=32-6 by kernel_rfl,show PF (IntKind.wrap .i64 (0-11))=32-11 by kernel_rfl,show PF (IntKind.wrap .i64 (0-25))=32-25 by kernel_rfl]
theorem rot_b(v:W):Ve v 2 13 22=Vd v 2 13 22:=by
 unfold Ve Vd;rw[show PF (IntKind.wrap .i64 (0-2))=32-2 by kernel_rfl,show PF (IntKind.wrap .i64 (0-13))=32-13 by kernel_rfl,show PF (IntKind.wrap .i64 (0-22))=32-22 by kernel_rfl]
theorem fO:[Fs.int .u32 1116352408,Fs.int .u32 1899447441,Fs.int .u32 3049323471,Fs.int .u32 3921009573,Fs.int .u32 961987163,Fs.int .u32 1508970993,Fs.int .u32 2453635748,Fs.int .u32 2870763221,Fs.int .u32 3624381080,Fs.int .u32 310598401,Fs.int .u32 607225278,Fs.int .u32 1426881987,Fs.int .u32 1925078388,Fs.int .u32 2162078206,Fs.int .u32 2614888103,Fs.int .u32 3248222580,Fs.int .u32 3835390401,Fs.int .u32 4022224774,Fs.int .u32 264347078,Fs.int .u32 604807628,Fs.int .u32 770255983,Fs.int .u32 1249150122,Fs.int .u32 1555081692,Fs.int .u32 1996064986,Fs.int .u32 2554220882,Fs.int .u32 2821834349,Fs.int .u32 2952996808,Fs.int .u32 3210313671,Fs.int .u32 3336571891,Fs.int .u32 3584528711,Fs.int .u32 113926993,Fs.int .u32 338241895,Fs.int .u32 666307205,Fs.int .u32 773529912,Fs.int .u32 1294757372,Fs.int .u32 1396182291,Fs.int .u32 1695183700,Fs.int .u32 1986661051,Fs.int .u32 2177026350,Fs.int .u32 2456956037,Fs.int .u32 2730485921,Fs.int .u32 2820302411,Fs.int .u32 3259730800,Fs.int .u32 3345764771,Fs.int .u32 3516065817,Fs.int .u32 3600352804,Fs.int .u32 4094571909,Fs.int .u32 275423344,Fs.int .u32 430227734,Fs.int .u32 506948616,Fs.int .u32 659060556,Fs.int .u32 883997877,Fs.int .u32 958139571,Fs.int .u32 1322822218,Fs.int .u32 1537002063,Fs.int .u32 1747873779,Fs.int .u32 1955562222,Fs.int .u32 2024104815,Fs.int .u32 2227730452,Fs.int .u32 2361852424,Fs.int .u32 2428436474,Fs.int .u32 2756734187,Fs.int .u32 3204031479,Fs.int .u32 3329325298]=kW.map eW:=by kernel_rfl
theorem kL_at(h:i<64):(List.take 1 (List.drop i [Fs.int .u32 1116352408,Fs.int .u32 1899447441,Fs.int .u32 3049323471,Fs.int .u32 3921009573,Fs.int .u32 961987163,Fs.int .u32 1508970993,Fs.int .u32 2453635748,Fs.int .u32 2870763221,Fs.int .u32 3624381080,Fs.int .u32 310598401,Fs.int .u32 607225278,Fs.int .u32 1426881987,Fs.int .u32 1925078388,Fs.int .u32 2162078206,Fs.int .u32 2614888103,Fs.int .u32 3248222580,Fs.int .u32 3835390401,Fs.int .u32 4022224774,Fs.int .u32 264347078,Fs.int .u32 604807628,Fs.int .u32 770255983,Fs.int .u32 1249150122,Fs.int .u32 1555081692,Fs.int .u32 1996064986,Fs.int .u32 2554220882,Fs.int .u32 2821834349,Fs.int .u32 2952996808,Fs.int .u32 3210313671,Fs.int .u32 3336571891,Fs.int .u32 3584528711,Fs.int .u32 113926993,Fs.int .u32 338241895,Fs.int .u32 666307205,Fs.int .u32 773529912,Fs.int .u32 1294757372,Fs.int .u32 1396182291,Fs.int .u32 1695183700,Fs.int .u32 1986661051,Fs.int .u32 2177026350,Fs.int .u32 2456956037,Fs.int .u32 2730485921,Fs.int .u32 2820302411,Fs.int .u32 3259730800,Fs.int .u32 3345764771,Fs.int .u32 3516065817,Fs.int .u32 3600352804,Fs.int .u32 4094571909,Fs.int .u32 275423344,Fs.int .u32 430227734,Fs.int .u32 506948616,Fs.int .u32 659060556,Fs.int .u32 883997877,Fs.int .u32 958139571,Fs.int .u32 1322822218,Fs.int .u32 1537002063,Fs.int .u32 1747873779,Fs.int .u32 1955562222,Fs.int .u32 2024104815,Fs.int .u32 2227730452,Fs.int .u32 2361852424,Fs.int .u32 2428436474,Fs.int .u32 2756734187,Fs.int .u32 3204031479,Fs.int .u32 3329325298])).headD (.sH [])=eW (kW.getD i 0):=by
 have hl:kW.length=64:=rfl;rw[fO];refine hd1 ?_;rw[oO,pM,o8 zo];rfl
theorem jB(h:i<64):(1<=(List.drop i [Fs.int .u32 1116352408,Fs.int .u32 1899447441,Fs.int .u32 3049323471,Fs.int .u32 3921009573,Fs.int .u32 961987163,Fs.int .u32 1508970993,Fs.int .u32 2453635748,Fs.int .u32 2870763221,Fs.int .u32 3624381080,Fs.int .u32 310598401,Fs.int .u32 607225278,Fs.int .u32 1426881987,Fs.int .u32 1925078388,Fs.int .u32 2162078206,Fs.int .u32 2614888103,Fs.int .u32 3248222580,Fs.int .u32 3835390401,Fs.int .u32 4022224774,Fs.int .u32 264347078,Fs.int .u32 604807628,Fs.int .u32 770255983,Fs.int .u32 1249150122,Fs.int .u32 1555081692,Fs.int .u32 1996064986,Fs.int .u32 2554220882,Fs.int .u32 2821834349,Fs.int .u32 2952996808,Fs.int .u32 3210313671,Fs.int .u32 3336571891,Fs.int .u32 3584528711,Fs.int .u32 113926993,Fs.int .u32 338241895,Fs.int .u32 666307205,Fs.int .u32 773529912,Fs.int .u32 1294757372,Fs.int .u32 1396182291,Fs.int .u32 1695183700,Fs.int .u32 1986661051,Fs.int .u32 2177026350,Fs.int .u32 2456956037,Fs.int .u32 2730485921,Fs.int .u32 2820302411,Fs.int .u32 3259730800,Fs.int .u32 3345764771,Fs.int .u32 3516065817,Fs.int .u32 3600352804,Fs.int .u32 4094571909,Fs.int .u32 275423344,Fs.int .u32 430227734,Fs.int .u32 506948616,Fs.int .u32 659060556,Fs.int .u32 883997877,Fs.int .u32 958139571,Fs.int .u32 1322822218,Fs.int .u32 1537002063,Fs.int .u32 1747873779,Fs.int .u32 1955562222,Fs.int .u32 2024104815,Fs.int .u32 2227730452,Fs.int .u32 2361852424,Fs.int .u32 2428436474,Fs.int .u32 2756734187,Fs.int .u32 3204031479,Fs.int .u32 3329325298]).length)=True:=o7 (by rw[pi];show 1<=64-i;omega)
def Nc(s v:W8)(i:Nat):List Fs:=[eW (if 0<i then s.a+v.a else s.a),eW (if 1<i then s.b+v.b else s.b),eW (if 2<i then s.c+v.c else s.c),eW (if 3<i then s.d+v.d else s.d),eW (if 4<i then s.e+v.e else s.e),eW (if 5<i then s.f+v.f else s.f),eW (if 6<i then s.g+v.g else s.g),eW (if 7<i then s.h+v.h else s.h)]
theorem Vg{H:AB}{m p:Nat}(s:W8)(l:List UInt8)(hl:l.length=64)(hp:AD H p=some (.box (s.l.map eW)))(hm:p<m)(hf:AU H m):AO prog 98 [.ptr p 0,F4 l] H m λo H' n'=>o= .ret (.sH [])/\(∃X Y,H'=sA (sA (sA H m (.box X)) (m+4) (.box Y)) p (.box ((E6 s l).l.map eW)))/\n'=m+6:=by
 refine c98.a (AE au (AF ?_));have f0:AD H m=none:=hf m (od _);simp only[eE,eN,reduceCtorEq,Nat.reduceEqDiff,↓reduceIte,Nat.reduceAdd,c98,f0];have sZ:m≠p:=zo
 refine AQ (λi:Nat=>⟨[(0,true,.ptr p 0),(1,true,F4 l),(4,true,.ptr m 0),(14,true,.int .i64 i)],sA H m (.box (EC l i)),m+1⟩) (λi=>i<=16) (λi=>16-i) 0 rfl (oq _) ?_;rintro i hi;by_cases e9:i<16
 ·have n1:((i:Int)<16)=True:=o7 zo;have n2:((i:Int)<64)=True:=o7 zo;have e:=AI (k:=i) zo;have e4:IntKind.wrap .i64 (4*(i:Int))=((4*i:Nat):Int):=by rw[An zo zo];omega
  have b1:(((4*i:Nat):Int)<=(l.length:Int))=True:=o7 zo;have hsl:((l.map eB).take l.length).drop (4*i)=(l.drop (4*i)).map eB:=by rw[<-rc,oF,List.map_drop]
  have b2:(4<=(l.drop (4*i)).length)=True:=o7 (by rw[pi];omega);have hd:=E7 (l.drop (4*i));have hn:Am l (i+1)=Am l i++[FC ((l.drop (4*i)).take 4)]:=by rw[Am,oE e9]
  have hp1:(EC l i).take i++[eW (FC ((l.drop (4*i)).take 4))]++(EC l i).drop (i+1)=EC l (i+1):=JN (l:=l) (t:=i) zo hn;have uz:=GY (l:=l) (t:=i) zo;have b3:(i+1<=64)=True:=o7 zo;have b4:(i<=63)=True:=o7 zo;simp only[eZ,reduceCtorEq,Nat.reduceEqDiff,↓reduceIte,Int.reduceEq,eY,n1,n2,e,e4,b1,hsl,b2,hd,i8,nU,uz,b3,AH,show((64:Nat):Int)=64 from rfl,qI];exact .mk (i+1) (by simp only[hp1]) e9 zo
 obtain rfl:i=16:=zo
 simp only[eZ,reduceCtorEq,Nat.reduceEqDiff,↓reduceIte,show(((16:Nat):Int)<16)=False by decide];clear hi e9;refine AQ (λi:Nat=>⟨[(0,true,.ptr p 0),(4,true,.ptr m 0),(6,true,.int .i64 i)],sA H m (.box (EC l i)),m+1⟩) (λi=>16<=i/\i<=64) (λi=>64-i) 16 rfl zd ?_;rintro i ⟨h16,hi⟩;by_cases e9:i<64
 ·have n2:((i:Int)<64)=True:=o7 zo;have e:=AI (k:=i) zo;have s15:IntKind.wrap .i64 ((i:Int)-15)=((i-15:Nat):Int):=by rw[An zo zo];omega
  have s2':IntKind.wrap .i64 ((i:Int)-2)=((i-2:Nat):Int):=by rw[An zo zo];omega
  have s16:IntKind.wrap .i64 ((i:Int)-16)=((i-16:Nat):Int):=by rw[An zo zo];omega
  have s7:IntKind.wrap .i64 ((i:Int)-7)=((i-7:Nat):Int):=by rw[An zo zo];omega
  have uz:=GY (l:=l) (t:=i) zo;have bd:∀k,(((i-k:Nat):Int)<64)=True:=λk=>o7 zo
  have bn:∀k,(i-k+1<=64)=True:=λk=>o7 zo
  have bm:∀k,(i-k<=63)=True:=λk=>o7 zo
  have q:∀k,0<k->k<=16->(List.take 1 ((EC l i).drop (i-k))).headD (.sH [])=eW ((Am l i).getD (i-k) 0):=λk h1 h2=>hd1 (Lk zo zo)
  have q15:=q 15 zd zd;have q2:=q 2 zd zd;have q16:=q 16 zd zd;have q7:=q 7 zd zd;have hn:=ME (l:=l) (i:=i) zo;have hp1:=JN (l:=l) (t:=i) e9 hn;simp only[sQ,oI,pd,pn]at hp1;simp only[eZ,reduceCtorEq,Nat.reduceEqDiff,↓reduceIte,Nat.reduceLeDiff,Int.reduceEq,Int.reduceLE,eY,n2,e,s15,s2',s16,s7,bd,bn,i9,fM,QV,UA,uz,AH,show((64:Nat):Int)=64 from rfl,qI,q15,q2,q16,q7,rl_7,rl_18,rl_17,rl_19,sh_3,fN,MA,Ej];exact⟨zo,.mk (i+1) (by simp only[<-hp1]) ⟨zo,e9⟩ zo⟩
 obtain rfl:i=64:=zo
 clear e9 hi h16;have g1:AD (sA H m (.box (EC l 64))) p=some (.box (s.l.map eW)):=by rw[AA _ _ _ _ sZ];exact hp
 have g2:∀k,AD (sA H m (.box (EC l 64))) (m+1+k)=none:=λk=>by rw[AA _ _ _ _ zo];exact hf _ zo
 simp only[eZ,reduceCtorEq,Nat.reduceEqDiff,↓reduceIte,Nat.reduceAdd,show(((64:Nat):Int)<64)=False by decide,g1,hf (m+4) zo,W8.l,AH];refine AQ (λi:Nat=>⟨[(0,true,.ptr p 0),(4,true,.ptr m 0),(9,true,.ptr (m+4) 0),(69,true,.int .i64 i)],sA (sA H m (.box (EC l 64))) (m+4) (.box ((A3 s (Am l 64) i).l.map eW)),m+6⟩) (λi=>i<=64) (λi=>64-i) 0 rfl zd ?_;rintro i hi;by_cases e9:i<64
 ·have n2:((i:Int)<64)=True:=o7 zo;have e:=AI (k:=i) zo;have w1:AD (sA (sA H m (.box (EC l 64))) (m+4) (.box ((A3 s (Am l 64) i).l.map eW))) m=some (.box (EC l 64)):=by rw[AA _ _ _ _ zo];exact AC ..
  have uz:=GY (l:=l) (t:=64) (od _);have q1:(List.take 1 ((EC l 64).drop i)).headD (.sH [])=eW ((Am l 64).getD i 0):=hd1 (Lk zo (od _));have b4:(i<=63)=True:=o7 zo;have k1:=kL_at e9;have k2:=jB e9;have nx:A3 s (Am l 64) (i+1)=SY (A3 s (Am l 64) i) (kW.getD i 0) ((Am l 64).getD i 0):=rfl;generalize A3 s (Am l 64) i=r at w1 nx;simp only[W8.l,oL,pc]at w1;simp only[eZ,reduceCtorEq,Nat.reduceEqDiff,↓reduceIte,Nat.reduceAdd,Nat.reduceLeDiff,Int.reduceEq,Int.reduceLE,Int.reduceLT,Int.reduceToNat,Nat.reduceSub,xE,eY,n2,e,w1,uz,q1,b4,k1,k2,AH,qI,W8.l,jA,nS,QV,UA,rot_a,rot_b,MA,Ej,Xk,QU,Vx,Id,Nat.min_self,show((8:Nat):Int)=8 from rfl,show((64:Nat):Int)=64 from rfl,qJ,List.all_nil,Bool.and_self];exact .mk (i+1) (by simp only[nx];rfl) e9 zo
 obtain rfl:i=64:=zo
 clear e9 hi;have hq:A3 s (Am l 64) 64=A3 s (Am l 64) 64:=rfl;have ha:E6 s l=⟨s.a+(A3 s (Am l 64) 64).a,s.b+(A3 s (Am l 64) 64).b,s.c+(A3 s (Am l 64) 64).c,s.d+(A3 s (Am l 64) 64).d,s.e+(A3 s (Am l 64) 64).e,s.f+(A3 s (Am l 64) 64).f,s.g+(A3 s (Am l 64) 64).g,s.h+(A3 s (Am l 64) 64).h⟩:=rfl;rw[ha];clear hq ha;generalize A3 s (Am l 64) 64=v;generalize hB:sA (sA H m (.box (EC l 64))) (m+4) (.box (v.l.map eW))=B;have b1:AD B p=some (.box (s.l.map eW)):=by rw[<-hB,AA _ _ _ _ zo];exact g1
 have b2:AD B (m+4)=some (.box (v.l.map eW)):=by rw[<-hB];exact AC ..
 simp only[eZ,reduceCtorEq,Nat.reduceEqDiff,↓reduceIte,show(((64:Nat):Int)<64)=False by decide];refine AQ (λi:Nat=>⟨[(0,true,.ptr p 0),(9,true,.ptr (m+4) 0),(129,true,.int .i64 i)],sA B p (.box (Nc s v i)),m+6⟩) (λi=>i<=8) (λi=>8-i) 0 (by
  rw[show Nc s v 0=s.l.map eW from rfl,MD b1];rfl) zd ?_
 rintro i hi;have b3:∀X,AD (sA B p (.box X)) (m+4)=some (.box (v.l.map eW)):=λX=>by rw[AA _ _ _ _ zo];exact b2
 simp only[W8.l,oL,pc]at b3;rcases(by omega:i=0\/i=1\/i=2\/i=3\/i=4\/i=5\/i=6\/i=7\/i=8)with rfl|rfl|rfl|rfl|rfl|rfl|rfl|rfl|rfl
 ·simp only[eZ,reduceCtorEq,Nat.reduceEqDiff,↓reduceIte,Nat.reduceAdd,Nat.reduceLeDiff,Nat.reduceMul,Nat.reduceLT,Int.reduceEq,Int.reduceLT,eY,b3,Nc,AH,Ej,show((8:Nat):Int)=8 from rfl,show((0:Nat):Int)=0 from rfl,show IntKind.wrap .i64 (0+1)=1 by kernel_rfl];exact .mk 1 rfl zd zd
 ·simp only[eZ,reduceCtorEq,Nat.reduceEqDiff,↓reduceIte,Nat.reduceAdd,Nat.reduceLeDiff,Nat.reduceMul,Nat.reduceLT,Int.reduceEq,Int.reduceLE,Int.reduceLT,Int.toNat_one,b3,Nc,AH,Ej,show((8:Nat):Int)=8 from rfl,show((1:Nat):Int)=1 from rfl,show IntKind.wrap .i64 (1+1)=2 by kernel_rfl];exact .mk 2 rfl zd zd
 ·simp only[eZ,reduceCtorEq,Nat.reduceEqDiff,↓reduceIte,Nat.reduceAdd,Nat.reduceLeDiff,Nat.reduceMul,Nat.reduceLT,Int.reduceEq,Int.reduceLE,Int.reduceLT,Int.reduceToNat,b3,Nc,AH,Ej,show((8:Nat):Int)=8 from rfl,show((2:Nat):Int)=2 from rfl,show IntKind.wrap .i64 (2+1)=3 by kernel_rfl];exact .mk 3 rfl zd zd
 ·simp only[eZ,reduceCtorEq,Nat.reduceEqDiff,↓reduceIte,Nat.reduceAdd,Nat.reduceLeDiff,Nat.reduceMul,Nat.reduceLT,Int.reduceEq,Int.reduceLE,Int.reduceLT,Int.reduceToNat,b3,Nc,AH,Ej,show((8:Nat):Int)=8 from rfl,show((3:Nat):Int)=3 from rfl,show IntKind.wrap .i64 (3+1)=4 by kernel_rfl];exact .mk 4 rfl zd zd
 ·simp only[eZ,reduceCtorEq,Nat.reduceEqDiff,↓reduceIte,Nat.reduceAdd,Nat.reduceLeDiff,Nat.reduceMul,Nat.reduceLT,Int.reduceEq,Int.reduceLE,Int.reduceLT,Int.reduceToNat,b3,Nc,AH,Ej,show((8:Nat):Int)=8 from rfl,show((4:Nat):Int)=4 from rfl,show IntKind.wrap .i64 (4+1)=5 by kernel_rfl];exact .mk 5 rfl zd zd
 ·simp only[eZ,reduceCtorEq,Nat.reduceEqDiff,↓reduceIte,Nat.reduceAdd,Nat.reduceLeDiff,Nat.reduceMul,Nat.reduceLT,Int.reduceEq,Int.reduceLE,Int.reduceLT,Int.reduceToNat,b3,Nc,AH,Ej,show((8:Nat):Int)=8 from rfl,show((5:Nat):Int)=5 from rfl,show IntKind.wrap .i64 (5+1)=6 by kernel_rfl];exact .mk 6 rfl zd zd
 ·simp only[eZ,reduceCtorEq,Nat.reduceEqDiff,↓reduceIte,Nat.reduceAdd,Nat.reduceLeDiff,Nat.reduceMul,Nat.reduceLT,Int.reduceEq,Int.reduceLE,Int.reduceLT,Int.reduceToNat,b3,Nc,AH,Ej,show((8:Nat):Int)=8 from rfl,show((6:Nat):Int)=6 from rfl,show IntKind.wrap .i64 (6+1)=7 by kernel_rfl];exact .mk 7 rfl zd zd
 ·simp only[eZ,reduceCtorEq,Nat.reduceEqDiff,↓reduceIte,Nat.reduceAdd,Nat.reduceMul,Nat.reduceLT,Int.reduceEq,Int.reduceLE,Int.reduceLT,Int.reduceToNat,b3,Nc,AH,Ej,show((8:Nat):Int)=8 from rfl,show((7:Nat):Int)=7 from rfl,show IntKind.wrap .i64 (7+1)=8 by kernel_rfl];exact .mk 8 rfl zd zd
 ·simp only[eZ,reduceCtorEq,Nat.reduceEqDiff,↓reduceIte,Int.reduceLT,show((8:Nat):Int)=8 from rfl];exact⟨EC l 64,v.l.map eW,by rw[hB];rfl⟩
theorem QW{H:AB}{m p:Nat}(s:W8)(l:List UInt8)(hl:l.length=64)(hp:AD H p=some (.box (s.l.map eW))):AO prog 98 [.ptr p 0,F4 l] H m λo H' n'=>o= .ret (.sH [])/\H'=sA H p (.box ((E6 s l).l.map eW))/\n'=m:=by
 refine AO.fresh c98.l λhf=>?_
 refine AO.forget (Vg s l hl hp (hf.lt hp) hf) ?_;rintro o H' n' ⟨rfl,⟨X,Y,rfl⟩,rfl⟩;refine⟨.ret (.sH []),_,⟨rfl,rfl,rfl⟩,?_,Wk.refl _,zt⟩;refine⟨λid ob ho=>?_,λid s5=>?_⟩
 ·rw[AN]at ho;by_cases e:p=id
  ·subst e;rw[oE rfl]at ho;cases ho;exact⟨hf.lt hp,⟨_,AC ..,YR.refl _⟩,.inl (Af (f:=eW) (λ_=>zt) _)⟩
  ·rw[og e]at ho;have:=hf.lt ho;exact⟨this,⟨ob,by rw[AA _ _ _ _ e,AA _ _ _ _ zo,AA _ _ _ _ zo];exact ho,YR.refl _⟩,.inr ho⟩
 ·rw[AN];split
  ·exact λh=>by cases h
  ·exact s5
end
section
def DZ:Nat->W8->List UInt8->W8
 |0,s,_=>s
 |n+1,s,l=>DZ n (E6 s (l.take 64)) (l.drop 64)
theorem IJ:∀(n:Nat) (s:W8) (l:List UInt8),DZ (n+1) s l=E6 (DZ n s l) ((l.drop (64*n)).take 64)
 |0,s,l=>rfl
 |n+1,s,l=>by
  rw[DZ,IJ n,DZ,rf,show 64+64*n=64*(n+1)by omega]
def EJ:W8:=⟨0x6a09e667,0xbb67ae85,0x3c6ef372,0xa54ff53a,0x510e527f,0x9b05688c,0x1f83d9ab,0x5be0cd19⟩
def MF(r:List UInt8):Nat:=if 55<r.length then 128 else 64
def JO(r:List UInt8)(n:Nat):List UInt8:=r++128::List.replicate (MF r-r.length-9) 0++C5 8 (8*n % 18446744073709551616)
def Gn(b:List UInt8):W8:=
 let k:=b.length/64
 let r:=b.drop (64*k)
 DZ (MF r/64) (DZ k EJ b) (JO r b.length)
def Cx(s:W8):List UInt8:=s.l.flatMap λw=>C5 4 w.toNat
abbrev Vh(l:List UInt8):Fs:=.agg (l.map eB)
def QX:EJ.l.map eW=[Fs.int .u32 1779033703,.int .u32 3144134277,.int .u32 1013904242,.int .u32 2773480762,.int .u32 1359893119,.int .u32 2600822924,.int .u32 528734635,.int .u32 1541459225]:=by kernel_rfl
def Xp{r:List UInt8}{n N:Nat}(h:r.length<64)(h1:r.length+9<=N)(h2:N<=128):List.take N ((r.map eB++eB 128::List.replicate (127-r.length) (eB 0)).take (N-8)++(C5 8 n).map eB++(r.map eB++eB 128::List.replicate (127-r.length) (eB 0)).drop (N-8+8))=(r++128::List.replicate (N-r.length-9) 0++C5 8 n).map eB:=by
 have hl:(r.map eB++eB 128::List.replicate (127-r.length) (eB 0)).take (N-8)=(r++128::List.replicate (N-r.length-9) 0).map eB:=by
  rw[List.take_append,oY (by rw[o6];omega),o6,show N-8-r.length=(N-r.length-9)+1 by omega,List.take_succ_cons,List.take_replicate,rr zo,oD,oL,rn]
 have hn:((r++128::List.replicate (N-r.length-9) (0:UInt8)).map eB).length=N-8:=by
  rw[o6,ou,oI,pf];omega
 rw[hl,pL (by rw[ou,hn,o6,B8];omega),oY (by rw[ou,hn,o6,B8];omega),<-oD]
def Fk(l:List W):List UInt8:=l.flatMap λw=>C5 4 w.toNat
theorem Fl:∀l:List W,(Fk l).length=4*l.length
 |[]=>rfl
 |w::l=>by
  show(C5 4 w.toNat++Fk l).length=_;rw[ou,B8,Fl l,oI];omega
def KC(s:W8)(Z:List Fs)(i:Nat):List Fs:=(Fk (s.l.take i)).map eB++Z.drop (4*i)
variable {Z:List Fs} {i:Nat} {s:W8}
theorem Xq(hz:Z.length=32)(hi:i<=8):(KC s Z i).length=32:=by
 unfold KC;rw[ou,o6,Fl,oJ,pi,hz,show s.l.length=8 from rfl];omega
theorem Xr(hz:Z.length=32)(hi:i<8):(KC s Z i).take (4*i)++(C5 4 (s.l.getD i 0).toNat).map eB++(KC s Z i).drop (4*i+4)=KC s Z (i+1):=by
 have h1:((Fk (s.l.take i)).map eB).length=4*i:=by
  rw[o6,Fl,oJ,show s.l.length=8 from rfl];omega
 have h2:s.l.take (i+1)=s.l.take i++[s.l.getD i 0]:=by
  rw[oG,pM,o8 (show i<s.l.length from hi)];rfl
 have h3:Fk (s.l.take (i+1))=Fk (s.l.take i)++C5 4 (s.l.getD i 0).toNat:=by
  rw[h2];unfold Fk;rw[re,List.flatMap_singleton]
 unfold KC;rw[pL zo,oY zo,rJ,qf zo,h1,oW,rf,h3,oD,show 4*i+(4*i+4-4*i)=4*(i+1)by omega]
theorem aw(hz:Z.all Id=true):(KC s Z i).all Id=true:=by
 unfold KC;rw[oM]at hz⊢;intro x hx;rcases pI.1 hx with h|h
 ·obtain⟨b,_,rfl⟩:=pz.1 h;rfl
 ·exact hz x (rE h)
theorem QY(hz:Z.length=32):KC s Z 8=(Cx s).map eB:=by
 unfold KC;rw[qf zo,oR];rfl
theorem UB(s:W8)(Z:List Fs)(zl:Z.length=32)(zi:Z.all Id=true)(B C:xq):Fi prog sE
   (sq (sq (rg [ov 55 (x0.icmp BinOp.lss IntKind.i64 (tm 54) (ci 8))] [2,53,54,55]) (q9.frz 2))
     (sq (q9.cond (tm 55) q9.skip (q9.exit 4))
      (sq
       (q9.block 5
        (sq (rg [om 56 54,ov 57 (x0.ixA 8 1 false (tm 53) (tm 54)),om 7 56,om 8 57] [2,7,8,53,54])
         (rg
          [om 58 7,ov 59 (x0.arith BinOp.mul IntKind.i64 (ci 4) (tm 58)),om 60 7,
           ov 61 (x0.arith BinOp.mul IntKind.i64 (ci 4) (tm 60)),
           ov 62 (x0.arith BinOp.add IntKind.i64 (tm 61) (ci 4)),
           {dst:=some 63,guard:=none,k:=Io.slA 32 (tm 2) (some (tm 59)) (some (tm 62))},om 64 8,
           ov 65 (x0.conv IntKind.u64 (tm 64)),oe 66 99 [tm 63,tm 65]]
          [2,53,54])))
       (rg [ov 67 (x0.arith BinOp.add IntKind.i64 (tm 54) (ci 1)),om 54 67] [2,53,54])))).loop
   [Item.sO 4,
    Item.c
     (sq (rg [ov 68 (x0.ld 32 true (tm 2)),{dst:=none,guard:=none,k:=Io.st 32 (tm 2) (tm 68)}] [2])
      q9.ret)]
   (Co [RC.c 2 32 true] (Ok (Vh (Cx s))))
   ⟨[(2,true,Fs.ptr 0 0),(53,true,Fs.agg (s.l.map eW)),(54,true,Fs.int IntKind.i64 0)],sA (sA (sA Ac 0 (.box Z)) 2 B) 4 C,6⟩:=by
 rw[IL _ 0 2 _ _ zd,IL _ 0 4 _ _ zd];generalize sA (sA Ac 2 B) 4 C=H;refine AQ (λp:Nat×xq=>⟨[(2,true,Fs.ptr 0 0),(53,true,Fs.agg (s.l.map eW)),(54,true,Fs.int IntKind.i64 p.1)],sA H 0 p.2,6⟩) (λp=>p.1<=8/\(p.2= .box (KC s Z p.1)\/p.2= .arr 1 (KC s Z p.1))) (λp=>8-p.1) (0,.box (KC s Z 0)) rfl ⟨oq _,.inl rfl⟩ ?_;rintro⟨i,ob⟩ ⟨hi,he⟩;replace hi:i<=8:=hi;have hol:=Xq (s:=s) zl hi;have hoi:=aw (s:=s) (i:=i) zi;simp only at he;by_cases e9:i<8
 ·have n1:((i:Int)<8)=True:=o7 zo;have e:=AI (k:=i) zo;have e4:IntKind.wrap .i64 (4*(i:Int))=((4*i:Nat):Int):=by rw[An zo zo];omega
  have e5:IntKind.wrap .i64 (((4*i:Nat):Int)+4)=((4*i+4:Nat):Int):=by rw[An zo zo];omega
  have b3:(i+1<=8)=True:=o7 zo;have b4:(i<=7)=True:=o7 zo;have q:(List.take 1 ((s.l.map eW).drop i)).headD (.sH [])=eW (s.l.getD i 0):=hd1 (by
   rw[oO,pM,o8 (show i<s.l.length from e9)];rfl)
  have cw:IntKind.wrap .u64 ((s.l.getD i 0).toNat:Int)=((s.l.getD i 0).toNat:Int):=GO (by have:=(s.l.getD i 0).isLt;omega);have ek:4*i+4-4*i=4:=zo
  rcases he with rfl|rfl
  all_goals
   simp only[eZ,Nat.reduceEqDiff,↓reduceIte,Int.reduceEq,eY,n1,e4,e5,q,cw,AH,hol,hoi,qI,ek];refine⟨⟨zo,e9⟩,⟨zo,zo,zo⟩,(Xo (off:=4*i) (k:=4) (s.l.getD i 0).toNat (AC ..) zo zo zd (by have:=(s.l.getD i 0).isLt;omega)).mono ?_⟩;rintro o H' n' ⟨rfl,rfl,rfl⟩;rw[Xr zl e9];simp only[eE,eN,Nat.reduceEqDiff,↓reduceIte,Int.reduceEq,BG,AH,e];exact .mk (i+1,_) rfl ⟨e9,.inr rfl⟩ (by show 8-(i+1)<8-i;omega)
 obtain rfl:i=8:=zo
 have hdl:(Cx s).length=32:=by
  show(Fk s.l).length=32;rw[Fl];rfl
 have ht:List.take 32 ((Cx s).map eB)=(Cx s).map eB:=oY (by rw[o6];omega);have hd:List.drop 32 ((Cx s).map eB)=[]:=qf (by rw[o6];omega);rw[QY zl]at hoi;rcases he with rfl|rfl
 all_goals
  simp only[eZ,Nat.reduceEqDiff,↓reduceIte,Au,o6,QY zl,AH,show(((8:Nat):Int)<8)=False by decide,ht,hdl,hd,hoi];exact Wk.refl _
theorem Vi{H:AB}{m p:Nat}{tok:xv}(ht:tok.esz=1)(s:W8)(l:List UInt8)(hl:l.length=64)(hp:AD H p=some (.box (s.l.map eW))):AO prog 98 [.ptr p 0,.sl tok (l.map eB)] H m λo H' n'=>o= .ret (.sH [])/\H'=sA H p (.box ((E6 s l).l.map eW))/\n'=m:=by
 refine AO.args (QW s l hl hp) ?_;rintro g vs ⟨v0,r0,rfl,k0,v,r,rfl,k1,k2⟩;exact⟨v0,_,rfl,k0,v,_,rfl,Wk.sl (.inl ht) _ _ k1,k2⟩
theorem UC{tok:xv}{K:Nat}(s0:W8)(pe:List UInt8)(X:List Fs)(w:Fs)(ht:tok= .exact 1\/tok= .none 1)(pel:pe.length=64*K)(hK:K<=2):
 Fi prog sE (sq
    (sq (rg [om 44 6,on 45 44,ov 46 (x0.icmp BinOp.gtr IntKind.i64 (tm 45) (ci 0))] [2,3,4,6,46])
     (q9.cond (tm 46) q9.skip (q9.exit 2)))
    (sq
     (q9.block 3
      (rg
       [om 49 4,om 50 6,ov 51 (x0.sl 1 (tm 50) none (some (ci 64)) none),
        {dst:=some 52,guard:=none,k:=Io.call false (tm 49) [tm 51]}]
       [2,3,4,6]))
     (rg [om 47 6,ov 48 (x0.sl 1 (tm 47) (some (ci 64)) none none),om 6 48] [2,3,4,6]))).loop
  [Item.sO 2,
   Item.c
    (sq
     (sq (rg [ov 53 (x0.ld 8 true (tm 3)),oi 54 0] [2,53,54])
      (q9.block 4
       (sq (sq (rg [ov 55 (x0.icmp BinOp.lss IntKind.i64 (tm 54) (ci 8))] [2,53,54,55]) (q9.frz 2))
         (sq (q9.cond (tm 55) q9.skip (q9.exit 4))
          (sq
           (q9.block 5
            (sq
             (rg [om 56 54,ov 57 (x0.ixA 8 1 false (tm 53) (tm 54)),om 7 56,om 8 57] [2,7,8,53,54])
             (rg
              [om 58 7,ov 59 (x0.arith BinOp.mul IntKind.i64 (ci 4) (tm 58)),om 60 7,
               ov 61 (x0.arith BinOp.mul IntKind.i64 (ci 4) (tm 60)),
               ov 62 (x0.arith BinOp.add IntKind.i64 (tm 61) (ci 4)),
               {dst:=some 63,guard:=none,k:=Io.slA 32 (tm 2) (some (tm 59)) (some (tm 62))},
               om 64 8,ov 65 (x0.conv IntKind.u64 (tm 64)),oe 66 99 [tm 63,tm 65]]
              [2,53,54])))
           (rg [ov 67 (x0.arith BinOp.add IntKind.i64 (tm 54) (ci 1)),om 54 67] [2,53,54])))).loop))
     (sq (rg [ov 68 (x0.ld 32 true (tm 2)),{dst:=none,guard:=none,k:=Io.st 32 (tm 2) (tm 68)}] [2])
      q9.ret))]
  (Co [RC.c 2 32 true] (Ok (Vh (Cx (DZ K s0 pe))))) ⟨[(6,true,Fs.sl tok (List.map eB pe)),(2,true,Fs.ptr 0 0),(3,true,Fs.ptr 2 0),
     (4,true,Fs.fn (Fn.func 98) [Fs.ptr 2 0] []),(6,true,w)],sA (sA (sA Ac 0 (.box (List.replicate 32 (.int .u8 0)))) 2 (.box (s0.l.map eW))) 4 (.frz 1 X),6⟩:=by
 obtain⟨Z,hZ⟩:∃Z,List.replicate 32 (Fs.int .u8 0)=Z:=⟨_,rfl⟩;have zl:Z.length=32:=by rw[<-hZ,pf]
 have zi:Z.all Id=true:=by rw[<-hZ];kernel_rfl
 rw[hZ];clear hZ;refine AQ (λp:Nat×List (Nat×Bool×Fs)=>⟨p.2,sA (sA (sA Ac 0 (.box Z)) 2 (.box ((DZ p.1 s0 pe).l.map eW))) 4 (.frz 1 X),6⟩) (λp=>p.1<=K/\(p.2=[(6,true,Fs.sl tok ((pe.drop (64*p.1)).map eB)),(2,true,Fs.ptr 0 0),(3,true,Fs.ptr 2 0),
     (4,true,Fs.fn (Fn.func 98) [Fs.ptr 2 0] []),(6,true,w)]\/p.2=[(2,true,Fs.ptr 0 0),(3,true,Fs.ptr 2 0),
     (4,true,Fs.fn (Fn.func 98) [Fs.ptr 2 0] []),(6,true,Fs.sl tok ((pe.drop (64*p.1)).map eB))])) (λp=>K-p.1) (0,_) rfl ⟨oq _,.inl (by rw[Nat.mul_zero,qC])⟩ ?_
 rintro⟨i,e⟩ ⟨hi,he⟩;replace hi:i<=K:=hi;by_cases e9:i<K
 ·have n1:((0:Int)<((pe.drop (64*i)).length:Int))=True:=o7 (by rw[pi];omega);have uJ:List.take 64 ((pe.drop (64*i)).map eB)=((pe.drop (64*i)).take 64).map eB:=by rw[rc]
  have hs2:List.drop 64 (List.take (pe.drop (64*i)).length ((pe.drop (64*i)).map eB))=(pe.drop (64*(i+1))).map eB:=by
   rw[<-rc,oF,<-List.map_drop,rf,show 64*i+64=64*(i+1)by omega]
  have nx:=IJ i s0 pe;have b0:((64:Int)<=((pe.drop (64*i)).length:Int))=True:=o7 (by rw[pi];omega);simp only at he;rcases ht with rfl|rfl<;>rcases he with rfl|rfl
  all_goals
   simp only[eZ,seval,eY,n1,uJ,b0];refine(Vi (by first|rfl|(split<;>rfl)) (DZ i s0 pe) _ (by rw[oJ,pi];omega) (by rw[AA _ _ _ _ zd];exact AC ..)).mono ?_;rintro o H' n' ⟨rfl,rfl,rfl⟩;rw[<-nx,IL _ 4 2 _ _ zd];simp only[eE,eN,seval,eY,BG,AH,hs2,b0];exact .mk (i+1,_) rfl ⟨e9,.inr rfl⟩ (by show K-(i+1)<K-i;omega)
 obtain rfl:i=K:=zo
 have n1:((0:Int)<((pe.drop (64*i)).length:Int))=False:=oA (by rw[pi];omega);simp only at he;rcases he with rfl|rfl
 ·simp only[eZ,seval,o6,n1];exact⟨od 8,UB _ Z zl zi _ _⟩
 ·simp only[eZ,seval,o6,n1];exact⟨od 8,UB _ Z zl zi _ _⟩
theorem p57(b:List UInt8)(hb:b.length<281474976710656):A6 prog 57 [F4 b] (Vh (Cx (Gn b))):=by
 refine .mk ⟨⟨zt,Af (f:=eB) (λ_=>zt) _⟩,zt⟩ (Af (f:=eB) (λ_=>zt) _) (c57.a (AE AG.sE (AF ?_)));simp only[eE,eN,reduceCtorEq,Nat.reduceEqDiff,↓reduceIte,Nat.reduceAdd,c57,AH];refine AQ (λi:Nat=>⟨[(0,true,F4 b),(2,true,.ptr 0 0),(3,true,.ptr 2 0),(4,true,.fn (.func 98) [.ptr 2 0] []),(5,true,F4 (b.drop (64*i)))],sA (sA Ac 0 (.box (List.replicate 32 (.int .u8 0)))) 2 (.box ((DZ i EJ b).l.map eW)),4⟩) (λi=>64*i<=b.length) (λi=>b.length-64*i) 0 (by
  rw[DZ,QX,Nat.mul_zero,qC];rfl) (oq _) ?_
 rintro i hi;by_cases e9:64*(i+1)<=b.length
 ·have n1:((64:Int)<=((b.drop (64*i)).length:Int))=True:=o7 (by rw[pi];omega);have uJ:List.take 64 ((b.drop (64*i)).map eB)=((b.drop (64*i)).take 64).map eB:=by rw[rc]
  have hs2:List.drop 64 (List.take (b.drop (64*i)).length ((b.drop (64*i)).map eB))=(b.drop (64*(i+1))).map eB:=by
   rw[<-rc,oF,<-List.map_drop,rf,show 64*i+64=64*(i+1)by omega]
  have nx:=IJ i EJ b;simp only[eZ,reduceCtorEq,Nat.reduceEqDiff,↓reduceIte,Int.reduceLE,Int.reduceToNat,eY,n1,uJ];refine(QW (DZ i EJ b) _ (by rw[oJ,pi];omega) (AC ..)).mono ?_;rintro o H' n' ⟨rfl,rfl,rfl⟩;rw[<-nx];simp only[eE,eN,reduceCtorEq,Nat.reduceEqDiff,↓reduceIte,Int.reduceLE,Int.reduceToNat,eY,BG,AH,n1,hs2];exact .mk (i+1) rfl e9 zo
 have n1:((64:Int)<=((b.drop (64*i)).length:Int))=False:=oA (by rw[pi];omega);have hk:b.length/64=i:=zo
 have hsum:Gn b=DZ (MF (b.drop (64*i))/64) (DZ i EJ b) (JO (b.drop (64*i)) b.length):=by unfold Gn;rw[hk]
 rw[hsum];have ua:(b.drop (64*i)).length<64:=by rw[pi];omega
 generalize DZ i EJ b=s0;generalize b.drop (64*i)=r at n1 ua;have m1:min r.length 64=r.length:=zo
 have z1:((r.map eB).length:Int)=(r.length:Int):=by rw[o6]
 have i1:((r.length:Int)<(64:Int))=True:=o7 zo;have i2:(r.length<64)=True:=o7 zo;have sm:small 128 1=True:=o7 (by unfold small;omega);obtain⟨Z,zz⟩:∃Z,[Fs.int .u8 0,Fs.int .u8 0,Fs.int .u8 0,Fs.int .u8 0,Fs.int .u8 0,Fs.int .u8 0,Fs.int .u8 0,Fs.int .u8 0,Fs.int .u8 0,Fs.int .u8 0,Fs.int .u8 0,Fs.int .u8 0,Fs.int .u8 0,Fs.int .u8 0,Fs.int .u8 0,Fs.int .u8 0,Fs.int .u8 0,Fs.int .u8 0,Fs.int .u8 0,Fs.int .u8 0,Fs.int .u8 0,Fs.int .u8 0,Fs.int .u8 0,Fs.int .u8 0,Fs.int .u8 0,Fs.int .u8 0,Fs.int .u8 0,Fs.int .u8 0,Fs.int .u8 0,Fs.int .u8 0,Fs.int .u8 0,Fs.int .u8 0,Fs.int .u8 0,Fs.int .u8 0,Fs.int .u8 0,Fs.int .u8 0,Fs.int .u8 0,Fs.int .u8 0,Fs.int .u8 0,Fs.int .u8 0,Fs.int .u8 0,Fs.int .u8 0,Fs.int .u8 0,Fs.int .u8 0,Fs.int .u8 0,Fs.int .u8 0,Fs.int .u8 0,Fs.int .u8 0,Fs.int .u8 0,Fs.int .u8 0,Fs.int .u8 0,Fs.int .u8 0,Fs.int .u8 0,Fs.int .u8 0,Fs.int .u8 0,Fs.int .u8 0,Fs.int .u8 0,Fs.int .u8 0,Fs.int .u8 0,Fs.int .u8 0,Fs.int .u8 0,Fs.int .u8 0,Fs.int .u8 0,Fs.int .u8 0,Fs.int .u8 0,Fs.int .u8 0,Fs.int .u8 0,Fs.int .u8 0,Fs.int .u8 0,Fs.int .u8 0,Fs.int .u8 0,Fs.int .u8 0,Fs.int .u8 0,Fs.int .u8 0,Fs.int .u8 0,Fs.int .u8 0,Fs.int .u8 0,Fs.int .u8 0,Fs.int .u8 0,Fs.int .u8 0,Fs.int .u8 0,Fs.int .u8 0,Fs.int .u8 0,Fs.int .u8 0,Fs.int .u8 0,Fs.int .u8 0,Fs.int .u8 0,Fs.int .u8 0,Fs.int .u8 0,Fs.int .u8 0,Fs.int .u8 0,Fs.int .u8 0,Fs.int .u8 0,Fs.int .u8 0,Fs.int .u8 0,Fs.int .u8 0,Fs.int .u8 0,Fs.int .u8 0,Fs.int .u8 0,Fs.int .u8 0,Fs.int .u8 0,Fs.int .u8 0,Fs.int .u8 0,Fs.int .u8 0,Fs.int .u8 0,Fs.int .u8 0,Fs.int .u8 0,Fs.int .u8 0,Fs.int .u8 0,Fs.int .u8 0,Fs.int .u8 0,Fs.int .u8 0,Fs.int .u8 0,Fs.int .u8 0,Fs.int .u8 0,Fs.int .u8 0,Fs.int .u8 0,Fs.int .u8 0,Fs.int .u8 0,Fs.int .u8 0,Fs.int .u8 0,Fs.int .u8 0,Fs.int .u8 0,Fs.int .u8 0,Fs.int .u8 0,Fs.int .u8 0,Fs.int .u8 0,Fs.int .u8 0]=Z:=⟨_,rfl⟩;have zr:Z=List.replicate 128 (eB 0):=by rw[<-zz];kernel_rfl
 have zl:Z.length=128:=by rw[zr,pf]
 obtain⟨A1,hA1⟩:∃A1,A1=r.map eB++eB 128::List.replicate (127-r.length) (eB 0):=⟨_,rfl⟩;have q1:(List.take r.length (r.map eB)++List.drop r.length Z).set r.length (.int .u8 128)=A1:=by
  rw[oY (by rw[o6];exact od _),qG _ _ (by rw[o6];exact od _),o6,sa,zr,List.drop_replicate,show 128-r.length=(127-r.length)+1 by omega,rX,hA1];rfl
 have q2:(r.length<(List.take r.length (r.map eB)++List.drop r.length Z).length)=True:=o7 (by
  rw[ou,oJ,o6,pi,zl];omega)
 simp only[eZ,reduceCtorEq,Nat.reduceEqDiff,↓reduceIte,Nat.reduceAdd,Nat.reduceLeDiff,xE,eY,n1,sm,PU,AH,m1,i1,zz,zl,q1,q2,show((64:Nat):Int)=64 from rfl];have a1l:A1.length=128:=by rw[hA1,ou,o6,oI,pf];omega
 have lw:IntKind.wrap .u64 (b.length:Int)=(b.length:Int):=GO zo;have lm:(b.length:Int)*8=((8*b.length:Nat):Int):=zo
 have wu:IntKind.wrap .u64 ((8*b.length:Nat):Int)=((8*b.length % 18446744073709551616:Nat):Int):=by
  simp only[IntKind.wrap,IntKind.bits,IntKind.signed,qB,oP,pb];norm_cast
 clear q1 q2 zr zl zz;by_cases hc:55<r.length
 ·have hp:MF r=128:=by unfold MF;rw[oE hc]
  rw[hp];have dc:decide ((55:Int)<(r.length:Int))=true:=by simp;omega
  have q3:List.take 128 (A1.take 120++(C5 8 (8*b.length % 18446744073709551616)).map eB++A1.drop 128)=(JO r b.length).map eB:=by
   rw[hA1];unfold JO;rw[hp];exact Xp ua zo zo
  simp only[eZ,reduceCtorEq,Nat.reduceEqDiff,↓reduceIte,Nat.reduceLeDiff,Int.reduceEq,Int.reduceLE,Int.reduceLT,Int.reduceToNat,Nat.reduceSub,Nat.reduceDiv,eY,dc,lw,lm,show IntKind.wrap .i64 (128-8)=120 by kernel_rfl,show((128:Nat):Int)=128 from rfl,wu];refine(Xo (off:=120) (k:=8) (8*b.length % 18446744073709551616) (AC ..) (by rw[a1l];decide) (by rw[a1l];decide) zd (Nat.mod_lt _ zd)).mono ?_;rintro o H' n' ⟨rfl,rfl,rfl⟩;have q4:(128<=(A1.take 120++(C5 8 (8*b.length % 18446744073709551616)).map eB++A1.drop 128).length)=True:=o7 (by
   rw[ou,ou,oJ,o6,B8,pi,a1l];omega)
  simp only[eE,eN,reduceCtorEq,Nat.reduceEqDiff,↓reduceIte,Nat.reduceAdd,BG,AH,q3,q4];have pel:(JO r b.length).length=128:=by
   unfold JO;rw[hp,ou,ou,oI,pf,B8];omega
  generalize JO r b.length=pe at pel;exact UC s0 pe _ _ (.inl rfl) (K:=2) pel zd
 ·have hp:MF r=64:=by unfold MF;rw[og hc]
  rw[hp];have dc:decide ((55:Int)<(r.length:Int))=false:=by simp;omega
  have q3:List.take 64 (A1.take 56++(C5 8 (8*b.length % 18446744073709551616)).map eB++A1.drop 64)=(JO r b.length).map eB:=by
   rw[hA1];unfold JO;rw[hp];exact Xp ua zo zo
  simp only[eZ,reduceCtorEq,Nat.reduceEqDiff,↓reduceIte,Nat.reduceLeDiff,Int.reduceEq,Int.reduceLE,Int.reduceLT,Int.reduceToNat,Nat.reduceSub,Nat.reduceDiv,eY,dc,lw,lm,show((64:Nat):Int)=64 from rfl,show IntKind.wrap .i64 (64-8)=56 by kernel_rfl,show((128:Nat):Int)=128 from rfl,wu];refine(Xo (off:=56) (k:=8) (8*b.length % 18446744073709551616) (AC ..) (by rw[a1l];decide) (by rw[a1l];decide) zd (Nat.mod_lt _ zd)).mono ?_;rintro o H' n' ⟨rfl,rfl,rfl⟩;have q4:(64<=(A1.take 56++(C5 8 (8*b.length % 18446744073709551616)).map eB++A1.drop 64).length)=True:=o7 (by
   rw[ou,ou,oJ,o6,B8,pi,a1l];omega)
  simp only[eE,eN,reduceCtorEq,Nat.reduceEqDiff,↓reduceIte,Nat.reduceAdd,Nat.reduceLeDiff,BG,AH,q3,q4];have pel:(JO r b.length).length=64:=by
   unfold JO;rw[hp,ou,ou,oI,pf,B8];omega
  generalize JO r b.length=pe at pel;exact UC s0 pe _ _ (.inr rfl) (K:=1) pel zd
end
def GrewB(m n:Nat)(H:AB)(o:xx)(H':AB)(n':Nat):Prop:=
 (n=0/\o= .ret (.sl .nil [])/\H'=H/\n'=m)\/(0<n/\∃cap,n<=cap/\o= .ret (.ref (m+5) 1 0 0 cap)/\H'=sA H (m+5) (.arr 1 (List.replicate cap (eB 0)))/\n'=m+10)
def az{H:AB}{m:Nat}(n:Nat)(hn:n<=1099511627776)(hf:AU H m):AO prog 100 [.sl .nil [],.int .i64 n] H m (GrewB m n H):=by
 refine mV.a (AE AG.sE (AF ?_));have n0:((n:Int)<0)=False:=oA zo;have z0:IntKind.wrap .i64 ((0:Int)-0)=0:=by kernel_rfl
 by_cases hz:n=0
 ·subst hz;simp only[eZ,reduceCtorEq,Nat.reduceEqDiff,↓reduceIte,Nat.reduceAdd,i00,mV,z0,show((0:Nat):Int)=0 from rfl];exact .inl ⟨rfl,rfl,rfl,rfl⟩
 have n1:((n:Int)>0)=True:=o7 zo;have n2:((0:Int)<(n:Int))=True:=o7 zo;have e1:IntKind.wrap .i64 ((n:Int)-0)=n:=by rw[Int.sub_zero,An zo zo]
 have sm:small n 1=True:=o7 (by unfold small;omega);have hl:([]++List.replicate n (Fs.int .u8 0)).length=n:=by rw[oW,pf]
 simp only[eZ,reduceCtorEq,Nat.reduceEqDiff,↓reduceIte,Nat.reduceAdd,eY,mV,n0,z0,n1,e1,Wa];rw[DJ];refine⟨hf _ zo,zd,rfl,.inl rfl,by rw[pf];unfold small;simp only[pd];omega,by rw[pf];simp only[pd];omega,λh=>absurd (congrArg List.length h) (by rw[pf];exact hz),λ_ cap hc=>?_⟩;simp only[pd,pf,pn]at hc;have hr:[]++List.replicate n (Fs.int .u8 0)++List.replicate (cap-n) (Fs.int .u8 0)=List.replicate cap (eB 0):=by
  rw[oW,List.replicate_append_replicate,show n+(cap-n)=cap by omega];rfl
 have l9:([]:List Fs).length+(List.replicate n (Fs.int .u8 0)).length=n:=by rw[pf];simp only[pd];omega
 rw[l9,hr];simp only[eE,eN,reduceCtorEq,Nat.reduceEqDiff,↓reduceIte,Nat.reduceSub,eY,Dy];exact⟨⟨hc,zo⟩,.inr ⟨zo,cap,hc,rfl,rfl,rfl⟩⟩
abbrev eBL(L:List (List UInt8)):Fs:=.sl (.none 1) (L.map F4)
def N2{L:List (List UInt8)}{i:Nat}(h:i<L.length):(L.take (i+1)).flatten=(L.take i).flatten++L[i]:=by
 rw[oG,o8 h,rN,List.flatten_append,List.flatten_singleton]
theorem PG:∀(L:List (List UInt8)) (i:Nat),(L.take i).flatten.length<=L.flatten.length
 |[],i=>by rw[List.take_nil];exact od _
 |x::L,0=>oq _
 |x::L,i+1=>by
  have:=PG L i;rw[List.take_succ_cons,r9,r9,ou,ou];omega
def p58(L:List (List UInt8))(hL:L.length<1000000000)(hp:0<L.flatten.length)(hb:L.flatten.length<=1099511627776):A6 prog 58 [eBL L] (F4 L.flatten):=by
 refine .mk ⟨⟨zt,Af (f:=F4) (λl=>⟨zt,Af (f:=eB) (λ_=>zt) _⟩) _⟩,zt⟩ ⟨zt,Af (f:=eB) (λ_=>zt) _⟩ (c58.a (AE AG.sE (AF ?_)));simp only[eE,eN,seval,o6,c58];refine AQ (λi:Nat=>⟨[(0,true,eBL L),(3,true,.int .i64 ((L.take i).flatten.length:Nat)),(9,true,eBL L),(10,true,.int .i64 (L.length:Nat)),(11,true,.int .i64 i)],Ac,0⟩) (λi=>i<=L.length) (λi=>L.length-i) 0 rfl (oq _) ?_;rintro i hi;by_cases e9:i<L.length
 ·have n1:((i:Int)<(L.length:Int))=True:=o7 zo;have e:=AI (k:=i) zo;have fn:=N2 e9;have fl:=PG L (i+1);rw[fn,ou]at fl;have g:=o8 e9;have w1:IntKind.wrap .i64 (((L.take i).flatten.length:Int)+(L[i].length:Int))=(((L.take (i+1)).flatten.length:Nat):Int):=by
   rw[An zo zo,fn,ou];omega
  have n2:((((L.take (i+1)).flatten.length:Nat):Int)<0)=False:=oA zo;simp only[eZ,seval,eY,n1,e,g,w1,n2];exact .mk (i+1) rfl e9 zo
 obtain rfl:i=L.length:=zo
 have n1:((L.length:Int)<(L.length:Int))=False:=oA zo;rw[oF];simp only[eZ,seval,n1];refine(az L.flatten.length hb (λ_ _=>rfl)).mono ?_;rintro o H' n' (⟨hz,rfl,rfl,rfl⟩|⟨_,cap,hc,rfl,rfl,rfl⟩)
 ·omega
 simp only[eE,eN,seval,o6,BG];refine AQ (λi:Nat=>⟨[(6,true,.ref 5 1 0 (L.take i).flatten.length cap),(25,true,eBL L),(26,true,.int .i64 (L.length:Nat)),(27,true,.int .i64 i)],sA Ac 5 (.arr 1 ((L.take i).flatten.map eB++List.replicate (cap-(L.take i).flatten.length) (eB 0))),10+4*i⟩) (λi=>i<=L.length) (λi=>L.length-i) 0 rfl (oq _) ?_;rintro i hi;by_cases e9:i<L.length
 ·have n1:((i:Int)<(L.length:Int))=True:=o7 zo;have e:=AI (k:=i) zo;have fn:=N2 e9;have fl:=PG L (i+1);rw[fn,ou]at fl;have g:=o8 e9;simp only[eZ,seval,eY,n1,g];rw[Kb (AC ..)];refine⟨by rw[AA _ _ _ _ zo];rfl,zd,rfl,rfl,rfl,by rw[o6];unfold small;omega,by rw[o6];omega,rfl,by rw[ou,o6,pf];omega,zo,λ_=>?_,λh=>?_⟩
  ·have t1:List.take (L.take i).flatten.length ((L.take i).flatten.map eB++List.replicate (cap-(L.take i).flatten.length) (eB 0))++L[i].map eB++List.drop ((L.take i).flatten.length+(L[i].map eB).length) ((L.take i).flatten.map eB++List.replicate (cap-(L.take i).flatten.length) (eB 0))=(L.take (i+1)).flatten.map eB++List.replicate (cap-(L.take (i+1)).flatten.length) (eB 0):=by
    rw[fn,pL (by rw[o6];exact od _),oY (by rw[o6];exact od _),rJ,qf (by rw[o6];omega),oW,List.drop_replicate,o6,o6,oD,ou,show cap-(L.take i).flatten.length-((L.take i).flatten.length+L[i].length-(L.take i).flatten.length)=cap-((L.take i).flatten.length+L[i].length)by omega]
   have t2:(L.take i).flatten.length+(L[i].map eB).length=(L.take (i+1)).flatten.length:=by rw[fn,ou,o6]
   rw[t1,t2,AH];simp only[eE,eN,seval,Dy,e];exact .mk (i+1) rfl e9 zo
  ·rw[o6]at h;omega
 obtain rfl:i=L.length:=zo
 rw[oF];simp only[eZ,seval,n1];refine⟨⟨by rw[ou,o6,pf];omega,hc⟩,?_⟩;rw[pL (by rw[o6];exact od _),oY (by rw[o6];exact od _)];exact Wk.sl (.inl (by split<;>rfl))
section
mutual
inductive FV(H:AB):Fs->Fs->Prop
 |wk {a b:Fs}:Wk b a->FV H a b
 |ref {id e off len cap:Nat} {l:List Fs}:AD H id=some (.frz e l)->off+len<=l.length->len<=cap->FV H (.sl (.none e) ((l.drop off).take len)) (.ref id e off len cap)
 |agg {us bs:List Fs}:FVs H us bs->FV H (.agg us) (.agg bs)
 |sl {t:xv} {us bs:List Fs}:FVs H us bs->FV H (.sl (.none t.esz) us) (.sl t bs)
inductive FVs(H:AB):List Fs->List Fs->Prop
 |nil:FVs H [] []
 |cons {a b:Fs} {us bs:List Fs}:FV H a b->FVs H us bs->FVs H (a::us) (b::bs)
end
variable {H:AB}
theorem FVs.len:∀{us bs:List Fs},FVs H us bs->us.length=bs.length
 |_,_,.nil=>rfl
 |_,_,.cons _ t=>by rw[oI,oI,t.len]
section
variable {g:z8} {H:AB} {n:Nat} {w:World}
mutual
theorem Xs(R:x6 g H n w):∀{a b:Fs} {v:Value},FV H a b->AP g b v->AP g a v
 |a,b,v,.wk h,hv=>h g v hv
 |_,_,v,.ref (id:=id) (e:=e) (off:=off) (len:=len) (cap:=cap) (l:=l) h1 h2 h3,hv=>by
  obtain⟨L,k1,k2,rfl⟩:=hv;obtain⟨L',j1,j2,j3⟩:=R.obj id _ h1;rw[k1]at j1;cases j1;have l9:((l.drop off).take len).length=len:=by simp;omega
  have sY:=sK.take len _ _ (sK.drop off _ _ j3);rw[pn]at sY;exact .inr ⟨zt,L.sO,off*e,cap,⟨none,by rw[l9],.inl rfl⟩,by rw[l9];exact h3,sY,zt⟩
 |_,_,v,.agg h,hv=>by
  obtain⟨vs,rfl,h1,h2⟩:=hv;exact⟨vs,rfl,fvs_rel R h h1,h2⟩
 |_,_,v,.sl h,hv=>by
  have hl:=h.len;rcases hv with⟨rfl,h1,h2⟩|⟨ht,b,o,cap,⟨sp,rfl,uE⟩,hc,hs,hk⟩
  ·exact .inl ⟨pt hl,h1,zt⟩
  ·exact .inr ⟨zt,b,o,cap,⟨sp,by rw[hl],uE.imp id λq=>⟨pt (by rw[hl,q.1];rfl),.inr ⟨_,rfl⟩⟩⟩,by rw[hl];exact hc,fst_rel R h hs,zt⟩
theorem fst_rel(R:x6 g H n w):∀{us bs:List Fs} {e:Nat} {f:Nat->Option Value} {o:Nat},FVs H us bs->sK g e f o bs->sK g e f o us
 |_,_,_,_,_,.nil,hv=>hv
 |_,_,_,_,_,.cons h t,⟨⟨v,h1,h2,h3⟩,s⟩=>⟨⟨v,Xs R h h1,h2,h3⟩,fst_rel R t s⟩
theorem fvs_rel(R:x6 g H n w):∀{us bs:List Fs} {vs:List Value},FVs H us bs->sG g bs vs->sG g us vs
 |_,_,vs,.nil,hv=>hv
 |_,_,vs,.cons h t,hv=>by
  obtain⟨v,r,rfl,h1,h2⟩:=hv;exact⟨v,r,rfl,Xs R h h1,fvs_rel R t h2⟩
end
end
theorem A6.frozen{P:Program}{f:FuncId}{args args':List Fs}{r:Fs}(h:A6 P f args r)(hv:FVs H args args')(n:Nat):Ad P f args' H n r:=
 ⟨(h.quiet H n).1,λg w vs R hvs=>(h.quiet H n).2 g w vs R (fvs_rel R hv hvs)⟩
theorem AO.freeze{P:Program}{f:FuncId}{args:List Fs}{n id e:Nat}{l:List Fs}{Q:xx->AB->Nat->Prop}(h0:AD H id=some (.arr e l))(h:AO P f args (sA H id (.frz e l)) n Q):AO P f args H n Q:=by
 refine⟨h.1,λg w vs R hvs=>?_⟩;obtain⟨σ',r1,t1⟩:=R.freeze (m:=n) h0;refine(h.2 _ w vs r1 (sG.mono t1.le _ _ hvs)).mono ?_;rintro e w' ⟨g',out,H',n',q,he,r2,hn,t2⟩;exact⟨g',out,H',n',q,he,r2,hn,t1.trans t2⟩
end
def SZ:List Fs->AB->Prop×Fs:=λa _=>match a with
 |[.sl (.none 1) L]=>(L.length<281474976710656/\(L.map LY).map eB=L,Vh (Cx (Gn (L.map LY))))
 |_=>(False,.sH [])
def qSum:∀args H n,(SZ args H).1->Ad prog 57 args H n (SZ args H).2:=by
 intro args H n hh;unfold SZ at hh⊢;split at hh
 ·rename_i L;obtain⟨h1,h2⟩:=hh;have:=(p57 (L.map LY) (by rw[o6];exact h1)).quiet H n;unfold F4 at this;rw[h2]at this;exact this
 ·exact hh.elim
def Tab2:Bk:=AJ 57 SZ sE
def bD:AG prog Tab2:=AG.sE.add qSum
theorem Xt(a:List Fs)(H:AB):Tab2 57 a H=SZ a H:=rfl
def CJ(tag b:List UInt8):List UInt8:=Cx (Gn (Cx (Gn tag)++b))
def DE(s:W8):(Cx s).length=32:=by
 show(Fk s.l).length=32;rw[Fl];rfl
def p23(tag b:List UInt8)(ht:tag.length<1000000000)(hb:b.length<1099511627000):A6 prog 23 [.str tag,F4 b] (Vh (CJ tag b)):=by
 refine .mk ⟨zt,⟨zt,Af (f:=eB) (λ_=>zt) _⟩,zt⟩ (Af (f:=eB) (λ_=>zt) _) (c23.a (AE bD (AF ?_)));have hd:List.map LY (List.map (λb=>Fs.int .u8 (b.toNat:Int)) tag)=tag:=E7 tag;have hz:List.drop 32 [Fs.int .u8 0,Fs.int .u8 0,Fs.int .u8 0,Fs.int .u8 0,Fs.int .u8 0,Fs.int .u8 0,Fs.int .u8 0,Fs.int .u8 0,Fs.int .u8 0,Fs.int .u8 0,Fs.int .u8 0,Fs.int .u8 0,Fs.int .u8 0,Fs.int .u8 0,Fs.int .u8 0,Fs.int .u8 0,Fs.int .u8 0,Fs.int .u8 0,Fs.int .u8 0,Fs.int .u8 0,Fs.int .u8 0,Fs.int .u8 0,Fs.int .u8 0,Fs.int .u8 0,Fs.int .u8 0,Fs.int .u8 0,Fs.int .u8 0,Fs.int .u8 0,Fs.int .u8 0,Fs.int .u8 0,Fs.int .u8 0,Fs.int .u8 0]=[]:=by kernel_rfl
 have hs:(tag.length<281474976710656)=True:=o7 zo;simp only[eE,eN,reduceCtorEq,Nat.reduceEqDiff,↓reduceIte,Nat.reduceAdd,Nat.reduceLeDiff,Nat.reduceMul,Nat.reduceLT,Nat.reduceSub,eY,c23,Xt,SZ,AH,hd,DE,hs,hz,x0.sF,Bz];refine⟨zd,?_⟩;refine AO.freeze (AC ..) ?_;have hf:=DE (Gn tag);have hpp:0<[Cx (Gn tag),b].flatten.length:=by rw[r9,ou,hf];omega
 have hpb:[Cx (Gn tag),b].flatten.length<=1099511627776:=by rw[r9,ou,hf,r9,List.flatten_nil,oR];omega
 rw[AH];have hq:=((p58 [Cx (Gn tag),b] (show 2<1000000000 by omega) hpp hpb).frozen (H:=sA (sA Ac 0 (.box [Fs.int .u8 0,Fs.int .u8 0,Fs.int .u8 0,Fs.int .u8 0,Fs.int .u8 0,Fs.int .u8 0,Fs.int .u8 0,Fs.int .u8 0,Fs.int .u8 0,Fs.int .u8 0,Fs.int .u8 0,Fs.int .u8 0,Fs.int .u8 0,Fs.int .u8 0,Fs.int .u8 0,Fs.int .u8 0,Fs.int .u8 0,Fs.int .u8 0,Fs.int .u8 0,Fs.int .u8 0,Fs.int .u8 0,Fs.int .u8 0,Fs.int .u8 0,Fs.int .u8 0,Fs.int .u8 0,Fs.int .u8 0,Fs.int .u8 0,Fs.int .u8 0,Fs.int .u8 0,Fs.int .u8 0,Fs.int .u8 0,Fs.int .u8 0])) 4 (.frz 1 ((Cx (Gn tag)).map eB))) (.cons (.sl (t:=.exact 1) (.cons (by
  have:=FV.ref (H:=sA (sA Ac 0 (.box [Fs.int .u8 0,Fs.int .u8 0,Fs.int .u8 0,Fs.int .u8 0,Fs.int .u8 0,Fs.int .u8 0,Fs.int .u8 0,Fs.int .u8 0,Fs.int .u8 0,Fs.int .u8 0,Fs.int .u8 0,Fs.int .u8 0,Fs.int .u8 0,Fs.int .u8 0,Fs.int .u8 0,Fs.int .u8 0,Fs.int .u8 0,Fs.int .u8 0,Fs.int .u8 0,Fs.int .u8 0,Fs.int .u8 0,Fs.int .u8 0,Fs.int .u8 0,Fs.int .u8 0,Fs.int .u8 0,Fs.int .u8 0,Fs.int .u8 0,Fs.int .u8 0,Fs.int .u8 0,Fs.int .u8 0,Fs.int .u8 0,Fs.int .u8 0])) 4 (.frz 1 ((Cx (Gn tag)).map eB))) (id:=4) (e:=1) (off:=0) (len:=32) (cap:=32) (AC ..) (by rw[o6,hf];decide) (od _);rw[qC,oY (by rw[o6,hf];exact od _)]at this;exact this) (.cons (.wk (Wk.refl _)) .nil))) .nil) 6)
 refine AO.mono hq ?_;rintro o H' n' ⟨rfl,rfl,rfl⟩;have he:[Cx (Gn tag),b].flatten=Cx (Gn tag)++b:=by rw[r9,r9,List.flatten_nil,oR]
 rw[he]at hpb⊢;have hs2:((Cx (Gn tag)++b).length<281474976710656)=True:=o7 zo;generalize hX:Cx (Gn tag)++b=X at hs2⊢;have ht:CJ tag b=Cx (Gn X):=by unfold CJ;rw[hX]
 rw[ht];simp only[eE,eN,reduceCtorEq,Nat.reduceEqDiff,↓reduceIte,Nat.reduceAdd,Au,o6,BG,Xt,SZ,E7,DE,hs2,hz];exact Wk.refl _
def Sa:List Fs->AB->Prop×Fs:=λa _=>match a with
 |[.int .u32 x,.int .i64 k]=>(Z5 x/\0<=k/\k<=32,eW (N0 (BitVec.ofInt 32 x) (32-k.toNat)))
 |_=>(False,.sH [])
def p171(x:W)(n:Nat)(h:n<=32):A6 prog 171 [eW x,.int .i64 n] (eW (N0 x (32-n))):=by
 refine .mk ⟨zt,zt,zt⟩ zt (c171.a (AE AG.sE (AF ?_)));have e1:=MB x (n:=n) h;have e2:=KB x (n:=32-n) zo;have w:IntKind.wrap .i64 (32-(n:Int))=((32-n:Nat):Int):=by rw[An zo zo];omega
 have e3:=QU (x>>>n) (x<<<(32-n));have n0:((0:Int)<=(n:Int))=True:=o7 zo;simp only[eE,eN,seval,oS,c171,e1,w,e2,e3,n0,i5 x h]
def qRor:∀args H n,(Sa args H).1->Ad prog 171 args H n (Sa args H).2:=by
 intro args H n hh;unfold Sa at hh⊢;split at hh
 ·rename_i x k;obtain⟨h,h1,h2⟩:=hh;have:=(p171 (BitVec.ofInt 32 x) k.toNat zo).quiet H n;unfold eW at this;unfold Z5 at h;rw[h,pS h1]at this;exact this
 ·exact hh.elim
def Vj(a b c d:UInt8):FC [a,b,c,d]=BitVec.ofNat 32 a.toNat<<<24|||BitVec.ofNat 32 b.toNat<<<16|||BitVec.ofNat 32 c.toNat<<<8|||BitVec.ofNat 32 d.toNat:=by
 have z:(0:W)=0#32:=rfl;simp only[FC,List.foldl,z,seval,BitVec.shiftLeft_or_distrib,<-BitVec.shiftLeft_add,BitVec.zero_shiftLeft,BitVec.zero_or]
def Vk:List Fs->AB->Prop×Fs:=λa _=>match a with
 |[.sl (.none 1) L]=>(L.length=4/\(L.map LY).map eB=L,eW (FC (L.map LY)))
 |_=>(False,.sH [])
def p170(l:List UInt8)(h:l.length=4):A6 prog 170 [F4 l] (eW (FC l)):=by
 refine .mk ⟨⟨zt,Af (f:=eB) (λ_=>zt) _⟩,zt⟩ zt (c170.a (AE AG.sE (AF ?_)));obtain⟨a,b,c,d,rfl⟩:∃a b c d,l=[a,b,c,d]:=by
  match l,h with
  |[a,b,c,d],_=>exact⟨a,b,c,d,rfl⟩
 have s24:∀x:W,C7 .shl .u32 (x.toNat:Int) 24=((x<<<24).toNat:Int):=λx=>KB x (n:=24) zd
 have s16:∀x:W,C7 .shl .u32 (x.toNat:Int) 16=((x<<<16).toNat:Int):=λx=>KB x (n:=16) zd
 have s8:∀x:W,C7 .shl .u32 (x.toNat:Int) 8=((x<<<8).toNat:Int):=λx=>KB x (n:=8) zd
 rw[Vj];simp only[eE,eN,reduceCtorEq,Nat.reduceEqDiff,↓reduceIte,Nat.reduceAdd,Int.reduceLE,Int.reduceToNat,eY,c170,Xl,s24,s16,s8,QU];decide
def qWrd:∀args H n,(Vk args H).1->Ad prog 170 args H n (Vk args H).2:=by
 intro args H n hh;unfold Vk at hh⊢;split at hh
 ·rename_i L;obtain⟨h1,h2⟩:=hh;have:=(p170 (L.map LY) (by rw[o6];exact h1)).quiet H n;unfold F4 at this;rw[h2]at this;exact this
 ·exact hh.elim
def Vl:List Fs->AB->Prop×Fs:=λa _=>match a with
 |[]=>(True,.agg (kW.map eW))
 |_=>(False,.sH [])
def p172:A6 prog 172 [] (.agg (kW.map eW)):=by
 refine .mk zt (Af (f:=eW) (λ_=>zt) _) (c172.a (AE AG.sE (AF ?_)));simp only[eE,eN,seval,Au,c172,x0.sF,Bz,<-fO];exact Wk.refl _
def qNum:∀args H n,(Vl args H).1->Ad prog 172 args H n (Vl args H).2:=by
 intro args H n hh;unfold Vl at hh⊢;split at hh
 ·exact p172.quiet H n
 ·exact hh.elim
def bE:Bk:=AJ 170 Vk (AJ 171 Sa (AJ 172 Vl sE))
def bF:AG prog bE:=((AG.sE.add qNum).add qRor).add qWrd
section
variable (a:List Fs) (H:AB)
theorem jC:bE 170 a H=Vk a H:=rfl
theorem Xu:bE 171 a H=Sa a H:=rfl
theorem jD:bE 172 a H=Vl a H:=rfl
end
def p106(s:W8)(l:List UInt8)(hl:l.length=64):A6 prog 106 [.agg (s.l.map eW),F4 l] (.agg ((E6 s l).l.map eW)):=by
 refine .mk ⟨Af (f:=eW) (λ_=>zt) _,⟨zt,Af (f:=eB) (λ_=>zt) _⟩,zt⟩ (Af (f:=eW) (λ_=>zt) _) (c106.a (AE bF (AF ?_)));simp only[eE,eN,reduceCtorEq,Nat.reduceEqDiff,↓reduceIte,Nat.reduceAdd,o6,c106,AH,x0.sF,Bz];refine⟨rfl,?_⟩;generalize hZ:sA (sA Ac 0 (.box (s.l.map eW))) 1 (.box [.int .u32 0,.int .u32 0,.int .u32 0,.int .u32 0,.int .u32 0,.int .u32 0,.int .u32 0,.int .u32 0])=B;have b0:AD B 0=some (.box (s.l.map eW)):=by rw[<-hZ,AA _ _ _ _ zd];exact AC ..
 have b1:AD B 1=some (.box [.int .u32 0,.int .u32 0,.int .u32 0,.int .u32 0,.int .u32 0,.int .u32 0,.int .u32 0,.int .u32 0]):=by rw[<-hZ];exact AC ..
 have b6:AD B 6=none:=by rw[<-hZ];rfl
 clear hZ;refine AQ (λi:Nat=>⟨[(1,true,F4 l),(2,true,.ptr 0 0),(4,true,.ptr 1 0),(5,true,.ptr 3 0),(6,true,.int .i64 i)],sA B 3 (.box (EC l i)),5⟩) (λi=>i<=16) (λi=>16-i) 0 rfl (oq _) ?_;rintro i hi;by_cases e9:i<16
 ·have n1:((i:Int)<16)=True:=o7 zo;have n2:((i:Int)<64)=True:=o7 zo;have e:=AI (k:=i) zo;have e4:IntKind.wrap .i64 (4*(i:Int))=((4*i:Nat):Int):=by rw[An zo zo];omega
  have e5:IntKind.wrap .i64 (((4*i:Nat):Int)+4)=((4*i+4:Nat):Int):=by rw[An zo zo];omega
  have f1:(((4*i:Nat):Int)<=((4*i+4:Nat):Int))=True:=o7 zo;have f2:(((4*i+4:Nat):Int)<=(l.length:Int))=True:=o7 zo;have hsl:((l.map eB).take (4*i+4)).drop (4*i)=((l.drop (4*i)).take 4).map eB:=by
   rw[<-rc,<-List.map_drop,List.drop_take,show 4*i+4-4*i=4 by omega]
  have b2:((l.drop (4*i)).take 4).length=4:=by rw[oJ,pi];omega
  have hd:=E7 ((l.drop (4*i)).take 4);have hn:Am l (i+1)=Am l i++[FC ((l.drop (4*i)).take 4)]:=by rw[Am,oE e9]
  have hp1:(EC l i).take i++[eW (FC ((l.drop (4*i)).take 4))]++(EC l i).drop (i+1)=EC l (i+1):=JN (l:=l) (t:=i) zo hn;have uz:=GY (l:=l) (t:=i) zo;have b3:(i+1<=64)=True:=o7 zo;have b4:(i<=63)=True:=o7 zo;simp only[eZ,reduceCtorEq,Nat.reduceEqDiff,↓reduceIte,Int.reduceEq,eY,n1,n2,e,e4,e5,f1,f2,hsl,b2,hd,jC,Vk,uz,b3,AH,show((64:Nat):Int)=64 from rfl,qI];exact .mk (i+1) (by simp only[hp1]) e9 zo
 obtain rfl:i=16:=zo
 simp only[eZ,Nat.reduceEqDiff,↓reduceIte,show(((16:Nat):Int)<16)=False by decide];clear hi e9;refine AQ (λi:Nat=>⟨[(2,true,.ptr 0 0),(4,true,.ptr 1 0),(5,true,.ptr 3 0),(7,true,.int .i64 i)],sA B 3 (.box (EC l i)),5⟩) (λi=>16<=i/\i<=64) (λi=>64-i) 16 rfl zd ?_;rintro i ⟨h16,hi⟩;by_cases e9:i<64
 ·have n2:((i:Int)<64)=True:=o7 zo;have e:=AI (k:=i) zo;have s15:IntKind.wrap .i64 ((i:Int)-15)=((i-15:Nat):Int):=by rw[An zo zo];omega
  have s2':IntKind.wrap .i64 ((i:Int)-2)=((i-2:Nat):Int):=by rw[An zo zo];omega
  have s16:IntKind.wrap .i64 ((i:Int)-16)=((i-16:Nat):Int):=by rw[An zo zo];omega
  have s7:IntKind.wrap .i64 ((i:Int)-7)=((i-7:Nat):Int):=by rw[An zo zo];omega
  have uz:=GY (l:=l) (t:=i) zo;have bd:∀k,(((i-k:Nat):Int)<64)=True:=λk=>o7 zo
  have bn:∀k,(i-k+1<=64)=True:=λk=>o7 zo
  have bm:∀k,(i-k<=63)=True:=λk=>o7 zo
  have q:∀k,0<k->k<=16->(List.take 1 ((EC l i).drop (i-k))).headD (.sH [])=eW ((Am l i).getD (i-k) 0):=λk h1 h2=>hd1 (Lk zo zo)
  have q15:=q 15 zd zd;have q2:=q 2 zd zd;have q16:=q 16 zd zd;have q7:=q 7 zd zd;have hn:=ME (l:=l) (i:=i) zo;have hp1:=JN (l:=l) (t:=i) e9 hn;simp only[sQ,oI,pd,pn]at hp1;simp only[eZ,Nat.reduceEqDiff,↓reduceIte,Nat.reduceLeDiff,Int.reduceEq,Int.reduceLE,Int.reduceToNat,Nat.reduceSub,eY,n2,e,s15,s2',s16,s7,bd,bn,Xu,Sa,QV,UA,uz,AH,show((64:Nat):Int)=64 from rfl,qI,q15,q2,q16,q7,sh_3,fN,MA,Ej];exact⟨zo,.mk (i+1) (by simp only[<-hp1]) ⟨zo,e9⟩ zo⟩
 obtain rfl:i=64:=zo
 clear e9 hi h16;simp only[W8.l,oL,pc]at b0;have b03:∀X,AD (sA B 3 X) 0=some (.box [eW s.a,eW s.b,eW s.c,eW s.d,eW s.e,eW s.f,eW s.g,eW s.h]):=λX=>by rw[AA _ _ _ _ zd];exact b0
 have b06:∀X Y,AD (sA (sA B 3 X) 6 Y) 0=some (.box [eW s.a,eW s.b,eW s.c,eW s.d,eW s.e,eW s.f,eW s.g,eW s.h]):=λX Y=>by rw[AA _ _ _ _ zd];exact b03 X
 have b63:∀X,AD (sA B 3 X) 6=none:=λX=>by rw[AA _ _ _ _ zd];exact b6
 simp only[eZ,Nat.reduceEqDiff,↓reduceIte,Nat.reduceAdd,Nat.reduceLeDiff,Nat.reduceMul,Int.reduceLE,Int.reduceLT,Int.reduceToNat,eY,show(((64:Nat):Int)<64)=False by decide,jD,Vl,b06,b63,AH,show kW.length=64 from rfl,show((8:Nat):Int)=8 from rfl];generalize hA:sA (sA B 3 (.box (EC l 64))) 6 (.box (kW.map eW))=A;have a0:AD A 0=some (.box [eW s.a,eW s.b,eW s.c,eW s.d,eW s.e,eW s.f,eW s.g,eW s.h]):=by rw[<-hA];exact b06 _ _
 have a1:AD A 1=some (.box [.int .u32 0,.int .u32 0,.int .u32 0,.int .u32 0,.int .u32 0,.int .u32 0,.int .u32 0,.int .u32 0]):=by rw[<-hA,AA _ _ _ _ zd,AA _ _ _ _ zd];exact b1
 have a3:AD A 3=some (.box (EC l 64)):=by rw[<-hA,AA _ _ _ _ zd];exact AC ..
 have a6:AD A 6=some (.box (kW.map eW)):=by rw[<-hA];exact AC ..
 clear hA b03 b06 b63 b0 b1 b6;refine AQ (λi:Nat=>⟨[(2,true,.ptr 0 0),(4,true,.ptr 1 0),(5,true,.ptr 3 0),(10,true,.ptr 6 0),(11,true,eW (A3 s (Am l 64) i).a),(12,true,eW (A3 s (Am l 64) i).b),(13,true,eW (A3 s (Am l 64) i).c),(14,true,eW (A3 s (Am l 64) i).d),(15,true,eW (A3 s (Am l 64) i).e),(16,true,eW (A3 s (Am l 64) i).f),(17,true,eW (A3 s (Am l 64) i).g),(18,true,eW (A3 s (Am l 64) i).h),(19,true,.int .i64 i)],A,8⟩) (λi=>i<=64) (λi=>64-i) 0 rfl zd ?_;rintro i hi;by_cases e9:i<64
 ·have n2:((i:Int)<64)=True:=o7 zo;have e:=AI (k:=i) zo;have uz:=GY (l:=l) (t:=64) (od _);have q1:(List.take 1 ((EC l 64).drop i)).headD (.sH [])=eW ((Am l 64).getD i 0):=hd1 (Lk zo (od _));have q2:(List.take 1 ((kW.map eW).drop i)).headD (.sH [])=eW (kW.getD i 0):=hd1 (by
   rw[oO,pM,o8 (show i<kW.length from e9)];rfl)
  have b4:(i<=63)=True:=o7 zo;have b3:(i+1<=64)=True:=o7 zo;have nx:A3 s (Am l 64) (i+1)=SY (A3 s (Am l 64) i) (kW.getD i 0) ((Am l 64).getD i 0):=rfl;generalize A3 s (Am l 64) i=r at nx;simp only[eZ,Nat.reduceEqDiff,↓reduceIte,Int.reduceEq,Int.reduceLE,Int.reduceToNat,Nat.reduceSub,eY,n2,e,a3,a6,uz,q1,q2,b3,qI,Xu,Sa,QV,UA,MA,Ej,Xk,iy,ch_eq,iz,show kW.length=64 from rfl,show((64:Nat):Int)=64 from rfl];exact .mk (i+1) (by simp only[nx];rfl) e9 zo
 obtain rfl:i=64:=zo
 have ha:E6 s l=⟨s.a+(A3 s (Am l 64) 64).a,s.b+(A3 s (Am l 64) 64).b,s.c+(A3 s (Am l 64) 64).c,s.d+(A3 s (Am l 64) 64).d,s.e+(A3 s (Am l 64) 64).e,s.f+(A3 s (Am l 64) 64).f,s.g+(A3 s (Am l 64) 64).g,s.h+(A3 s (Am l 64) 64).h⟩:=rfl;rw[ha];clear ha;generalize A3 s (Am l 64) 64=v;simp only[eZ,Nat.reduceEqDiff,↓reduceIte,Nat.reduceAdd,Nat.reduceLeDiff,Nat.reduceMul,Int.reduceLE,Int.reduceLT,Int.reduceToNat,Au,eY,show(((64:Nat):Int)<64)=False by decide,a0,a1,Ej,x0.sF,Bz,show((8:Nat):Int)=8 from rfl];exact Wk.refl _
def Bn{n b:Nat}(h:n<=10000000000)(hb:b<=1000):small n b:=by
 have:n*b<=10000000000*1000:=Nat.mul_le_mul h hb;unfold small;omega
def C6(n:Nat):Nat:=(119-n % 64) % 64
def HV(b:List UInt8):List UInt8:=b++128::List.replicate (C6 b.length) 0++C5 8 (8*b.length % 18446744073709551616)
structure VPd where
 j:Nat
 tk:xv
 H:AB
 n:Nat
structure IPd(m:Nat)(v:VPd):Prop where
 hj:v.j<=m
 fr:AU v.H v.n
 tok:EG 1 0 v.H v.tk
 es:v.tk.esz=1
def Vm{k n j:Nat}(h:j<k):(C5 k n).take (j+1)=(C5 k n).take j++[UInt8.ofNat (n>>>(8*(k-1-j)))]:=by
 have hb:(C5 k n)[j]?=some (UInt8.ofNat (n>>>(8*(k-1-j)))):=by
  unfold C5;rw[oO,qP h];rfl
 rw[oG,hb];rfl
def p105(b:List UInt8)(hb:b.length<3999999000):A6 prog 105 [F4 b] (F4 (HV b)):=by
 refine .mk ⟨⟨zt,Af (f:=eB) (λ_=>zt) _⟩,zt⟩ ⟨zt,Af (f:=eB) (λ_=>zt) _⟩ (c105.a (AE AG.sE (AF ?_)));have s1:small b.length 1=True:=o7 (by unfold small;omega);have s2:small (b.length+1) 1=True:=o7 (by unfold small;omega);have l1:(b.length<=35184372088832)=True:=o7 zo;have l2:(b.length+1<=35184372088832)=True:=o7 zo;simp only[eE,eN,seval,o6,c105,s1,s2,l1,l2,x0.sF,Bz];have hz:C6 b.length<64:=Nat.mod_lt _ zd;have hz2:(b.length+1+C6 b.length) % 64=56:=by unfold C6;omega
 refine AQ (λv:VPd=>⟨[(0,true,F4 b),(3,true,.sl v.tk ((b++128::List.replicate v.j 0).map eB))],v.H,v.n⟩) (IPd (C6 b.length)) (λv=>C6 b.length-v.j) ⟨0,.own 4 1,sA (sA (sA Ac 2 .tok) 2 .dead) 4 .tok,6⟩ (by rw[oD];rfl) ⟨oq _,((AU.nil.sA (m:=6) (oq _) zd).sA (od _) zd).sA (od _) zd,.inr (.inr ⟨4,rfl,oq _,AC ..⟩),rfl⟩ ?_;rintro⟨j,tk,H,n⟩ ⟨hj,hf,l6,s9⟩;simp only at hj hf l6 s9;have hXl:(b++128::List.replicate j 0).length=b.length+1+j:=by rw[ou,oI,pf];omega
 have hnx:(b++128::List.replicate j (0:UInt8))++[0]=b++128::List.replicate (j+1) 0:=by
  rw[oT,pp,<-List.replicate_succ']
 by_cases e9:j<C6 b.length
 ·generalize b++128::List.replicate j (0:UInt8)=X at hXl hnx;have q1:At H 1 tk=True:=o7 l6.app;have q2:(X.length+1<=35184372088832)=True:=o7 zo;have q3:small (X.length+1) 1=True:=o7 (Bn zo zd);have ne:¬(b.length+(1+j)) % 64=56:=zo
  have tm:((((b.length+(1+j):Nat):Int)).tmod 64=56)=False:=oA (by rw[rz zo];omega);simp only[eZ,seval,oh,o6,tm,q1,hXl,Bx hf,x0.sF,Bz];refine⟨⟨Bn zo zd,zo⟩,.mk ⟨j+1,.own (n+2) 1,sA (AR H tk) (n+2) .tok,n+4⟩ ?_ ⟨e9,(AZ l6 hf).sA (m:=n+4) zo zo,.inr (.inr ⟨n+2,rfl,oq _,AC ..⟩),rfl⟩ zp⟩;simp only[<-hnx,oD,oL,pc];rfl
 obtain rfl:j=C6 b.length:=zo
 have tm:((((b.length+(1+C6 b.length):Nat):Int)).tmod 64=56)=True:=o7 (by rw[rz zo];omega);have lw:IntKind.wrap .u64 (b.length:Int)=(b.length:Int):=GO zo;have lm:(b.length:Int)*8=((8*b.length:Nat):Int):=zo
 have wu:IntKind.wrap .u64 ((8*b.length:Nat):Int)=((8*b.length % 18446744073709551616:Nat):Int):=by
  simp only[IntKind.wrap,IntKind.bits,IntKind.signed,qB,oP,pb];norm_cast
 have hpd:HV b=(b++128::List.replicate (C6 b.length) 0)++C5 8 (8*b.length % 18446744073709551616):=by
  unfold HV;rw[oT,pp]
 simp only[eZ,seval,o9,o6,hXl,tm,lw,lm,wu];rw[hpd];generalize b++128::List.replicate (C6 b.length) (0:UInt8)=X at hXl;have hN:8*b.length % 18446744073709551616<18446744073709551616:=Nat.mod_lt _ zd;generalize 8*b.length % 18446744073709551616=N at hN;refine AQ (λv:VPd=>⟨[(3,true,.sl v.tk ((X++(C5 8 N).take v.j).map eB)),(4,true,.int .u64 (N:Int)),(5,true,.int .i64 (7-(v.j:Int)))],v.H,v.n⟩) (IPd 8) (λv=>8-v.j) ⟨0,tk,H,n⟩ (by rw[pZ,oR];rfl) ⟨oq _,hf,l6,s9⟩ ?_;clear hf l6 s9;rintro⟨j,tk,H,n⟩ ⟨hj,hf,l6,s9⟩;simp only at hj hf l6 s9;by_cases e9:j<8
 ·have nx:=Vm (n:=N) e9;have hYl:(X++(C5 8 N).take j).length<=b.length+200:=by rw[ou,oJ,B8];omega
  have hnx:X++(C5 8 N).take (j+1)=(X++(C5 8 N).take j)++[UInt8.ofNat (N>>>(8*(7-j)))]:=by rw[nx,oT]
  generalize X++(C5 8 N).take j=Y at hYl hnx;have q1:At H 1 tk=True:=o7 l6.app;have q2:(Y.length+1<=35184372088832)=True:=o7 zo;have q3:small (Y.length+1) 1=True:=o7 (Bn zo zd);have g0:((0:Int)<=7-(j:Int))=True:=o7 zo;have e3:IntKind.wrap .i64 (8*(7-(j:Int)))=((8*(7-j):Nat):Int):=by rw[An zo zo];omega
  have e4:=Xn (n:=N) (s:=8*(7-j)) zo;have e5:IntKind.wrap .i64 (7-(j:Int)-1)=7-((j+1:Nat):Int):=by rw[An zo zo];omega
  simp only[eZ,seval,eY,g0,e3,e4,e5,K0,q1,q2,q3,Bx hf,x0.sF,Bz];refine .mk ⟨j+1,.own (n+7) 1,sA (AR H tk) (n+7) .tok,n+9⟩ ?_ ⟨e9,(AZ l6 hf).sA (m:=n+9) zo zo,.inr (.inr ⟨n+7,rfl,oq _,AC ..⟩),rfl⟩ zp;simp only[hnx,oD,oL,pc]
 obtain rfl:j=8:=zo
 have ht:(C5 8 N).take 8=C5 8 N:=oY (by rw[B8];decide);rw[ht];simp only[eZ,seval,show((0:Int)<=7-((8:Nat):Int))=False by decide];exact Wk.sl (.inl s9)
end Go.AM
