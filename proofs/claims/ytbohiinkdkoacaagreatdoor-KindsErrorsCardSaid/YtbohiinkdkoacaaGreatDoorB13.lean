/-
  Parts of the proof. Conditions: none.
-/
import Derived.Test.YtbohiinkdkoacaaGreatDoorB12
set_option maxRecDepth 20000
set_option linter.all false
namespace Go.AM
open Go.Lib Go.Proofs Go.Proofs.Tryz
def RU{x:Z8}(h:chkD x=0):resD x= .ok x:=by
 unfold chkD at h;split at h
 ·cases h
 ·cases q:resD x with
  |error e=>rw[q]at h;exact absurd h (Dd q)
  |ok y=>
   rw[q]at h;simp only[]at h;split at h
   ·cases h
   ·rename_i hn;rw[Decidable.not_not.1 hn]
def Ku(d:Z8):(∃e,e≠0/\resD d= .error e/\CA d= .error e)\/(∃x,resD d= .ok x/\chkD x≠0/\CA d= .error (chkD x))\/∃x k,resD d= .ok x/\chkD x=0/\CA d= .ok k/\k.d=x/\CN k=0:=by
 unfold CA;cases q:resD d with
 |error e=>exact .inl ⟨e,Dd q,rfl,rfl⟩
 |ok x=>
  right;by_cases h:chkD x=0
  ·right;obtain⟨cells,hc⟩:=JO h;refine⟨x,OH x cells,rfl,h,?_,rfl,?_⟩
   ·simp only[h,hc];rfl
   ·unfold CN NF;have:CA (OH x cells).d= .ok (OH x cells):=by
     show CA x=_;unfold CA;rw[RU h];simp only[h,hc];rfl
    rw[this];simp
  ·left;exact⟨x,rfl,h,Vv h⟩
def s0v(r:Fs):List Fs->AC->Prop×Fs:=λa _=>match a with
 |[]=>(True,r)
 |_=>(False,.tup [])
def q0v{fid:FuncId}{r:Fs}(h:Pur prog fid [] r):∀args H n,(s0v r args H).1->Ab prog fid args H n (s0v r args H).2:=by
 intro args H n hh;unfold s0v at hh⊢;split at hh
 ·exact h.quiet H n
 ·exact hh.elim
def few_kr{k:Knd}(h:FewKn k):FewKr k:=⟨h.d,h.ho,h.ce,h.nb,(by have:=h.ls;show k.ls.length<_;have:k.ls.length<_:=this;omega),h.lx⟩
def RV:FewKn knd0:=⟨⟨zd,zd,zd,λr hr=>(by cases hr),zd,zd,λr hr=>(by cases hr)⟩,zd,zd,⟨zd,λr hr=>(by cases hr)⟩,zd,λr hr=>(by cases hr)⟩
section
abbrev W:=BitVec 32
abbrev eW(x:W):Fs:=.int .u32 (x.toNat:Int)
abbrev eB(b:UInt8):Fs:=.int .u8 (b.toNat:Int)
abbrev eBy(l:List UInt8):Fs:=.sl (.none 1) (l.map eB)
variable {n:Nat}
theorem wu32(h:n<4294967296):IntKind.wrap .u32 (n:Int)=n:=by
 simp only[IntKind.wrap,IntKind.bits,IntKind.signed,Xn,W5,Wf];omega
theorem wu64(h:n<18446744073709551616):IntKind.wrap .u64 (n:Int)=n:=by
 simp only[IntKind.wrap,IntKind.bits,IntKind.signed,Xn,W5,Wf];omega
theorem ofI(x:W):BitVec.ofInt 32 (x.toNat:Int)=x:=by rw[Ym,BitVec.ofNat_toNat,BitVec.setWidth_eq]
theorem wW(x:W):IntKind.wrap .u32 (x.toNat:Int)=x.toNat:=wu32 x.isLt
section
variable (x y:W)
theorem De:IntKind.wrap .u32 ((x.toNat:Int)+(y.toNat:Int))=((x+y).toNat:Int):=by
 rw[BitVec.toNat_add,<-Int.natCast_add];simp only[IntKind.wrap,IntKind.bits,IntKind.signed,Xn,W5,Wf];omega
theorem JY:FT .xor .u32 (x.toNat:Int) (y.toNat:Int)=((x^^^y).toNat:Int):=by
 show IntKind.wrap .u32 ((BitVec.ofInt 32 _^^^BitVec.ofInt 32 _).toNat:Int)=_;rw[ofI,ofI,wW]
theorem Sw:FT .and .u32 (x.toNat:Int) (y.toNat:Int)=((x&&&y).toNat:Int):=by
 show IntKind.wrap .u32 ((BitVec.ofInt 32 _&&&BitVec.ofInt 32 _).toNat:Int)=_;rw[ofI,ofI,wW]
theorem Ou:FT .or .u32 (x.toNat:Int) (y.toNat:Int)=((x|||y).toNat:Int):=by
 show IntKind.wrap .u32 ((BitVec.ofInt 32 _|||BitVec.ofInt 32 _).toNat:Int)=_;rw[ofI,ofI,wW]
theorem ia_not:FT .xor .u32 (if IntKind.signed .u32 then -1 else IntKind.max .u32) (x.toNat:Int)=((~~~x).toNat:Int):=by
 show IntKind.wrap .u32 ((BitVec.ofInt 32 4294967295^^^BitVec.ofInt 32 _).toNat:Int)=_;rw[ofI,wW,show BitVec.ofInt 32 4294967295=BitVec.allOnes 32 by rfl,BitVec.allOnes_xor]
theorem JZ{n:Nat}(h:n<=32):CK .shr .u32 (x.toNat:Int) (n:Int)=((x>>>n).toNat:Int):=by
 show Int.fdiv (x.toNat:Int) (2^(min (n:Int).toNat 32))=_;rw[Vy,XR h,BitVec.toNat_ushiftRight,Nat.shiftRight_eq_div_pow];rw[Yn _ (by exact Int.pow_nonneg zd)];rw[Int.natCast_ediv];norm_cast
theorem Hr{n:Nat}(h:n<=32):CK .shl .u32 (x.toNat:Int) (n:Int)=((x<<<n).toNat:Int):=by
 show IntKind.wrap .u32 ((x.toNat:Int)*2^(min (n:Int).toNat 32))=_;rw[Vy,XR h,BitVec.toNat_shiftLeft,Nat.shiftLeft_eq];simp only[IntKind.wrap,IntKind.bits,IntKind.signed,Xn,W5,Wf]
 norm_cast
end
def rlW(x:W)(s:Nat):W:=x<<<s|||x>>>(32-s)
def EE(l:List UInt8):W:=l.foldl (λn c=>n<<<8|||BitVec.ofNat 32 c.toNat) 0
def rotW(v:W)(a b c:Nat):W:=rlW v (32-a)^^^rlW v (32-b)^^^rlW v (32-c)
def nextW(l:List W):W:=
 let t:=l.length
 let x:=l.getD (t-15) 0
 let y:=l.getD (t-2) 0
 l.getD (t-16) 0+(rlW x 25^^^rlW x 14^^^x>>>3)+l.getD (t-7) 0+(rlW y 15^^^rlW y 13^^^y>>>10)
def Ac(blk:List UInt8):Nat->List W
 |0=>[]
 |t+1=>Ac blk t++[if t<16 then EE ((blk.drop (4*t)).take 4)else nextW (Ac blk t)]
theorem EF(blk:List UInt8):∀t,(Ac blk t).length=t
 |0=>rfl
 |t+1=>by rw[Ac,V9,EF blk t];rfl
def kW:List W:=[0x428a2f98,0x71374491,0xb5c0fbcf,0xe9b5dba5,0x3956c25b,0x59f111f1,0x923f82a4,0xab1c5ed5,
 0xd807aa98,0x12835b01,0x243185be,0x550c7dc3,0x72be5d74,0x80deb1fe,0x9bdc06a7,0xc19bf174,
 0xe49b69c1,0xefbe4786,0x0fc19dc6,0x240ca1cc,0x2de92c6f,0x4a7484aa,0x5cb0a9dc,0x76f988da,
 0x983e5152,0xa831c66d,0xb00327c8,0xbf597fc7,0xc6e00bf3,0xd5a79147,0x06ca6351,0x14292967,
 0x27b70a85,0x2e1b2138,0x4d2c6dfc,0x53380d13,0x650a7354,0x766a0abb,0x81c2c92e,0x92722c85,
 0xa2bfe8a1,0xa81a664b,0xc24b8b70,0xc76c51a3,0xd192e819,0xd6990624,0xf40e3585,0x106aa070,
 0x19a4c116,0x1e376c08,0x2748774c,0x34b0bcb5,0x391c0cb3,0x4ed8aa4a,0x5b9cca4f,0x682e6ff3,
 0x748f82ee,0x78a5636f,0x84c87814,0x8cc70208,0x90befffa,0xa4506ceb,0xbef9a3f7,0xc67178f2]
structure W8 where
 a:W
 b:W
 c:W
 d:W
 e:W
 f:W
 g:W
 h:W
def W8.l(s:W8):List W:=[s.a,s.b,s.c,s.d,s.e,s.f,s.g,s.h]
def Ov(s:W8)(k w:W):W8:=
 let p:=s.h+rotW s.e 6 11 25+(s.g^^^s.e&&&(s.f^^^s.g))+k+w
 let q:=rotW s.a 2 13 22+(s.a&&&s.b|||s.c&&&(s.a|||s.b))
 ⟨p+q,s.a,s.b,s.c,s.d+p,s.e,s.f,s.g⟩
def Aq(s:W8)(ws:List W):Nat->W8
 |0=>s
 |t+1=>Ov (Aq s ws t) (kW.getD t 0) (ws.getD t 0)
def DW(s:W8)(blk:List UInt8):W8:=
 let v:=Aq s (Ac blk 64) 64
 ⟨s.a+v.a,s.b+v.b,s.c+v.c,s.d+v.d,s.e+v.e,s.f+v.f,s.g+v.g,s.h+v.h⟩
theorem ch_eq(e f g:W):(e&&&f)^^^(~~~e&&&g)=g^^^e&&&(f^^^g):=by
 ext i hi;simp only[BitVec.getElem_xor,BitVec.getElem_and,BitVec.getElem_not];cases e[i]<;>cases f[i]<;>cases g[i]<;>rfl
theorem maj_eq(a b c:W):(a&&&b)^^^(a&&&c)^^^(b&&&c)=a&&&b|||c&&&(a|||b):=by
 ext i hi;simp only[BitVec.getElem_xor,BitVec.getElem_and,BitVec.getElem_or];cases a[i]<;>cases b[i]<;>cases c[i]<;>rfl
theorem ror_eq(x:W)(h:n<=32):x>>>n|||x<<<(32-n)=rlW x (32-n):=by
 unfold rlW;rw[BitVec.or_comm,show 32-(32-n)=n by omega]
end
def rlN(k:Int):Nat:=(FT .and .u64 (IntKind.wrap .u64 k) 31).toNat
def rlN_lt(k:Int):rlN k<32/\FT .and .u64 (IntKind.wrap .u64 k) 31=(rlN k:Int):=by
 have h:FT .and .u64 (IntKind.wrap .u64 k) 31=(((BitVec.ofInt 64 (IntKind.wrap .u64 k))&&&31#64).toNat:Int):=by
  show IntKind.wrap .u64 ((BitVec.ofInt 64 _&&&BitVec.ofInt 64 31).toNat:Int)=_;rw[show BitVec.ofInt 64 31=31#64 by rfl];exact wu64 (BitVec.isLt _)
 have h2:((BitVec.ofInt 64 (IntKind.wrap .u64 k))&&&31#64).toNat<=31:=by
  rw[BitVec.toNat_and];exact Nat.and_le_right
 unfold rlN;rw[h];exact⟨zo,zo⟩
def isW(x:Int):Prop:=((BitVec.ofInt 32 x).toNat:Int)=x
def Ow(x:W):isW (x.toNat:Int)=True:=V1 (by unfold isW;rw[ofI])
def sRl:List Fs->AC->Prop×Fs:=λa _=>match a with
 |[.int .u32 x,.int .i64 k]=>(isW x,eW (rlW (BitVec.ofInt 32 x) (rlN k)))
 |_=>(False,.tup [])
def p208(x:W)(k:Int):Pur prog 208 [eW x,.int .i64 k] (eW (rlW x (rlN k))):=by
 refine .mk ⟨trivial,trivial,trivial⟩ trivial (c208.a (AE AI.tnil (AF ?_)));obtain⟨h1,h2⟩:=rlN_lt k;generalize rlN k=s at h1 h2;have e1:=Hr x (n:=s) zo;have e2:=JZ x (n:=32-s) zo;have w:IntKind.wrap .u64 (32-(s:Int))=((32-s:Nat):Int):=by rw[show(32:Int)-s=((32-s:Nat):Int)by omega];exact wu64 zo
 have e3:=Ou (x<<<s) (x>>>(32-s));simp only[eE,eN,seval,Wa,c208,h2,e1,w,e2,e3];rfl
def qRl:∀args H n,(sRl args H).1->Ab prog 208 args H n (sRl args H).2:=by
 intro args H n hh;unfold sRl at hh⊢;split at hh
 ·rename_i x k;have h:isW x:=hh;have:=(p208 (BitVec.ofInt 32 x) k).quiet H n;unfold eW at this;unfold isW at h;rw[h]at this;exact this
 ·exact hh.elim
section
def rot3(v:W)(a b c:Int):W:=rlW v (rlN (IntKind.wrap .i64 (0-a)))^^^rlW v (rlN (IntKind.wrap .i64 (0-b)))^^^rlW v (rlN (IntKind.wrap .i64 (0-c)))
def sRt:List Fs->AC->Prop×Fs:=λa _=>match a with
 |[.int .u32 x,.int .i64 a,.int .i64 b,.int .i64 c]=>(isW x,eW (rot3 (BitVec.ofInt 32 x) a b c))
 |_=>(False,.tup [])
def Trl:Tab:=tadd 208 sRl tnil
def Trl_ok:AI prog Trl:=AI.tnil.add qRl
def p209(v:W)(a b c:Int):Pur prog 209 [eW v,.int .i64 a,.int .i64 b,.int .i64 c] (eW (rot3 v a b c)):=by
 refine .mk ⟨trivial,trivial,trivial,trivial,trivial⟩ trivial (c209.a (AE Trl_ok (AF ?_)));simp only[eE,eN,seval,c209,Trl,sRl,Ow,ofI,JY,tadd];rfl
def qRt:∀args H n,(sRt args H).1->Ab prog 209 args H n (sRt args H).2:=by
 intro args H n hh;unfold sRt at hh⊢;split at hh
 ·rename_i x a b c;have h:isW x:=hh;have:=(p209 (BitVec.ofInt 32 x) a b c).quiet H n;unfold eW at this;unfold isW at h;rw[h]at this;exact this
 ·exact hh.elim
def Sx(b:UInt8):IntKind.wrap .u32 (b.toNat:Int)=((BitVec.ofNat 32 b.toNat).toNat:Int):=by
 have:=b.toNat_lt;rw[wu32 zo,XA,Xy zo]
variable {l:List Fs} {i k n:Nat}
theorem Ox{m:List UInt8}(h:i<m.length):EE (m.take (i+1))=EE (m.take i)<<<8|||BitVec.ofNat 32 m[i].toNat:=by
 unfold EE;rw[Vx,V2 h,List.foldl_append];rfl
theorem p207(l:List UInt8)(h:4<=l.length):Pur prog 207 [eBy l] (eW (EE (l.take 4))):=by
 refine .mk ⟨⟨trivial,AV (f:=eB) (λ_=>trivial) _⟩,trivial⟩ trivial (c207.a (AE AI.tnil (AF ?_)));have h4:((4:Int)<=(l.length:Int))=True:=V1 zo;simp only[eE,eN,seval,eY,c207,h4];generalize hm:l.take 4=m;have hml:m.length=4:=by rw[<-hm,W0];omega
 have hmm:List.take 4 (l.map eB)=m.map eB:=by rw[<-hm,XI]
 rw[hmm,V0,hml];refine AO (λi:Nat=>⟨[(2,true,eW (EE (m.take i))),(6,true,.sl (.none 1) (m.map eB)),(7,true,.int .i64 4),(8,true,.int .i64 i)],hnil,0⟩) (λi=>i<=4) (λi=>4-i) 0 rfl zd ?_;rintro i hi;by_cases c6:i<4
 ·have hl:i<m.length:=zo
  have hg:=V2 hl;have e:=AG (k:=i) zo;have n1:((i:Int)<4)=True:=V1 zo;have e1:CK .shl .u32 ((EE (m.take i)).toNat:Int) 8=((EE (m.take i)<<<8).toNat:Int):=Hr _ (n:=8) zd;have nx:=Ox hl;generalize m[i]=b at hg nx;simp only[eZ,seval,eY,n1,hml,hg,e,e1,Sx,Ou,show((4:Nat):Int)=4 from rfl];exact .mk (i+1) (by simp only[nx]) c6 zo
 ·obtain rfl:i=4:=zo
  have ht:m.take 4=m:=We zo;simp only[eZ,seval,show(((4:Nat):Int)<4)=False by decide,ht]
def putB(k n:Nat):List UInt8:=(List.range k).map λj=>UInt8.ofNat (n>>>(8*(k-1-j)))
def putL(k n i:Nat)(l:List Fs):List Fs:=l.take (k-i)++((putB k n).drop (k-i)).map eB
structure VPt where
 i:Nat
 H:AC
theorem BP(k n:Nat):(putB k n).length=k:=by unfold putB;rw[V0,Xd]
theorem RW(hl:l.length=k)(hi:i<k):(putL k n i l).set (k-1-i) (eB (UInt8.ofNat (n>>>(8*i))))=putL k n (i+1) l:=by
 unfold putL;have h1:k-i=(k-(i+1))+1:=zo
 have h2:k-1-i=k-(i+1):=zo
 rw[h2,h1];generalize hj:k-(i+1)=j;have hjk:j<k:=zo
 have hb:(putB k n)[j]'(by rw[BP];exact hjk)=UInt8.ofNat (n>>>(8*i)):=by
  unfold putB;rw[Yc,List.getElem_range];congr 3;omega
 rw[Vx,V2 zo,Wb,XB _ _ (by rw[W0];omega),W0];rw[show j-min j l.length=0 by omega,Wm (l:=putB k n) (i:=j) (by rw[BP];exact hjk),hb];rfl
theorem Hs{H:AC}{ob:Z7}(h:hget H i=some ob):hset H i ob=H:=by
 funext j;show(if i=j then some ob else H j)=H j;by_cases e:i=j
 ·rw[Vv e,<-e];exact h.symm
 ·rw[V5 e]
theorem T7{s:Nat}(h:s<=64):CK .shr .u64 (n:Int) (s:Int)=((n>>>s:Nat):Int):=by
 show Int.fdiv (n:Int) (2^(min (s:Int).toNat 64))=_;rw[Vy,XR h,Nat.shiftRight_eq_div_pow,Yn _ (by exact Int.pow_nonneg zd),Int.natCast_ediv];norm_cast
theorem Ja(n:Nat):IntKind.wrap .u8 (n:Int)=((UInt8.ofNat n).toNat:Int):=by
 simp only[IntKind.wrap,IntKind.bits,IntKind.signed,Xn,W5,Wf];rw[UInt8.toNat_ofNat'];norm_cast
theorem T8{A:List Fs}{off j:Nat}{v:Fs}(hl:l.length=k)(hj:j<k)(ho:off<=A.length):(A.take off++l++A.drop (off+k)).set (off+j) v=A.take off++l.set j v++A.drop (off+k):=by
 have h1:(A.take off).length=off:=by rw[W0];omega
 rw[Wb,XB _ _ zo,h1,show off+j-off=j by omega,List.set_append_left _ _ zo,Wb]
theorem T9(hl:l.length=k)(hi:i<=k):(putL k n i l).length=k:=by
 unfold putL;rw[V9,W0,V0,Wl,BP];omega
theorem UA{H:AC}{m id off cap:Nat}{A:List Fs}(n:Nat)(h:hget H id=some (.arr 1 A))(hk:off+k<=A.length)(hA:A.length<1000000000)(h8:k<=8)(hn:n<18446744073709551616):AN prog 172 [.ref id 1 off k cap,.int .u64 n] H m λo H' n'=>o= .ret (.tup [])/\n'=m/\H'=hset H id (.arr 1 (A.take off++(putB k n).map eB++A.drop (off+k))):=by
 refine c172.a (AE AI.tnil (AF ?_));simp only[eE,eN,seval,c172];have l9:((A.drop off).take k).length=k:=by rw[W0,Wl];omega
 refine AO (λi:Nat=>⟨[(0,true,.ref id 1 off k cap),(1,true,.int .u64 n),(6,true,.int .i64 k),(7,true,.int .i64 i)],hset H id (.arr 1 (A.take off++putL k n i ((A.drop off).take k)++A.drop (off+k))),m⟩) (λi=>i<=k) (λi=>k-i) 0 ?_ (V8 _) ?_
 ·have:A.take off++putL k n 0 ((A.drop off).take k)++A.drop (off+k)=A:=by
   unfold putL;rw[Nat.sub_zero,Xi (l:=putB k n) (by rw[BP];exact V4 k),Wh,W9,List.take_take,Nat.min_self,Wb];rw[show A.drop (off+k)=(A.drop off).drop k by rw[Y8],XT,XT]
  rw[this,Hs h];rfl
 rintro i hi;by_cases c6:i<k
 ·have e:=AG (k:=i) zo;have e1:IntKind.wrap .i64 ((k:Int)-1)=((k-1:Nat):Int):=by rw[Ae zo zo];omega
  have e2:IntKind.wrap .i64 (((k-1:Nat):Int)-(i:Int))=((k-1-i:Nat):Int):=by rw[Ae zo zo];omega
  have e3:IntKind.wrap .i64 (8*(i:Int))=((8*i:Nat):Int):=by rw[Ae zo zo];omega
  have e4:=T7 (n:=n) (s:=8*i) zo;have hj:k-1-i<k:=zo
  have hLn:=T9 (n:=n) l9 hi;have j8:(off+(k-1-i)<(A.take off++putL k n i ((A.drop off).take k)++A.drop (off+k)).length)=True:=V1 (by
   rw[V9,V9,hLn,W0];omega)
  have hset':=T8 (A:=A) (off:=off) (v:=eB (UInt8.ofNat (n>>>(8*i)))) hLn hj zo;rw[RW l9 c6]at hset';simp only[eZ,seval,eY,lt_T c6,e,e1,e2,e3,e4,Ja,lt_T hj,j8,AD];exact .mk (i+1) (by simp only[<-hset']) c6 zo
 ·obtain rfl:i=k:=zo
  have:putL i n i ((A.drop off).take i)=(putB i n).map eB:=by
   unfold putL;rw[Nat.sub_self,WZ,Wi,Xt]
  rw[this];simp only[eZ,seval,lt_F c6]
end
section
def deB:Fs->UInt8
 | .int _ n=>UInt8.ofNat n.toNat
 |_=>0
def DX(l:List UInt8):(l.map eB).map deB=l:=by
 rw[X2];have:deB∘eB=id:=by
  funext b;show UInt8.ofNat ((b.toNat:Int)).toNat=b;rw[Vy];exact UInt8.ofNat_toNat
 rw[this,Yg]
def sWd:List Fs->AC->Prop×Fs:=λa _=>match a with
 |[.sl (.none 1) L]=>(4<=L.length/\(L.map deB).map eB=L,eW (EE ((L.map deB).take 4)))
 |_=>(False,.tup [])
def qWd:∀args H n,(sWd args H).1->Ab prog 207 args H n (sWd args H).2:=by
 intro args H n hh;unfold sWd at hh⊢;split at hh
 ·rename_i L;obtain⟨h1,h2⟩:=hh;have:=(p207 (L.map deB) (by rw[V0];exact h1)).quiet H n;unfold eBy at this;rw[h2]at this;exact this
 ·exact hh.elim
def Tab1:Tab:=tadd 207 sWd (tadd 208 sRl (tadd 209 sRt tnil))
def UB:AI prog Tab1:=((AI.tnil.add qRt).add qRl).add qWd
section
variable (a:List Fs) (H:AC)
theorem Tab1_w:Tab1 207 a H=sWd a H:=rfl
theorem Tab1_l:Tab1 208 a H=sRl a H:=rfl
theorem Tab1_t:Tab1 209 a H=sRt a H:=rfl
end
def wBox(l:List UInt8)(t:Nat):List Fs:=(Ac l t++List.replicate (64-t) 0).map eW
variable {l:List UInt8} {t i:Nat}
theorem Eh(h:t<=64):(wBox l t).length=64:=by
 unfold wBox;rw[V0,V9,EF,Wj];omega
theorem GT{v:W}(h:t<64)(hv:Ac l (t+1)=Ac l t++[v]):splice (wBox l t) t [eW v]=wBox l (t+1):=by
 unfold splice wBox;have h1:(Ac l t).length=t:=EF l t;rw[hv,show 64-t=(64-(t+1))+1 by omega,Yo,Vt,Vt,Vt,W6,WK (by rw[V0,h1];exact V4 t),We (by rw[V0,h1];exact V4 t)];rw[show t+[eW v].length=t+1 from rfl,Yb,Xi (by rw[V0,h1];omega),V0,h1,show t+1-t=1 by omega,Wi];rfl
theorem It{j:Nat}(h:j<t)(ht:t<=64):(wBox l t)[j]?=some (eW ((Ac l t).getD j 0)):=by
 unfold wBox;have h1:(Ac l t).length=t:=EF l t;rw[W3,WI zo,V2 zo,WM,V2 zo];rfl
theorem hd1{L:List Fs}{j:Nat}{x d:Fs}(h:L[j]?=some x):(List.take 1 (L.drop j)).headD d=x:=by
 obtain⟨h1,h2⟩:=WN.1 h;rw[Wm h1,h2];rfl
theorem rl_7:rlN (-7)=25:=by kernel_rfl
theorem rl_18:rlN (-18)=14:=by kernel_rfl
theorem rl_17:rlN (-17)=15:=by kernel_rfl
theorem rl_19:rlN (-19)=13:=by kernel_rfl
theorem sh_3(x:W):CK .shr .u32 (x.toNat:Int) 3=((x>>>3).toNat:Int):=JZ x (n:=3) zd
theorem sh_10(x:W):CK .shr .u32 (x.toNat:Int) 10=((x>>>10).toNat:Int):=JZ x (n:=10) zd
theorem Ht(h:¬i<16):Ac l (i+1)=Ac l i++[(Ac l i).getD (i-16) 0+(rlW ((Ac l i).getD (i-15) 0) 25^^^rlW ((Ac l i).getD (i-15) 0) 14^^^(Ac l i).getD (i-15) 0>>>3)+(Ac l i).getD (i-7) 0+(rlW ((Ac l i).getD (i-2) 0) 15^^^rlW ((Ac l i).getD (i-2) 0) 13^^^(Ac l i).getD (i-2) 0>>>10)]:=by
 rw[Ac,V5 h];unfold nextW;simp only[EF]
theorem rot_a(v:W):rot3 v 6 11 25=rotW v 6 11 25:=by
 unfold rot3 rotW;rw[show rlN (IntKind.wrap .i64 (0-6))=32-6 by kernel_rfl,show rlN (IntKind.wrap .i64 (0-11))=32-11 by kernel_rfl,show rlN (IntKind.wrap .i64 (0-25))=32-25 by kernel_rfl]
theorem rot_b(v:W):rot3 v 2 13 22=rotW v 2 13 22:=by
 unfold rot3 rotW;rw[show rlN (IntKind.wrap .i64 (0-2))=32-2 by kernel_rfl,show rlN (IntKind.wrap .i64 (0-13))=32-13 by kernel_rfl,show rlN (IntKind.wrap .i64 (0-22))=32-22 by kernel_rfl]
theorem kL_eq:[Fs.int .u32 1116352408,Fs.int .u32 1899447441,Fs.int .u32 3049323471,Fs.int .u32 3921009573,Fs.int .u32 961987163,Fs.int .u32 1508970993,Fs.int .u32 2453635748,Fs.int .u32 2870763221,Fs.int .u32 3624381080,Fs.int .u32 310598401,Fs.int .u32 607225278,Fs.int .u32 1426881987,Fs.int .u32 1925078388,Fs.int .u32 2162078206,Fs.int .u32 2614888103,Fs.int .u32 3248222580,Fs.int .u32 3835390401,Fs.int .u32 4022224774,Fs.int .u32 264347078,Fs.int .u32 604807628,Fs.int .u32 770255983,Fs.int .u32 1249150122,Fs.int .u32 1555081692,Fs.int .u32 1996064986,Fs.int .u32 2554220882,Fs.int .u32 2821834349,Fs.int .u32 2952996808,Fs.int .u32 3210313671,Fs.int .u32 3336571891,Fs.int .u32 3584528711,Fs.int .u32 113926993,Fs.int .u32 338241895,Fs.int .u32 666307205,Fs.int .u32 773529912,Fs.int .u32 1294757372,Fs.int .u32 1396182291,Fs.int .u32 1695183700,Fs.int .u32 1986661051,Fs.int .u32 2177026350,Fs.int .u32 2456956037,Fs.int .u32 2730485921,Fs.int .u32 2820302411,Fs.int .u32 3259730800,Fs.int .u32 3345764771,Fs.int .u32 3516065817,Fs.int .u32 3600352804,Fs.int .u32 4094571909,Fs.int .u32 275423344,Fs.int .u32 430227734,Fs.int .u32 506948616,Fs.int .u32 659060556,Fs.int .u32 883997877,Fs.int .u32 958139571,Fs.int .u32 1322822218,Fs.int .u32 1537002063,Fs.int .u32 1747873779,Fs.int .u32 1955562222,Fs.int .u32 2024104815,Fs.int .u32 2227730452,Fs.int .u32 2361852424,Fs.int .u32 2428436474,Fs.int .u32 2756734187,Fs.int .u32 3204031479,Fs.int .u32 3329325298]=kW.map eW:=by kernel_rfl
theorem kL_at(h:i<64):(List.take 1 (List.drop i [Fs.int .u32 1116352408,Fs.int .u32 1899447441,Fs.int .u32 3049323471,Fs.int .u32 3921009573,Fs.int .u32 961987163,Fs.int .u32 1508970993,Fs.int .u32 2453635748,Fs.int .u32 2870763221,Fs.int .u32 3624381080,Fs.int .u32 310598401,Fs.int .u32 607225278,Fs.int .u32 1426881987,Fs.int .u32 1925078388,Fs.int .u32 2162078206,Fs.int .u32 2614888103,Fs.int .u32 3248222580,Fs.int .u32 3835390401,Fs.int .u32 4022224774,Fs.int .u32 264347078,Fs.int .u32 604807628,Fs.int .u32 770255983,Fs.int .u32 1249150122,Fs.int .u32 1555081692,Fs.int .u32 1996064986,Fs.int .u32 2554220882,Fs.int .u32 2821834349,Fs.int .u32 2952996808,Fs.int .u32 3210313671,Fs.int .u32 3336571891,Fs.int .u32 3584528711,Fs.int .u32 113926993,Fs.int .u32 338241895,Fs.int .u32 666307205,Fs.int .u32 773529912,Fs.int .u32 1294757372,Fs.int .u32 1396182291,Fs.int .u32 1695183700,Fs.int .u32 1986661051,Fs.int .u32 2177026350,Fs.int .u32 2456956037,Fs.int .u32 2730485921,Fs.int .u32 2820302411,Fs.int .u32 3259730800,Fs.int .u32 3345764771,Fs.int .u32 3516065817,Fs.int .u32 3600352804,Fs.int .u32 4094571909,Fs.int .u32 275423344,Fs.int .u32 430227734,Fs.int .u32 506948616,Fs.int .u32 659060556,Fs.int .u32 883997877,Fs.int .u32 958139571,Fs.int .u32 1322822218,Fs.int .u32 1537002063,Fs.int .u32 1747873779,Fs.int .u32 1955562222,Fs.int .u32 2024104815,Fs.int .u32 2227730452,Fs.int .u32 2361852424,Fs.int .u32 2428436474,Fs.int .u32 2756734187,Fs.int .u32 3204031479,Fs.int .u32 3329325298])).headD (.tup [])=eW (kW.getD i 0):=by
 have hl:kW.length=64:=rfl;rw[kL_eq];refine hd1 ?_;rw[W3,WM,V2 zo];rfl
theorem kL_len(h:i<64):(1<=(List.drop i [Fs.int .u32 1116352408,Fs.int .u32 1899447441,Fs.int .u32 3049323471,Fs.int .u32 3921009573,Fs.int .u32 961987163,Fs.int .u32 1508970993,Fs.int .u32 2453635748,Fs.int .u32 2870763221,Fs.int .u32 3624381080,Fs.int .u32 310598401,Fs.int .u32 607225278,Fs.int .u32 1426881987,Fs.int .u32 1925078388,Fs.int .u32 2162078206,Fs.int .u32 2614888103,Fs.int .u32 3248222580,Fs.int .u32 3835390401,Fs.int .u32 4022224774,Fs.int .u32 264347078,Fs.int .u32 604807628,Fs.int .u32 770255983,Fs.int .u32 1249150122,Fs.int .u32 1555081692,Fs.int .u32 1996064986,Fs.int .u32 2554220882,Fs.int .u32 2821834349,Fs.int .u32 2952996808,Fs.int .u32 3210313671,Fs.int .u32 3336571891,Fs.int .u32 3584528711,Fs.int .u32 113926993,Fs.int .u32 338241895,Fs.int .u32 666307205,Fs.int .u32 773529912,Fs.int .u32 1294757372,Fs.int .u32 1396182291,Fs.int .u32 1695183700,Fs.int .u32 1986661051,Fs.int .u32 2177026350,Fs.int .u32 2456956037,Fs.int .u32 2730485921,Fs.int .u32 2820302411,Fs.int .u32 3259730800,Fs.int .u32 3345764771,Fs.int .u32 3516065817,Fs.int .u32 3600352804,Fs.int .u32 4094571909,Fs.int .u32 275423344,Fs.int .u32 430227734,Fs.int .u32 506948616,Fs.int .u32 659060556,Fs.int .u32 883997877,Fs.int .u32 958139571,Fs.int .u32 1322822218,Fs.int .u32 1537002063,Fs.int .u32 1747873779,Fs.int .u32 1955562222,Fs.int .u32 2024104815,Fs.int .u32 2227730452,Fs.int .u32 2361852424,Fs.int .u32 2428436474,Fs.int .u32 2756734187,Fs.int .u32 3204031479,Fs.int .u32 3329325298]).length)=True:=V1 (by rw[Wl];show 1<=64-i;omega)
def sumL(s v:W8)(i:Nat):List Fs:=[eW (if 0<i then s.a+v.a else s.a),eW (if 1<i then s.b+v.b else s.b),eW (if 2<i then s.c+v.c else s.c),eW (if 3<i then s.d+v.d else s.d),eW (if 4<i then s.e+v.e else s.e),eW (if 5<i then s.f+v.f else s.f),eW (if 6<i then s.g+v.g else s.g),eW (if 7<i then s.h+v.h else s.h)]
theorem Oy{H:AC}{m p:Nat}(s:W8)(l:List UInt8)(hl:l.length=64)(hp:hget H p=some (.box (s.l.map eW)))(hm:p<m)(hf:AR H m):AN prog 171 [.ptr p 0,eBy l] H m λo H' n'=>o= .ret (.tup [])/\(∃X Y,H'=hset (hset (hset H m (.box X)) (m+4) (.box Y)) p (.box ((DW s l).l.map eW)))/\n'=m+6:=by
 refine c171.a (AE UB (AF ?_));have f0:hget H m=none:=hf m (V4 _);simp only[eE,eN,reduceCtorEq,Nat.reduceEqDiff,↓reduceIte,Nat.reduceAdd,c171,f0];have hne:m≠p:=zo
 refine AO (λi:Nat=>⟨[(0,true,.ptr p 0),(1,true,eBy l),(4,true,.ptr m 0),(14,true,.int .i64 i)],hset H m (.box (wBox l i)),m+1⟩) (λi=>i<=16) (λi=>16-i) 0 rfl (V8 _) ?_;rintro i hi;by_cases c6:i<16
 ·have n1:((i:Int)<16)=True:=V1 zo;have n2:((i:Int)<64)=True:=V1 zo;have e:=AG (k:=i) zo;have e4:IntKind.wrap .i64 (4*(i:Int))=((4*i:Nat):Int):=by rw[Ae zo zo];omega
  have b1:(((4*i:Nat):Int)<=(l.length:Int))=True:=V1 zo;have hsl:((l.map eB).take l.length).drop (4*i)=(l.drop (4*i)).map eB:=by rw[<-XI,Vw,List.map_drop]
  have b2:(4<=(l.drop (4*i)).length)=True:=V1 (by rw[Wl];omega);have hd:=DX (l.drop (4*i));have hn:Ac l (i+1)=Ac l i++[EE ((l.drop (4*i)).take 4)]:=by rw[Ac,Vv c6]
  have hp1:(wBox l i).take i++[eW (EE ((l.drop (4*i)).take 4))]++(wBox l i).drop (i+1)=wBox l (i+1):=GT (l:=l) (t:=i) zo hn;have hln:=Eh (l:=l) (t:=i) zo;have b3:(i+1<=64)=True:=V1 zo;have b4:(i<=63)=True:=V1 zo;simp only[eZ,reduceCtorEq,Nat.reduceEqDiff,↓reduceIte,Int.reduceEq,eY,n1,n2,e,e4,b1,hsl,b2,hd,Tab1_w,sWd,hln,b3,AD,show((64:Nat):Int)=64 from rfl,XC];exact .mk (i+1) (by simp only[hp1]) c6 zo
 obtain rfl:i=16:=zo
 simp only[eZ,reduceCtorEq,Nat.reduceEqDiff,↓reduceIte,show(((16:Nat):Int)<16)=False by decide];clear hi c6;refine AO (λi:Nat=>⟨[(0,true,.ptr p 0),(4,true,.ptr m 0),(6,true,.int .i64 i)],hset H m (.box (wBox l i)),m+1⟩) (λi=>16<=i/\i<=64) (λi=>64-i) 16 rfl zd ?_;rintro i ⟨h16,hi⟩;by_cases c6:i<64
 ·have n2:((i:Int)<64)=True:=V1 zo;have e:=AG (k:=i) zo;have s15:IntKind.wrap .i64 ((i:Int)-15)=((i-15:Nat):Int):=by rw[Ae zo zo];omega
  have s2':IntKind.wrap .i64 ((i:Int)-2)=((i-2:Nat):Int):=by rw[Ae zo zo];omega
  have s16:IntKind.wrap .i64 ((i:Int)-16)=((i-16:Nat):Int):=by rw[Ae zo zo];omega
  have s7:IntKind.wrap .i64 ((i:Int)-7)=((i-7:Nat):Int):=by rw[Ae zo zo];omega
  have hln:=Eh (l:=l) (t:=i) zo;have bd:∀k,(((i-k:Nat):Int)<64)=True:=λk=>V1 zo
  have bn:∀k,(i-k+1<=64)=True:=λk=>V1 zo
  have bm:∀k,(i-k<=63)=True:=λk=>V1 zo
  have q:∀k,0<k->k<=16->(List.take 1 ((wBox l i).drop (i-k))).headD (.tup [])=eW ((Ac l i).getD (i-k) 0):=λk h1 h2=>hd1 (It zo zo)
  have q15:=q 15 zd zd;have q2:=q 2 zd zd;have q16:=q 16 zd zd;have q7:=q 7 zd zd;have hn:=Ht (l:=l) (i:=i) zo;have hp1:=GT (l:=l) (t:=i) c6 hn;simp only[splice,Vz,Wq,Wr]at hp1;simp only[eZ,reduceCtorEq,Nat.reduceEqDiff,↓reduceIte,Nat.reduceLeDiff,Int.reduceEq,Int.reduceLE,eY,n2,e,s15,s2',s16,s7,bd,bn,Tab1_l,sRl,Ow,ofI,hln,AD,show((64:Nat):Int)=64 from rfl,XC,q15,q2,q16,q7,rl_7,rl_18,rl_17,rl_19,sh_3,sh_10,JY,De];exact⟨zo,.mk (i+1) (by simp only[<-hp1]) ⟨zo,c6⟩ zo⟩
 obtain rfl:i=64:=zo
 clear c6 hi h16;have g1:hget (hset H m (.box (wBox l 64))) p=some (.box (s.l.map eW)):=by rw[AA _ _ _ _ hne];exact hp
 have g2:∀k,hget (hset H m (.box (wBox l 64))) (m+1+k)=none:=λk=>by rw[AA _ _ _ _ zo];exact hf _ zo
 simp only[eZ,reduceCtorEq,Nat.reduceEqDiff,↓reduceIte,Nat.reduceAdd,show(((64:Nat):Int)<64)=False by decide,g1,hf (m+4) zo,W8.l,AD];refine AO (λi:Nat=>⟨[(0,true,.ptr p 0),(4,true,.ptr m 0),(9,true,.ptr (m+4) 0),(69,true,.int .i64 i)],hset (hset H m (.box (wBox l 64))) (m+4) (.box ((Aq s (Ac l 64) i).l.map eW)),m+6⟩) (λi=>i<=64) (λi=>64-i) 0 rfl zd ?_;rintro i hi;by_cases c6:i<64
 ·have n2:((i:Int)<64)=True:=V1 zo;have e:=AG (k:=i) zo;have w1:hget (hset (hset H m (.box (wBox l 64))) (m+4) (.box ((Aq s (Ac l 64) i).l.map eW))) m=some (.box (wBox l 64)):=by rw[AA _ _ _ _ zo];exact AB ..
  have hln:=Eh (l:=l) (t:=64) (V4 _);have q1:(List.take 1 ((wBox l 64).drop i)).headD (.tup [])=eW ((Ac l 64).getD i 0):=hd1 (It zo (V4 _));have b4:(i<=63)=True:=V1 zo;have k1:=kL_at c6;have k2:=kL_len c6;have nx:Aq s (Ac l 64) (i+1)=Ov (Aq s (Ac l 64) i) (kW.getD i 0) ((Ac l 64).getD i 0):=rfl;generalize Aq s (Ac l 64) i=r at w1 nx;simp only[W8.l,W6,Wh]at w1;simp only[eZ,reduceCtorEq,Nat.reduceEqDiff,↓reduceIte,Nat.reduceAdd,Nat.reduceLeDiff,Int.reduceEq,Int.reduceLE,Int.reduceLT,Int.reduceToNat,Nat.reduceSub,xE,eY,n2,e,w1,hln,q1,b4,k1,k2,AD,XC,W8.l,Tab1_t,sRt,Ow,ofI,rot_a,rot_b,JY,De,Sw,Ou,cpbE,isIn,Nat.min_self,show((8:Nat):Int)=8 from rfl,show((64:Nat):Int)=64 from rfl,Xr,List.all_nil,Bool.and_self];exact .mk (i+1) (by simp only[nx];rfl) c6 zo
 obtain rfl:i=64:=zo
 clear c6 hi;have hq:Aq s (Ac l 64) 64=Aq s (Ac l 64) 64:=rfl;have ha:DW s l=⟨s.a+(Aq s (Ac l 64) 64).a,s.b+(Aq s (Ac l 64) 64).b,s.c+(Aq s (Ac l 64) 64).c,s.d+(Aq s (Ac l 64) 64).d,s.e+(Aq s (Ac l 64) 64).e,s.f+(Aq s (Ac l 64) 64).f,s.g+(Aq s (Ac l 64) 64).g,s.h+(Aq s (Ac l 64) 64).h⟩:=rfl;rw[ha];clear hq ha;generalize Aq s (Ac l 64) 64=v;generalize hB:hset (hset H m (.box (wBox l 64))) (m+4) (.box (v.l.map eW))=B;have b1:hget B p=some (.box (s.l.map eW)):=by rw[<-hB,AA _ _ _ _ zo];exact g1
 have b2:hget B (m+4)=some (.box (v.l.map eW)):=by rw[<-hB];exact AB ..
 simp only[eZ,reduceCtorEq,Nat.reduceEqDiff,↓reduceIte,show(((64:Nat):Int)<64)=False by decide];refine AO (λi:Nat=>⟨[(0,true,.ptr p 0),(9,true,.ptr (m+4) 0),(129,true,.int .i64 i)],hset B p (.box (sumL s v i)),m+6⟩) (λi=>i<=8) (λi=>8-i) 0 (by
  rw[show sumL s v 0=s.l.map eW from rfl,Hs b1];rfl) zd ?_
 rintro i hi;have b3:∀X,hget (hset B p (.box X)) (m+4)=some (.box (v.l.map eW)):=λX=>by rw[AA _ _ _ _ zo];exact b2
 simp only[W8.l,W6,Wh]at b3;rcases(by omega:i=0\/i=1\/i=2\/i=3\/i=4\/i=5\/i=6\/i=7\/i=8)with rfl|rfl|rfl|rfl|rfl|rfl|rfl|rfl|rfl
 ·simp only[eZ,reduceCtorEq,Nat.reduceEqDiff,↓reduceIte,Nat.reduceAdd,Nat.reduceLeDiff,Nat.reduceMul,Nat.reduceLT,Int.reduceEq,Int.reduceLT,eY,b3,sumL,AD,De,show((8:Nat):Int)=8 from rfl,show((0:Nat):Int)=0 from rfl,show IntKind.wrap .i64 (0+1)=1 by kernel_rfl];exact .mk 1 rfl zd zd
 ·simp only[eZ,reduceCtorEq,Nat.reduceEqDiff,↓reduceIte,Nat.reduceAdd,Nat.reduceLeDiff,Nat.reduceMul,Nat.reduceLT,Int.reduceEq,Int.reduceLE,Int.reduceLT,Int.toNat_one,b3,sumL,AD,De,show((8:Nat):Int)=8 from rfl,show((1:Nat):Int)=1 from rfl,show IntKind.wrap .i64 (1+1)=2 by kernel_rfl];exact .mk 2 rfl zd zd
 ·simp only[eZ,reduceCtorEq,Nat.reduceEqDiff,↓reduceIte,Nat.reduceAdd,Nat.reduceLeDiff,Nat.reduceMul,Nat.reduceLT,Int.reduceEq,Int.reduceLE,Int.reduceLT,Int.reduceToNat,b3,sumL,AD,De,show((8:Nat):Int)=8 from rfl,show((2:Nat):Int)=2 from rfl,show IntKind.wrap .i64 (2+1)=3 by kernel_rfl];exact .mk 3 rfl zd zd
 ·simp only[eZ,reduceCtorEq,Nat.reduceEqDiff,↓reduceIte,Nat.reduceAdd,Nat.reduceLeDiff,Nat.reduceMul,Nat.reduceLT,Int.reduceEq,Int.reduceLE,Int.reduceLT,Int.reduceToNat,b3,sumL,AD,De,show((8:Nat):Int)=8 from rfl,show((3:Nat):Int)=3 from rfl,show IntKind.wrap .i64 (3+1)=4 by kernel_rfl];exact .mk 4 rfl zd zd
 ·simp only[eZ,reduceCtorEq,Nat.reduceEqDiff,↓reduceIte,Nat.reduceAdd,Nat.reduceLeDiff,Nat.reduceMul,Nat.reduceLT,Int.reduceEq,Int.reduceLE,Int.reduceLT,Int.reduceToNat,b3,sumL,AD,De,show((8:Nat):Int)=8 from rfl,show((4:Nat):Int)=4 from rfl,show IntKind.wrap .i64 (4+1)=5 by kernel_rfl];exact .mk 5 rfl zd zd
 ·simp only[eZ,reduceCtorEq,Nat.reduceEqDiff,↓reduceIte,Nat.reduceAdd,Nat.reduceLeDiff,Nat.reduceMul,Nat.reduceLT,Int.reduceEq,Int.reduceLE,Int.reduceLT,Int.reduceToNat,b3,sumL,AD,De,show((8:Nat):Int)=8 from rfl,show((5:Nat):Int)=5 from rfl,show IntKind.wrap .i64 (5+1)=6 by kernel_rfl];exact .mk 6 rfl zd zd
 ·simp only[eZ,reduceCtorEq,Nat.reduceEqDiff,↓reduceIte,Nat.reduceAdd,Nat.reduceLeDiff,Nat.reduceMul,Nat.reduceLT,Int.reduceEq,Int.reduceLE,Int.reduceLT,Int.reduceToNat,b3,sumL,AD,De,show((8:Nat):Int)=8 from rfl,show((6:Nat):Int)=6 from rfl,show IntKind.wrap .i64 (6+1)=7 by kernel_rfl];exact .mk 7 rfl zd zd
 ·simp only[eZ,reduceCtorEq,Nat.reduceEqDiff,↓reduceIte,Nat.reduceAdd,Nat.reduceMul,Nat.reduceLT,Int.reduceEq,Int.reduceLE,Int.reduceLT,Int.reduceToNat,b3,sumL,AD,De,show((8:Nat):Int)=8 from rfl,show((7:Nat):Int)=7 from rfl,show IntKind.wrap .i64 (7+1)=8 by kernel_rfl];exact .mk 8 rfl zd zd
 ·simp only[eZ,reduceCtorEq,Nat.reduceEqDiff,↓reduceIte,Int.reduceLT,show((8:Nat):Int)=8 from rfl];exact⟨wBox l 64,v.l.map eW,by rw[hB];rfl⟩
theorem L9{H:AC}{m p:Nat}(s:W8)(l:List UInt8)(hl:l.length=64)(hp:hget H p=some (.box (s.l.map eW))):AN prog 171 [.ptr p 0,eBy l] H m λo H' n'=>o= .ret (.tup [])/\H'=hset H p (.box ((DW s l).l.map eW))/\n'=m:=by
 refine AN.fresh c171.l λhf=>?_
 refine AN.forget (Oy s l hl hp (hf.lt hp) hf) ?_;rintro o H' n' ⟨rfl,⟨X,Y,rfl⟩,rfl⟩;refine⟨.ret (.tup []),_,⟨rfl,rfl,rfl⟩,?_,Wk.refl _,trivial⟩;refine⟨λid ob ho=>?_,λid d7=>?_⟩
 ·rw[AJ]at ho;by_cases e:p=id
  ·subst e;rw[Vv rfl]at ho;cases ho;exact⟨hf.lt hp,⟨_,AB ..,OWk.refl _⟩,.inl (AV (f:=eW) (λ_=>trivial) _)⟩
  ·rw[V5 e]at ho;have:=hf.lt ho;exact⟨this,⟨ob,by rw[AA _ _ _ _ e,AA _ _ _ _ zo,AA _ _ _ _ zo];exact ho,OWk.refl _⟩,.inr ho⟩
 ·rw[AJ];split
  ·exact λh=>by cases h
  ·exact d7
end
section
def absF:Nat->W8->List UInt8->W8
 |0,s,_=>s
 |n+1,s,l=>absF n (DW s (l.take 64)) (l.drop 64)
theorem FN:∀(n:Nat) (s:W8) (l:List UInt8),absF (n+1) s l=DW (absF n s l) ((l.drop (64*n)).take 64)
 |0,s,l=>rfl
 |n+1,s,l=>by
  rw[absF,FN n,absF,Y8,show 64+64*n=64*(n+1)by omega]
def DO:W8:=⟨0x6a09e667,0xbb67ae85,0x3c6ef372,0xa54ff53a,0x510e527f,0x9b05688c,0x1f83d9ab,0x5be0cd19⟩
def padN(r:List UInt8):Nat:=if 55<r.length then 128 else 64
def padE(r:List UInt8)(n:Nat):List UInt8:=r++128::List.replicate (padN r-r.length-9) 0++putB 8 (8*n % 18446744073709551616)
def sumW(b:List UInt8):W8:=
 let k:=b.length/64
 let r:=b.drop (64*k)
 absF (padN r/64) (absF k DO b) (padE r b.length)
def digB(s:W8):List UInt8:=s.l.flatMap λw=>putB 4 w.toNat
abbrev eDg(l:List UInt8):Fs:=.agg (l.map eB)
def MA:DO.l.map eW=[Fs.int .u32 1779033703,.int .u32 3144134277,.int .u32 1013904242,.int .u32 2773480762,.int .u32 1359893119,.int .u32 2600822924,.int .u32 528734635,.int .u32 1541459225]:=by kernel_rfl
def Sy{r:List UInt8}{n N:Nat}(h:r.length<64)(h1:r.length+9<=N)(h2:N<=128):List.take N ((r.map eB++eB 128::List.replicate (127-r.length) (eB 0)).take (N-8)++(putB 8 n).map eB++(r.map eB++eB 128::List.replicate (127-r.length) (eB 0)).drop (N-8+8))=(r++128::List.replicate (N-r.length-9) 0++putB 8 n).map eB:=by
 have hl:(r.map eB++eB 128::List.replicate (127-r.length) (eB 0)).take (N-8)=(r++128::List.replicate (N-r.length-9) 0).map eB:=by
  rw[List.take_append,We (by rw[V0];omega),V0,show N-8-r.length=(N-r.length-9)+1 by omega,List.take_succ_cons,List.take_replicate,XR zo,Vt,W6,XO]
 have hn:((r++128::List.replicate (N-r.length-9) (0:UInt8)).map eB).length=N-8:=by
  rw[V0,V9,Vz,Wj];omega
 rw[hl,WK (by rw[V9,hn,V0,BP];omega),We (by rw[V9,hn,V0,BP];omega),<-Vt]
def EG(l:List W):List UInt8:=l.flatMap λw=>putB 4 w.toNat
theorem Df:∀l:List W,(EG l).length=4*l.length
 |[]=>rfl
 |w::l=>by
  show(putB 4 w.toNat++EG l).length=_;rw[V9,BP,Df l,Vz];omega
def outL(s:W8)(Z:List Fs)(i:Nat):List Fs:=(EG (s.l.take i)).map eB++Z.drop (4*i)
variable {Z:List Fs} {i:Nat} {s:W8}
theorem RX(hz:Z.length=32)(hi:i<=8):(outL s Z i).length=32:=by
 unfold outL;rw[V9,V0,Df,W0,Wl,hz,show s.l.length=8 from rfl];omega
theorem RY(hz:Z.length=32)(hi:i<8):(outL s Z i).take (4*i)++(putB 4 (s.l.getD i 0).toNat).map eB++(outL s Z i).drop (4*i+4)=outL s Z (i+1):=by
 have h1:((EG (s.l.take i)).map eB).length=4*i:=by
  rw[V0,Df,W0,show s.l.length=8 from rfl];omega
 have h2:s.l.take (i+1)=s.l.take i++[s.l.getD i 0]:=by
  rw[Vx,WM,V2 (show i<s.l.length from hi)];rfl
 have h3:EG (s.l.take (i+1))=EG (s.l.take i)++putB 4 (s.l.getD i 0).toNat:=by
  rw[h2];unfold EG;rw[XK,List.flatMap_singleton]
 unfold outL;rw[WK zo,We zo,Yb,Xi zo,h1,Wi,Y8,h3,Vt,show 4*i+(4*i+4-4*i)=4*(i+1)by omega]
theorem UC(hz:Z.all isIn=true):(outL s Z i).all isIn=true:=by
 unfold outL;rw[W4]at hz⊢;intro x hx;rcases WH.1 hx with h|h
 ·obtain⟨b,_,rfl⟩:=WL.1 h;rfl
 ·exact hz x (Y2 h)
theorem MB(hz:Z.length=32):outL s Z 8=(digB s).map eB:=by
 unfold outL;rw[Xi zo,W9];rfl
theorem Oz(s:W8)(Z:List Fs)(zl:Z.length=32)(zi:Z.all isIn=true)(B C:Z7):evK prog tnil
   (sq (sq (rg [ov 55 (Z1.icmp BinOp.lss IntKind.i64 (tm 54) (ci 8))] [2,53,54,55]) (Yw.frz 2))
     (sq (Yw.cond (tm 55) Yw.skip (Yw.exit 4))
      (sq
       (Yw.block 5
        (sq (rg [om 56 54,ov 57 (Z1.ixA 8 1 false (tm 53) (tm 54)),om 7 56,om 8 57] [2,7,8,53,54])
         (rg
          [om 58 7,ov 59 (Z1.arith BinOp.mul IntKind.i64 (ci 4) (tm 58)),om 60 7,
           ov 61 (Z1.arith BinOp.mul IntKind.i64 (ci 4) (tm 60)),
           ov 62 (Z1.arith BinOp.add IntKind.i64 (tm 61) (ci 4)),
           {dst:=some 63,guard:=none,k:=Io.slA 32 (tm 2) (some (tm 59)) (some (tm 62))},om 64 8,
           ov 65 (Z1.conv IntKind.u64 (tm 64)),oe 66 172 [tm 63,tm 65]]
          [2,53,54])))
       (rg [ov 67 (Z1.arith BinOp.add IntKind.i64 (tm 54) (ci 1)),om 54 67] [2,53,54])))).loop
   [Item.blk 4,
    Item.c
     (sq (rg [ov 68 (Z1.ld 32 true (tm 2)),{dst:=none,guard:=none,k:=Io.st 32 (tm 2) (tm 68)}] [2])
      Yw.ret)]
   (Cd [RC.c 2 32 true] (Ret (eDg (digB s))))
   ⟨[(2,true,Fs.ptr 0 0),(53,true,Fs.agg (s.l.map eW)),(54,true,Fs.int IntKind.i64 0)],hset (hset (hset hnil 0 (.box Z)) 2 B) 4 C,6⟩:=by
 rw[FP _ 0 2 _ _ zd,FP _ 0 4 _ _ zd];generalize hset (hset hnil 2 B) 4 C=H;refine AO (λp:Nat×Z7=>⟨[(2,true,Fs.ptr 0 0),(53,true,Fs.agg (s.l.map eW)),(54,true,Fs.int IntKind.i64 p.1)],hset H 0 p.2,6⟩) (λp=>p.1<=8/\(p.2= .box (outL s Z p.1)\/p.2= .arr 1 (outL s Z p.1))) (λp=>8-p.1) (0,.box (outL s Z 0)) rfl ⟨V8 _,.inl rfl⟩ ?_;rintro⟨i,ob⟩ ⟨hi,he⟩;replace hi:i<=8:=hi;have hol:=RX (s:=s) zl hi;have hoi:=UC (s:=s) (i:=i) zi;simp only at he;by_cases c6:i<8
 ·have n1:((i:Int)<8)=True:=V1 zo;have e:=AG (k:=i) zo;have e4:IntKind.wrap .i64 (4*(i:Int))=((4*i:Nat):Int):=by rw[Ae zo zo];omega
  have e5:IntKind.wrap .i64 (((4*i:Nat):Int)+4)=((4*i+4:Nat):Int):=by rw[Ae zo zo];omega
  have b3:(i+1<=8)=True:=V1 zo;have b4:(i<=7)=True:=V1 zo;have q:(List.take 1 ((s.l.map eW).drop i)).headD (.tup [])=eW (s.l.getD i 0):=hd1 (by
   rw[W3,WM,V2 (show i<s.l.length from c6)];rfl)
  have cw:IntKind.wrap .u64 ((s.l.getD i 0).toNat:Int)=((s.l.getD i 0).toNat:Int):=wu64 (by have:=(s.l.getD i 0).isLt;omega);have ek:4*i+4-4*i=4:=zo
  rcases he with rfl|rfl
  all_goals
   simp only[eZ,Nat.reduceEqDiff,↓reduceIte,Int.reduceEq,eY,n1,e4,e5,q,cw,AD,hol,hoi,XC,ek];refine⟨⟨zo,c6⟩,⟨zo,zo,zo⟩,(UA (off:=4*i) (k:=4) (s.l.getD i 0).toNat (AB ..) zo zo zd (by have:=(s.l.getD i 0).isLt;omega)).mono ?_⟩;rintro o H' n' ⟨rfl,rfl,rfl⟩;rw[RY zl c6];simp only[eE,eN,Nat.reduceEqDiff,↓reduceIte,Int.reduceEq,retK,AD,e];exact .mk (i+1,_) rfl ⟨c6,.inr rfl⟩ (by show 8-(i+1)<8-i;omega)
 obtain rfl:i=8:=zo
 have hdl:(digB s).length=32:=by
  show(EG s.l).length=32;rw[Df];rfl
 have ht:List.take 32 ((digB s).map eB)=(digB s).map eB:=We (by rw[V0];omega);have hd:List.drop 32 ((digB s).map eB)=[]:=Xi (by rw[V0];omega);rw[MB zl]at hoi;rcases he with rfl|rfl
 all_goals
  simp only[eZ,Nat.reduceEqDiff,↓reduceIte,Au,V0,MB zl,AD,show(((8:Nat):Int)<8)=False by decide,ht,hdl,hd,hoi];exact Wk.refl _
theorem O0{H:AC}{m p:Nat}{tok:Zd}(ht:tok.esz=1)(s:W8)(l:List UInt8)(hl:l.length=64)(hp:hget H p=some (.box (s.l.map eW))):AN prog 171 [.ptr p 0,.sl tok (l.map eB)] H m λo H' n'=>o= .ret (.tup [])/\H'=hset H p (.box ((DW s l).l.map eW))/\n'=m:=by
 refine AN.args (L9 s l hl hp) ?_;rintro g vs ⟨v0,r0,rfl,k0,v,r,rfl,k1,k2⟩;exact⟨v0,_,rfl,k0,v,_,rfl,Wk.sl (.inl ht) _ _ k1,k2⟩
theorem O1{tok:Zd}{K:Nat}(s0:W8)(pe:List UInt8)(X:List Fs)(w:Fs)(ht:tok= .exact 1\/tok= .none 1)(pel:pe.length=64*K)(hK:K<=2):
 evK prog tnil (sq
    (sq (rg [om 44 6,on 45 44,ov 46 (Z1.icmp BinOp.gtr IntKind.i64 (tm 45) (ci 0))] [2,3,4,6,46])
     (Yw.cond (tm 46) Yw.skip (Yw.exit 2)))
    (sq
     (Yw.block 3
      (rg
       [om 49 4,om 50 6,ov 51 (Z1.sl 1 (tm 50) none (some (ci 64)) none),
        {dst:=some 52,guard:=none,k:=Io.call false (tm 49) [tm 51]}]
       [2,3,4,6]))
     (rg [om 47 6,ov 48 (Z1.sl 1 (tm 47) (some (ci 64)) none none),om 6 48] [2,3,4,6]))).loop
  [Item.blk 2,
   Item.c
    (sq
     (sq (rg [ov 53 (Z1.ld 8 true (tm 3)),oi 54 0] [2,53,54])
      (Yw.block 4
       (sq (sq (rg [ov 55 (Z1.icmp BinOp.lss IntKind.i64 (tm 54) (ci 8))] [2,53,54,55]) (Yw.frz 2))
         (sq (Yw.cond (tm 55) Yw.skip (Yw.exit 4))
          (sq
           (Yw.block 5
            (sq
             (rg [om 56 54,ov 57 (Z1.ixA 8 1 false (tm 53) (tm 54)),om 7 56,om 8 57] [2,7,8,53,54])
             (rg
              [om 58 7,ov 59 (Z1.arith BinOp.mul IntKind.i64 (ci 4) (tm 58)),om 60 7,
               ov 61 (Z1.arith BinOp.mul IntKind.i64 (ci 4) (tm 60)),
               ov 62 (Z1.arith BinOp.add IntKind.i64 (tm 61) (ci 4)),
               {dst:=some 63,guard:=none,k:=Io.slA 32 (tm 2) (some (tm 59)) (some (tm 62))},
               om 64 8,ov 65 (Z1.conv IntKind.u64 (tm 64)),oe 66 172 [tm 63,tm 65]]
              [2,53,54])))
           (rg [ov 67 (Z1.arith BinOp.add IntKind.i64 (tm 54) (ci 1)),om 54 67] [2,53,54])))).loop))
     (sq (rg [ov 68 (Z1.ld 32 true (tm 2)),{dst:=none,guard:=none,k:=Io.st 32 (tm 2) (tm 68)}] [2])
      Yw.ret))]
  (Cd [RC.c 2 32 true] (Ret (eDg (digB (absF K s0 pe))))) ⟨[(6,true,Fs.sl tok (List.map eB pe)),(2,true,Fs.ptr 0 0),(3,true,Fs.ptr 2 0),
     (4,true,Fs.fn (Fn.func 171) [Fs.ptr 2 0] []),(6,true,w)],hset (hset (hset hnil 0 (.box (List.replicate 32 (.int .u8 0)))) 2 (.box (s0.l.map eW))) 4 (.frz 1 X),6⟩:=by
 obtain⟨Z,hZ⟩:∃Z,List.replicate 32 (Fs.int .u8 0)=Z:=⟨_,rfl⟩;have zl:Z.length=32:=by rw[<-hZ,Wj]
 have zi:Z.all isIn=true:=by rw[<-hZ];kernel_rfl
 rw[hZ];clear hZ;refine AO (λp:Nat×List (Nat×Bool×Fs)=>⟨p.2,hset (hset (hset hnil 0 (.box Z)) 2 (.box ((absF p.1 s0 pe).l.map eW))) 4 (.frz 1 X),6⟩) (λp=>p.1<=K/\(p.2=[(6,true,Fs.sl tok ((pe.drop (64*p.1)).map eB)),(2,true,Fs.ptr 0 0),(3,true,Fs.ptr 2 0),
     (4,true,Fs.fn (Fn.func 171) [Fs.ptr 2 0] []),(6,true,w)]\/p.2=[(2,true,Fs.ptr 0 0),(3,true,Fs.ptr 2 0),
     (4,true,Fs.fn (Fn.func 171) [Fs.ptr 2 0] []),(6,true,Fs.sl tok ((pe.drop (64*p.1)).map eB))])) (λp=>K-p.1) (0,_) rfl ⟨V8 _,.inl (by rw[Nat.mul_zero,Xt])⟩ ?_
 rintro⟨i,e⟩ ⟨hi,he⟩;replace hi:i<=K:=hi;by_cases c6:i<K
 ·have n1:((0:Int)<((pe.drop (64*i)).length:Int))=True:=V1 (by rw[Wl];omega);have hs1:List.take 64 ((pe.drop (64*i)).map eB)=((pe.drop (64*i)).take 64).map eB:=by rw[XI]
  have hs2:List.drop 64 (List.take (pe.drop (64*i)).length ((pe.drop (64*i)).map eB))=(pe.drop (64*(i+1))).map eB:=by
   rw[<-XI,Vw,<-List.map_drop,Y8,show 64*i+64=64*(i+1)by omega]
  have nx:=FN i s0 pe;have b0:((64:Int)<=((pe.drop (64*i)).length:Int))=True:=V1 (by rw[Wl];omega);simp only at he;rcases ht with rfl|rfl<;>rcases he with rfl|rfl
  all_goals
   simp only[eZ,seval,eY,n1,hs1,b0];refine(O0 (by first|rfl|(split<;>rfl)) (absF i s0 pe) _ (by rw[W0,Wl];omega) (by rw[AA _ _ _ _ zd];exact AB ..)).mono ?_;rintro o H' n' ⟨rfl,rfl,rfl⟩;rw[<-nx,FP _ 4 2 _ _ zd];simp only[eE,eN,seval,eY,retK,AD,hs2,b0];exact .mk (i+1,_) rfl ⟨c6,.inr rfl⟩ (by show K-(i+1)<K-i;omega)
 obtain rfl:i=K:=zo
 have n1:((0:Int)<((pe.drop (64*i)).length:Int))=False:=Vs (by rw[Wl];omega);simp only at he;rcases he with rfl|rfl
 ·simp only[eZ,seval,V0,n1];exact⟨V4 8,Oz _ Z zl zi _ _⟩
 ·simp only[eZ,seval,V0,n1];exact⟨V4 8,Oz _ Z zl zi _ _⟩
theorem p123(b:List UInt8)(hb:b.length<281474976710656):Pur prog 123 [eBy b] (eDg (digB (sumW b))):=by
 refine .mk ⟨⟨trivial,AV (f:=eB) (λ_=>trivial) _⟩,trivial⟩ (AV (f:=eB) (λ_=>trivial) _) (c123.a (AE AI.tnil (AF ?_)));simp only[eE,eN,reduceCtorEq,Nat.reduceEqDiff,↓reduceIte,Nat.reduceAdd,c123,AD];refine AO (λi:Nat=>⟨[(0,true,eBy b),(2,true,.ptr 0 0),(3,true,.ptr 2 0),(4,true,.fn (.func 171) [.ptr 2 0] []),(5,true,eBy (b.drop (64*i)))],hset (hset hnil 0 (.box (List.replicate 32 (.int .u8 0)))) 2 (.box ((absF i DO b).l.map eW)),4⟩) (λi=>64*i<=b.length) (λi=>b.length-64*i) 0 (by
  rw[absF,MA,Nat.mul_zero,Xt];rfl) (V8 _) ?_
 rintro i hi;by_cases c6:64*(i+1)<=b.length
 ·have n1:((64:Int)<=((b.drop (64*i)).length:Int))=True:=V1 (by rw[Wl];omega);have hs1:List.take 64 ((b.drop (64*i)).map eB)=((b.drop (64*i)).take 64).map eB:=by rw[XI]
  have hs2:List.drop 64 (List.take (b.drop (64*i)).length ((b.drop (64*i)).map eB))=(b.drop (64*(i+1))).map eB:=by
   rw[<-XI,Vw,<-List.map_drop,Y8,show 64*i+64=64*(i+1)by omega]
  have nx:=FN i DO b;simp only[eZ,reduceCtorEq,Nat.reduceEqDiff,↓reduceIte,Int.reduceLE,Int.reduceToNat,eY,n1,hs1];refine(L9 (absF i DO b) _ (by rw[W0,Wl];omega) (AB ..)).mono ?_;rintro o H' n' ⟨rfl,rfl,rfl⟩;rw[<-nx];simp only[eE,eN,reduceCtorEq,Nat.reduceEqDiff,↓reduceIte,Int.reduceLE,Int.reduceToNat,eY,retK,AD,n1,hs2];exact .mk (i+1) rfl c6 zo
 have n1:((64:Int)<=((b.drop (64*i)).length:Int))=False:=Vs (by rw[Wl];omega);have hk:b.length/64=i:=zo
 have hsum:sumW b=absF (padN (b.drop (64*i))/64) (absF i DO b) (padE (b.drop (64*i)) b.length):=by unfold sumW;rw[hk]
 rw[hsum];have v7:(b.drop (64*i)).length<64:=by rw[Wl];omega
 generalize absF i DO b=s0;generalize b.drop (64*i)=r at n1 v7;have m1:min r.length 64=r.length:=zo
 have z1:((r.map eB).length:Int)=(r.length:Int):=by rw[V0]
 have i1:((r.length:Int)<(64:Int))=True:=V1 zo;have i2:(r.length<64)=True:=V1 zo;have sm:small 128 1=True:=V1 (by unfold small;omega);obtain⟨Z,zz⟩:∃Z,[Fs.int .u8 0,Fs.int .u8 0,Fs.int .u8 0,Fs.int .u8 0,Fs.int .u8 0,Fs.int .u8 0,Fs.int .u8 0,Fs.int .u8 0,Fs.int .u8 0,Fs.int .u8 0,Fs.int .u8 0,Fs.int .u8 0,Fs.int .u8 0,Fs.int .u8 0,Fs.int .u8 0,Fs.int .u8 0,Fs.int .u8 0,Fs.int .u8 0,Fs.int .u8 0,Fs.int .u8 0,Fs.int .u8 0,Fs.int .u8 0,Fs.int .u8 0,Fs.int .u8 0,Fs.int .u8 0,Fs.int .u8 0,Fs.int .u8 0,Fs.int .u8 0,Fs.int .u8 0,Fs.int .u8 0,Fs.int .u8 0,Fs.int .u8 0,Fs.int .u8 0,Fs.int .u8 0,Fs.int .u8 0,Fs.int .u8 0,Fs.int .u8 0,Fs.int .u8 0,Fs.int .u8 0,Fs.int .u8 0,Fs.int .u8 0,Fs.int .u8 0,Fs.int .u8 0,Fs.int .u8 0,Fs.int .u8 0,Fs.int .u8 0,Fs.int .u8 0,Fs.int .u8 0,Fs.int .u8 0,Fs.int .u8 0,Fs.int .u8 0,Fs.int .u8 0,Fs.int .u8 0,Fs.int .u8 0,Fs.int .u8 0,Fs.int .u8 0,Fs.int .u8 0,Fs.int .u8 0,Fs.int .u8 0,Fs.int .u8 0,Fs.int .u8 0,Fs.int .u8 0,Fs.int .u8 0,Fs.int .u8 0,Fs.int .u8 0,Fs.int .u8 0,Fs.int .u8 0,Fs.int .u8 0,Fs.int .u8 0,Fs.int .u8 0,Fs.int .u8 0,Fs.int .u8 0,Fs.int .u8 0,Fs.int .u8 0,Fs.int .u8 0,Fs.int .u8 0,Fs.int .u8 0,Fs.int .u8 0,Fs.int .u8 0,Fs.int .u8 0,Fs.int .u8 0,Fs.int .u8 0,Fs.int .u8 0,Fs.int .u8 0,Fs.int .u8 0,Fs.int .u8 0,Fs.int .u8 0,Fs.int .u8 0,Fs.int .u8 0,Fs.int .u8 0,Fs.int .u8 0,Fs.int .u8 0,Fs.int .u8 0,Fs.int .u8 0,Fs.int .u8 0,Fs.int .u8 0,Fs.int .u8 0,Fs.int .u8 0,Fs.int .u8 0,Fs.int .u8 0,Fs.int .u8 0,Fs.int .u8 0,Fs.int .u8 0,Fs.int .u8 0,Fs.int .u8 0,Fs.int .u8 0,Fs.int .u8 0,Fs.int .u8 0,Fs.int .u8 0,Fs.int .u8 0,Fs.int .u8 0,Fs.int .u8 0,Fs.int .u8 0,Fs.int .u8 0,Fs.int .u8 0,Fs.int .u8 0,Fs.int .u8 0,Fs.int .u8 0,Fs.int .u8 0,Fs.int .u8 0,Fs.int .u8 0,Fs.int .u8 0,Fs.int .u8 0,Fs.int .u8 0,Fs.int .u8 0,Fs.int .u8 0,Fs.int .u8 0,Fs.int .u8 0]=Z:=⟨_,rfl⟩;have zr:Z=List.replicate 128 (eB 0):=by rw[<-zz];kernel_rfl
 have zl:Z.length=128:=by rw[zr,Wj]
 obtain⟨A1,hA1⟩:∃A1,A1=r.map eB++eB 128::List.replicate (127-r.length) (eB 0):=⟨_,rfl⟩;have q1:(List.take r.length (r.map eB)++List.drop r.length Z).set r.length (.int .u8 128)=A1:=by
  rw[We (by rw[V0];exact V4 _),XB _ _ (by rw[V0];exact V4 _),V0,Nat.sub_self,zr,List.drop_replicate,show 128-r.length=(127-r.length)+1 by omega,Yo,hA1];rfl
 have q2:(r.length<(List.take r.length (r.map eB)++List.drop r.length Z).length)=True:=V1 (by
  rw[V9,W0,V0,Wl,zl];omega)
 simp only[eZ,reduceCtorEq,Nat.reduceEqDiff,↓reduceIte,Nat.reduceAdd,Nat.reduceLeDiff,xE,eY,n1,sm,srcV,AD,m1,i1,zz,zl,q1,q2,show((64:Nat):Int)=64 from rfl];have a1l:A1.length=128:=by rw[hA1,V9,V0,Vz,Wj];omega
 have lw:IntKind.wrap .u64 (b.length:Int)=(b.length:Int):=wu64 zo;have lm:(b.length:Int)*8=((8*b.length:Nat):Int):=zo
 have wu:IntKind.wrap .u64 ((8*b.length:Nat):Int)=((8*b.length % 18446744073709551616:Nat):Int):=by
  simp only[IntKind.wrap,IntKind.bits,IntKind.signed,Xn,W5,Wf];norm_cast
 clear q1 q2 zr zl zz;by_cases hc:55<r.length
 ·have hp:padN r=128:=by unfold padN;rw[Vv hc]
  rw[hp];have dc:decide ((55:Int)<(r.length:Int))=true:=by simp;omega
  have q3:List.take 128 (A1.take 120++(putB 8 (8*b.length % 18446744073709551616)).map eB++A1.drop 128)=(padE r b.length).map eB:=by
   rw[hA1];unfold padE;rw[hp];exact Sy v7 zo zo
  simp only[eZ,reduceCtorEq,Nat.reduceEqDiff,↓reduceIte,Nat.reduceLeDiff,Int.reduceEq,Int.reduceLE,Int.reduceLT,Int.reduceToNat,Nat.reduceSub,Nat.reduceDiv,eY,dc,lw,lm,show IntKind.wrap .i64 (128-8)=120 by kernel_rfl,show((128:Nat):Int)=128 from rfl,wu];refine(UA (off:=120) (k:=8) (8*b.length % 18446744073709551616) (AB ..) (by rw[a1l];decide) (by rw[a1l];decide) zd (Nat.mod_lt _ zd)).mono ?_;rintro o H' n' ⟨rfl,rfl,rfl⟩;have q4:(128<=(A1.take 120++(putB 8 (8*b.length % 18446744073709551616)).map eB++A1.drop 128).length)=True:=V1 (by
   rw[V9,V9,W0,V0,BP,Wl,a1l];omega)
  simp only[eE,eN,reduceCtorEq,Nat.reduceEqDiff,↓reduceIte,Nat.reduceAdd,retK,AD,q3,q4];have pel:(padE r b.length).length=128:=by
   unfold padE;rw[hp,V9,V9,Vz,Wj,BP];omega
  generalize padE r b.length=pe at pel;exact O1 s0 pe _ _ (.inl rfl) (K:=2) pel zd
 ·have hp:padN r=64:=by unfold padN;rw[V5 hc]
  rw[hp];have dc:decide ((55:Int)<(r.length:Int))=false:=by simp;omega
  have q3:List.take 64 (A1.take 56++(putB 8 (8*b.length % 18446744073709551616)).map eB++A1.drop 64)=(padE r b.length).map eB:=by
   rw[hA1];unfold padE;rw[hp];exact Sy v7 zo zo
  simp only[eZ,reduceCtorEq,Nat.reduceEqDiff,↓reduceIte,Nat.reduceLeDiff,Int.reduceEq,Int.reduceLE,Int.reduceLT,Int.reduceToNat,Nat.reduceSub,Nat.reduceDiv,eY,dc,lw,lm,show((64:Nat):Int)=64 from rfl,show IntKind.wrap .i64 (64-8)=56 by kernel_rfl,show((128:Nat):Int)=128 from rfl,wu];refine(UA (off:=56) (k:=8) (8*b.length % 18446744073709551616) (AB ..) (by rw[a1l];decide) (by rw[a1l];decide) zd (Nat.mod_lt _ zd)).mono ?_;rintro o H' n' ⟨rfl,rfl,rfl⟩;have q4:(64<=(A1.take 56++(putB 8 (8*b.length % 18446744073709551616)).map eB++A1.drop 64).length)=True:=V1 (by
   rw[V9,V9,W0,V0,BP,Wl,a1l];omega)
  simp only[eE,eN,reduceCtorEq,Nat.reduceEqDiff,↓reduceIte,Nat.reduceAdd,Nat.reduceLeDiff,retK,AD,q3,q4];have pel:(padE r b.length).length=64:=by
   unfold padE;rw[hp,V9,V9,Vz,Wj,BP];omega
  generalize padE r b.length=pe at pel;exact O1 s0 pe _ _ (.inr rfl) (K:=1) pel zd
end
def GrewB(m n:Nat)(H:AC)(o:Zb)(H':AC)(n':Nat):Prop:=
 (n=0/\o= .ret (.sl .nil [])/\H'=H/\n'=m)\/(0<n/\∃cap,n<=cap/\o= .ret (.ref (m+5) 1 0 0 cap)/\H'=hset H (m+5) (.arr 1 (List.replicate cap (eB 0)))/\n'=m+10)
def UD{H:AC}{m:Nat}(n:Nat)(hn:n<=1099511627776)(hf:AR H m):AN prog 173 [.sl .nil [],.int .i64 n] H m (GrewB m n H):=by
 refine c173.a (AE AI.tnil (AF ?_));have n0:((n:Int)<0)=False:=Vs zo;have z0:IntKind.wrap .i64 ((0:Int)-0)=0:=by kernel_rfl
 by_cases hz:n=0
 ·subst hz;simp only[eZ,reduceCtorEq,Nat.reduceEqDiff,↓reduceIte,Nat.reduceAdd,i00,c173,z0,show((0:Nat):Int)=0 from rfl];exact .inl ⟨rfl,rfl,rfl,rfl⟩
 have n1:((n:Int)>0)=True:=V1 zo;have n2:((0:Int)<(n:Int))=True:=V1 zo;have e1:IntKind.wrap .i64 ((n:Int)-0)=n:=by rw[Int.sub_zero,Ae zo zo]
 have sm:small n 1=True:=V1 (by unfold small;omega);have hl:([]++List.replicate n (Fs.int .u8 0)).length=n:=by rw[Wi,Wj]
 simp only[eZ,reduceCtorEq,Nat.reduceEqDiff,↓reduceIte,Nat.reduceAdd,eY,c173,n0,z0,n1,e1,QJ];rw[CZ];refine⟨hf _ zo,zd,rfl,.inl rfl,by rw[Wj];unfold small;simp only[Wq];omega,by rw[Wj];simp only[Wq];omega,λh=>absurd (congrArg List.length h) (by rw[Wj];exact hz),λ_ cap hc=>?_⟩;simp only[Wq,Wj,Wr]at hc;have hr:[]++List.replicate n (Fs.int .u8 0)++List.replicate (cap-n) (Fs.int .u8 0)=List.replicate cap (eB 0):=by
  rw[Wi,List.replicate_append_replicate,show n+(cap-n)=cap by omega];rfl
 have d6:([]:List Fs).length+(List.replicate n (Fs.int .u8 0)).length=n:=by rw[Wj];simp only[Wq];omega
 rw[d6,hr];simp only[eE,eN,reduceCtorEq,Nat.reduceEqDiff,↓reduceIte,Nat.reduceSub,eY,DF];exact⟨⟨hc,zo⟩,.inr ⟨zo,cap,hc,rfl,rfl,rfl⟩⟩
abbrev eBL(L:List (List UInt8)):Fs:=.sl (.none 1) (L.map eBy)
def Jb{L:List (List UInt8)}{i:Nat}(h:i<L.length):(L.take (i+1)).flatten=(L.take i).flatten++L[i]:=by
 rw[Vx,V2 h,Yq,List.flatten_append,List.flatten_singleton]
theorem Kv:∀(L:List (List UInt8)) (i:Nat),(L.take i).flatten.length<=L.flatten.length
 |[],i=>by rw[List.take_nil];exact V4 _
 |x::L,0=>V8 _
 |x::L,i+1=>by
  have:=Kv L i;rw[List.take_succ_cons,XG,XG,V9,V9];omega
def p124(L:List (List UInt8))(hL:L.length<1000000000)(hp:0<L.flatten.length)(hb:L.flatten.length<=1099511627776):Pur prog 124 [eBL L] (eBy L.flatten):=by
 refine .mk ⟨⟨trivial,AV (f:=eBy) (λl=>⟨trivial,AV (f:=eB) (λ_=>trivial) _⟩) _⟩,trivial⟩ ⟨trivial,AV (f:=eB) (λ_=>trivial) _⟩ (c124.a (AE AI.tnil (AF ?_)));simp only[eE,eN,seval,V0,c124];refine AO (λi:Nat=>⟨[(0,true,eBL L),(3,true,.int .i64 ((L.take i).flatten.length:Nat)),(9,true,eBL L),(10,true,.int .i64 (L.length:Nat)),(11,true,.int .i64 i)],hnil,0⟩) (λi=>i<=L.length) (λi=>L.length-i) 0 rfl (V8 _) ?_;rintro i hi;by_cases c6:i<L.length
 ·have n1:((i:Int)<(L.length:Int))=True:=V1 zo;have e:=AG (k:=i) zo;have fn:=Jb c6;have fl:=Kv L (i+1);rw[fn,V9]at fl;have g:=V2 c6;have w1:IntKind.wrap .i64 (((L.take i).flatten.length:Int)+(L[i].length:Int))=(((L.take (i+1)).flatten.length:Nat):Int):=by
   rw[Ae zo zo,fn,V9];omega
  have n2:((((L.take (i+1)).flatten.length:Nat):Int)<0)=False:=Vs zo;simp only[eZ,seval,eY,n1,e,g,w1,n2];exact .mk (i+1) rfl c6 zo
 obtain rfl:i=L.length:=zo
 have n1:((L.length:Int)<(L.length:Int))=False:=Vs zo;rw[Vw];simp only[eZ,seval,n1];refine(UD L.flatten.length hb (λ_ _=>rfl)).mono ?_;rintro o H' n' (⟨hz,rfl,rfl,rfl⟩|⟨_,cap,hc,rfl,rfl,rfl⟩)
 ·omega
 simp only[eE,eN,seval,V0,retK];refine AO (λi:Nat=>⟨[(6,true,.ref 5 1 0 (L.take i).flatten.length cap),(25,true,eBL L),(26,true,.int .i64 (L.length:Nat)),(27,true,.int .i64 i)],hset hnil 5 (.arr 1 ((L.take i).flatten.map eB++List.replicate (cap-(L.take i).flatten.length) (eB 0))),10+4*i⟩) (λi=>i<=L.length) (λi=>L.length-i) 0 rfl (V8 _) ?_;rintro i hi;by_cases c6:i<L.length
 ·have n1:((i:Int)<(L.length:Int))=True:=V1 zo;have e:=AG (k:=i) zo;have fn:=Jb c6;have fl:=Kv L (i+1);rw[fn,V9]at fl;have g:=V2 c6;simp only[eZ,seval,eY,n1,g];rw[HB (AB ..)];refine⟨by rw[AA _ _ _ _ zo];rfl,zd,rfl,rfl,rfl,by rw[V0];unfold small;omega,by rw[V0];omega,rfl,by rw[V9,V0,Wj];omega,zo,λ_=>?_,λh=>?_⟩
  ·have t1:List.take (L.take i).flatten.length ((L.take i).flatten.map eB++List.replicate (cap-(L.take i).flatten.length) (eB 0))++L[i].map eB++List.drop ((L.take i).flatten.length+(L[i].map eB).length) ((L.take i).flatten.map eB++List.replicate (cap-(L.take i).flatten.length) (eB 0))=(L.take (i+1)).flatten.map eB++List.replicate (cap-(L.take (i+1)).flatten.length) (eB 0):=by
    rw[fn,WK (by rw[V0];exact V4 _),We (by rw[V0];exact V4 _),Yb,Xi (by rw[V0];omega),Wi,List.drop_replicate,V0,V0,Vt,V9,show cap-(L.take i).flatten.length-((L.take i).flatten.length+L[i].length-(L.take i).flatten.length)=cap-((L.take i).flatten.length+L[i].length)by omega]
   have t2:(L.take i).flatten.length+(L[i].map eB).length=(L.take (i+1)).flatten.length:=by rw[fn,V9,V0]
   rw[t1,t2,AD];simp only[eE,eN,seval,DF,e];exact .mk (i+1) rfl c6 zo
  ·rw[V0]at h;omega
 obtain rfl:i=L.length:=zo
 rw[Vw];simp only[eZ,seval,n1];refine⟨⟨by rw[V9,V0,Wj];omega,hc⟩,?_⟩;rw[WK (by rw[V0];exact V4 _),We (by rw[V0];exact V4 _)];exact Wk.sl (.inl (by split<;>rfl))
section
mutual
inductive FV(H:AC):Fs->Fs->Prop
 |wk {a b:Fs}:Wk b a->FV H a b
 |ref {id e off len cap:Nat} {l:List Fs}:hget H id=some (.frz e l)->off+len<=l.length->len<=cap->FV H (.sl (.none e) ((l.drop off).take len)) (.ref id e off len cap)
 |agg {us bs:List Fs}:FVs H us bs->FV H (.agg us) (.agg bs)
 |sl {t:Zd} {us bs:List Fs}:FVs H us bs->FV H (.sl (.none t.esz) us) (.sl t bs)
inductive FVs(H:AC):List Fs->List Fs->Prop
 |nil:FVs H [] []
 |cons {a b:Fs} {us bs:List Fs}:FV H a b->FVs H us bs->FVs H (a::us) (b::bs)
end
variable {H:AC}
theorem FVs.len:∀{us bs:List Fs},FVs H us bs->us.length=bs.length
 |_,_,.nil=>rfl
 |_,_,.cons _ t=>by rw[Vz,Vz,t.len]
section
variable {g:Yx} {H:AC} {n:Nat} {w:World}
mutual
theorem Sz(R:Z2 g H n w):∀{a b:Fs} {v:Value},FV H a b->VRel g b v->VRel g a v
 |a,b,v,.wk h,hv=>h g v hv
 |_,_,v,.ref (id:=id) (e:=e) (off:=off) (len:=len) (cap:=cap) (l:=l) h1 h2 h3,hv=>by
  obtain⟨L,k1,k2,rfl⟩:=hv;obtain⟨L',j1,j2,j3⟩:=R.obj id _ h1;rw[k1]at j1;cases j1;have d6:((l.drop off).take len).length=len:=by simp;omega
  have hst:=Stab.take len _ _ (Stab.drop off _ _ j3);rw[Wr]at hst;exact .inr ⟨trivial,L.blk,off*e,cap,⟨none,by rw[d6],.inl rfl⟩,by rw[d6];exact h3,hst,trivial⟩
 |_,_,v,.agg h,hv=>by
  obtain⟨vs,rfl,h1,h2⟩:=hv;exact⟨vs,rfl,fvs_rel R h h1,h2⟩
 |_,_,v,.sl h,hv=>by
  have hl:=h.len;rcases hv with⟨rfl,h1,h2⟩|⟨ht,b,o,cap,⟨sp,rfl,hsp⟩,hc,hs,hk⟩
  ·exact .inl ⟨Wv hl,h1,trivial⟩
  ·exact .inr ⟨trivial,b,o,cap,⟨sp,by rw[hl],hsp.imp id λq=>⟨Wv (by rw[hl,q.1];rfl),.inr ⟨_,rfl⟩⟩⟩,by rw[hl];exact hc,fst_rel R h hs,trivial⟩
theorem fst_rel(R:Z2 g H n w):∀{us bs:List Fs} {e:Nat} {f:Nat->Option Value} {o:Nat},FVs H us bs->Stab g e f o bs->Stab g e f o us
 |_,_,_,_,_,.nil,hv=>hv
 |_,_,_,_,_,.cons h t,⟨⟨v,h1,h2,h3⟩,s⟩=>⟨⟨v,Sz R h h1,h2,h3⟩,fst_rel R t s⟩
theorem fvs_rel(R:Z2 g H n w):∀{us bs:List Fs} {vs:List Value},FVs H us bs->VRels g bs vs->VRels g us vs
 |_,_,vs,.nil,hv=>hv
 |_,_,vs,.cons h t,hv=>by
  obtain⟨v,r,rfl,h1,h2⟩:=hv;exact⟨v,r,rfl,Sz R h h1,fvs_rel R t h2⟩
end
end
theorem Pur.frozen{P:Program}{f:FuncId}{args args':List Fs}{r:Fs}(h:Pur P f args r)(hv:FVs H args args')(n:Nat):Ab P f args' H n r:=
 ⟨(h.quiet H n).1,λg w vs R hvs=>(h.quiet H n).2 g w vs R (fvs_rel R hv hvs)⟩
theorem AN.freeze{P:Program}{f:FuncId}{args:List Fs}{n id e:Nat}{l:List Fs}{Q:Zb->AC->Nat->Prop}(h0:hget H id=some (.arr e l))(h:AN P f args (hset H id (.frz e l)) n Q):AN P f args H n Q:=by
 refine⟨h.1,λg w vs R hvs=>?_⟩;obtain⟨σ',r1,t1⟩:=R.freeze (m:=n) h0;refine(h.2 _ w vs r1 (VRels.mono t1.le _ _ hvs)).mono ?_;rintro e w' ⟨g',out,H',n',q,he,r2,hn,t2⟩;exact⟨g',out,H',n',q,he,r2,hn,t1.trans t2⟩
end
def sSum:List Fs->AC->Prop×Fs:=λa _=>match a with
 |[.sl (.none 1) L]=>(L.length<281474976710656/\(L.map deB).map eB=L,eDg (digB (sumW (L.map deB))))
 |_=>(False,.tup [])
def qSum:∀args H n,(sSum args H).1->Ab prog 123 args H n (sSum args H).2:=by
 intro args H n hh;unfold sSum at hh⊢;split at hh
 ·rename_i L;obtain⟨h1,h2⟩:=hh;have:=(p123 (L.map deB) (by rw[V0];exact h1)).quiet H n;unfold eBy at this;rw[h2]at this;exact this
 ·exact hh.elim
def Tab2:Tab:=tadd 123 sSum tnil
def UE:AI prog Tab2:=AI.tnil.add qSum
theorem S0(a:List Fs)(H:AC):Tab2 123 a H=sSum a H:=rfl
def B5(tag b:List UInt8):List UInt8:=digB (sumW (digB (sumW tag)++b))
def CB(s:W8):(digB s).length=32:=by
 show(EG s.l).length=32;rw[Df];rfl
def p41(tag b:List UInt8)(ht:tag.length<1000000000)(hb:b.length<1099511627000):Pur prog 41 [.str tag,eBy b] (eDg (B5 tag b)):=by
 refine .mk ⟨trivial,⟨trivial,AV (f:=eB) (λ_=>trivial) _⟩,trivial⟩ (AV (f:=eB) (λ_=>trivial) _) (c41.a (AE UE (AF ?_)));have hd:List.map deB (List.map (λb=>Fs.int .u8 (b.toNat:Int)) tag)=tag:=DX tag;have hz:List.drop 32 [Fs.int .u8 0,Fs.int .u8 0,Fs.int .u8 0,Fs.int .u8 0,Fs.int .u8 0,Fs.int .u8 0,Fs.int .u8 0,Fs.int .u8 0,Fs.int .u8 0,Fs.int .u8 0,Fs.int .u8 0,Fs.int .u8 0,Fs.int .u8 0,Fs.int .u8 0,Fs.int .u8 0,Fs.int .u8 0,Fs.int .u8 0,Fs.int .u8 0,Fs.int .u8 0,Fs.int .u8 0,Fs.int .u8 0,Fs.int .u8 0,Fs.int .u8 0,Fs.int .u8 0,Fs.int .u8 0,Fs.int .u8 0,Fs.int .u8 0,Fs.int .u8 0,Fs.int .u8 0,Fs.int .u8 0,Fs.int .u8 0,Fs.int .u8 0]=[]:=by kernel_rfl
 have hs:(tag.length<281474976710656)=True:=V1 zo;simp only[eE,eN,reduceCtorEq,Nat.reduceEqDiff,↓reduceIte,Nat.reduceAdd,Nat.reduceLeDiff,Nat.reduceMul,Nat.reduceLT,Nat.reduceSub,eY,c41,S0,sSum,AD,hd,CB,hs,hz,Z1.opds,oks];refine⟨zd,?_⟩;refine AN.freeze (AB ..) ?_;have hf:=CB (sumW tag);have hpp:0<[digB (sumW tag),b].flatten.length:=by rw[XG,V9,hf];omega
 have hpb:[digB (sumW tag),b].flatten.length<=1099511627776:=by rw[XG,V9,hf,XG,List.flatten_nil,W9];omega
 rw[AD];have hq:=((p124 [digB (sumW tag),b] (show 2<1000000000 by omega) hpp hpb).frozen (H:=hset (hset hnil 0 (.box [Fs.int .u8 0,Fs.int .u8 0,Fs.int .u8 0,Fs.int .u8 0,Fs.int .u8 0,Fs.int .u8 0,Fs.int .u8 0,Fs.int .u8 0,Fs.int .u8 0,Fs.int .u8 0,Fs.int .u8 0,Fs.int .u8 0,Fs.int .u8 0,Fs.int .u8 0,Fs.int .u8 0,Fs.int .u8 0,Fs.int .u8 0,Fs.int .u8 0,Fs.int .u8 0,Fs.int .u8 0,Fs.int .u8 0,Fs.int .u8 0,Fs.int .u8 0,Fs.int .u8 0,Fs.int .u8 0,Fs.int .u8 0,Fs.int .u8 0,Fs.int .u8 0,Fs.int .u8 0,Fs.int .u8 0,Fs.int .u8 0,Fs.int .u8 0])) 4 (.frz 1 ((digB (sumW tag)).map eB))) (.cons (.sl (t:=.exact 1) (.cons (by
  have:=FV.ref (H:=hset (hset hnil 0 (.box [Fs.int .u8 0,Fs.int .u8 0,Fs.int .u8 0,Fs.int .u8 0,Fs.int .u8 0,Fs.int .u8 0,Fs.int .u8 0,Fs.int .u8 0,Fs.int .u8 0,Fs.int .u8 0,Fs.int .u8 0,Fs.int .u8 0,Fs.int .u8 0,Fs.int .u8 0,Fs.int .u8 0,Fs.int .u8 0,Fs.int .u8 0,Fs.int .u8 0,Fs.int .u8 0,Fs.int .u8 0,Fs.int .u8 0,Fs.int .u8 0,Fs.int .u8 0,Fs.int .u8 0,Fs.int .u8 0,Fs.int .u8 0,Fs.int .u8 0,Fs.int .u8 0,Fs.int .u8 0,Fs.int .u8 0,Fs.int .u8 0,Fs.int .u8 0])) 4 (.frz 1 ((digB (sumW tag)).map eB))) (id:=4) (e:=1) (off:=0) (len:=32) (cap:=32) (AB ..) (by rw[V0,hf];decide) (V4 _);rw[Xt,We (by rw[V0,hf];exact V4 _)]at this;exact this) (.cons (.wk (Wk.refl _)) .nil))) .nil) 6)
 refine AN.mono hq ?_;rintro o H' n' ⟨rfl,rfl,rfl⟩;have he:[digB (sumW tag),b].flatten=digB (sumW tag)++b:=by rw[XG,XG,List.flatten_nil,W9]
 rw[he]at hpb⊢;have hs2:((digB (sumW tag)++b).length<281474976710656)=True:=V1 zo;generalize hX:digB (sumW tag)++b=X at hs2⊢;have ht:B5 tag b=digB (sumW X):=by unfold B5;rw[hX]
 rw[ht];simp only[eE,eN,reduceCtorEq,Nat.reduceEqDiff,↓reduceIte,Nat.reduceAdd,Au,V0,retK,S0,sSum,DX,CB,hs2,hz];exact Wk.refl _
def sRor:List Fs->AC->Prop×Fs:=λa _=>match a with
 |[.int .u32 x,.int .i64 k]=>(isW x/\0<=k/\k<=32,eW (rlW (BitVec.ofInt 32 x) (32-k.toNat)))
 |_=>(False,.tup [])
def p211(x:W)(n:Nat)(h:n<=32):Pur prog 211 [eW x,.int .i64 n] (eW (rlW x (32-n))):=by
 refine .mk ⟨trivial,trivial,trivial⟩ trivial (c211.a (AE AI.tnil (AF ?_)));have e1:=JZ x (n:=n) h;have e2:=Hr x (n:=32-n) zo;have w:IntKind.wrap .i64 (32-(n:Int))=((32-n:Nat):Int):=by rw[Ae zo zo];omega
 have e3:=Ou (x>>>n) (x<<<(32-n));have n0:((0:Int)<=(n:Int))=True:=V1 zo;simp only[eE,eN,seval,Wa,c211,e1,w,e2,e3,n0,ror_eq x h]
def qRor:∀args H n,(sRor args H).1->Ab prog 211 args H n (sRor args H).2:=by
 intro args H n hh;unfold sRor at hh⊢;split at hh
 ·rename_i x k;obtain⟨h,h1,h2⟩:=hh;have:=(p211 (BitVec.ofInt 32 x) k.toNat zo).quiet H n;unfold eW at this;unfold isW at h;rw[h,WR h1]at this;exact this
 ·exact hh.elim
def O2(a b c d:UInt8):EE [a,b,c,d]=BitVec.ofNat 32 a.toNat<<<24|||BitVec.ofNat 32 b.toNat<<<16|||BitVec.ofNat 32 c.toNat<<<8|||BitVec.ofNat 32 d.toNat:=by
 have z:(0:W)=0#32:=rfl;simp only[EE,List.foldl,z,seval,BitVec.shiftLeft_or_distrib,<-BitVec.shiftLeft_add,BitVec.zero_shiftLeft,BitVec.zero_or]
def sWrd:List Fs->AC->Prop×Fs:=λa _=>match a with
 |[.sl (.none 1) L]=>(L.length=4/\(L.map deB).map eB=L,eW (EE (L.map deB)))
 |_=>(False,.tup [])
def p210(l:List UInt8)(h:l.length=4):Pur prog 210 [eBy l] (eW (EE l)):=by
 refine .mk ⟨⟨trivial,AV (f:=eB) (λ_=>trivial) _⟩,trivial⟩ trivial (c210.a (AE AI.tnil (AF ?_)));obtain⟨a,b,c,d,rfl⟩:∃a b c d,l=[a,b,c,d]:=by
  match l,h with
  |[a,b,c,d],_=>exact⟨a,b,c,d,rfl⟩
 have s24:∀x:W,CK .shl .u32 (x.toNat:Int) 24=((x<<<24).toNat:Int):=λx=>Hr x (n:=24) zd
 have s16:∀x:W,CK .shl .u32 (x.toNat:Int) 16=((x<<<16).toNat:Int):=λx=>Hr x (n:=16) zd
 have s8:∀x:W,CK .shl .u32 (x.toNat:Int) 8=((x<<<8).toNat:Int):=λx=>Hr x (n:=8) zd
 rw[O2];simp only[eE,eN,reduceCtorEq,Nat.reduceEqDiff,↓reduceIte,Nat.reduceAdd,Int.reduceLE,Int.reduceToNat,eY,c210,Sx,s24,s16,s8,Ou];decide
def qWrd:∀args H n,(sWrd args H).1->Ab prog 210 args H n (sWrd args H).2:=by
 intro args H n hh;unfold sWrd at hh⊢;split at hh
 ·rename_i L;obtain⟨h1,h2⟩:=hh;have:=(p210 (L.map deB) (by rw[V0];exact h1)).quiet H n;unfold eBy at this;rw[h2]at this;exact this
 ·exact hh.elim
def sNum:List Fs->AC->Prop×Fs:=λa _=>match a with
 |[]=>(True,.agg (kW.map eW))
 |_=>(False,.tup [])
def p212:Pur prog 212 [] (.agg (kW.map eW)):=by
 refine .mk trivial (AV (f:=eW) (λ_=>trivial) _) (c212.a (AE AI.tnil (AF ?_)));simp only[eE,eN,seval,Au,c212,Z1.opds,oks,<-kL_eq];exact Wk.refl _
def qNum:∀args H n,(sNum args H).1->Ab prog 212 args H n (sNum args H).2:=by
 intro args H n hh;unfold sNum at hh⊢;split at hh
 ·exact p212.quiet H n
 ·exact hh.elim
def Tab3:Tab:=tadd 210 sWrd (tadd 211 sRor (tadd 212 sNum tnil))
def UF:AI prog Tab3:=((AI.tnil.add qNum).add qRor).add qWrd
section
variable (a:List Fs) (H:AC)
theorem Tab3_w:Tab3 210 a H=sWrd a H:=rfl
theorem S1:Tab3 211 a H=sRor a H:=rfl
theorem Tab3_n:Tab3 212 a H=sNum a H:=rfl
end
def p179(s:W8)(l:List UInt8)(hl:l.length=64):Pur prog 179 [.agg (s.l.map eW),eBy l] (.agg ((DW s l).l.map eW)):=by
 refine .mk ⟨AV (f:=eW) (λ_=>trivial) _,⟨trivial,AV (f:=eB) (λ_=>trivial) _⟩,trivial⟩ (AV (f:=eW) (λ_=>trivial) _) (c179.a (AE UF (AF ?_)));simp only[eE,eN,reduceCtorEq,Nat.reduceEqDiff,↓reduceIte,Nat.reduceAdd,V0,c179,AD,Z1.opds,oks];refine⟨rfl,?_⟩;generalize hZ:hset (hset hnil 0 (.box (s.l.map eW))) 1 (.box [.int .u32 0,.int .u32 0,.int .u32 0,.int .u32 0,.int .u32 0,.int .u32 0,.int .u32 0,.int .u32 0])=B;have b0:hget B 0=some (.box (s.l.map eW)):=by rw[<-hZ,AA _ _ _ _ zd];exact AB ..
 have b1:hget B 1=some (.box [.int .u32 0,.int .u32 0,.int .u32 0,.int .u32 0,.int .u32 0,.int .u32 0,.int .u32 0,.int .u32 0]):=by rw[<-hZ];exact AB ..
 have b6:hget B 6=none:=by rw[<-hZ];rfl
 clear hZ;refine AO (λi:Nat=>⟨[(1,true,eBy l),(2,true,.ptr 0 0),(4,true,.ptr 1 0),(5,true,.ptr 3 0),(6,true,.int .i64 i)],hset B 3 (.box (wBox l i)),5⟩) (λi=>i<=16) (λi=>16-i) 0 rfl (V8 _) ?_;rintro i hi;by_cases c6:i<16
 ·have n1:((i:Int)<16)=True:=V1 zo;have n2:((i:Int)<64)=True:=V1 zo;have e:=AG (k:=i) zo;have e4:IntKind.wrap .i64 (4*(i:Int))=((4*i:Nat):Int):=by rw[Ae zo zo];omega
  have e5:IntKind.wrap .i64 (((4*i:Nat):Int)+4)=((4*i+4:Nat):Int):=by rw[Ae zo zo];omega
  have f1:(((4*i:Nat):Int)<=((4*i+4:Nat):Int))=True:=V1 zo;have f2:(((4*i+4:Nat):Int)<=(l.length:Int))=True:=V1 zo;have hsl:((l.map eB).take (4*i+4)).drop (4*i)=((l.drop (4*i)).take 4).map eB:=by
   rw[<-XI,<-List.map_drop,List.drop_take,show 4*i+4-4*i=4 by omega]
  have b2:((l.drop (4*i)).take 4).length=4:=by rw[W0,Wl];omega
  have hd:=DX ((l.drop (4*i)).take 4);have hn:Ac l (i+1)=Ac l i++[EE ((l.drop (4*i)).take 4)]:=by rw[Ac,Vv c6]
  have hp1:(wBox l i).take i++[eW (EE ((l.drop (4*i)).take 4))]++(wBox l i).drop (i+1)=wBox l (i+1):=GT (l:=l) (t:=i) zo hn;have hln:=Eh (l:=l) (t:=i) zo;have b3:(i+1<=64)=True:=V1 zo;have b4:(i<=63)=True:=V1 zo;simp only[eZ,reduceCtorEq,Nat.reduceEqDiff,↓reduceIte,Int.reduceEq,eY,n1,n2,e,e4,e5,f1,f2,hsl,b2,hd,Tab3_w,sWrd,hln,b3,AD,show((64:Nat):Int)=64 from rfl,XC];exact .mk (i+1) (by simp only[hp1]) c6 zo
 obtain rfl:i=16:=zo
 simp only[eZ,Nat.reduceEqDiff,↓reduceIte,show(((16:Nat):Int)<16)=False by decide];clear hi c6;refine AO (λi:Nat=>⟨[(2,true,.ptr 0 0),(4,true,.ptr 1 0),(5,true,.ptr 3 0),(7,true,.int .i64 i)],hset B 3 (.box (wBox l i)),5⟩) (λi=>16<=i/\i<=64) (λi=>64-i) 16 rfl zd ?_;rintro i ⟨h16,hi⟩;by_cases c6:i<64
 ·have n2:((i:Int)<64)=True:=V1 zo;have e:=AG (k:=i) zo;have s15:IntKind.wrap .i64 ((i:Int)-15)=((i-15:Nat):Int):=by rw[Ae zo zo];omega
  have s2':IntKind.wrap .i64 ((i:Int)-2)=((i-2:Nat):Int):=by rw[Ae zo zo];omega
  have s16:IntKind.wrap .i64 ((i:Int)-16)=((i-16:Nat):Int):=by rw[Ae zo zo];omega
  have s7:IntKind.wrap .i64 ((i:Int)-7)=((i-7:Nat):Int):=by rw[Ae zo zo];omega
  have hln:=Eh (l:=l) (t:=i) zo;have bd:∀k,(((i-k:Nat):Int)<64)=True:=λk=>V1 zo
  have bn:∀k,(i-k+1<=64)=True:=λk=>V1 zo
  have bm:∀k,(i-k<=63)=True:=λk=>V1 zo
  have q:∀k,0<k->k<=16->(List.take 1 ((wBox l i).drop (i-k))).headD (.tup [])=eW ((Ac l i).getD (i-k) 0):=λk h1 h2=>hd1 (It zo zo)
  have q15:=q 15 zd zd;have q2:=q 2 zd zd;have q16:=q 16 zd zd;have q7:=q 7 zd zd;have hn:=Ht (l:=l) (i:=i) zo;have hp1:=GT (l:=l) (t:=i) c6 hn;simp only[splice,Vz,Wq,Wr]at hp1;simp only[eZ,Nat.reduceEqDiff,↓reduceIte,Nat.reduceLeDiff,Int.reduceEq,Int.reduceLE,Int.reduceToNat,Nat.reduceSub,eY,n2,e,s15,s2',s16,s7,bd,bn,S1,sRor,Ow,ofI,hln,AD,show((64:Nat):Int)=64 from rfl,XC,q15,q2,q16,q7,sh_3,sh_10,JY,De];exact⟨zo,.mk (i+1) (by simp only[<-hp1]) ⟨zo,c6⟩ zo⟩
 obtain rfl:i=64:=zo
 clear c6 hi h16;simp only[W8.l,W6,Wh]at b0;have b03:∀X,hget (hset B 3 X) 0=some (.box [eW s.a,eW s.b,eW s.c,eW s.d,eW s.e,eW s.f,eW s.g,eW s.h]):=λX=>by rw[AA _ _ _ _ zd];exact b0
 have b06:∀X Y,hget (hset (hset B 3 X) 6 Y) 0=some (.box [eW s.a,eW s.b,eW s.c,eW s.d,eW s.e,eW s.f,eW s.g,eW s.h]):=λX Y=>by rw[AA _ _ _ _ zd];exact b03 X
 have b63:∀X,hget (hset B 3 X) 6=none:=λX=>by rw[AA _ _ _ _ zd];exact b6
 simp only[eZ,Nat.reduceEqDiff,↓reduceIte,Nat.reduceAdd,Nat.reduceLeDiff,Nat.reduceMul,Int.reduceLE,Int.reduceLT,Int.reduceToNat,eY,show(((64:Nat):Int)<64)=False by decide,Tab3_n,sNum,b06,b63,AD,show kW.length=64 from rfl,show((8:Nat):Int)=8 from rfl];generalize hA:hset (hset B 3 (.box (wBox l 64))) 6 (.box (kW.map eW))=A;have a0:hget A 0=some (.box [eW s.a,eW s.b,eW s.c,eW s.d,eW s.e,eW s.f,eW s.g,eW s.h]):=by rw[<-hA];exact b06 _ _
 have a1:hget A 1=some (.box [.int .u32 0,.int .u32 0,.int .u32 0,.int .u32 0,.int .u32 0,.int .u32 0,.int .u32 0,.int .u32 0]):=by rw[<-hA,AA _ _ _ _ zd,AA _ _ _ _ zd];exact b1
 have a3:hget A 3=some (.box (wBox l 64)):=by rw[<-hA,AA _ _ _ _ zd];exact AB ..
 have a6:hget A 6=some (.box (kW.map eW)):=by rw[<-hA];exact AB ..
 clear hA b03 b06 b63 b0 b1 b6;refine AO (λi:Nat=>⟨[(2,true,.ptr 0 0),(4,true,.ptr 1 0),(5,true,.ptr 3 0),(10,true,.ptr 6 0),(11,true,eW (Aq s (Ac l 64) i).a),(12,true,eW (Aq s (Ac l 64) i).b),(13,true,eW (Aq s (Ac l 64) i).c),(14,true,eW (Aq s (Ac l 64) i).d),(15,true,eW (Aq s (Ac l 64) i).e),(16,true,eW (Aq s (Ac l 64) i).f),(17,true,eW (Aq s (Ac l 64) i).g),(18,true,eW (Aq s (Ac l 64) i).h),(19,true,.int .i64 i)],A,8⟩) (λi=>i<=64) (λi=>64-i) 0 rfl zd ?_;rintro i hi;by_cases c6:i<64
 ·have n2:((i:Int)<64)=True:=V1 zo;have e:=AG (k:=i) zo;have hln:=Eh (l:=l) (t:=64) (V4 _);have q1:(List.take 1 ((wBox l 64).drop i)).headD (.tup [])=eW ((Ac l 64).getD i 0):=hd1 (It zo (V4 _));have q2:(List.take 1 ((kW.map eW).drop i)).headD (.tup [])=eW (kW.getD i 0):=hd1 (by
   rw[W3,WM,V2 (show i<kW.length from c6)];rfl)
  have b4:(i<=63)=True:=V1 zo;have b3:(i+1<=64)=True:=V1 zo;have nx:Aq s (Ac l 64) (i+1)=Ov (Aq s (Ac l 64) i) (kW.getD i 0) ((Ac l 64).getD i 0):=rfl;generalize Aq s (Ac l 64) i=r at nx;simp only[eZ,Nat.reduceEqDiff,↓reduceIte,Int.reduceEq,Int.reduceLE,Int.reduceToNat,Nat.reduceSub,eY,n2,e,a3,a6,hln,q1,q2,b3,XC,S1,sRor,Ow,ofI,JY,De,Sw,ia_not,ch_eq,maj_eq,show kW.length=64 from rfl,show((64:Nat):Int)=64 from rfl];exact .mk (i+1) (by simp only[nx];rfl) c6 zo
 obtain rfl:i=64:=zo
 have ha:DW s l=⟨s.a+(Aq s (Ac l 64) 64).a,s.b+(Aq s (Ac l 64) 64).b,s.c+(Aq s (Ac l 64) 64).c,s.d+(Aq s (Ac l 64) 64).d,s.e+(Aq s (Ac l 64) 64).e,s.f+(Aq s (Ac l 64) 64).f,s.g+(Aq s (Ac l 64) 64).g,s.h+(Aq s (Ac l 64) 64).h⟩:=rfl;rw[ha];clear ha;generalize Aq s (Ac l 64) 64=v;simp only[eZ,Nat.reduceEqDiff,↓reduceIte,Nat.reduceAdd,Nat.reduceLeDiff,Nat.reduceMul,Int.reduceLE,Int.reduceLT,Int.reduceToNat,Au,eY,show(((64:Nat):Int)<64)=False by decide,a0,a1,De,Z1.opds,oks,show((8:Nat):Int)=8 from rfl];exact Wk.refl _
def CJ(n:Nat):Nat:=(119-n % 64) % 64
def pad2(b:List UInt8):List UInt8:=b++128::List.replicate (CJ b.length) 0++putB 8 (8*b.length % 18446744073709551616)
structure VPd where
 j:Nat
 tk:Zd
 H:AC
 n:Nat
structure IPd(m:Nat)(v:VPd):Prop where
 hj:v.j<=m
 fr:AR v.H v.n
 tok:tkG 1 0 v.H v.tk
 es:v.tk.esz=1
def O3{k n j:Nat}(h:j<k):(putB k n).take (j+1)=(putB k n).take j++[UInt8.ofNat (n>>>(8*(k-1-j)))]:=by
 have hb:(putB k n)[j]?=some (UInt8.ofNat (n>>>(8*(k-1-j)))):=by
  unfold putB;rw[W3,XJ h];rfl
 rw[Vx,hb];rfl
def p178(b:List UInt8)(hb:b.length<999999000):Pur prog 178 [eBy b] (eBy (pad2 b)):=by
 refine .mk ⟨⟨trivial,AV (f:=eB) (λ_=>trivial) _⟩,trivial⟩ ⟨trivial,AV (f:=eB) (λ_=>trivial) _⟩ (c178.a (AE AI.tnil (AF ?_)));have s1:small b.length 1=True:=V1 (by unfold small;omega);have s2:small (b.length+1) 1=True:=V1 (by unfold small;omega);have l1:(b.length<=35184372088832)=True:=V1 zo;have l2:(b.length+1<=35184372088832)=True:=V1 zo;simp only[eE,eN,seval,V0,c178,s1,s2,l1,l2,Z1.opds,oks];have hz:CJ b.length<64:=Nat.mod_lt _ zd;have hz2:(b.length+1+CJ b.length) % 64=56:=by unfold CJ;omega
 refine AO (λv:VPd=>⟨[(0,true,eBy b),(3,true,.sl v.tk ((b++128::List.replicate v.j 0).map eB))],v.H,v.n⟩) (IPd (CJ b.length)) (λv=>CJ b.length-v.j) ⟨0,.own 4 1,hset (hset (hset hnil 2 .tok) 2 .dead) 4 .tok,6⟩ (by rw[Vt];rfl) ⟨V8 _,((AR.nil.hset (m:=6) (V8 _) zd).hset (V4 _) zd).hset (V4 _) zd,.inr (.inr ⟨4,rfl,V8 _,AB ..⟩),rfl⟩ ?_;rintro⟨j,tk,H,n⟩ ⟨hj,hf,c7,d9⟩;simp only at hj hf c7 d9;have hXl:(b++128::List.replicate j 0).length=b.length+1+j:=by rw[V9,Vz,Wj];omega
 have hnx:(b++128::List.replicate j (0:UInt8))++[0]=b++128::List.replicate (j+1) 0:=by
  rw[Wb,Ww,<-List.replicate_succ']
 by_cases c6:j<CJ b.length
 ·generalize b++128::List.replicate j (0:UInt8)=X at hXl hnx;have q1:At H 1 tk=True:=V1 c7.app;have q2:(X.length+1<=35184372088832)=True:=V1 zo;have q3:small (X.length+1) 1=True:=V1 (AP zo zd);have ne:¬(b.length+(1+j)) % 64=56:=zo
  have tm:((((b.length+(1+j):Nat):Int)).tmod 64=56)=False:=Vs (by rw[XX zo];omega);simp only[eZ,seval,V6,V0,tm,q1,hXl,fr1 hf,Z1.opds,oks];refine⟨⟨AP zo zd,zo⟩,.mk ⟨j+1,.own (n+2) 1,hset (AL H tk) (n+2) .tok,n+4⟩ ?_ ⟨c6,(AT c7 hf).hset (m:=n+4) zo zo,.inr (.inr ⟨n+2,rfl,V8 _,AB ..⟩),rfl⟩ zp⟩;simp only[<-hnx,Vt,W6,Wh];rfl
 obtain rfl:j=CJ b.length:=zo
 have tm:((((b.length+(1+CJ b.length):Nat):Int)).tmod 64=56)=True:=V1 (by rw[XX zo];omega);have lw:IntKind.wrap .u64 (b.length:Int)=(b.length:Int):=wu64 zo;have lm:(b.length:Int)*8=((8*b.length:Nat):Int):=zo
 have wu:IntKind.wrap .u64 ((8*b.length:Nat):Int)=((8*b.length % 18446744073709551616:Nat):Int):=by
  simp only[IntKind.wrap,IntKind.bits,IntKind.signed,Xn,W5,Wf];norm_cast
 have hpd:pad2 b=(b++128::List.replicate (CJ b.length) 0)++putB 8 (8*b.length % 18446744073709551616):=by
  unfold pad2;rw[Wb,Ww]
 simp only[eZ,seval,V3,V0,hXl,tm,lw,lm,wu];rw[hpd];generalize b++128::List.replicate (CJ b.length) (0:UInt8)=X at hXl;have hN:8*b.length % 18446744073709551616<18446744073709551616:=Nat.mod_lt _ zd;generalize 8*b.length % 18446744073709551616=N at hN;refine AO (λv:VPd=>⟨[(3,true,.sl v.tk ((X++(putB 8 N).take v.j).map eB)),(4,true,.int .u64 (N:Int)),(5,true,.int .i64 (7-(v.j:Int)))],v.H,v.n⟩) (IPd 8) (λv=>8-v.j) ⟨0,tk,H,n⟩ (by rw[WZ,W9];rfl) ⟨V8 _,hf,c7,d9⟩ ?_;clear hf c7 d9;rintro⟨j,tk,H,n⟩ ⟨hj,hf,c7,d9⟩;simp only at hj hf c7 d9;by_cases c6:j<8
 ·have nx:=O3 (n:=N) c6;have hYl:(X++(putB 8 N).take j).length<=b.length+200:=by rw[V9,W0,BP];omega
  have hnx:X++(putB 8 N).take (j+1)=(X++(putB 8 N).take j)++[UInt8.ofNat (N>>>(8*(7-j)))]:=by rw[nx,Wb]
  generalize X++(putB 8 N).take j=Y at hYl hnx;have q1:At H 1 tk=True:=V1 c7.app;have q2:(Y.length+1<=35184372088832)=True:=V1 zo;have q3:small (Y.length+1) 1=True:=V1 (AP zo zd);have g0:((0:Int)<=7-(j:Int))=True:=V1 zo;have e3:IntKind.wrap .i64 (8*(7-(j:Int)))=((8*(7-j):Nat):Int):=by rw[Ae zo zo];omega
  have e4:=T7 (n:=N) (s:=8*(7-j)) zo;have e5:IntKind.wrap .i64 (7-(j:Int)-1)=7-((j+1:Nat):Int):=by rw[Ae zo zo];omega
  simp only[eZ,seval,eY,g0,e3,e4,e5,Ja,q1,q2,q3,fr1 hf,Z1.opds,oks];refine .mk ⟨j+1,.own (n+7) 1,hset (AL H tk) (n+7) .tok,n+9⟩ ?_ ⟨c6,(AT c7 hf).hset (m:=n+9) zo zo,.inr (.inr ⟨n+7,rfl,V8 _,AB ..⟩),rfl⟩ zp;simp only[hnx,Vt,W6,Wh]
 obtain rfl:j=8:=zo
 have ht:(putB 8 N).take 8=putB 8 N:=We (by rw[BP];decide);rw[ht];simp only[eZ,seval,show((0:Int)<=7-((8:Nat):Int))=False by decide];exact Wk.sl (.inl d9)
end Go.AM
