/-
  Parts of the proof. Conditions: none.
-/
import Derived.Test.YtbohiinkdkoacaaGreatDoorB13
set_option maxRecDepth 20000
set_option linter.all false
namespace Go.AM
open Go.Lib Go.Proofs Go.Proofs.Tryz
def deW:Fs->W
 | .int _ n=>BitVec.ofInt 32 n
 |_=>0
def UG(l:List W):(l.map eW).map deW=l:=by
 rw[X2];have:deW∘eW=id:=by
  funext b;show BitVec.ofInt 32 (b.toNat:Int)=b;exact ofI b
 rw[this,Yg]
def deS(l:List Fs):W8:=⟨(l.map deW).getD 0 0,(l.map deW).getD 1 0,(l.map deW).getD 2 0,(l.map deW).getD 3 0,(l.map deW).getD 4 0,(l.map deW).getD 5 0,(l.map deW).getD 6 0,(l.map deW).getD 7 0⟩
def deS_l(s:W8):deS (s.l.map eW)=s:=by unfold deS;rw[UG];rfl
def sBlk:List Fs->AC->Prop×Fs:=λa _=>match a with
 |[.agg S,.sl (.none 1) L]=>((deS S).l.map eW=S/\L.length=64/\(L.map deB).map eB=L,.agg ((DW (deS S) (L.map deB)).l.map eW))
 |_=>(False,.tup [])
def qBlk:∀args H n,(sBlk args H).1->Ab prog 179 args H n (sBlk args H).2:=by
 intro args H n hh;unfold sBlk at hh⊢;split at hh
 ·rename_i S L;obtain⟨h0,h1,h2⟩:=hh;have:=(p179 (deS S) (L.map deB) (by rw[V0];exact h1)).quiet H n;unfold eBy at this;rw[h0,h2]at this;exact this
 ·exact hh.elim
def sPad:List Fs->AC->Prop×Fs:=λa _=>match a with
 |[.sl (.none 1) L]=>(L.length<999999000/\(L.map deB).map eB=L,eBy (pad2 (L.map deB)))
 |_=>(False,.tup [])
def qPad:∀args H n,(sPad args H).1->Ab prog 178 args H n (sPad args H).2:=by
 intro args H n hh;unfold sPad at hh⊢;split at hh
 ·rename_i L;obtain⟨h1,h2⟩:=hh;have:=(p178 (L.map deB) (by rw[V0];exact h1)).quiet H n;unfold eBy at this;rw[h2]at this;exact this
 ·exact hh.elim
def Tab4:Tab:=tadd 179 sBlk (tadd 178 sPad tnil)
def UH:AI prog Tab4:=(AI.tnil.add qPad).add qBlk
section
variable (a:List Fs) (H:AC)
theorem Tab4_b:Tab4 179 a H=sBlk a H:=rfl
theorem Tab4_p:Tab4 178 a H=sPad a H:=rfl
end
theorem Jc:∀(l:List W) (k:Nat),k<4*l.length->(EG l)[k]?=some (UInt8.ofNat ((l.getD (k/4) 0).toNat>>>(8*(3-k % 4))))
 |[],k,h=>absurd h (by rw[Wq];omega)
 |w::l,k,h=>by
  show(putB 4 w.toNat++EG l)[k]?=_;by_cases hk:k<4
  ·rw[WI (by rw[BP];exact hk)];unfold putB;rw[W3,XJ hk,Nat.div_eq_of_lt hk,Xy hk];rfl
  ·rw[Vz]at h;rw[WF (by rw[BP];omega),BP,Jc l (k-4) zo,show k/4=(k-4)/4+1 by omega,show(k-4) % 4=k % 4 by omega];rfl
def dL(s:W8)(k:Nat):List Fs:=((digB s).take k).map eB++List.replicate (32-k) (eB 0)
def dL_len{s:W8}{k:Nat}(h:k<=32):(dL s k).length=32:=by
 unfold dL;rw[V9,V0,W0,CB,Wj];omega
def dL_put{s:W8}{k:Nat}(h:k<32):(dL s k).take k++[eB (UInt8.ofNat ((s.l.getD (k/4) 0).toNat>>>(8*(3-k % 4))))]++(dL s k).drop (k+1)=dL s (k+1):=by
 have hg:(digB s)[k]?=some (UInt8.ofNat ((s.l.getD (k/4) 0).toNat>>>(8*(3-k % 4)))):=Jc s.l k h;have h1:(((digB s).take k).map eB).length=k:=by rw[V0,W0,CB];omega
 unfold dL;rw[WK zo,We zo,Yb,Xi zo,h1,Wi,List.drop_replicate,Vx,hg,Vt,show 32-k-(k+1-k)=32-(k+1)by omega];rfl
def Iu(b:List UInt8):(pad2 b).length=b.length+1+CJ b.length+8:=by
 unfold pad2;rw[V9,V9,Vz,Wj,BP];omega
def sum2(b:List UInt8):W8:=absF ((pad2 b).length/64) DO (pad2 b)
def p132(b:List UInt8)(hb:b.length<999999000):Pur prog 132 [eBy b] (eDg (digB (sum2 b))):=by
 refine .mk ⟨⟨trivial,AV (f:=eB) (λ_=>trivial) _⟩,trivial⟩ (AV (f:=eB) (λ_=>trivial) _) (c132.a (AE UH (AF ?_)));have hd:=DX b;have hbT:=V1 hb;simp only[eE,eN,reduceCtorEq,Nat.reduceEqDiff,↓reduceIte,Nat.reduceAdd,Nat.reduceLeDiff,V0,c132,Tab4_p,sPad,hd,hbT,AD,Z1.opds,oks];have h64:(pad2 b).length=64*((pad2 b).length/64):=by
  rw[Iu];unfold CJ;omega
 have r9:(pad2 b).length<1000000000:=by rw[Iu];unfold CJ;omega
 unfold sum2;generalize pad2 b=p at h64 r9;generalize hM:p.length/64=M at h64;obtain⟨Z,hZ⟩:∃Z,Z=List.replicate 32 (Fs.int .u8 0):=⟨_,rfl⟩;have zl:Z.length=32:=by rw[hZ,Wj]
 refine AO (λi:Nat=>⟨[(2,true,.ptr 0 0),(3,true,.ptr 2 0),(4,true,eBy p),(5,true,.int .i64 ((64*i:Nat):Int))],hset (hset hnil 0 (.box Z)) 2 (.box ((absF i DO p).l.map eW)),4⟩) (λi=>i<=M) (λi=>M-i) 0 (by
  rw[absF,MA,hZ];rfl) (V8 _) ?_
 clear hZ;rintro i hi;by_cases c6:i<M
 ·have n1:(((64*i:Nat):Int)<(p.length:Int))=True:=V1 zo;have e5:IntKind.wrap .i64 (((64*i:Nat):Int)+64)=((64*i+64:Nat):Int):=by rw[Ae zo zo];omega
  have f1:(((64*i:Nat):Int)<=((64*i+64:Nat):Int))=True:=V1 zo;have f2:(((64*i+64:Nat):Int)<=(p.length:Int))=True:=V1 zo;have hsl:((p.map eB).take (64*i+64)).drop (64*i)=((p.drop (64*i)).take 64).map eB:=by
   rw[<-XI,<-List.map_drop,List.drop_take,show 64*i+64-64*i=64 by omega]
  have b2:((p.drop (64*i)).take 64).length=64:=by rw[W0,Wl];omega
  have o9:=DX ((p.drop (64*i)).take 64);have nx:=FN i DO p;generalize absF i DO p=v at nx;have hds:=deS_l v;have hvl:v.l.length=8:=rfl;have ht8:List.take 8 (v.l.map eW)=v.l.map eW:=rfl;simp only[eZ,reduceCtorEq,Nat.reduceEqDiff,↓reduceIte,Int.reduceEq,eY,n1,e5,f1,f2,hsl,b2,o9,hds,hvl,ht8,Tab4_b,sBlk,AD];have hdr:List.drop (DW v ((p.drop (64*i)).take 64)).l.length (v.l.map eW)=[]:=rfl;refine⟨rfl,.mk (i+1) ?_ c6 zo⟩;simp only[hdr,W9,nx,show 64*(i+1)=64*i+64 by omega]
 obtain rfl:i=M:=zo
 generalize absF i DO p=v;have n1:(((64*i:Nat):Int)<(p.length:Int))=False:=Vs zo;simp only[eZ,reduceCtorEq,Nat.reduceEqDiff,↓reduceIte,Nat.reduceAdd,V0,n1,AD,Z1.opds,oks];generalize hB:hset (hset hnil 0 (.box Z)) 2 (.box (v.l.map eW))=B;have b0:hget B 0=some (.box Z):=by rw[<-hB,AA _ _ _ _ zd];exact AB ..
 have b2:∀X,hget (hset B 5 X) 2=some (.box (v.l.map eW)):=λX=>by rw[AA _ _ _ _ zd,<-hB];exact AB ..
 have b0':∀X,hget (hset B 5 X) 0=some (.box Z):=λX=>by rw[AA _ _ _ _ zd];exact b0
 clear hB;refine AO (λk:Nat=>⟨[(2,true,.ptr 0 0),(3,true,.ptr 2 0),(6,true,.ptr 5 0),(7,true,.int .i64 k)],hset B 5 (.box (dL v k)),7⟩) (λk=>k<=32) (λk=>32-k) 0 rfl zd ?_;rintro k hk;by_cases hlk:k<32
 ·have n2:((k:Int)<32)=True:=V1 zo;have e:=AG (k:=k) zo;have q1:((k:Int)).tdiv 4=((k/4:Nat):Int):=by rw[XV zo];norm_cast
  have q2:((k:Int)).tmod 4=((k % 4:Nat):Int):=by rw[XX zo];norm_cast
  have w1:IntKind.wrap .i64 ((k/4:Nat):Int)=((k/4:Nat):Int):=by rw[Ae zo zo]
  have w2:IntKind.wrap .i64 ((k % 4:Nat):Int)=((k % 4:Nat):Int):=by rw[Ae zo zo]
  have w3:IntKind.wrap .i64 (8*((k % 4:Nat):Int))=((8*(k % 4):Nat):Int):=by rw[Ae zo zo];omega
  have w4:IntKind.wrap .i64 (24-((8*(k % 4):Nat):Int))=((8*(3-k % 4):Nat):Int):=by rw[Ae zo zo];omega
  have hg:(List.take 1 ((v.l.map eW).drop (k/4))).headD (.tup [])=eW (v.l.getD (k/4) 0):=hd1 (by
   rw[W3,WM,V2 (show k/4<v.l.length from by show k/4<8;omega)];rfl)
  have sh:=JZ (v.l.getD (k/4) 0) (n:=8*(3-k % 4)) zo;have hto:(v.l.getD (k/4) 0>>>(8*(3-k % 4))).toNat=(v.l.getD (k/4) 0).toNat>>>(8*(3-k % 4)):=BitVec.toNat_ushiftRight ..;have g1:(((k/4:Nat):Int)<8)=True:=V1 zo;have g2:(k/4+1<=8)=True:=V1 zo;have g3:(k/4<=7)=True:=V1 zo;have g4:(k+1<=32)=True:=V1 zo;have g5:(k<=31)=True:=V1 zo;have hln:=dL_len (s:=v) hk;have hp:=dL_put (s:=v) hlk;simp only[eZ,Nat.reduceEqDiff,↓reduceIte,Int.reduceEq,eY,n2,e,q1,q2,w1,w3,w4,hg,sh,hto,Ja,g1,g2,g4,hln,b2,AD,XC,show v.l.length=8 from rfl,show((8:Nat):Int)=8 from rfl,show((32:Nat):Int)=32 from rfl];exact .mk (k+1) (by simp only[<-hp]) hlk zo
 obtain rfl:k=32:=zo
 have hdE:dL v 32=(digB v).map eB:=by unfold dL;rw[We (by rw[CB];decide)];exact W9 _
 have ht:List.take 32 ((digB v).map eB)=(digB v).map eB:=We (by rw[V0,CB];decide);have hdz:List.drop 32 Z=[]:=Xi zo;simp only[eZ,Nat.reduceEqDiff,↓reduceIte,Au,V0,show(((32:Nat):Int)<32)=False by decide,hdE,ht,CB,b0',hdz,zl];exact Wk.refl _
theorem MC:∀(k m:Nat) (s:W8) (l:List UInt8),absF (k+m) s l=absF m (absF k s l) (l.drop (64*k))
 |0,m,s,l=>by rw[Wr,absF,Nat.mul_zero,Xt]
 |k+1,m,s,l=>by
  rw[show k+1+m=(k+m)+1 by omega,absF,MC k m,absF,Y8,show 64+64*k=64*(k+1)by omega]
theorem MD:∀(k:Nat) (s:W8) (l x:List UInt8),64*k<=l.length->absF k s (l++x)=absF k s l
 |0,s,l,x,h=>rfl
 |k+1,s,l,x,h=>by
  rw[absF,absF,WK zo,List.drop_append_of_le_length zo,MD k _ _ _ (by rw[Wl];omega)]
def O4(b:List UInt8):sum2 b=sumW b:=by
 unfold sum2 sumW;have hr:(b.drop (64*(b.length/64))).length=b.length % 64:=by rw[Wl];omega
 have hz:CJ b.length=padN (b.drop (64*(b.length/64)))-(b.drop (64*(b.length/64))).length-9:=by
  unfold CJ padN;rw[hr];split<;>omega
 have hk:(pad2 b).length/64=b.length/64+padN (b.drop (64*(b.length/64)))/64:=by
  rw[Iu];unfold CJ padN;rw[hr];split<;>omega
 have hp:pad2 b=b++(128::List.replicate (CJ b.length) 0++putB 8 (8*b.length % 18446744073709551616)):=by
  unfold pad2;rw[Wb]
 rw[hk,MC];have h1:absF (b.length/64) DO (pad2 b)=absF (b.length/64) DO b:=by rw[hp];exact MD _ _ _ _ zo
 have h2:(pad2 b).drop (64*(b.length/64))=padE (b.drop (64*(b.length/64))) b.length:=by
  rw[hp,List.drop_append_of_le_length zo];unfold padE;rw[<-hz,Wb]
 rw[h1,h2]
def tag2(tag b:List UInt8):List UInt8:=digB (sum2 (digB (sum2 tag)++b))
def UI(tag b:List UInt8):tag2 tag b=B5 tag b:=by unfold tag2 B5;rw[O4,O4]
def sSm2:List Fs->AC->Prop×Fs:=λa _=>match a with
 |[.sl t L]=>(t.esz=1/\L.length<999999000/\(L.map deB).map eB=L,eDg (digB (sum2 (L.map deB))))
 |_=>(False,.tup [])
def qSm2:∀args H n,(sSm2 args H).1->Ab prog 132 args H n (sSm2 args H).2:=by
 intro args H n hh;unfold sSm2 at hh⊢;split at hh
 ·rename_i t L;obtain⟨h0,h1,h2⟩:=hh;have:=(p132 (L.map deB) (by rw[V0];exact h1)).quiet H n;unfold eBy at this;rw[h2]at this;refine AN.args this ?_;rintro g vs ⟨v,r,rfl,k1,k2⟩;exact⟨v,_,rfl,Wk.sl (.inl h0) _ _ k1,k2⟩
 ·exact hh.elim
def Tab5:Tab:=tadd 132 sSm2 tnil
def UJ:AI prog Tab5:=AI.tnil.add qSm2
theorem Tab5_s(a:List Fs)(H:AC):Tab5 132 a H=sSm2 a H:=rfl
def p44(tag b:List UInt8)(ht:tag.length<1000)(hb:b.length<900000000):Pur prog 44 [.str tag,eBy b] (eDg (B5 tag b)):=by
 rw[<-UI];refine .mk ⟨trivial,⟨trivial,AV (f:=eB) (λ_=>trivial) _⟩,trivial⟩ (AV (f:=eB) (λ_=>trivial) _) (c44.a (AE UJ (AF ?_)));have hd:List.map deB (List.map (λb=>Fs.int .u8 (b.toNat:Int)) tag)=tag:=DX tag;have hz:List.drop 32 [Fs.int .u8 0,Fs.int .u8 0,Fs.int .u8 0,Fs.int .u8 0,Fs.int .u8 0,Fs.int .u8 0,Fs.int .u8 0,Fs.int .u8 0,Fs.int .u8 0,Fs.int .u8 0,Fs.int .u8 0,Fs.int .u8 0,Fs.int .u8 0,Fs.int .u8 0,Fs.int .u8 0,Fs.int .u8 0,Fs.int .u8 0,Fs.int .u8 0,Fs.int .u8 0,Fs.int .u8 0,Fs.int .u8 0,Fs.int .u8 0,Fs.int .u8 0,Fs.int .u8 0,Fs.int .u8 0,Fs.int .u8 0,Fs.int .u8 0,Fs.int .u8 0,Fs.int .u8 0,Fs.int .u8 0,Fs.int .u8 0,Fs.int .u8 0]=[]:=by kernel_rfl
 have hs:(tag.length<999999000)=True:=V1 zo;have hl:=CB (sum2 tag);have ht32:List.take 32 ((digB (sum2 tag)).map eB)=(digB (sum2 tag)).map eB:=We (by rw[V0,hl];decide);have q1:small (32+b.length) 1=True:=V1 (AP zo zd);have q2:(32+b.length<=35184372088832)=True:=V1 zo;have q4:small 32 1=True:=V1 (AP zd zd);have hX:(digB (sum2 tag)).map eB++b.map eB=(digB (sum2 tag)++b).map eB:=by rw[Vt]
 have hXl:(digB (sum2 tag)++b).length=32+b.length:=by rw[V9,hl]
 have o9:=DX (digB (sum2 tag)++b);have q3:(32+b.length<999999000)=True:=V1 zo;unfold tag2;simp only[eE,eN,reduceCtorEq,Nat.reduceEqDiff,↓reduceIte,Nat.reduceAdd,Nat.reduceLeDiff,Nat.reduceMul,Nat.reduceLT,Nat.reduceSub,Au,eY,c44,Tab5_s,sSm2,AD,hd,hs,hl,CB,hz,ht32,q1,q2,q3,q4,hX,hXl,o9,Z1.opds,oks];exact⟨zd,Wk.refl _⟩
section
def numB(u:Nat):List UInt8:=if h:u<128 then[UInt8.ofNat u]else UInt8.ofNat (u % 128+128)::numB (u/128)
termination_by u
decreasing_by omega
variable {u:Nat}
theorem Iv(h:u<128):numB u=[UInt8.ofNat u]:=by rw[numB,dif_pos h]
theorem Kw(h:¬u<128):numB u=UInt8.ofNat (u % 128+128)::numB (u/128):=by rw[numB,dif_neg h]
theorem ME:∀(k u:Nat),u<128^(k+1)->(numB u).length<=k+1
 |0,u,h=>by rw[Iv (by simpa using h)];exact V4 1
 |k+1,u,h=>by
  by_cases h1:u<128
  ·rw[Iv h1];simp only[Vz,Wq];omega
  ·rw[Kw h1,Vz];have:=ME k (u/128) (by rw[Nat.pow_succ]at h;exact Nat.div_lt_of_lt_mul (by rw[Nat.mul_comm];exact h));omega
theorem Bi(h:u<18446744073709551616):(numB u).length<=10:=ME 9 u (X6 h zd)
def sNu(m:Nat):List Fs->AC->Prop×Fs:=λa _=>match a with
 |[.int .u64 x]=>(0<=x/\x<(m:Int),eBy (numB x.toNat))
 |_=>(False,.tup [])
theorem p176:∀(u:Nat),u<18446744073709551616->Pur prog 176 [.int .u64 (u:Int)] (eBy (numB u)):=by
 intro u;induction u using Nat.strongRecOn with
 |_ u ih=>
  intro hu;have hT:AI prog (tadd 176 (sNu u) tnil):=AI.tnil.add (by
   intro args H n hh;unfold sNu at hh⊢;split at hh
   ·rename_i x;obtain⟨h1,h2⟩:=hh;have:=(ih x.toNat zo zo).quiet H n;rw[WR h1]at this;exact this
   ·exact hh.elim)
  have hTe:∀a H,tadd 176 (sNu u) tnil 176 a H=sNu u a H:=λa H=>by unfold tadd;rw[Vv rfl]
  generalize tadd 176 (sNu u) tnil=T at hT hTe;refine .mk ⟨trivial,trivial⟩ ⟨trivial,AV (f:=eB) (λ_=>trivial) _⟩ (c176.a (AE hT (AF ?_)));by_cases h:u<128
  ·have n1:((u:Int)<128)=True:=V1 zo;rw[Iv h];simp only[eZ,seval,c176,n1,Ja,Z1.opds,oks];exact Wk.sl (.inl rfl)
  have n1:((u:Int)<128)=False:=Vs zo;have q1:(u:Int).tmod 128=((u % 128:Nat):Int):=by rw[XX zo];norm_cast
  have q2:(u:Int).tdiv 128=((u/128:Nat):Int):=by rw[XV zo];norm_cast
  have w1:IntKind.wrap .u64 ((u % 128:Nat):Int)=((u % 128:Nat):Int):=wu64 zo;have w2:IntKind.wrap .u64 ((u/128:Nat):Int)=((u/128:Nat):Int):=wu64 zo;have w3:IntKind.wrap .u64 (((u % 128:Nat):Int)+128)=((u % 128+128:Nat):Int):=by rw[show((u % 128:Nat):Int)+128=((u % 128+128:Nat):Int)by omega];exact wu64 zo
  have n2:(((u/128:Nat):Int)<(u:Int))=True:=V1 zo;rw[Kw h];have hl:=Bi (u:=u/128) zo;have s1:small (1+(numB (u/128)).length) 1=True:=V1 (AP zo zd);have s2:(1+(numB (u/128)).length<=35184372088832)=True:=V1 zo;simp only[eZ,seval,eY,c176,n1,q1,q2,w2,w3,n2,hTe,sNu,Ja,s1,s2,Z1.opds,oks];exact Wk.sl (.inl rfl)
def unsN(n:Int):Nat:=if 0<=n then(2*n).toNat else(-2*n-1).toNat
theorem p177(n:Int)(h1: -9223372036854775808<=n)(h2:n<9223372036854775808):Pur prog 177 [.int .i64 n] (.int .u64 (unsN n:Nat)):=by
 refine .mk ⟨trivial,trivial⟩ trivial (c177.a (AE AI.tnil (AF ?_)));by_cases h:0<=n
 ·have e1:IntKind.wrap .u64 n=n:=by
   have:=wu64 (n:=n.toNat) zo
   rwa[WR h]at this
  have e2:IntKind.wrap .u64 (2*n)=((unsN n:Nat):Int):=by
   have:=wu64 (n:=(2*n).toNat) zo;rw[WR zo]at this;rw[this];unfold unsN;rw[Vv h,WR zo]
  simp only[eZ,seval,c177,V1 h,e1,e2]
 ·have w1:IntKind.wrap .i64 (n+1)=n+1:=Ae zo zo;have w2:IntKind.wrap .i64 (0-(n+1))= -(n+1):=by rw[Ae zo zo];omega
  have w2':IntKind.wrap .i64 (-(n+1))= -(n+1):=by rw[Ae zo zo]
  have e1:IntKind.wrap .u64 (-(n+1))= -(n+1):=by
   have:=wu64 (n:=(-(n+1)).toNat) zo
   rwa[WR zo]at this
  have e2:IntKind.wrap .u64 (2* -(n+1))=2* -(n+1):=by
   have:=wu64 (n:=(2* -(n+1)).toNat) zo
   rwa[WR zo]at this
  have e3:IntKind.wrap .u64 (2* -(n+1)+1)=((unsN n:Nat):Int):=by
   have:=wu64 (n:=(2* -(n+1)+1).toNat) zo;rw[WR zo]at this;rw[this];unfold unsN;rw[V5 h,WR zo];omega
  simp only[eZ,seval,c177,Vs h,w1,w2,e1,e2,e3]
theorem x64_0{m:Nat}(h:m<18446744073709551616):FT .xor .u64 (m:Int) 0=(m:Int):=by
 show IntKind.wrap .u64 ((BitVec.ofInt 64 (m:Int)^^^BitVec.ofInt 64 0).toNat:Int)=_;rw[show BitVec.ofInt 64 0=0#64 by rfl,BitVec.xor_zero,Ym,XA,Xy h,wu64 h]
theorem x64_1{m:Nat}(h:m<18446744073709551616):FT .xor .u64 (m:Int) 18446744073709551615=((18446744073709551615-m:Nat):Int):=by
 show IntKind.wrap .u64 ((BitVec.ofInt 64 (m:Int)^^^BitVec.ofInt 64 18446744073709551615).toNat:Int)=_;rw[show BitVec.ofInt 64 18446744073709551615=BitVec.allOnes 64 by rfl,BitVec.xor_allOnes,Ym,BitVec.toNat_not,XA,Xy h,show 2^64-1-m=18446744073709551615-m from rfl,wu64 zo]
theorem sr63(n:Int):CK .shr .i64 n 63=n/9223372036854775808:=by
 show Int.fdiv n 9223372036854775808=_;rw[Yn _ zd]
theorem sl1(n:Int):CK .shl .u64 n 1=IntKind.wrap .u64 (n*2):=rfl
theorem p168(n:Int)(h1: -9223372036854775808<=n)(h2:n<9223372036854775808):Pur prog 168 [.int .i64 n] (.int .u64 (unsN n:Nat)):=by
 refine .mk ⟨trivial,trivial⟩ trivial (c168.a (AE AI.tnil (AF ?_)));by_cases h:0<=n
 ·have e1:IntKind.wrap .u64 n=n:=by
   have:=wu64 (n:=n.toNat) zo
   rwa[WR h]at this
  have e2:IntKind.wrap .u64 (n*2)=((unsN n:Nat):Int):=by
   have:=wu64 (n:=(2*n).toNat) zo;rw[WR zo]at this;rw[show n*2=2*n by omega,this];unfold unsN;rw[Vv h,WR zo]
  have e3:n/9223372036854775808=0:=zo
  have hu:unsN n<18446744073709551616:=by unfold unsN;rw[Vv h];omega
  simp only[eE,eN,seval,c168,e1,sr63,sl1,e2,e3,show IntKind.wrap .u64 0=0 by kernel_rfl,x64_0 hu]
 ·have e1:IntKind.wrap .u64 n=n+18446744073709551616:=by
   simp only[IntKind.wrap,IntKind.bits,IntKind.signed,Xn,W5,Wf];omega
  have e2:IntKind.wrap .u64 ((n+18446744073709551616)*2)=((18446744073709551615-unsN n:Nat):Int):=by
   simp only[IntKind.wrap,IntKind.bits,IntKind.signed,Xn,W5,Wf];unfold unsN;rw[V5 h];omega
  have e3:n/9223372036854775808= -1:=zo
  have hu:unsN n<=18446744073709551615:=by unfold unsN;rw[V5 h];omega
  have x:=x64_1 (m:=18446744073709551615-unsN n) zo;rw[show 18446744073709551615-(18446744073709551615-unsN n)=unsN n by omega]at x;simp only[eE,eN,seval,c168,e1,sr63,sl1,e2,e3,show IntKind.wrap .u64 (-1)=18446744073709551615 by kernel_rfl,x]
end
def or128(x:Nat):FT .or .u8 ((UInt8.ofNat x).toNat:Int) 128=((UInt8.ofNat (x % 128+128)).toNat:Int):=by
 show IntKind.wrap .u8 ((BitVec.ofInt 8 ((UInt8.ofNat x).toNat:Int)|||BitVec.ofInt 8 128).toNat:Int)=_;have hd:∀y:BitVec 8,(y|||128#8).toNat=y.toNat % 128+128:=zd
 rw[show BitVec.ofInt 8 128=128#8 by rfl,hd,Ym,XA,Ja];have:(UInt8.ofNat x).toNat % 2^8 % 128+128=x % 128+128:=by rw[UInt8.toNat_ofNat'];omega
 rw[this]
structure VNu where
 x:Nat
 A:List UInt8
 tk:Zd
 H:AC
 n:Nat
structure INu(l:List UInt8)(u m:Nat)(tk:Zd)(H:AC)(v:VNu):Prop where
 eq:v.A++numB v.x=l++numB u
 lt:v.x<18446744073709551616
 fr:AR v.H v.n
 le:m<=v.n
 ok:At v.H 1 v.tk
 es:v.tk.esz=1
 ow:∀id e,v.tk= .own id e->id<v.n
 low:∀i,i<m->hget (AL v.H v.tk) i=hget (AL H tk) i
def C6{H:AC}{n:Nat}{tk:Zd}(hf:AR H n)(ho:∀id e,tk= .own id e->id<n):AR (AL H tk) n:=by
 unfold AL;split
 ·exact hf.hset (V4 _) (ho _ _ rfl)
 ·exact hf
def Jd(H:AC)(m:Nat)(tk:Zd)(L:List UInt8)(o:Zb)(H':AC)(n':Nat):Prop:=
 ∃id,m<=id/\id<n'/\o= .ret (.sl (.own id 1) (L.map eB))/\hget H' id=some .tok/\AR H' n'/\∀i,i<m->hget H' i=hget (AL H tk) i
def Ge{H:AC}{m:Nat}{tk:Zd}(l:List UInt8)(u:Nat)(hu:u<18446744073709551616)(hl:l.length<999000000)(hf:AR H m)(hk:At H 1 tk)(he:tk.esz=1)(ho:∀id e,tk= .own id e->id<m):AN prog 167 [.sl tk (l.map eB),.int .u64 (u:Int)] H m (Jd H m tk (l++numB u)):=by
 refine c167.a (AE AI.tnil (AF ?_));simp only[eE,eN,seval,c167];refine AO (λv:VNu=>⟨[(0,true,.sl v.tk (v.A.map eB)),(1,true,.int .u64 (v.x:Int))],v.H,v.n⟩) (INu l u m tk H) (λv=>v.x) ⟨u,l,tk,H,m⟩ rfl ⟨rfl,hu,hf,V4 _,hk,he,ho,λ_ _=>rfl⟩ ?_;clear hf hk he ho;rintro⟨x,A,t,H1,n⟩ ⟨heq,hx,hf,hm,hk,he,ho,m4⟩;simp only at heq hx hf hm hk he ho m4;have hAl:A.length<=l.length+10:=by
  have:=congrArg List.length heq;rw[V9,V9]at this;have:=Bi hu;omega
 have q1:=V1 hk;have q2:(A.length+1<=35184372088832)=True:=V1 zo;have q3:small (A.length+1) 1=True:=V1 (AP zo zd);have kf:=C6 hf ho;by_cases h:x<128
 ·have n1:((128:Int)<=(x:Int))=False:=Vs zo;rw[Iv h]at heq;simp only[eZ,seval,V0,n1,Ja,q1,q2,q3,fr1 hf,Z1.opds,oks];refine⟨n+4,zo,zo,?_,AB ..,kf.hset (m:=n+6) zo zo,λi hi=>?_⟩
  ·rw[<-heq,Vt];rfl
  ·rw[AA _ _ _ _ zo];exact m4 i hi
 have n1:((128:Int)<=(x:Int))=True:=V1 zo;have sh:CK .shr .u64 (x:Int) 7=((x/128:Nat):Int):=by
  have:=T7 (n:=x) (s:=7) zd
  rwa[Nat.shiftRight_eq_div_pow]at this
 simp only[eZ,seval,V0,n1,Ja,or128,sh,q1,q2,q3,fr1 hf,Z1.opds,oks];rw[Kw h]at heq;refine .mk ⟨x/128,A++[UInt8.ofNat (x % 128+128)],.own (n+5) 1,hset (AL H1 t) (n+5) .tok,n+7⟩ ?_ ⟨?_,zp,kf.hset (m:=n+7) zo zo,zp,⟨rfl,AB ..⟩,rfl,λid e h=>by cases h;simp only[];omega,λi hi=>?_⟩ zp
 ·simp only[Vt,W6,Wh]
 ·simp only[];rw[Wb];exact heq
 ·show hget (hset (hset (AL H1 t) (n+5) .tok) (n+5) .dead) i=_;rw[AD,AA _ _ _ _ zo];exact m4 i hi
end Go.AM
namespace Go.AM
open Go.Proofs Go.Lib Go.Proofs.Tryz
inductive Z0 where
 |int (n:Int)
 |text (s:List UInt8)
 |list (l:List Z0)
mutual
def eV:Z0->Fs
 | .int n=>.agg [.int .i64 1,.int .i64 n,.str [],.sl (.none 4) []]
 | .text s=>.agg [.int .i64 2,.int .i64 0,.str s,.sl (.none 4) []]
 | .list l=>.agg [.int .i64 3,.int .i64 0,.str [],.sl (.none 4) (eVs l)]
def eVs:List Z0->List Fs
 |[]=>[]
 |v::l=>eV v::eVs l
end
theorem CO:∀l:List Z0,eVs l=l.map eV
 |[]=>rfl
 |v::l=>by rw[eVs,CO l,W6]
mutual
theorem S2:∀a b:Z0,eV a=eV b->a=b
 | .int n,.int m,h=>by simp only[eV,Fs.agg.injEq,List.cons.injEq,Fs.int.injEq,WQ,Xk]at h;rw[h]
 | .int n,.text m,h=>by simp [eV]at h
 | .int n,.list m,h=>by simp [eV]at h
 | .text n,.int m,h=>by simp [eV]at h
 | .text n,.text m,h=>by simp [eV]at h;rw[h]
 | .text n,.list m,h=>by simp [eV]at h
 | .list n,.int m,h=>by simp [eV]at h
 | .list n,.text m,h=>by simp [eV]at h
 | .list n,.list m,h=>by simp [eV]at h;rw[eVs_inj n m h]
theorem eVs_inj:∀a b:List Z0,eVs a=eVs b->a=b
 |[],[],h=>rfl
 |[],_::_,h=>by simp [eVs]at h
 |_::_,[],h=>by simp [eVs]at h
 |a::x,b::y,h=>by
  simp only[eVs,List.cons.injEq]at h;rw[S2 a b h.1,eVs_inj x y h.2]
end
mutual
theorem Af(m:Nat):∀v:Z0,(eV v).under m
 | .int n=>⟨trivial,trivial,trivial,⟨trivial,trivial⟩,trivial⟩
 | .text s=>⟨trivial,trivial,trivial,⟨trivial,trivial⟩,trivial⟩
 | .list l=>⟨trivial,trivial,trivial,⟨trivial,eVs_under m l⟩,trivial⟩
theorem eVs_under(m:Nat):∀l:List Z0,unders m (eVs l)
 |[]=>trivial
 |v::l=>⟨Af m v,eVs_under m l⟩
end
open Classical in
noncomputable def dV(a:Fs):Z0:=if h:∃x,eV x=a then h.choose else .int 0
def DY(v:Z0):dV (eV v)=v:=by
 have h:∃x,eV x=eV v:=⟨v,rfl⟩;unfold dV;rw[dif_pos h];exact S2 _ _ h.choose_spec
mutual
def depV:Z0->Nat
 | .list l=>depVs l+1
 |_=>0
def depVs:List Z0->Nat
 |[]=>0
 |v::l=>max (depV v) (depVs l)
end
def MF(v:Z0):(4<=(eV v).cells.length)=True:=V1 (by cases v<;>simp [eV,Fs.cells])
def F4(v:Z0):Fs.agg (List.take 4 (eV v).cells)=eV v:=by cases v<;>rfl
theorem Gf:∀{l:List Z0} {x:Z0},x∈l->depV x<=depVs l
 |y::l,x,h=>by
  rw[depVs];rcases Wp.1 h with rfl|h
  ·exact Nat.le_max_left ..
  ·exact WD (Gf h) (Nat.le_max_right ..)
theorem Je:∀(l m:List Z0),depVs (l++m)=max (depVs l) (depVs m)
 |[],m=>by rw[Wi,depVs,Nat.zero_max]
 |v::l,m=>by rw[Ww,depVs,Je l m,depVs,Nat.max_assoc]
def Hu{l:List Z0}{i:Nat}(h:i<l.length):depVs (l.take (i+1))=max (depVs (l.take i)) (depV l[i]):=by
 rw[Vx,V2 h,Yq,Je,depVs,depVs,Nat.max_zero]
inductive FewV:Z0->Prop
 |int {n:Int} (h1: -9223372036854775808<=n) (h2:n<9223372036854775808):FewV (.int n)
 |text {s:List UInt8} (h:s.length<100000):FewV (.text s)
 |list {l:List Z0} (h:l.length<100000) (hx:∀x∈l,FewV x):FewV (.list l)
def p129(n:Int):Pur prog 129 [.int .i64 n] (eV (.int n)):=by
 refine .mk ⟨trivial,trivial⟩ (Af 0 _) (c129.a (AE AI.tnil (AF ?_)));simp only[eE,eN,seval,Au,c129,AD,Z1.opds,oks];exact Wk.agg (.cons (Wk.refl _) (.cons (Wk.refl _) (.cons (Wk.refl _) (.cons (Wk.sl (.inr rfl)) .nil))))
def p128(s:List UInt8):Pur prog 128 [.str s] (eV (.text s)):=by
 refine .mk ⟨trivial,trivial⟩ (Af 0 _) (c128.a (AE AI.tnil (AF ?_)));simp only[eE,eN,seval,Au,c128,AD,Z1.opds,oks];exact Wk.agg (.cons (Wk.refl _) (.cons (Wk.refl _) (.cons (Wk.refl _) (.cons (Wk.sl (.inr rfl)) .nil))))
noncomputable def sVr(l:List Z0)(f:Z0->Fs):List Fs->AC->Prop×Fs:=λa _=>match a with
 |[x]=>(∃v∈l,eV v=x,f (dV x))
 |_=>(False,.tup [])
def qVr{fid:FuncId}{l:List Z0}{f:Z0->Fs}(h:∀v∈l,Pur prog fid [eV v] (f v)):∀args H n,(sVr l f args H).1->Ab prog fid args H n (sVr l f args H).2:=by
 intro args H n hh;unfold sVr at hh⊢;split at hh
 ·obtain⟨v,hv,rfl⟩:=hh;simp only[DY];exact(h v hv).quiet H n
 ·exact hh.elim
def p174{v:Z0}(hv:FewV v):Pur prog 174 [eV v] (.bool true):=by
 induction hv with
 | @int n h1 h2=>
  refine .mk ⟨Af 0 _,trivial⟩ trivial (c174.a (AE AI.tnil (AF ?_)));simp only[eZ,seval,c0,c174,eV];rfl
 | @text s h=>
  refine .mk ⟨Af 0 _,trivial⟩ trivial (c174.a (AE AI.tnil (AF ?_)));simp only[eZ,seval,c0,c174,eV]
 | @list l hl hx ih=>
  have hT:AI prog (tadd 174 (sVr l λ_=>.bool true) tnil):=AI.tnil.add (qVr ih);have hTe:∀a H,tadd 174 (sVr l λ_=>.bool true) tnil 174 a H=sVr l (λ_=>.bool true) a H:=λa H=>by unfold tadd;rw[Vv rfl]
  generalize tadd 174 (sVr l λ_=>.bool true) tnil=T at hT hTe;refine .mk ⟨Af 0 _,trivial⟩ trivial (c174.a (AE hT (AF ?_)));simp only[eZ,seval,c174,eV,CO];refine AO (λi:Nat=>⟨[(1,true,.ptr 0 0),(3,true,.int .i64 i)],hset hnil 0 (.box [.int .i64 3,.int .i64 0,.str [],.sl (.none 4) (l.map eV)]),2⟩) (λi=>i<=l.length) (λi=>l.length-i) 0 rfl (V8 _) ?_;rintro i hi;by_cases c6:i<l.length
  ·have hg:=V2 c6;have hm:(∃v∈l,eV v=eV l[i])=True:=V1 ⟨_,W1 c6,rfl⟩;have e:=AG (k:=i) zo;simp only[eZ,seval,V3,eY,lt_T c6,hg,hm,hTe,sVr,e,MF,F4];exact .mk (i+1) rfl c6 zo
  obtain rfl:i=l.length:=zo
  simp only[eZ,seval,V0,lt_F c6];rfl
def p175{v:Z0}(hv:FewV v):depV v<=1000->Pur prog 175 [eV v] (.int .i64 (depV v:Nat)):=by
 induction hv with
 | @int n h1 h2=>
  intro _;refine .mk ⟨Af 0 _,trivial⟩ trivial (c175.a (AE AI.tnil (AF ?_)));simp only[eZ,seval,V6,c0,c175,eV,depV]
 | @text s h=>
  intro _;refine .mk ⟨Af 0 _,trivial⟩ trivial (c175.a (AE AI.tnil (AF ?_)));simp only[eZ,seval,V6,c0,c175,eV,depV]
 | @list l hl hx ih=>
  intro hd;rw[depV]at hd;have hT:AI prog (tadd 175 (sVr l λv=>.int .i64 (depV v:Nat)) tnil):=AI.tnil.add (qVr λv hv=>ih v hv (WD (Gf hv) zo));have hTe:∀a H,tadd 175 (sVr l λv=>.int .i64 (depV v:Nat)) tnil 175 a H=sVr l (λv=>.int .i64 (depV v:Nat)) a H:=λa H=>by unfold tadd;rw[Vv rfl]
  generalize tadd 175 (sVr l λv=>.int .i64 (depV v:Nat)) tnil=T at hT hTe;refine .mk ⟨Af 0 _,trivial⟩ trivial (c175.a (AE hT (AF ?_)));rw[depV];simp only[eZ,seval,V3,c175,eV,CO];refine AO (λi:Nat=>⟨[(1,true,.ptr 0 0),(3,true,.int .i64 (depVs (l.take i):Nat)),(4,true,.int .i64 i)],hset hnil 0 (.box [.int .i64 3,.int .i64 0,.str [],.sl (.none 4) (l.map eV)]),2⟩) (λi=>i<=l.length) (λi=>l.length-i) 0 rfl (V8 _) ?_;rintro i hi;by_cases c6:i<l.length
  ·have hg:=V2 c6;have hm:(∃v∈l,eV v=eV l[i])=True:=V1 ⟨_,W1 c6,rfl⟩;have e:=AG (k:=i) zo;have nx:=Hu c6;simp only[eZ,seval,eY,lt_T c6,hg,hm,hTe,sVr,e,MF,F4,DY];have mx:max ((depVs (l.take i):Nat):Int) ((depV l[i]:Nat):Int)=((max (depVs (l.take i)) (depV l[i]):Nat):Int):=zo
   exact .mk (i+1) (by simp only[mx,<-nx]) c6 zo
  obtain rfl:i=l.length:=zo
  have e:=AG (k:=depVs l) zo;rw[Vw];simp only[eZ,seval,V0,lt_F c6,e]
end Go.AM
namespace Go.AM
open Go.Lib Go.Proofs Go.Proofs.Tryz
def BD(v:Z0):(eV v).cells.length=4:=by cases v<;>rfl
def B1(v:Z0):nT (eV v)=True:=V1 (by cases v<;>trivial)
theorem S3:scmp .eql [] []=true:=rfl
def p165{v:Z0}(hv:FewV v):depV v<=1000->Pur prog 165 [eV v] (.tup [.int .i64 (depV v:Nat),.bool true]):=by
 induction hv with
 | @int n h1 h2=>
  intro _;refine .mk ⟨Af 0 _,trivial⟩ ⟨trivial,trivial,trivial⟩ (c165.a (AE AI.tnil (AF ?_)));simp only[eZ,reduceCtorEq,Nat.reduceEqDiff,↓reduceIte,Nat.reduceAdd,Nat.reduceLeDiff,Nat.reduceMul,Int.reduceLE,Int.reduceLT,V3,c0,Int.toNat_one,c165,eV,depV,S3,AD,Z1.opds,oks];exact⟨zd,Wk.refl _⟩
 | @text s h=>
  intro _;refine .mk ⟨Af 0 _,trivial⟩ ⟨trivial,trivial,trivial⟩ (c165.a (AE AI.tnil (AF ?_)));simp only[eZ,reduceCtorEq,Nat.reduceEqDiff,↓reduceIte,Nat.reduceAdd,Nat.reduceLeDiff,Nat.reduceMul,Int.reduceLE,Int.reduceLT,Int.reduceToNat,V3,c0,c165,eV,depV,AD,Z1.opds,oks];exact⟨zd,Wk.refl _⟩
 | @list l hl hx ih=>
  intro hd;rw[depV]at hd;have hT:AI prog (tadd 165 (sVr l λv=>.tup [.int .i64 (depV v:Nat),.bool true]) tnil):=AI.tnil.add (qVr λv hv=>ih v hv (WD (Gf hv) zo));have hTe:∀a H,tadd 165 (sVr l λv=>.tup [.int .i64 (depV v:Nat),.bool true]) tnil 165 a H=sVr l (λv=>.tup [.int .i64 (depV v:Nat),.bool true]) a H:=λa H=>by unfold tadd;rw[Vv rfl]
  generalize tadd 165 (sVr l λv=>.tup [.int .i64 (depV v:Nat),.bool true]) tnil=T at hT hTe;refine .mk ⟨Af 0 _,trivial⟩ ⟨trivial,trivial,trivial⟩ (c165.a (AE hT (AF ?_)));rw[depV];simp only[eZ,reduceCtorEq,Nat.reduceEqDiff,↓reduceIte,Nat.reduceAdd,Nat.reduceLeDiff,Nat.reduceMul,Int.reduceLE,Int.reduceLT,Int.reduceToNat,V3,V0,c165,eV,CO,S3,AD,Z1.opds,oks];refine⟨zd,?_⟩;generalize hH:hset (hset hnil 0 (.box [.int .i64 3,.int .i64 0,.str [],.sl (.none 4) (l.map eV)])) 30 _=H;have hf:AR H 32:=by rw[<-hH];exact(AR.nil.hset (m:=32) (V8 _) zd).hset (V4 _) zd
  clear hH;have h34:=hf 34 zd;refine AO (λi:Nat=>⟨[(2,true,.int .i64 (depVs (l.take i):Nat)),(55,true,.sl (.none 4) (l.map eV)),(56,true,.int .i64 (l.length:Nat)),(57,true,.int .i64 i)],H,32⟩) (λi=>i<=l.length) (λi=>l.length-i) 0 rfl (V8 _) ?_;rintro i hi;by_cases c6:i<l.length
  ·have hg:=V2 c6;have hm:(∃v∈l,eV v=eV l[i])=True:=V1 ⟨_,W1 c6,rfl⟩;have e:=AG (k:=i) zo;have nx:=Hu c6;simp only[eZ,Nat.reduceEqDiff,↓reduceIte,Nat.reduceAdd,Nat.reduceLT,Int.reduceEq,V3,eY,lt_T c6,hg,hm,hTe,sVr,e,AD,BD,B1,F4,DY,h34];have mx:max ((depVs (l.take i):Nat):Int) ((depV l[i]:Nat):Int)=((max (depVs (l.take i)) (depV l[i]):Nat):Int):=zo
   rw[mx,<-nx];exact lpN.drop (i+1) rfl rfl rfl rfl hf (Ce.new hf zd (Ce.refl _)) ⟨trivial,⟨trivial,by rw[<-CO];exact eVs_under 32 l⟩,trivial,trivial,trivial⟩ c6 zo
  obtain rfl:i=l.length:=zo
  have e:=AG (k:=depVs l) zo;rw[Vw];simp only[eZ,Nat.reduceEqDiff,↓reduceIte,Int.reduceEq,lt_F c6,e];exact Wk.refl _
noncomputable def sV1(ok:Z0->Prop)(f:Z0->Fs):List Fs->AC->Prop×Fs:=λa _=>match a with
 |[x]=>(∃v,ok v/\eV v=x,f (dV x))
 |_=>(False,.tup [])
def qV1{fid:FuncId}{ok:Z0->Prop}{f:Z0->Fs}(h:∀v,ok v->Pur prog fid [eV v] (f v)):∀args H n,(sV1 ok f args H).1->Ab prog fid args H n (sV1 ok f args H).2:=by
 intro args H n hh;unfold sV1 at hh⊢;split at hh
 ·obtain⟨v,hv,rfl⟩:=hh;simp only[DY];exact(h v hv).quiet H n
 ·exact hh.elim
def OkV(v:Z0):Prop:=FewV v/\depV v<=16
noncomputable def Tab6:Tab:=tadd 165 (sV1 OkV λv=>.tup [.int .i64 (depV v:Nat),.bool true]) (tadd 174 (sV1 OkV λ_=>.bool true) (tadd 175 (sV1 OkV λv=>.int .i64 (depV v:Nat)) tnil))
def O5:AI prog Tab6:=((AI.tnil.add (qV1 λv h=>p175 h.1 (WD h.2 zd))).add (qV1 λv h=>p174 h.1)).add (qV1 λv h=>p165 h.1 (WD h.2 zd))
section
variable (a:List Fs) (H:AC)
theorem Tab6_a:Tab6 165 a H=sV1 OkV (λv=>.tup [.int .i64 (depV v:Nat),.bool true]) a H:=rfl
theorem Tab6_b:Tab6 174 a H=sV1 OkV (λ_=>.bool true) a H:=rfl
theorem Tab6_c:Tab6 175 a H=sV1 OkV (λv=>.int .i64 (depV v:Nat)) a H:=rfl
end
def p106(v:Z0)(hv:OkV v):Pur prog 106 [eV v] (.int .i64 0):=by
 refine .mk ⟨Af 0 _,trivial⟩ trivial (c106.a (AE O5 (AF ?_)));have hm:(∃u,OkV u/\eV u=eV v)=True:=V1 ⟨v,hv,rfl⟩;have hd:decide ((16:Int)<(depV v:Int))=false:=by have:=hv.2;simp;omega
 simp only[eZ,seval,V3,eY,c106,Tab6_a,sV1,BD,B1,F4,DY,hm,hd]
def p125(v:Z0)(hv:OkV v):Pur prog 125 [eV v] (.int .i64 0):=by
 refine .mk ⟨Af 0 _,trivial⟩ trivial (c125.a (AE O5 (AF ?_)));have hm:(∃u,OkV u/\eV u=eV v)=True:=V1 ⟨v,hv,rfl⟩;have hd:decide ((16:Int)<(depV v:Int))=false:=by have:=hv.2;simp;omega
 simp only[eZ,seval,V3,c125,Tab6_b,Tab6_c,sV1,BD,B1,F4,DY,hm,hd]
mutual
def encB:Z0->List UInt8
 | .int n=>1::numB (unsN n)
 | .text s=>2::(numB s.length++s)
 | .list l=>3::(numB l.length++encBs l)
def encBs:List Z0->List UInt8
 |[]=>[]
 |v::l=>encB v++encBs l
end
theorem Gg:∀(l m:List Z0),encBs (l++m)=encBs l++encBs m
 |[],m=>by rw[Wi,encBs,Wi]
 |v::l,m=>by rw[Ww,encBs,Gg l m,encBs,Wb]
def Hv{l:List Z0}{i:Nat}(h:i<l.length):encBs (l.take (i+1))=encBs (l.take i)++encB l[i]:=by
 rw[Vx,V2 h,Yq,Gg,encBs,encBs,W9]
theorem Jf:∀{l:List Z0} {x:Z0},x∈l->(encB x).length<=(encBs l).length
 |y::l,x,h=>by
  rw[encBs,V9];rcases Wp.1 h with rfl|h
  ·omega
  ·have:=Jf h;omega
def MG(l:List Z0)(i:Nat):(encBs (l.take i)).length<=(encBs l).length:=by
 conv=>rhs;rw[<-XT i l,Gg,V9]
 omega
def sNm:List Fs->AC->Prop×Fs:=λa _=>match a with
 |[.int .u64 x]=>(0<=x/\x<18446744073709551616,eBy (numB x.toNat))
 |_=>(False,.tup [])
def qNm:∀args H n,(sNm args H).1->Ab prog 176 args H n (sNm args H).2:=by
 intro args H n hh;unfold sNm at hh⊢;split at hh
 ·rename_i x;obtain⟨h1,h2⟩:=hh;have:=(p176 x.toNat zo).quiet H n;rw[WR h1]at this;exact this
 ·exact hh.elim
def sUn:List Fs->AC->Prop×Fs:=λa _=>match a with
 |[.int .i64 x]=>(-9223372036854775808<=x/\x<9223372036854775808,.int .u64 (unsN x:Nat))
 |_=>(False,.tup [])
def qUn:∀args H n,(sUn args H).1->Ab prog 177 args H n (sUn args H).2:=by
 intro args H n hh;unfold sUn at hh⊢;split at hh
 ·exact(p177 _ hh.1 hh.2).quiet H n
 ·exact hh.elim
def TabN:Tab:=tadd 176 sNm (tadd 177 sUn tnil)
def Kx:AI prog TabN:=(AI.tnil.add qUn).add qNm
def Iw{n:Int}(h1: -9223372036854775808<=n)(h2:n<9223372036854775808):unsN n<18446744073709551616:=by unfold unsN;split<;>omega
structure IEn(B:Z7)(m:Nat)(v:VPd):Prop where
 hj:v.j<=m
 fr:AR v.H v.n
 tok:tkG 1 1 v.H v.tk
 es:v.tk.esz=1
 h0:hget v.H 0=some B
 n1:1<=v.n
def p126{v:Z0}(hv:FewV v):(encB v).length<900000000->Pur prog 126 [eV v] (eBy (encB v)):=by
 induction hv with
 | @int n h1 h2=>
  intro _;refine .mk ⟨Af 0 _,trivial⟩ ⟨trivial,AV (f:=eB) (λ_=>trivial) _⟩ (c126.a (AE Kx (AF ?_)));have hl:=Bi (Iw h1 h2);have q0:((unsN n:Int)<18446744073709551616)=True:=V1 (by have:=Iw h1 h2;omega);have q1:small (1+(numB (unsN n)).length) 1=True:=V1 (AP zo zd);have q2:(1+(numB (unsN n)).length<=35184372088832)=True:=V1 zo;simp only[eZ,seval,eY,c126,eV,encB,TabN,sNm,sUn,V1 h1,V1 h2,q0,q1,q2,Z1.opds,oks,tadd];exact Wk.sl (.inl rfl)
 | @text s h=>
  intro _;refine .mk ⟨Af 0 _,trivial⟩ ⟨trivial,AV (f:=eB) (λ_=>trivial) _⟩ (c126.a (AE Kx (AF ?_)));have hl:=Bi (u:=s.length) zo;have q0:((s.length:Int)<18446744073709551616)=True:=V1 zo;have wl:IntKind.wrap .u64 (s.length:Int)=(s.length:Int):=wu64 zo;have q1:small (1+(numB s.length).length) 1=True:=V1 (AP zo zd);have q2:(1+(numB s.length).length<=35184372088832)=True:=V1 zo;have q3:small (1+(numB s.length).length+s.length) 1=True:=V1 (AP zo zd);have q4:(1+(numB s.length).length+s.length<=35184372088832)=True:=V1 zo;simp only[eZ,seval,eY,c126,eV,encB,TabN,sNm,wl,q0,q1,q2,Z1.opds,oks,tadd];refine⟨⟨AP zo zd,zo⟩,?_⟩;show Wk _ (.sl (.none 1) ((2::(numB s.length++s)).map eB));rw[W6,Vt];exact Wk.sl (.inl rfl)
 | @list l hl hx ih=>
  intro hb;rw[encB,Vz,V9]at hb;have hT:AI prog (tadd 126 (sVr l λv=>eBy (encB v)) TabN):=Kx.add (qVr λv hv=>ih v hv (Nat.lt_of_le_of_lt (Jf hv) zo));have hTe:∀a H,tadd 126 (sVr l λv=>eBy (encB v)) TabN 126 a H=sVr l (λv=>eBy (encB v)) a H:=λa H=>by unfold tadd;rw[Vv rfl]
  have hTn:∀a H,tadd 126 (sVr l λv=>eBy (encB v)) TabN 176 a H=sNm a H:=λa H=>rfl
  generalize tadd 126 (sVr l λv=>eBy (encB v)) TabN=T at hT hTe hTn;refine .mk ⟨Af 0 _,trivial⟩ ⟨trivial,AV (f:=eB) (λ_=>trivial) _⟩ (c126.a (AE hT (AF ?_)));have hl10:=Bi (u:=l.length) zo;have q0:((l.length:Int)<18446744073709551616)=True:=V1 zo;have wl:IntKind.wrap .u64 (l.length:Int)=(l.length:Int):=wu64 zo;have q1:small (1+(numB l.length).length) 1=True:=V1 (AP zo zd);have q2:(1+(numB l.length).length<=35184372088832)=True:=V1 zo;rw[encB];simp only[eZ,seval,eY,c126,eV,CO,hTn,sNm,wl,q0,q1,q2,Z1.opds,oks];refine AO (λv:VPd=>⟨[(1,true,.ptr 0 0),(3,true,.sl v.tk ((3::(numB l.length++encBs (l.take v.j))).map eB)),(4,true,.int .i64 v.j)],v.H,v.n⟩) (IEn (.box [.int .i64 3,.int .i64 0,.str [],.sl (.none 4) (l.map eV)]) l.length) (λv=>l.length-v.j) ⟨0,.own 8 1,hset (hset hnil 0 (.box [.int .i64 3,.int .i64 0,.str [],.sl (.none 4) (l.map eV)])) 8 .tok,10⟩ (by rw[WZ,encBs,W9];rfl) ⟨V8 _,(AR.nil.hset (m:=10) (V8 _) zd).hset (V4 _) (show 8<10 by decide),.inr (.inr ⟨8,rfl,zd,AB ..⟩),rfl,by rw[AA _ _ _ _ zd];exact AB ..,show 1<=10 by decide⟩ ?_;rintro⟨j,tk,H,n⟩ ⟨hj,hf,c7,d9,h0,j9⟩;simp only at hj hf c7 d9 h0 j9;by_cases c6:j<l.length
  ·have hg:=V2 c6;have hm:(∃v∈l,eV v=eV l[j])=True:=V1 ⟨_,W1 c6,rfl⟩;have e:=AG (k:=j) zo;have nx:=Hv c6;have hle:=MG l (j+1);rw[nx,V9]at hle;have hYl:(3::(numB l.length++encBs (l.take j))).length+(encB l[j]).length<900000100:=by rw[Vz,V9];omega
   have hnx:(3::(numB l.length++encBs (l.take (j+1))))=(3::(numB l.length++encBs (l.take j)))++encB l[j]:=by rw[nx,Ww,Wb]
   generalize (3::(numB l.length++encBs (l.take j)))=Y at hYl hnx;have q1:At H 1 tk=True:=V1 c7.app;have q2:(Y.length+(encB l[j]).length<=35184372088832)=True:=V1 zo;have q3:small (Y.length+(encB l[j]).length) 1=True:=V1 (AP zo zd);simp only[eZ,seval,eY,lt_T c6,hg,hm,hTe,sVr,e,h0,BD,F4,DY,q1,q2,q3,fr1 hf];refine .mk ⟨j+1,.own (n+7) 1,hset (AL H tk) (n+7) .tok,n+9⟩ ?_ ⟨c6,(AT c7 hf).hset (m:=n+9) zo zo,.inr (.inr ⟨n+7,rfl,zo,AB ..⟩),rfl,?_,zp⟩ zp
   ·have hmap:Y.map eB++(encB l[j]).map eB=(3::(numB l.length++encBs (l.take (j+1)))).map eB:=by rw[hnx,Vt]
    simp only[hmap];rfl
   ·simp only[];rw[AA _ _ _ _ zo,AX c7 (.inl zd)];exact h0
  obtain rfl:j=l.length:=zo
  rw[Vw];simp only[eZ,seval,V0,lt_F c6,h0];exact Wk.sl (.inl d9)
def D6(v:Z0):Prop:=OkV v/\(encB v).length<900000000
noncomputable def Tab7:Tab:=tadd 125 (sV1 OkV λ_=>.int .i64 0) (tadd 126 (sV1 D6 λv=>eBy (encB v)) tnil)
def UK:AI prog Tab7:=(AI.tnil.add (qV1 λv h=>p126 h.1.1 h.2)).add (qV1 λv h=>p125 v h)
theorem Tab7_a(a:List Fs)(H:AC):Tab7 125 a H=sV1 OkV (λ_=>.int .i64 0) a H:=rfl
theorem Tab7_b(a:List Fs)(H:AC):Tab7 126 a H=sV1 D6 (λv=>eBy (encB v)) a H:=rfl
def p42(v:Z0)(hv:D6 v):Pur prog 42 [eV v] (.tup [eBy (encB v),.int .i64 0]):=by
 refine .mk ⟨Af 0 _,trivial⟩ ⟨⟨trivial,AV (f:=eB) (λ_=>trivial) _⟩,trivial,trivial⟩ (c42.a (AE UK (AF ?_)));have hm:(∃u,OkV u/\eV u=eV v)=True:=V1 ⟨v,hv.1,rfl⟩;have hm2:(∃u,D6 u/\eV u=eV v)=True:=V1 ⟨v,hv,rfl⟩;simp only[eZ,seval,V3,c42,Tab7_a,Tab7_b,sV1,BD,B1,F4,DY,hm,hm2];exact Wk.refl _
structure IEm(B:Z7)(m:Nat)(v:VPd):Prop where
 hj:v.j<=m
 fr:AR v.H v.n
 tok:tkG 4 1 v.H v.tk
 es:v.tk.esz=4
 h0:hget v.H 0=some B
 n1:1<=v.n
def sI1:List Fs->AC->Prop×Fs:=λa _=>match a with
 |[.int .i64 x]=>(True,eV (.int x))
 |_=>(False,.tup [])
def qI1:∀args H n,(sI1 args H).1->Ab prog 129 args H n (sI1 args H).2:=by
 intro args H n hh;unfold sI1 at hh⊢;split at hh
 ·exact(p129 _).quiet H n
 ·exact hh.elim
def sT1:List Fs->AC->Prop×Fs:=λa _=>match a with
 |[.str x]=>(True,eV (.text x))
 |_=>(False,.tup [])
def qT1:∀args H n,(sT1 args H).1->Ab prog 128 args H n (sT1 args H).2:=by
 intro args H n hh;unfold sT1 at hh⊢;split at hh
 ·exact(p128 _).quiet H n
 ·exact hh.elim
def TabI:Tab:=tadd 129 sI1 (tadd 128 sT1 tnil)
def O6:AI prog TabI:=(AI.tnil.add qT1).add qI1
def p127(l:List Z0):Pur prog 127 [.sl (.none 4) (l.map eV)] (eV (.list l)):=by
 refine .mk ⟨⟨trivial,by rw[<-CO];exact eVs_under 0 l⟩,trivial⟩ (Af 0 _) (c127.a (AE AI.tnil (AF ?_)));simp only[eE,eN,seval,Au,c127,AD,Z1.opds,oks];rw[eV,CO];exact Wk.refl _
def p130(l:List Int)(hl:l.length<100000):Pur prog 130 [.sl (.none 1) (l.map λx=>Fs.int .i64 x)] (eV (.list (l.map Z0.int))):=by
 refine .mk ⟨⟨trivial,AV (f:=λx=>Fs.int .i64 x) (λ_=>trivial) _⟩,trivial⟩ (Af 0 _) (c130.a (AE O6 (AF ?_)));simp only[eE,eN,seval,c130,Z1.opds,oks];refine AO (λv:VPd=>⟨[(0,true,.sl (.none 1) (l.map λx=>Fs.int .i64 x)),(2,true,.ptr 0 0),(3,true,.sl v.tk (((l.take v.j).map Z0.int).map eV)),(4,true,.int .i64 v.j)],v.H,v.n⟩) (IEm (.box [z0,z0,zr,zs]) l.length) (λv=>l.length-v.j) ⟨0,.exact 4,hset hnil 0 (.box [z0,z0,zr,zs]),1⟩ rfl ⟨V8 _,AR.nil.hset (m:=1) (V8 _) (show 0<1 by decide),.inr (.inl rfl),rfl,AB ..,V4 1⟩ ?_;rintro⟨j,tk,H,n⟩ ⟨hj,hf,c7,d9,h0,j9⟩;simp only at hj hf c7 d9 h0 j9;by_cases c6:j<l.length
 ·have hg:=V2 c6;have e:=AG (k:=j) zo;have nx:(l.take (j+1)).map Z0.int=(l.take j).map Z0.int++[Z0.int l[j]]:=by
   rw[Vx,hg,Vt];rfl
  have hYl:((l.take j).map Z0.int).length<=j:=by rw[V0,W0];omega
  generalize (l.take j).map Z0.int=Y at hYl nx;have q1:At H 4 tk=True:=V1 c7.app;have q2:(Y.length+1<=35184372088832)=True:=V1 zo;have q3:small (Y.length+1) 56=True:=V1 (AP zo zd);simp only[eZ,seval,eY,lt_T c6,hg,TabI,sI1,e,BD,B1,q1,q2,q3,fr1 hf,Z1.opds,oks,tadd];have hmap:Y.map eV++[eV (Z0.int l[j])]=((l.take (j+1)).map Z0.int).map eV:=by rw[nx,Vt];rfl
  refine .mk ⟨j+1,.own (n+7) 4,hset (AL H tk) (n+7) .tok,n+9⟩ ?_ ⟨c6,(AT c7 hf).hset (m:=n+9) zo zo,.inr (.inr ⟨n+7,rfl,zo,AB ..⟩),rfl,?_,zp⟩ zp
  ·simp only[hmap]
  ·simp only[];rw[AA _ _ _ _ zo,AX c7 (.inl zd)];exact h0
 obtain rfl:j=l.length:=zo
 rw[Vw];simp only[eZ,seval,Au,V0,lt_F c6,h0,Z1.opds,oks];rw[eV,CO];exact Wk.agg (.cons (Wk.refl _) (.cons (Wk.refl _) (.cons (Wk.refl _) (.cons (Wk.sl (.inl d9)) .nil))))
def p131(l:List (List UInt8))(hl:l.length<100000):Pur prog 131 [.sl (.none 1) (l.map λx=>Fs.str x)] (eV (.list (l.map Z0.text))):=by
 refine .mk ⟨⟨trivial,AV (f:=λx=>Fs.str x) (λ_=>trivial) _⟩,trivial⟩ (Af 0 _) (c131.a (AE O6 (AF ?_)));simp only[eE,eN,seval,c131,Z1.opds,oks];refine AO (λv:VPd=>⟨[(0,true,.sl (.none 1) (l.map λx=>Fs.str x)),(2,true,.ptr 0 0),(3,true,.sl v.tk (((l.take v.j).map Z0.text).map eV)),(4,true,.int .i64 v.j)],v.H,v.n⟩) (IEm (.box [z0,z0,zr,zs]) l.length) (λv=>l.length-v.j) ⟨0,.exact 4,hset hnil 0 (.box [z0,z0,zr,zs]),1⟩ rfl ⟨V8 _,AR.nil.hset (m:=1) (V8 _) (show 0<1 by decide),.inr (.inl rfl),rfl,AB ..,V4 1⟩ ?_;rintro⟨j,tk,H,n⟩ ⟨hj,hf,c7,d9,h0,j9⟩;simp only at hj hf c7 d9 h0 j9;by_cases c6:j<l.length
 ·have hg:=V2 c6;have e:=AG (k:=j) zo;have nx:(l.take (j+1)).map Z0.text=(l.take j).map Z0.text++[Z0.text l[j]]:=by
   rw[Vx,hg,Vt];rfl
  have hYl:((l.take j).map Z0.text).length<=j:=by rw[V0,W0];omega
  generalize (l.take j).map Z0.text=Y at hYl nx;have q1:At H 4 tk=True:=V1 c7.app;have q2:(Y.length+1<=35184372088832)=True:=V1 zo;have q3:small (Y.length+1) 56=True:=V1 (AP zo zd);simp only[eZ,seval,eY,lt_T c6,hg,TabI,sT1,e,BD,B1,q1,q2,q3,fr1 hf,Z1.opds,oks,tadd];have hmap:Y.map eV++[eV (Z0.text l[j])]=((l.take (j+1)).map Z0.text).map eV:=by rw[nx,Vt];rfl
  refine .mk ⟨j+1,.own (n+7) 4,hset (AL H tk) (n+7) .tok,n+9⟩ ?_ ⟨c6,(AT c7 hf).hset (m:=n+9) zo zo,.inr (.inr ⟨n+7,rfl,zo,AB ..⟩),rfl,?_,zp⟩ zp
  ·simp only[hmap]
  ·simp only[];rw[AA _ _ _ _ zo,AX c7 (.inl zd)];exact h0
 obtain rfl:j=l.length:=zo
 rw[Vw];simp only[eZ,seval,Au,V0,lt_F c6,h0,Z1.opds,oks];rw[eV,CO];exact Wk.agg (.cons (Wk.refl _) (.cons (Wk.refl _) (.cons (Wk.refl _) (.cons (Wk.sl (.inl d9)) .nil))))
section
def sUp:List Fs->AC->Prop×Fs:=λa _=>match a with
 |[.int .i64 x]=>(-9223372036854775808<=x/\x<9223372036854775808,.int .u64 (unsN x:Nat))
 |_=>(False,.tup [])
def qUp:∀args H n,(sUp args H).1->Ab prog 168 args H n (sUp args H).2:=by
 intro args H n hh;unfold sUp at hh⊢;split at hh
 ·exact(p168 _ hh.1 hh.2).quiet H n
 ·exact hh.elim
def TabU:Tab:=tadd 168 sUp tnil
def UL:AI prog TabU:=AI.tnil.add qUp
variable {H:AC} {m:Nat} {tk:Zd}
theorem Kz{i:Nat}{b:Z7}(h:i≠m):hget (AL (hset H m b) tk) i=hget (AL H tk) i:=by
 have h':¬m=i:=λe=>h e.symm
 unfold AL;split<;>simp only[AJ,V5 h']
theorem K0{b:Z7}(ho:∀id e,tk= .own id e->id<m):hget (AL (hset H m b) tk) m=some b:=by
 unfold AL;split
 ·rw[AA _ _ _ _ (by have:=ho _ _ rfl;omega)];exact AB ..
 ·exact AB ..
theorem t_W1(l:List UInt8)(x:Int)(h1: -9223372036854775808<=x)(h2:x<9223372036854775808)(hl:l.length<998000000)(hf:AR H m)(hk:At H 1 tk)(ho:∀id e,tk= .own id e->id<m):AN prog 166 [.sl tk (l.map eB),eV (.int x)] H m (Jd H m tk (l++encB (.int x))):=by
 refine c166.a (AE UL (AF ?_));have k1:At (hset H m (.box [.int .i64 1,.int .i64 x,.str [],.sl (.none 4) []])) 1 tk=True:=V1 (by
  unfold At at hk⊢;split at hk
  ·trivial
  ·exact hk.elim
  ·exact hk
  ·exact⟨hk.1,by rw[AA _ _ _ _ (by have:=ho _ _ rfl;omega)];exact hk.2⟩)
 have q2:(l.length+1<=35184372088832)=True:=V1 zo;have q3:small (l.length+1) 1=True:=V1 (AP zo zd);have f4:hget (hset H m (.box [.int .i64 1,.int .i64 x,.str [],.sl (.none 4) []])) (m+4)=none:=by rw[AA _ _ _ _ zo];exact hf _ zo
 have f0:=hf m (V4 _);have ga:=K0 (H:=H) (b:=.box [.int .i64 1,.int .i64 x,.str [],.sl (.none 4) []]) ho;simp only[eE,eN,seval,V0,c166,eV,TabU,ga,sUp,k1,q2,q3,f0,f4,V1 h1,V1 h2,Z1.opds,oks,tadd];have hfk:AR (hset (AL (hset H m (.box [.int .i64 1,.int .i64 x,.str [],.sl (.none 4) []])) tk) (m+4) .tok) (m+10):=
  (C6 (hf.hset (m:=m+1) zo zo) (λid e h=>by have:=ho id e h;omega)).hset zo zo
 have hmp:l.map eB++[Fs.int .u8 1]=(l++[1]).map eB:=by rw[Vt];rfl
 rw[hmp];refine(Ge (tk:=.own (m+4) 1) (l++[1]) (unsN x) (Iw h1 h2) (by rw[V9];simp only[Vz,Wq];omega) hfk ⟨rfl,AB ..⟩ rfl (λid e h=>by cases h;omega)).mono ?_;rintro o H' n' ⟨id,d7,hid2,rfl,ht,hf',m4⟩;simp only[eE,eN,seval,retK];refine⟨id,zo,hid2,?_,ht,hf',λi hi=>?_⟩
 ·rw[encB,Wb];rfl
 ·rw[m4 i zo];show hget (hset (hset (AL (hset H m _) tk) (m+4) .tok) (m+4) .dead) i=_;rw[AD,AA _ _ _ _ zo];exact Kz zo
end
end Go.AM
