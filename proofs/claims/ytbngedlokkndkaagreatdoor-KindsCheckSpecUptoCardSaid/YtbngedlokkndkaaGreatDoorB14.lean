/-
  The reference's hash: Sum · The reference's hash under a tag · Numerals, on both sides · The program's numerals: written.
  Conditions: none beyond those of its parts.
-/
import Derived.Test.YtbngedlokkndkaaGreatDoorB13

set_option maxRecDepth 20000
set_option linter.all false
namespace Go.AM
open Go.Lib Go.Proofs Go.Proofs.Tryz
def Z6:Fs->W
 | .int _ n=>BitVec.ofInt 32 n
 |_=>0
def bG(l:List W):(l.map eW).map Z6=l:=by
 rw[pO];have:Z6∘eW=id:=by
  funext b;show BitVec.ofInt 32 (b.toNat:Int)=b;exact UA b
 rw[this,rP]
def deS(l:List Fs):W8:=⟨(l.map Z6).getD 0 0,(l.map Z6).getD 1 0,(l.map Z6).getD 2 0,(l.map Z6).getD 3 0,(l.map Z6).getD 4 0,(l.map Z6).getD 5 0,(l.map Z6).getD 6 0,(l.map Z6).getD 7 0⟩
def deS_l(s:W8):deS (s.l.map eW)=s:=by unfold deS;rw[bG];rfl
def Vn:List Fs->AB->Prop×Fs:=λa _=>match a with
 |[.agg S,.sl (.none 1) L]=>((deS S).l.map eW=S/\L.length=64/\(L.map LY).map eB=L,.agg ((E6 (deS S) (L.map LY)).l.map eW))
 |_=>(False,.sH [])
def qBlk:∀args H n,(Vn args H).1->Ad prog 106 args H n (Vn args H).2:=by
 intro args H n hh;unfold Vn at hh⊢;split at hh
 ·rename_i S L;obtain⟨h0,h1,h2⟩:=hh;have:=(p106 (deS S) (L.map LY) (by rw[o6];exact h1)).quiet H n;unfold F4 at this;rw[h0,h2]at this;exact this
 ·exact hh.elim
def Vo:List Fs->AB->Prop×Fs:=λa _=>match a with
 |[.sl (.none 1) L]=>(L.length<3999999000/\(L.map LY).map eB=L,F4 (HV (L.map LY)))
 |_=>(False,.sH [])
def qPad:∀args H n,(Vo args H).1->Ad prog 105 args H n (Vo args H).2:=by
 intro args H n hh;unfold Vo at hh⊢;split at hh
 ·rename_i L;obtain⟨h1,h2⟩:=hh;have:=(p105 (L.map LY) (by rw[o6];exact h1)).quiet H n;unfold F4 at this;rw[h2]at this;exact this
 ·exact hh.elim
def jE:Bk:=AJ 106 Vn (AJ 105 Vo sE)
def bH:AG prog jE:=(AG.sE.add qPad).add qBlk
section
variable (a:List Fs) (H:AB)
theorem jF:jE 106 a H=Vn a H:=rfl
theorem jG:jE 105 a H=Vo a H:=rfl
end
theorem N4:∀(l:List W) (k:Nat),k<4*l.length->(Fk l)[k]?=some (UInt8.ofNat ((l.getD (k/4) 0).toNat>>>(8*(3-k % 4))))
 |[],k,h=>absurd h (by rw[pd];omega)
 |w::l,k,h=>by
  show(C5 4 w.toNat++Fk l)[k]?=_;by_cases hk:k<4
  ·rw[pH (by rw[B8];exact hk)];unfold C5;rw[oO,qP hk,Nat.div_eq_of_lt hk,qU hk];rfl
  ·rw[oI]at h;rw[pB (by rw[B8];omega),B8,N4 l (k-4) zo,show k/4=(k-4)/4+1 by omega,show(k-4) % 4=k % 4 by omega];rfl
def dL(s:W8)(k:Nat):List Fs:=((Cx s).take k).map eB++List.replicate (32-k) (eB 0)
def jH{s:W8}{k:Nat}(h:k<=32):(dL s k).length=32:=by
 unfold dL;rw[ou,o6,oJ,DE,pf];omega
def jI{s:W8}{k:Nat}(h:k<32):(dL s k).take k++[eB (UInt8.ofNat ((s.l.getD (k/4) 0).toNat>>>(8*(3-k % 4))))]++(dL s k).drop (k+1)=dL s (k+1):=by
 have hg:(Cx s)[k]?=some (UInt8.ofNat ((s.l.getD (k/4) 0).toNat>>>(8*(3-k % 4)))):=N4 s.l k h;have h1:(((Cx s).take k).map eB).length=k:=by rw[o6,oJ,DE];omega
 unfold dL;rw[pL zo,oY zo,rJ,qf zo,h1,oW,List.drop_replicate,oG,hg,oD,show 32-k-(k+1-k)=32-(k+1)by omega];rfl
def MG(b:List UInt8):(HV b).length=b.length+1+C6 b.length+8:=by
 unfold HV;rw[ou,ou,oI,pf,B8];omega
def JP(b:List UInt8):W8:=DZ ((HV b).length/64) EJ (HV b)
def p66(b:List UInt8)(hb:b.length<3999999000):A6 prog 66 [F4 b] (Vh (Cx (JP b))):=by
 refine .mk ⟨⟨zt,Af (f:=eB) (λ_=>zt) _⟩,zt⟩ (Af (f:=eB) (λ_=>zt) _) (c66.a (AE bH (AF ?_)));have hd:=E7 b;have hbT:=o7 hb;simp only[eE,eN,reduceCtorEq,Nat.reduceEqDiff,↓reduceIte,Nat.reduceAdd,Nat.reduceLeDiff,o6,c66,jG,Vo,hd,hbT,AH,x0.sF,Bz];have h64:(HV b).length=64*((HV b).length/64):=by
  rw[MG];unfold C6;omega
 have tj:(HV b).length<4000000000:=by rw[MG];unfold C6;omega
 unfold JP;generalize HV b=p at h64 tj;generalize hM:p.length/64=M at h64;obtain⟨Z,hZ⟩:∃Z,Z=List.replicate 32 (Fs.int .u8 0):=⟨_,rfl⟩;have zl:Z.length=32:=by rw[hZ,pf]
 refine AQ (λi:Nat=>⟨[(2,true,.ptr 0 0),(3,true,.ptr 2 0),(4,true,F4 p),(5,true,.int .i64 ((64*i:Nat):Int))],sA (sA Ac 0 (.box Z)) 2 (.box ((DZ i EJ p).l.map eW)),4⟩) (λi=>i<=M) (λi=>M-i) 0 (by
  rw[DZ,QX,hZ];rfl) (oq _) ?_
 clear hZ;rintro i hi;by_cases e9:i<M
 ·have n1:(((64*i:Nat):Int)<(p.length:Int))=True:=o7 zo;have e5:IntKind.wrap .i64 (((64*i:Nat):Int)+64)=((64*i+64:Nat):Int):=by rw[An zo zo];omega
  have f1:(((64*i:Nat):Int)<=((64*i+64:Nat):Int))=True:=o7 zo;have f2:(((64*i+64:Nat):Int)<=(p.length:Int))=True:=o7 zo;have hsl:((p.map eB).take (64*i+64)).drop (64*i)=((p.drop (64*i)).take 64).map eB:=by
   rw[<-rc,<-List.map_drop,List.drop_take,show 64*i+64-64*i=64 by omega]
  have b2:((p.drop (64*i)).take 64).length=64:=by rw[oJ,pi];omega
  have tg:=E7 ((p.drop (64*i)).take 64);have nx:=IJ i EJ p;generalize DZ i EJ p=v at nx;have hds:=deS_l v;have hvl:v.l.length=8:=rfl;have ht8:List.take 8 (v.l.map eW)=v.l.map eW:=rfl;simp only[eZ,reduceCtorEq,Nat.reduceEqDiff,↓reduceIte,Int.reduceEq,eY,n1,e5,f1,f2,hsl,b2,tg,hds,hvl,ht8,jF,Vn,AH];have hdr:List.drop (E6 v ((p.drop (64*i)).take 64)).l.length (v.l.map eW)=[]:=rfl;refine⟨rfl,.mk (i+1) ?_ e9 zo⟩;simp only[hdr,oR,nx,show 64*(i+1)=64*i+64 by omega]
 obtain rfl:i=M:=zo
 generalize DZ i EJ p=v;have n1:(((64*i:Nat):Int)<(p.length:Int))=False:=oA zo;simp only[eZ,reduceCtorEq,Nat.reduceEqDiff,↓reduceIte,Nat.reduceAdd,o6,n1,AH,x0.sF,Bz];generalize hB:sA (sA Ac 0 (.box Z)) 2 (.box (v.l.map eW))=B;have b0:AD B 0=some (.box Z):=by rw[<-hB,AA _ _ _ _ zd];exact AC ..
 have b2:∀X,AD (sA B 5 X) 2=some (.box (v.l.map eW)):=λX=>by rw[AA _ _ _ _ zd,<-hB];exact AC ..
 have b0':∀X,AD (sA B 5 X) 0=some (.box Z):=λX=>by rw[AA _ _ _ _ zd];exact b0
 clear hB;refine AQ (λk:Nat=>⟨[(2,true,.ptr 0 0),(3,true,.ptr 2 0),(6,true,.ptr 5 0),(7,true,.int .i64 k)],sA B 5 (.box (dL v k)),7⟩) (λk=>k<=32) (λk=>32-k) 0 rfl zd ?_;rintro k hk;by_cases hlk:k<32
 ·have n2:((k:Int)<32)=True:=o7 zo;have e:=AI (k:=k) zo;have q1:((k:Int)).tdiv 4=((k/4:Nat):Int):=by rw[rt zo];norm_cast
  have q2:((k:Int)).tmod 4=((k % 4:Nat):Int):=by rw[rz zo];norm_cast
  have w1:IntKind.wrap .i64 ((k/4:Nat):Int)=((k/4:Nat):Int):=by rw[An zo zo]
  have w2:IntKind.wrap .i64 ((k % 4:Nat):Int)=((k % 4:Nat):Int):=by rw[An zo zo]
  have w3:IntKind.wrap .i64 (8*((k % 4:Nat):Int))=((8*(k % 4):Nat):Int):=by rw[An zo zo];omega
  have w4:IntKind.wrap .i64 (24-((8*(k % 4):Nat):Int))=((8*(3-k % 4):Nat):Int):=by rw[An zo zo];omega
  have hg:(List.take 1 ((v.l.map eW).drop (k/4))).headD (.sH [])=eW (v.l.getD (k/4) 0):=hd1 (by
   rw[oO,pM,o8 (show k/4<v.l.length from by show k/4<8;omega)];rfl)
  have sh:=MB (v.l.getD (k/4) 0) (n:=8*(3-k % 4)) zo;have hto:(v.l.getD (k/4) 0>>>(8*(3-k % 4))).toNat=(v.l.getD (k/4) 0).toNat>>>(8*(3-k % 4)):=BitVec.toNat_ushiftRight ..;have g1:(((k/4:Nat):Int)<8)=True:=o7 zo;have g2:(k/4+1<=8)=True:=o7 zo;have g3:(k/4<=7)=True:=o7 zo;have g4:(k+1<=32)=True:=o7 zo;have g5:(k<=31)=True:=o7 zo;have uz:=jH (s:=v) hk;have hp:=jI (s:=v) hlk;simp only[eZ,Nat.reduceEqDiff,↓reduceIte,Int.reduceEq,eY,n2,e,q1,q2,w1,w3,w4,hg,sh,hto,K0,g1,g2,g4,uz,b2,AH,qI,show v.l.length=8 from rfl,show((8:Nat):Int)=8 from rfl,show((32:Nat):Int)=32 from rfl];exact .mk (k+1) (by simp only[<-hp]) hlk zo
 obtain rfl:k=32:=zo
 have hdE:dL v 32=(Cx v).map eB:=by unfold dL;rw[oY (by rw[DE];decide)];exact oR _
 have ht:List.take 32 ((Cx v).map eB)=(Cx v).map eB:=oY (by rw[o6,DE];decide);have hdz:List.drop 32 Z=[]:=qf zo;simp only[eZ,Nat.reduceEqDiff,↓reduceIte,Au,o6,show(((32:Nat):Int)<32)=False by decide,hdE,ht,DE,b0',hdz,zl];exact Wk.refl _
theorem QZ:∀(k m:Nat) (s:W8) (l:List UInt8),DZ (k+m) s l=DZ m (DZ k s l) (l.drop (64*k))
 |0,m,s,l=>by rw[pn,DZ,Nat.mul_zero,qC]
 |k+1,m,s,l=>by
  rw[show k+1+m=(k+m)+1 by omega,DZ,QZ k m,DZ,rf,show 64+64*k=64*(k+1)by omega]
theorem Qa:∀(k:Nat) (s:W8) (l x:List UInt8),64*k<=l.length->DZ k s (l++x)=DZ k s l
 |0,s,l,x,h=>rfl
 |k+1,s,l,x,h=>by
  rw[DZ,DZ,pL zo,List.drop_append_of_le_length zo,Qa k _ _ _ (by rw[pi];omega)]
def UD(b:List UInt8):JP b=Gn b:=by
 unfold JP Gn;have hr:(b.drop (64*(b.length/64))).length=b.length % 64:=by rw[pi];omega
 have hz:C6 b.length=MF (b.drop (64*(b.length/64)))-(b.drop (64*(b.length/64))).length-9:=by
  unfold C6 MF;rw[hr];split<;>omega
 have hk:(HV b).length/64=b.length/64+MF (b.drop (64*(b.length/64)))/64:=by
  rw[MG];unfold C6 MF;rw[hr];split<;>omega
 have hp:HV b=b++(128::List.replicate (C6 b.length) 0++C5 8 (8*b.length % 18446744073709551616)):=by
  unfold HV;rw[oT]
 rw[hk,QZ];have h1:DZ (b.length/64) EJ (HV b)=DZ (b.length/64) EJ b:=by rw[hp];exact Qa _ _ _ _ zo
 have h2:(HV b).drop (64*(b.length/64))=JO (b.drop (64*(b.length/64))) b.length:=by
  rw[hp,List.drop_append_of_le_length zo];unfold JO;rw[<-hz,oT]
 rw[h1,h2]
def jJ(tag b:List UInt8):List UInt8:=Cx (JP (Cx (JP tag)++b))
def bI(tag b:List UInt8):jJ tag b=CJ tag b:=by unfold jJ CJ;rw[UD,UD]
def Vp:List Fs->AB->Prop×Fs:=λa _=>match a with
 |[.sl t L]=>(t.esz=1/\L.length<3999999000/\(L.map LY).map eB=L,Vh (Cx (JP (L.map LY))))
 |_=>(False,.sH [])
def qSm2:∀args H n,(Vp args H).1->Ad prog 66 args H n (Vp args H).2:=by
 intro args H n hh;unfold Vp at hh⊢;split at hh
 ·rename_i t L;obtain⟨h0,h1,h2⟩:=hh;have:=(p66 (L.map LY) (by rw[o6];exact h1)).quiet H n;unfold F4 at this;rw[h2]at this;refine AO.args this ?_;rintro g vs ⟨v,r,rfl,k1,k2⟩;exact⟨v,_,rfl,Wk.sl (.inl h0) _ _ k1,k2⟩
 ·exact hh.elim
def Tab5:Bk:=AJ 66 Vp sE
def bJ:AG prog Tab5:=AG.sE.add qSm2
theorem jK(a:List Fs)(H:AB):Tab5 66 a H=Vp a H:=rfl
def p26(tag b:List UInt8)(ht:tag.length<1000)(hb:b.length<3900000000):A6 prog 26 [.str tag,F4 b] (Vh (CJ tag b)):=by
 rw[<-bI];refine .mk ⟨zt,⟨zt,Af (f:=eB) (λ_=>zt) _⟩,zt⟩ (Af (f:=eB) (λ_=>zt) _) (c26.a (AE bJ (AF ?_)));have hd:List.map LY (List.map (λb=>Fs.int .u8 (b.toNat:Int)) tag)=tag:=E7 tag;have hz:List.drop 32 [Fs.int .u8 0,Fs.int .u8 0,Fs.int .u8 0,Fs.int .u8 0,Fs.int .u8 0,Fs.int .u8 0,Fs.int .u8 0,Fs.int .u8 0,Fs.int .u8 0,Fs.int .u8 0,Fs.int .u8 0,Fs.int .u8 0,Fs.int .u8 0,Fs.int .u8 0,Fs.int .u8 0,Fs.int .u8 0,Fs.int .u8 0,Fs.int .u8 0,Fs.int .u8 0,Fs.int .u8 0,Fs.int .u8 0,Fs.int .u8 0,Fs.int .u8 0,Fs.int .u8 0,Fs.int .u8 0,Fs.int .u8 0,Fs.int .u8 0,Fs.int .u8 0,Fs.int .u8 0,Fs.int .u8 0,Fs.int .u8 0,Fs.int .u8 0]=[]:=by kernel_rfl
 have hs:(tag.length<3999999000)=True:=o7 zo;have hl:=DE (JP tag);have ht32:List.take 32 ((Cx (JP tag)).map eB)=(Cx (JP tag)).map eB:=oY (by rw[o6,hl];decide);have q1:small (32+b.length) 1=True:=o7 (Bn zo zd);have q2:(32+b.length<=35184372088832)=True:=o7 zo;have q4:small 32 1=True:=o7 (Bn zd zd);have hX:(Cx (JP tag)).map eB++b.map eB=(Cx (JP tag)++b).map eB:=by rw[oD]
 have hXl:(Cx (JP tag)++b).length=32+b.length:=by rw[ou,hl]
 have tg:=E7 (Cx (JP tag)++b);have q3:(32+b.length<3999999000)=True:=o7 zo;unfold jJ;simp only[eE,eN,reduceCtorEq,Nat.reduceEqDiff,↓reduceIte,Nat.reduceAdd,Nat.reduceLeDiff,Nat.reduceMul,Nat.reduceLT,Nat.reduceSub,Au,eY,c26,jK,Vp,AH,hd,hs,hl,DE,hz,ht32,q1,q2,q3,q4,hX,hXl,tg,x0.sF,Bz];exact⟨zd,Wk.refl _⟩
section
def CQ(u:Nat):List UInt8:=if h:u<128 then[UInt8.ofNat u]else UInt8.ofNat (u % 128+128)::CQ (u/128)
termination_by u
decreasing_by omega
variable {u:Nat}
theorem Ll(h:u<128):CQ u=[UInt8.ofNat u]:=by rw[CQ,dif_pos h]
theorem PH(h:¬u<128):CQ u=UInt8.ofNat (u % 128+128)::CQ (u/128):=by rw[CQ,dif_neg h]
theorem Qb:∀(k u:Nat),u<128^(k+1)->(CQ u).length<=k+1
 |0,u,h=>by rw[Ll (by simpa using h)];exact od 1
 |k+1,u,h=>by
  by_cases h1:u<128
  ·rw[Ll h1];simp only[oI,pd];omega
  ·rw[PH h1,oI];have:=Qb k (u/128) (by rw[Nat.pow_succ]at h;exact Nat.div_lt_of_lt_mul (by rw[Nat.mul_comm];exact h));omega
theorem Ce(h:u<18446744073709551616):(CQ u).length<=10:=Qb 9 u (qg h zd)
def nV(m:Nat):List Fs->AB->Prop×Fs:=λa _=>match a with
 |[.int .u64 x]=>(0<=x/\x<(m:Int),F4 (CQ x.toNat))
 |_=>(False,.sH [])
theorem p103:∀(u:Nat),u<18446744073709551616->A6 prog 103 [.int .u64 (u:Int)] (F4 (CQ u)):=by
 intro u;induction u using Nat.strongRecOn with
 |_ u ih=>
  intro hu;have hT:AG prog (AJ 103 (nV u) sE):=AG.sE.add (by
   intro args H n hh;unfold nV at hh⊢;split at hh
   ·rename_i x;obtain⟨h1,h2⟩:=hh;have:=(ih x.toNat zo zo).quiet H n;rw[pS h1]at this;exact this
   ·exact hh.elim)
  have hTe:∀a H,AJ 103 (nV u) sE 103 a H=nV u a H:=λa H=>by unfold AJ;rw[oE rfl]
  generalize AJ 103 (nV u) sE=T at hT hTe;refine .mk ⟨zt,zt⟩ ⟨zt,Af (f:=eB) (λ_=>zt) _⟩ (mW.a (AE hT (AF ?_)));by_cases h:u<128
  ·have n1:((u:Int)<128)=True:=o7 zo;rw[Ll h];simp only[eZ,seval,mW,n1,K0,x0.sF,Bz];exact Wk.sl (.inl rfl)
  have n1:((u:Int)<128)=False:=oA zo;have q1:(u:Int).tmod 128=((u % 128:Nat):Int):=by rw[rz zo];norm_cast
  have q2:(u:Int).tdiv 128=((u/128:Nat):Int):=by rw[rt zo];norm_cast
  have w1:IntKind.wrap .u64 ((u % 128:Nat):Int)=((u % 128:Nat):Int):=GO zo;have w2:IntKind.wrap .u64 ((u/128:Nat):Int)=((u/128:Nat):Int):=GO zo;have w3:IntKind.wrap .u64 (((u % 128:Nat):Int)+128)=((u % 128+128:Nat):Int):=by rw[show((u % 128:Nat):Int)+128=((u % 128+128:Nat):Int)by omega];exact GO zo
  have n2:(((u/128:Nat):Int)<(u:Int))=True:=o7 zo;rw[PH h];have hl:=Ce (u:=u/128) zo;have s1:small (1+(CQ (u/128)).length) 1=True:=o7 (Bn zo zd);have s2:(1+(CQ (u/128)).length<=35184372088832)=True:=o7 zo;simp only[eZ,seval,eY,mW,n1,q1,q2,w2,w3,n2,hTe,nV,K0,s1,s2,x0.sF,Bz];exact Wk.sl (.inl rfl)
def FD(n:Int):Nat:=if 0<=n then(2*n).toNat else(-2*n-1).toNat
theorem p104(n:Int)(h1: -9223372036854775808<=n)(h2:n<9223372036854775808):A6 prog 104 [.int .i64 n] (.int .u64 (FD n:Nat)):=by
 refine .mk ⟨zt,zt⟩ zt (mX.a (AE AG.sE (AF ?_)));by_cases h:0<=n
 ·have e1:IntKind.wrap .u64 n=n:=by
   have:=GO (n:=n.toNat) zo
   rwa[pS h]at this
  have e2:IntKind.wrap .u64 (2*n)=((FD n:Nat):Int):=by
   have:=GO (n:=(2*n).toNat) zo;rw[pS zo]at this;rw[this];unfold FD;rw[oE h,pS zo]
  simp only[eZ,seval,mX,o7 h,e1,e2]
 ·have w1:IntKind.wrap .i64 (n+1)=n+1:=An zo zo;have w2:IntKind.wrap .i64 (0-(n+1))= -(n+1):=by rw[An zo zo];omega
  have w2':IntKind.wrap .i64 (-(n+1))= -(n+1):=by rw[An zo zo]
  have e1:IntKind.wrap .u64 (-(n+1))= -(n+1):=by
   have:=GO (n:=(-(n+1)).toNat) zo
   rwa[pS zo]at this
  have e2:IntKind.wrap .u64 (2* -(n+1))=2* -(n+1):=by
   have:=GO (n:=(2* -(n+1)).toNat) zo
   rwa[pS zo]at this
  have e3:IntKind.wrap .u64 (2* -(n+1)+1)=((FD n:Nat):Int):=by
   have:=GO (n:=(2* -(n+1)+1).toNat) zo;rw[pS zo]at this;rw[this];unfold FD;rw[og h,pS zo];omega
  simp only[eZ,seval,mX,oA h,w1,w2,e1,e2,e3]
theorem x64_0{m:Nat}(h:m<18446744073709551616):F8 .xor .u64 (m:Int) 0=(m:Int):=by
 show IntKind.wrap .u64 ((BitVec.ofInt 64 (m:Int)^^^BitVec.ofInt 64 0).toNat:Int)=_;rw[show BitVec.ofInt 64 0=0#64 by rfl,BitVec.xor_zero,rV,qW,qU h,GO h]
theorem x64_1{m:Nat}(h:m<18446744073709551616):F8 .xor .u64 (m:Int) 18446744073709551615=((18446744073709551615-m:Nat):Int):=by
 show IntKind.wrap .u64 ((BitVec.ofInt 64 (m:Int)^^^BitVec.ofInt 64 18446744073709551615).toNat:Int)=_;rw[show BitVec.ofInt 64 18446744073709551615=BitVec.allOnes 64 by rfl,BitVec.xor_allOnes,rV,BitVec.toNat_not,qW,qU h,show 2^64-1-m=18446744073709551615-m from rfl,GO zo]
theorem sr63(n:Int):C7 .shr .i64 n 63=n/9223372036854775808:=by
 show Int.fdiv n 9223372036854775808=_;rw[rW _ zd]
theorem sl1(n:Int):C7 .shl .u64 n 1=IntKind.wrap .u64 (n*2):=rfl
theorem p95(n:Int)(h1: -9223372036854775808<=n)(h2:n<9223372036854775808):A6 prog 95 [.int .i64 n] (.int .u64 (FD n:Nat)):=by
 refine .mk ⟨zt,zt⟩ zt (c95.a (AE AG.sE (AF ?_)));by_cases h:0<=n
 ·have e1:IntKind.wrap .u64 n=n:=by
   have:=GO (n:=n.toNat) zo
   rwa[pS h]at this
  have e2:IntKind.wrap .u64 (n*2)=((FD n:Nat):Int):=by
   have:=GO (n:=(2*n).toNat) zo;rw[pS zo]at this;rw[show n*2=2*n by omega,this];unfold FD;rw[oE h,pS zo]
  have e3:n/9223372036854775808=0:=zo
  have hu:FD n<18446744073709551616:=by unfold FD;rw[oE h];omega
  simp only[eE,eN,seval,c95,e1,sr63,sl1,e2,e3,show IntKind.wrap .u64 0=0 by kernel_rfl,x64_0 hu]
 ·have e1:IntKind.wrap .u64 n=n+18446744073709551616:=by
   simp only[IntKind.wrap,IntKind.bits,IntKind.signed,qB,oP,pb];omega
  have e2:IntKind.wrap .u64 ((n+18446744073709551616)*2)=((18446744073709551615-FD n:Nat):Int):=by
   simp only[IntKind.wrap,IntKind.bits,IntKind.signed,qB,oP,pb];unfold FD;rw[og h];omega
  have e3:n/9223372036854775808= -1:=zo
  have hu:FD n<=18446744073709551615:=by unfold FD;rw[og h];omega
  have x:=x64_1 (m:=18446744073709551615-FD n) zo;rw[show 18446744073709551615-(18446744073709551615-FD n)=FD n by omega]at x;simp only[eE,eN,seval,c95,e1,sr63,sl1,e2,e3,show IntKind.wrap .u64 (-1)=18446744073709551615 by kernel_rfl,x]
end
def or128(x:Nat):F8 .or .u8 ((UInt8.ofNat x).toNat:Int) 128=((UInt8.ofNat (x % 128+128)).toNat:Int):=by
 show IntKind.wrap .u8 ((BitVec.ofInt 8 ((UInt8.ofNat x).toNat:Int)|||BitVec.ofInt 8 128).toNat:Int)=_;have hd:∀y:BitVec 8,(y|||128#8).toNat=y.toNat % 128+128:=zd
 rw[show BitVec.ofInt 8 128=128#8 by rfl,hd,rV,qW,K0];have:(UInt8.ofNat x).toNat % 2^8 % 128+128=x % 128+128:=by rw[UInt8.toNat_ofNat'];omega
 rw[this]
structure VNu where
 x:Nat
 A:List UInt8
 tk:xv
 H:AB
 n:Nat
structure INu(l:List UInt8)(u m:Nat)(tk:xv)(H:AB)(v:VNu):Prop where
 eq:v.A++CQ v.x=l++CQ u
 lt:v.x<18446744073709551616
 fr:AU v.H v.n
 le:m<=v.n
 ok:At v.H 1 v.tk
 es:v.tk.esz=1
 ow:∀id e,v.tk= .own id e->id<v.n
 low:∀i,i<m->AD (AR v.H v.tk) i=AD (AR H tk) i
def Ek{H:AB}{n:Nat}{tk:xv}(hf:AU H n)(ho:∀id e,tk= .own id e->id<n):AU (AR H tk) n:=by
 unfold AR;split
 ·exact hf.sA (od _) (ho _ _ rfl)
 ·exact hf
def MH(H:AB)(m:Nat)(tk:xv)(L:List UInt8)(o:xx)(H':AB)(n':Nat):Prop:=
 ∃id,m<=id/\id<n'/\o= .ret (.sl (.own id 1) (L.map eB))/\AD H' id=some .tok/\AU H' n'/\∀i,i<m->AD H' i=AD (AR H tk) i
def KD{H:AB}{m:Nat}{tk:xv}(l:List UInt8)(u:Nat)(hu:u<18446744073709551616)(hl:l.length<3999000000)(hf:AU H m)(hk:At H 1 tk)(he:tk.esz=1)(ho:∀id e,tk= .own id e->id<m):AO prog 94 [.sl tk (l.map eB),.int .u64 (u:Int)] H m (MH H m tk (l++CQ u)):=by
 refine c94.a (AE AG.sE (AF ?_));simp only[eE,eN,seval,c94];refine AQ (λv:VNu=>⟨[(0,true,.sl v.tk (v.A.map eB)),(1,true,.int .u64 (v.x:Int))],v.H,v.n⟩) (INu l u m tk H) (λv=>v.x) ⟨u,l,tk,H,m⟩ rfl ⟨rfl,hu,hf,od _,hk,he,ho,λ_ _=>rfl⟩ ?_;clear hf hk he ho;rintro⟨x,A,t,H1,n⟩ ⟨heq,hx,hf,hm,hk,he,ho,si⟩;simp only at heq hx hf hm hk he ho si;have hAl:A.length<=l.length+10:=by
  have:=congrArg List.length heq;rw[ou,ou]at this;have:=Ce hu;omega
 have q1:=o7 hk;have q2:(A.length+1<=35184372088832)=True:=o7 zo;have q3:small (A.length+1) 1=True:=o7 (Bn zo zd);have kf:=Ek hf ho;by_cases h:x<128
 ·have n1:((128:Int)<=(x:Int))=False:=oA zo;rw[Ll h]at heq;simp only[eZ,seval,o6,n1,K0,q1,q2,q3,Bx hf,x0.sF,Bz];refine⟨n+4,zo,zo,?_,AC ..,kf.sA (m:=n+6) zo zo,λi hi=>?_⟩
  ·rw[<-heq,oD];rfl
  ·rw[AA _ _ _ _ zo];exact si i hi
 have n1:((128:Int)<=(x:Int))=True:=o7 zo;have sh:C7 .shr .u64 (x:Int) 7=((x/128:Nat):Int):=by
  have:=Xn (n:=x) (s:=7) zd
  rwa[Nat.shiftRight_eq_div_pow]at this
 simp only[eZ,seval,o6,n1,K0,or128,sh,q1,q2,q3,Bx hf,x0.sF,Bz];rw[PH h]at heq;refine .mk ⟨x/128,A++[UInt8.ofNat (x % 128+128)],.own (n+5) 1,sA (AR H1 t) (n+5) .tok,n+7⟩ ?_ ⟨?_,zp,kf.sA (m:=n+7) zo zo,zp,⟨rfl,AC ..⟩,rfl,λid e h=>by cases h;simp only[];omega,λi hi=>?_⟩ zp
 ·simp only[oD,oL,pc]
 ·simp only[];rw[oT];exact heq
 ·show AD (sA (sA (AR H1 t) (n+5) .tok) (n+5) .dead) i=_;rw[AH,AA _ _ _ _ zo];exact si i hi
end Go.AM
namespace Go.AM
open Go.Proofs Go.Lib Go.Proofs.Tryz
inductive zk where
 |int (n:Int)
 |text (s:List UInt8)
 |list (l:List zk)
mutual
def eV:zk->Fs
 | .int n=>.agg [.int .i64 1,.int .i64 n,.str [],.sl (.none 4) []]
 | .text s=>.agg [.int .i64 2,.int .i64 0,.str s,.sl (.none 4) []]
 | .list l=>.agg [.int .i64 3,.int .i64 0,.str [],.sl (.none 4) (eVs l)]
def eVs:List zk->List Fs
 |[]=>[]
 |v::l=>eV v::eVs l
end
theorem DQ:∀l:List zk,eVs l=l.map eV
 |[]=>rfl
 |v::l=>by rw[eVs,DQ l,oL]
mutual
theorem Xv:∀a b:zk,eV a=eV b->a=b
 | .int n,.int m,h=>by simp only[eV,Fs.agg.injEq,List.cons.injEq,Fs.int.injEq,pR,qz]at h;rw[h]
 | .int n,.text m,h=>by simp [eV]at h
 | .int n,.list m,h=>by simp [eV]at h
 | .text n,.int m,h=>by simp [eV]at h
 | .text n,.text m,h=>by simp [eV]at h;rw[h]
 | .text n,.list m,h=>by simp [eV]at h
 | .list n,.int m,h=>by simp [eV]at h
 | .list n,.text m,h=>by simp [eV]at h
 | .list n,.list m,h=>by simp [eV]at h;rw[eVs_inj n m h]
theorem eVs_inj:∀a b:List zk,eVs a=eVs b->a=b
 |[],[],h=>rfl
 |[],_::_,h=>by simp [eVs]at h
 |_::_,[],h=>by simp [eVs]at h
 |a::x,b::y,h=>by
  simp only[eVs,List.cons.injEq]at h;rw[Xv a b h.1,eVs_inj x y h.2]
end
mutual
theorem Ar(m:Nat):∀v:zk,(eV v).under m
 | .int n=>⟨zt,zt,zt,⟨zt,zt⟩,zt⟩
 | .text s=>⟨zt,zt,zt,⟨zt,zt⟩,zt⟩
 | .list l=>⟨zt,zt,zt,⟨zt,uX m l⟩,zt⟩
theorem uX(m:Nat):∀l:List zk,sN m (eVs l)
 |[]=>trivial
 |v::l=>⟨Ar m v,uX m l⟩
end
open Classical in
noncomputable def dV(a:Fs):zk:=if h:∃x,eV x=a then h.choose else .int 0
def De(v:zk):dV (eV v)=v:=by
 have h:∃x,eV x=eV v:=⟨v,rfl⟩;unfold dV;rw[dif_pos h];exact Xv _ _ h.choose_spec
mutual
def Cy:zk->Nat
 | .list l=>tL l+1
 |_=>0
def tL:List zk->Nat
 |[]=>0
 |v::l=>max (Cy v) (tL l)
end
def Qd(v:zk):(4<=(eV v).cells.length)=True:=o7 (by cases v<;>simp [eV,Fs.cells])
def HW(v:zk):Fs.agg (List.take 4 (eV v).cells)=eV v:=by cases v<;>rfl
theorem KE:∀{l:List zk} {x:zk},x∈l->Cy x<=tL l
 |y::l,x,h=>by
  rw[tL];rcases ph.1 h with rfl|h
  ·exact Nat.le_max_left ..
  ·exact pu (KE h) (Nat.le_max_right ..)
theorem N5:∀(l m:List zk),tL (l++m)=max (tL l) (tL m)
 |[],m=>by rw[oW,tL,Nat.zero_max]
 |v::l,m=>by rw[pp,tL,N5 l m,tL,Nat.max_assoc]
def MI{l:List zk}{i:Nat}(h:i<l.length):tL (l.take (i+1))=max (tL (l.take i)) (Cy l[i]):=by
 rw[oG,o8 h,rN,N5,tL,tL,Nat.max_zero]
inductive FewV:zk->Prop
 |int {n:Int} (h1: -9223372036854775808<=n) (h2:n<9223372036854775808):FewV (.int n)
 |text {s:List UInt8} (h:s.length<2000000):FewV (.text s)
 |list {l:List zk} (h:l.length<100000) (hx:∀x∈l,FewV x):FewV (.list l)
def p63(n:Int):A6 prog 63 [.int .i64 n] (eV (.int n)):=by
 refine .mk ⟨zt,zt⟩ (Ar 0 _) (c63.a (AE AG.sE (AF ?_)));simp only[eE,eN,seval,Au,c63,AH,x0.sF,Bz];exact Wk.agg (.cons (Wk.refl _) (.cons (Wk.refl _) (.cons (Wk.refl _) (.cons (Wk.sl (.inr rfl)) .nil))))
def p62(s:List UInt8):A6 prog 62 [.str s] (eV (.text s)):=by
 refine .mk ⟨zt,zt⟩ (Ar 0 _) (c62.a (AE AG.sE (AF ?_)));simp only[eE,eN,seval,Au,c62,AH,x0.sF,Bz];exact Wk.agg (.cons (Wk.refl _) (.cons (Wk.refl _) (.cons (Wk.refl _) (.cons (Wk.sl (.inr rfl)) .nil))))
noncomputable def Ln(l:List zk)(f:zk->Fs):List Fs->AB->Prop×Fs:=λa _=>match a with
 |[x]=>(∃v∈l,eV v=x,f (dV x))
 |_=>(False,.sH [])
def qVr{tF:FuncId}{l:List zk}{f:zk->Fs}(h:∀v∈l,A6 prog tF [eV v] (f v)):∀args H n,(Ln l f args H).1->Ad prog tF args H n (Ln l f args H).2:=by
 intro args H n hh;unfold Ln at hh⊢;split at hh
 ·obtain⟨v,hv,rfl⟩:=hh;simp only[De];exact(h v hv).quiet H n
 ·exact hh.elim
def p101{v:zk}(hv:FewV v):A6 prog 101 [eV v] (.bool true):=by
 induction hv with
 | @int n h1 h2=>
  refine .mk ⟨Ar 0 _,zt⟩ zt (Wd.a (AE AG.sE (AF ?_)));simp only[eZ,seval,c0,Wd,eV];rfl
 | @text s h=>
  refine .mk ⟨Ar 0 _,zt⟩ zt (Wd.a (AE AG.sE (AF ?_)));simp only[eZ,seval,c0,Wd,eV]
 | @list l hl hx ih=>
  have hT:AG prog (AJ 101 (Ln l λ_=>.bool true) sE):=AG.sE.add (qVr ih);have hTe:∀a H,AJ 101 (Ln l λ_=>.bool true) sE 101 a H=Ln l (λ_=>.bool true) a H:=λa H=>by unfold AJ;rw[oE rfl]
  generalize AJ 101 (Ln l λ_=>.bool true) sE=T at hT hTe;refine .mk ⟨Ar 0 _,zt⟩ zt (Wd.a (AE hT (AF ?_)));simp only[eZ,seval,Wd,eV,DQ];refine AQ (λi:Nat=>⟨[(1,true,.ptr 0 0),(3,true,.int .i64 i)],sA Ac 0 (.box [.int .i64 3,.int .i64 0,.str [],.sl (.none 4) (l.map eV)]),2⟩) (λi=>i<=l.length) (λi=>l.length-i) 0 rfl (oq _) ?_;rintro i hi;by_cases e9:i<l.length
  ·have hg:=o8 e9;have hm:(∃v∈l,eV v=eV l[i])=True:=o7 ⟨_,oK e9,rfl⟩;have e:=AI (k:=i) zo;simp only[eZ,seval,o9,eY,AT e9,hg,hm,hTe,Ln,e,Qd,HW];exact .mk (i+1) rfl e9 zo
  obtain rfl:i=l.length:=zo
  simp only[eZ,seval,o6,Ah e9];rfl
def p102{v:zk}(hv:FewV v):Cy v<=1000->A6 prog 102 [eV v] (.int .i64 (Cy v:Nat)):=by
 induction hv with
 | @int n h1 h2=>
  intro _;refine .mk ⟨Ar 0 _,zt⟩ zt (We.a (AE AG.sE (AF ?_)));simp only[eZ,seval,oh,c0,We,eV,Cy]
 | @text s h=>
  intro _;refine .mk ⟨Ar 0 _,zt⟩ zt (We.a (AE AG.sE (AF ?_)));simp only[eZ,seval,oh,c0,We,eV,Cy]
 | @list l hl hx ih=>
  intro hd;rw[Cy]at hd;have hT:AG prog (AJ 102 (Ln l λv=>.int .i64 (Cy v:Nat)) sE):=AG.sE.add (qVr λv hv=>ih v hv (pu (KE hv) zo));have hTe:∀a H,AJ 102 (Ln l λv=>.int .i64 (Cy v:Nat)) sE 102 a H=Ln l (λv=>.int .i64 (Cy v:Nat)) a H:=λa H=>by unfold AJ;rw[oE rfl]
  generalize AJ 102 (Ln l λv=>.int .i64 (Cy v:Nat)) sE=T at hT hTe;refine .mk ⟨Ar 0 _,zt⟩ zt (We.a (AE hT (AF ?_)));rw[Cy];simp only[eZ,seval,o9,We,eV,DQ];refine AQ (λi:Nat=>⟨[(1,true,.ptr 0 0),(3,true,.int .i64 (tL (l.take i):Nat)),(4,true,.int .i64 i)],sA Ac 0 (.box [.int .i64 3,.int .i64 0,.str [],.sl (.none 4) (l.map eV)]),2⟩) (λi=>i<=l.length) (λi=>l.length-i) 0 rfl (oq _) ?_;rintro i hi;by_cases e9:i<l.length
  ·have hg:=o8 e9;have hm:(∃v∈l,eV v=eV l[i])=True:=o7 ⟨_,oK e9,rfl⟩;have e:=AI (k:=i) zo;have nx:=MI e9;simp only[eZ,seval,eY,AT e9,hg,hm,hTe,Ln,e,Qd,HW,De];have mx:max ((tL (l.take i):Nat):Int) ((Cy l[i]:Nat):Int)=((max (tL (l.take i)) (Cy l[i]):Nat):Int):=zo
   exact .mk (i+1) (by simp only[mx,<-nx]) e9 zo
  obtain rfl:i=l.length:=zo
  have e:=AI (k:=tL l) zo;rw[oF];simp only[eZ,seval,o6,Ah e9,e]
end Go.AM
namespace Go.AM
open Go.Lib Go.Proofs Go.Proofs.Tryz
def Bc(v:zk):(eV v).cells.length=4:=by cases v<;>rfl
def CN(v:zk):nT (eV v)=True:=o7 (by cases v<;>trivial)
theorem Xw:scmp .eql [] []=true:=rfl
def p92{v:zk}(hv:FewV v):Cy v<=1000->A6 prog 92 [eV v] (.sH [.int .i64 (Cy v:Nat),.bool true]):=by
 induction hv with
 | @int n h1 h2=>
  intro _;refine .mk ⟨Ar 0 _,zt⟩ ⟨zt,zt,zt⟩ (nk.a (AE AG.sE (AF ?_)));simp only[eZ,reduceCtorEq,Nat.reduceEqDiff,↓reduceIte,Nat.reduceAdd,Nat.reduceLeDiff,Nat.reduceMul,Int.reduceLE,Int.reduceLT,o9,c0,Int.toNat_one,nk,eV,Cy,Xw,AH,x0.sF,Bz];exact⟨zd,Wk.refl _⟩
 | @text s h=>
  intro _;refine .mk ⟨Ar 0 _,zt⟩ ⟨zt,zt,zt⟩ (nk.a (AE AG.sE (AF ?_)));simp only[eZ,reduceCtorEq,Nat.reduceEqDiff,↓reduceIte,Nat.reduceAdd,Nat.reduceLeDiff,Nat.reduceMul,Int.reduceLE,Int.reduceLT,Int.reduceToNat,o9,c0,nk,eV,Cy,AH,x0.sF,Bz];exact⟨zd,Wk.refl _⟩
 | @list l hl hx ih=>
  intro hd;rw[Cy]at hd;have hT:AG prog (AJ 92 (Ln l λv=>.sH [.int .i64 (Cy v:Nat),.bool true]) sE):=AG.sE.add (qVr λv hv=>ih v hv (pu (KE hv) zo));have hTe:∀a H,AJ 92 (Ln l λv=>.sH [.int .i64 (Cy v:Nat),.bool true]) sE 92 a H=Ln l (λv=>.sH [.int .i64 (Cy v:Nat),.bool true]) a H:=λa H=>by unfold AJ;rw[oE rfl]
  generalize AJ 92 (Ln l λv=>.sH [.int .i64 (Cy v:Nat),.bool true]) sE=T at hT hTe;refine .mk ⟨Ar 0 _,zt⟩ ⟨zt,zt,zt⟩ (nk.a (AE hT (AF ?_)));rw[Cy];simp only[eZ,reduceCtorEq,Nat.reduceEqDiff,↓reduceIte,Nat.reduceAdd,Nat.reduceLeDiff,Nat.reduceMul,Int.reduceLE,Int.reduceLT,Int.reduceToNat,o9,o6,nk,eV,DQ,Xw,AH,x0.sF,Bz];refine⟨zd,?_⟩;generalize hH:sA (sA Ac 0 (.box [.int .i64 3,.int .i64 0,.str [],.sl (.none 4) (l.map eV)])) 30 _=H;have hf:AU H 32:=by rw[<-hH];exact(AU.nil.sA (m:=32) (oq _) zd).sA (od _) zd
  clear hH;have h34:=hf 34 zd;refine AQ (λi:Nat=>⟨[(2,true,.int .i64 (tL (l.take i):Nat)),(55,true,.sl (.none 4) (l.map eV)),(56,true,.int .i64 (l.length:Nat)),(57,true,.int .i64 i)],H,32⟩) (λi=>i<=l.length) (λi=>l.length-i) 0 rfl (oq _) ?_;rintro i hi;by_cases e9:i<l.length
  ·have hg:=o8 e9;have hm:(∃v∈l,eV v=eV l[i])=True:=o7 ⟨_,oK e9,rfl⟩;have e:=AI (k:=i) zo;have nx:=MI e9;simp only[eZ,Nat.reduceEqDiff,↓reduceIte,Nat.reduceAdd,Nat.reduceLT,Int.reduceEq,o9,eY,AT e9,hg,hm,hTe,Ln,e,AH,Bc,CN,HW,De,h34];have mx:max ((tL (l.take i):Nat):Int) ((Cy l[i]:Nat):Int)=((max (tL (l.take i)) (Cy l[i]):Nat):Int):=zo
   rw[mx,<-nx];exact ZA.drop (i+1) rfl rfl rfl rfl hf (Cr.new hf zd (Cr.refl _)) ⟨zt,⟨zt,by rw[<-DQ];exact uX 32 l⟩,zt,zt,zt⟩ e9 zo
  obtain rfl:i=l.length:=zo
  have e:=AI (k:=tL l) zo;rw[oF];simp only[eZ,Nat.reduceEqDiff,↓reduceIte,Int.reduceEq,Ah e9,e];exact Wk.refl _
noncomputable def LZ(ok:zk->Prop)(f:zk->Fs):List Fs->AB->Prop×Fs:=λa _=>match a with
 |[x]=>(∃v,ok v/\eV v=x,f (dV x))
 |_=>(False,.sH [])
def fP{tF:FuncId}{ok:zk->Prop}{f:zk->Fs}(h:∀v,ok v->A6 prog tF [eV v] (f v)):∀args H n,(LZ ok f args H).1->Ad prog tF args H n (LZ ok f args H).2:=by
 intro args H n hh;unfold LZ at hh⊢;split at hh
 ·obtain⟨v,hv,rfl⟩:=hh;simp only[De];exact(h v hv).quiet H n
 ·exact hh.elim
def Qe(v:zk):Prop:=FewV v/\Cy v<=16
noncomputable def bK:Bk:=AJ 92 (LZ Qe λv=>.sH [.int .i64 (Cy v:Nat),.bool true]) (AJ 101 (LZ Qe λ_=>.bool true) (AJ 102 (LZ Qe λv=>.int .i64 (Cy v:Nat)) sE))
def UE:AG prog bK:=((AG.sE.add (fP λv h=>p102 h.1 (pu h.2 zd))).add (fP λv h=>p101 h.1)).add (fP λv h=>p92 h.1 (pu h.2 zd))
section
variable (a:List Fs) (H:AB)
theorem jL:bK 92 a H=LZ Qe (λv=>.sH [.int .i64 (Cy v:Nat),.bool true]) a H:=rfl
theorem jM:bK 101 a H=LZ Qe (λ_=>.bool true) a H:=rfl
theorem jN:bK 102 a H=LZ Qe (λv=>.int .i64 (Cy v:Nat)) a H:=rfl
end
def p40(v:zk)(hv:Qe v):A6 prog 40 [eV v] (.int .i64 0):=by
 refine .mk ⟨Ar 0 _,zt⟩ zt (c40.a (AE UE (AF ?_)));have hm:(∃u,Qe u/\eV u=eV v)=True:=o7 ⟨v,hv,rfl⟩;have hd:decide ((16:Int)<(Cy v:Int))=false:=by have:=hv.2;simp;omega
 simp only[eZ,seval,o9,eY,c40,jL,LZ,Bc,CN,HW,De,hm,hd]
def p59(v:zk)(hv:Qe v):A6 prog 59 [eV v] (.int .i64 0):=by
 refine .mk ⟨Ar 0 _,zt⟩ zt (c59.a (AE UE (AF ?_)));have hm:(∃u,Qe u/\eV u=eV v)=True:=o7 ⟨v,hv,rfl⟩;have hd:decide ((16:Int)<(Cy v:Int))=false:=by have:=hv.2;simp;omega
 simp only[eZ,seval,o9,c59,jM,jN,LZ,Bc,CN,HW,De,hm,hd]
mutual
def B7:zk->List UInt8
 | .int n=>1::CQ (FD n)
 | .text s=>2::(CQ s.length++s)
 | .list l=>3::(CQ l.length++tC l)
def tC:List zk->List UInt8
 |[]=>[]
 |v::l=>B7 v++tC l
end
theorem KF:∀(l m:List zk),tC (l++m)=tC l++tC m
 |[],m=>by rw[oW,tC,oW]
 |v::l,m=>by rw[pp,tC,KF l m,tC,oT]
def MJ{l:List zk}{i:Nat}(h:i<l.length):tC (l.take (i+1))=tC (l.take i)++B7 l[i]:=by
 rw[oG,o8 h,rN,KF,tC,tC,oR]
theorem N6:∀{l:List zk} {x:zk},x∈l->(B7 x).length<=(tC l).length
 |y::l,x,h=>by
  rw[tC,ou];rcases ph.1 h with rfl|h
  ·omega
  ·have:=N6 h;omega
def Qf(l:List zk)(i:Nat):(tC (l.take i)).length<=(tC l).length:=by
 conv=>rhs;rw[<-qX i l,KF,ou]
 omega
def fQ:List Fs->AB->Prop×Fs:=λa _=>match a with
 |[.int .u64 x]=>(0<=x/\x<18446744073709551616,F4 (CQ x.toNat))
 |_=>(False,.sH [])
def qNm:∀args H n,(fQ args H).1->Ad prog 103 args H n (fQ args H).2:=by
 intro args H n hh;unfold fQ at hh⊢;split at hh
 ·rename_i x;obtain⟨h1,h2⟩:=hh;have:=(p103 x.toNat zo).quiet H n;rw[pS h1]at this;exact this
 ·exact hh.elim
def sUn:List Fs->AB->Prop×Fs:=λa _=>match a with
 |[.int .i64 x]=>(-9223372036854775808<=x/\x<9223372036854775808,.int .u64 (FD x:Nat))
 |_=>(False,.sH [])
def qUn:∀args H n,(sUn args H).1->Ad prog 104 args H n (sUn args H).2:=by
 intro args H n hh;unfold sUn at hh⊢;split at hh
 ·exact(p104 _ hh.1 hh.2).quiet H n
 ·exact hh.elim
def Sb:Bk:=AJ 103 fQ (AJ 104 sUn sE)
def PI:AG prog Sb:=(AG.sE.add qUn).add qNm
def Lo{n:Int}(h1: -9223372036854775808<=n)(h2:n<9223372036854775808):FD n<18446744073709551616:=by unfold FD;split<;>omega
structure IEn(B:xq)(m:Nat)(v:VPd):Prop where
 hj:v.j<=m
 fr:AU v.H v.n
 tok:EG 1 1 v.H v.tk
 es:v.tk.esz=1
 h0:AD v.H 0=some B
 n1:1<=v.n
def p60{v:zk}(hv:FewV v):(B7 v).length<3900000000->A6 prog 60 [eV v] (F4 (B7 v)):=by
 induction hv with
 | @int n h1 h2=>
  intro _;refine .mk ⟨Ar 0 _,zt⟩ ⟨zt,Af (f:=eB) (λ_=>zt) _⟩ (np.a (AE PI (AF ?_)));have hl:=Ce (Lo h1 h2);have q0:((FD n:Int)<18446744073709551616)=True:=o7 (by have:=Lo h1 h2;omega);have q1:small (1+(CQ (FD n)).length) 1=True:=o7 (Bn zo zd);have q2:(1+(CQ (FD n)).length<=35184372088832)=True:=o7 zo;simp only[eZ,seval,eY,np,eV,B7,Sb,fQ,sUn,o7 h1,o7 h2,q0,q1,q2,x0.sF,Bz,AJ];exact Wk.sl (.inl rfl)
 | @text s h=>
  intro _;refine .mk ⟨Ar 0 _,zt⟩ ⟨zt,Af (f:=eB) (λ_=>zt) _⟩ (np.a (AE PI (AF ?_)));have hl:=Ce (u:=s.length) zo;have q0:((s.length:Int)<18446744073709551616)=True:=o7 zo;have wl:IntKind.wrap .u64 (s.length:Int)=(s.length:Int):=GO zo;have q1:small (1+(CQ s.length).length) 1=True:=o7 (Bn zo zd);have q2:(1+(CQ s.length).length<=35184372088832)=True:=o7 zo;have q3:small (1+(CQ s.length).length+s.length) 1=True:=o7 (Bn zo zd);have q4:(1+(CQ s.length).length+s.length<=35184372088832)=True:=o7 zo;simp only[eZ,seval,eY,np,eV,B7,Sb,fQ,wl,q0,q1,q2,x0.sF,Bz,AJ];refine⟨⟨Bn zo zd,zo⟩,?_⟩;show Wk _ (.sl (.none 1) ((2::(CQ s.length++s)).map eB));rw[oL,oD];exact Wk.sl (.inl rfl)
 | @list l hl hx ih=>
  intro hb;rw[B7,oI,ou]at hb;have hT:AG prog (AJ 60 (Ln l λv=>F4 (B7 v)) Sb):=PI.add (qVr λv hv=>ih v hv (Nat.lt_of_le_of_lt (N6 hv) zo));have hTe:∀a H,AJ 60 (Ln l λv=>F4 (B7 v)) Sb 60 a H=Ln l (λv=>F4 (B7 v)) a H:=λa H=>by unfold AJ;rw[oE rfl]
  have hTn:∀a H,AJ 60 (Ln l λv=>F4 (B7 v)) Sb 103 a H=fQ a H:=λa H=>rfl
  generalize AJ 60 (Ln l λv=>F4 (B7 v)) Sb=T at hT hTe hTn;refine .mk ⟨Ar 0 _,zt⟩ ⟨zt,Af (f:=eB) (λ_=>zt) _⟩ (np.a (AE hT (AF ?_)));have hl10:=Ce (u:=l.length) zo;have q0:((l.length:Int)<18446744073709551616)=True:=o7 zo;have wl:IntKind.wrap .u64 (l.length:Int)=(l.length:Int):=GO zo;have q1:small (1+(CQ l.length).length) 1=True:=o7 (Bn zo zd);have q2:(1+(CQ l.length).length<=35184372088832)=True:=o7 zo;rw[B7];simp only[eZ,seval,eY,np,eV,DQ,hTn,fQ,wl,q0,q1,q2,x0.sF,Bz];refine AQ (λv:VPd=>⟨[(1,true,.ptr 0 0),(3,true,.sl v.tk ((3::(CQ l.length++tC (l.take v.j))).map eB)),(4,true,.int .i64 v.j)],v.H,v.n⟩) (IEn (.box [.int .i64 3,.int .i64 0,.str [],.sl (.none 4) (l.map eV)]) l.length) (λv=>l.length-v.j) ⟨0,.own 8 1,sA (sA Ac 0 (.box [.int .i64 3,.int .i64 0,.str [],.sl (.none 4) (l.map eV)])) 8 .tok,10⟩ (by rw[pZ,tC,oR];rfl) ⟨oq _,(AU.nil.sA (m:=10) (oq _) zd).sA (od _) (show 8<10 by decide),.inr (.inr ⟨8,rfl,zd,AC ..⟩),rfl,by rw[AA _ _ _ _ zd];exact AC ..,show 1<=10 by decide⟩ ?_;rintro⟨j,tk,H,n⟩ ⟨hj,hf,l6,s9,h0,w7⟩;simp only at hj hf l6 s9 h0 w7;by_cases e9:j<l.length
  ·have hg:=o8 e9;have hm:(∃v∈l,eV v=eV l[j])=True:=o7 ⟨_,oK e9,rfl⟩;have e:=AI (k:=j) zo;have nx:=MJ e9;have hle:=Qf l (j+1);rw[nx,ou]at hle;have hYl:(3::(CQ l.length++tC (l.take j))).length+(B7 l[j]).length<3900000100:=by rw[oI,ou];omega
   have hnx:(3::(CQ l.length++tC (l.take (j+1))))=(3::(CQ l.length++tC (l.take j)))++B7 l[j]:=by rw[nx,pp,oT]
   generalize (3::(CQ l.length++tC (l.take j)))=Y at hYl hnx;have q1:At H 1 tk=True:=o7 l6.app;have q2:(Y.length+(B7 l[j]).length<=35184372088832)=True:=o7 zo;have q3:small (Y.length+(B7 l[j]).length) 1=True:=o7 (Bn zo zd);simp only[eZ,seval,eY,AT e9,hg,hm,hTe,Ln,e,h0,Bc,HW,De,q1,q2,q3,Bx hf];refine .mk ⟨j+1,.own (n+7) 1,sA (AR H tk) (n+7) .tok,n+9⟩ ?_ ⟨e9,(AZ l6 hf).sA (m:=n+9) zo zo,.inr (.inr ⟨n+7,rfl,zo,AC ..⟩),rfl,?_,zp⟩ zp
   ·have hmap:Y.map eB++(B7 l[j]).map eB=(3::(CQ l.length++tC (l.take (j+1)))).map eB:=by rw[hnx,oD]
    simp only[hmap];rfl
   ·simp only[];rw[AA _ _ _ _ zo,Ai l6 (.inl zd)];exact h0
  obtain rfl:j=l.length:=zo
  rw[oF];simp only[eZ,seval,o6,Ah e9,h0];exact Wk.sl (.inl s9)
def FM(v:zk):Prop:=Qe v/\(B7 v).length<3900000000
noncomputable def jO:Bk:=AJ 59 (LZ Qe λ_=>.int .i64 0) (AJ 60 (LZ FM λv=>F4 (B7 v)) sE)
def bM:AG prog jO:=(AG.sE.add (fP λv h=>p60 h.1.1 h.2)).add (fP λv h=>p59 v h)
theorem jP(a:List Fs)(H:AB):jO 59 a H=LZ Qe (λ_=>.int .i64 0) a H:=rfl
theorem jQ(a:List Fs)(H:AB):jO 60 a H=LZ FM (λv=>F4 (B7 v)) a H:=rfl
def p24(v:zk)(hv:FM v):A6 prog 24 [eV v] (.sH [F4 (B7 v),.int .i64 0]):=by
 refine .mk ⟨Ar 0 _,zt⟩ ⟨⟨zt,Af (f:=eB) (λ_=>zt) _⟩,zt,zt⟩ (c24.a (AE bM (AF ?_)));have hm:(∃u,Qe u/\eV u=eV v)=True:=o7 ⟨v,hv.1,rfl⟩;have hm2:(∃u,FM u/\eV u=eV v)=True:=o7 ⟨v,hv,rfl⟩;simp only[eZ,seval,o9,c24,jP,jQ,LZ,Bc,CN,HW,De,hm,hm2];exact Wk.refl _
structure IEm(B:xq)(m:Nat)(v:VPd):Prop where
 hj:v.j<=m
 fr:AU v.H v.n
 tok:EG 4 1 v.H v.tk
 es:v.tk.esz=4
 h0:AD v.H 0=some B
 n1:1<=v.n
def Lp:List Fs->AB->Prop×Fs:=λa _=>match a with
 |[.int .i64 x]=>(True,eV (.int x))
 |_=>(False,.sH [])
def qI1:∀args H n,(Lp args H).1->Ad prog 63 args H n (Lp args H).2:=by
 intro args H n hh;unfold Lp at hh⊢;split at hh
 ·exact(p63 _).quiet H n
 ·exact hh.elim
def K1:List Fs->AB->Prop×Fs:=λa _=>match a with
 |[.str x]=>(True,eV (.text x))
 |_=>(False,.sH [])
def qT1:∀args H n,(K1 args H).1->Ad prog 62 args H n (K1 args H).2:=by
 intro args H n hh;unfold K1 at hh⊢;split at hh
 ·exact(p62 _).quiet H n
 ·exact hh.elim
def jR:Bk:=AJ 63 Lp (AJ 62 K1 sE)
def UF:AG prog jR:=(AG.sE.add qT1).add qI1
def p61(l:List zk):A6 prog 61 [.sl (.none 4) (l.map eV)] (eV (.list l)):=by
 refine .mk ⟨⟨zt,by rw[<-DQ];exact uX 0 l⟩,zt⟩ (Ar 0 _) (c61.a (AE AG.sE (AF ?_)));simp only[eE,eN,seval,Au,c61,AH,x0.sF,Bz];rw[eV,DQ];exact Wk.refl _
def p64(l:List Int)(hl:l.length<100000):A6 prog 64 [.sl (.none 1) (l.map λx=>Fs.int .i64 x)] (eV (.list (l.map zk.int))):=by
 refine .mk ⟨⟨zt,Af (f:=λx=>Fs.int .i64 x) (λ_=>zt) _⟩,zt⟩ (Ar 0 _) (c64.a (AE UF (AF ?_)));simp only[eE,eN,seval,c64,x0.sF,Bz];refine AQ (λv:VPd=>⟨[(0,true,.sl (.none 1) (l.map λx=>Fs.int .i64 x)),(2,true,.ptr 0 0),(3,true,.sl v.tk (((l.take v.j).map zk.int).map eV)),(4,true,.int .i64 v.j)],v.H,v.n⟩) (IEm (.box [z0,z0,zr,zs]) l.length) (λv=>l.length-v.j) ⟨0,.exact 4,sA Ac 0 (.box [z0,z0,zr,zs]),1⟩ rfl ⟨oq _,AU.nil.sA (m:=1) (oq _) (show 0<1 by decide),.inr (.inl rfl),rfl,AC ..,od 1⟩ ?_;rintro⟨j,tk,H,n⟩ ⟨hj,hf,l6,s9,h0,w7⟩;simp only at hj hf l6 s9 h0 w7;by_cases e9:j<l.length
 ·have hg:=o8 e9;have e:=AI (k:=j) zo;have nx:(l.take (j+1)).map zk.int=(l.take j).map zk.int++[zk.int l[j]]:=by
   rw[oG,hg,oD];rfl
  have hYl:((l.take j).map zk.int).length<=j:=by rw[o6,oJ];omega
  generalize (l.take j).map zk.int=Y at hYl nx;have q1:At H 4 tk=True:=o7 l6.app;have q2:(Y.length+1<=35184372088832)=True:=o7 zo;have q3:small (Y.length+1) 56=True:=o7 (Bn zo zd);simp only[eZ,seval,eY,AT e9,hg,jR,Lp,e,Bc,CN,q1,q2,q3,Bx hf,x0.sF,Bz,AJ];have hmap:Y.map eV++[eV (zk.int l[j])]=((l.take (j+1)).map zk.int).map eV:=by rw[nx,oD];rfl
  refine .mk ⟨j+1,.own (n+7) 4,sA (AR H tk) (n+7) .tok,n+9⟩ ?_ ⟨e9,(AZ l6 hf).sA (m:=n+9) zo zo,.inr (.inr ⟨n+7,rfl,zo,AC ..⟩),rfl,?_,zp⟩ zp
  ·simp only[hmap]
  ·simp only[];rw[AA _ _ _ _ zo,Ai l6 (.inl zd)];exact h0
 obtain rfl:j=l.length:=zo
 rw[oF];simp only[eZ,seval,Au,o6,Ah e9,h0,x0.sF,Bz];rw[eV,DQ];exact Wk.agg (.cons (Wk.refl _) (.cons (Wk.refl _) (.cons (Wk.refl _) (.cons (Wk.sl (.inl s9)) .nil))))
def p65(l:List (List UInt8))(hl:l.length<100000):A6 prog 65 [.sl (.none 1) (l.map λx=>Fs.str x)] (eV (.list (l.map zk.text))):=by
 refine .mk ⟨⟨zt,Af (f:=λx=>Fs.str x) (λ_=>zt) _⟩,zt⟩ (Ar 0 _) (c65.a (AE UF (AF ?_)));simp only[eE,eN,seval,c65,x0.sF,Bz];refine AQ (λv:VPd=>⟨[(0,true,.sl (.none 1) (l.map λx=>Fs.str x)),(2,true,.ptr 0 0),(3,true,.sl v.tk (((l.take v.j).map zk.text).map eV)),(4,true,.int .i64 v.j)],v.H,v.n⟩) (IEm (.box [z0,z0,zr,zs]) l.length) (λv=>l.length-v.j) ⟨0,.exact 4,sA Ac 0 (.box [z0,z0,zr,zs]),1⟩ rfl ⟨oq _,AU.nil.sA (m:=1) (oq _) (show 0<1 by decide),.inr (.inl rfl),rfl,AC ..,od 1⟩ ?_;rintro⟨j,tk,H,n⟩ ⟨hj,hf,l6,s9,h0,w7⟩;simp only at hj hf l6 s9 h0 w7;by_cases e9:j<l.length
 ·have hg:=o8 e9;have e:=AI (k:=j) zo;have nx:(l.take (j+1)).map zk.text=(l.take j).map zk.text++[zk.text l[j]]:=by
   rw[oG,hg,oD];rfl
  have hYl:((l.take j).map zk.text).length<=j:=by rw[o6,oJ];omega
  generalize (l.take j).map zk.text=Y at hYl nx;have q1:At H 4 tk=True:=o7 l6.app;have q2:(Y.length+1<=35184372088832)=True:=o7 zo;have q3:small (Y.length+1) 56=True:=o7 (Bn zo zd);simp only[eZ,seval,eY,AT e9,hg,jR,K1,e,Bc,CN,q1,q2,q3,Bx hf,x0.sF,Bz,AJ];have hmap:Y.map eV++[eV (zk.text l[j])]=((l.take (j+1)).map zk.text).map eV:=by rw[nx,oD];rfl
  refine .mk ⟨j+1,.own (n+7) 4,sA (AR H tk) (n+7) .tok,n+9⟩ ?_ ⟨e9,(AZ l6 hf).sA (m:=n+9) zo zo,.inr (.inr ⟨n+7,rfl,zo,AC ..⟩),rfl,?_,zp⟩ zp
  ·simp only[hmap]
  ·simp only[];rw[AA _ _ _ _ zo,Ai l6 (.inl zd)];exact h0
 obtain rfl:j=l.length:=zo
 rw[oF];simp only[eZ,seval,Au,o6,Ah e9,h0,x0.sF,Bz];rw[eV,DQ];exact Wk.agg (.cons (Wk.refl _) (.cons (Wk.refl _) (.cons (Wk.refl _) (.cons (Wk.sl (.inl s9)) .nil))))
section
def sUp:List Fs->AB->Prop×Fs:=λa _=>match a with
 |[.int .i64 x]=>(-9223372036854775808<=x/\x<9223372036854775808,.int .u64 (FD x:Nat))
 |_=>(False,.sH [])
def qUp:∀args H n,(sUp args H).1->Ad prog 95 args H n (sUp args H).2:=by
 intro args H n hh;unfold sUp at hh⊢;split at hh
 ·exact(p95 _ hh.1 hh.2).quiet H n
 ·exact hh.elim
def TabU:Bk:=AJ 95 sUp sE
def bN:AG prog TabU:=AG.sE.add qUp
variable {H:AB} {m:Nat} {tk:xv}
theorem PJ{i:Nat}{b:xq}(h:i≠m):AD (AR (sA H m b) tk) i=AD (AR H tk) i:=by
 have h':¬m=i:=λe=>h e.symm
 unfold AR;split<;>simp only[AN,og h']
theorem PL{b:xq}(ho:∀id e,tk= .own id e->id<m):AD (AR (sA H m b) tk) m=some b:=by
 unfold AR;split
 ·rw[AA _ _ _ _ (by have:=ho _ _ rfl;omega)];exact AC ..
 ·exact AC ..
theorem t_W1(l:List UInt8)(x:Int)(h1: -9223372036854775808<=x)(h2:x<9223372036854775808)(hl:l.length<3998000000)(hf:AU H m)(hk:At H 1 tk)(ho:∀id e,tk= .own id e->id<m):AO prog 93 [.sl tk (l.map eB),eV (.int x)] H m (MH H m tk (l++B7 (.int x))):=by
 refine c93.a (AE bN (AF ?_));have k1:At (sA H m (.box [.int .i64 1,.int .i64 x,.str [],.sl (.none 4) []])) 1 tk=True:=o7 (by
  unfold At at hk⊢;split at hk
  ·trivial
  ·exact hk.elim
  ·exact hk
  ·exact⟨hk.1,by rw[AA _ _ _ _ (by have:=ho _ _ rfl;omega)];exact hk.2⟩)
 have q2:(l.length+1<=35184372088832)=True:=o7 zo;have q3:small (l.length+1) 1=True:=o7 (Bn zo zd);have f4:AD (sA H m (.box [.int .i64 1,.int .i64 x,.str [],.sl (.none 4) []])) (m+4)=none:=by rw[AA _ _ _ _ zo];exact hf _ zo
 have f0:=hf m (od _);have ga:=PL (H:=H) (b:=.box [.int .i64 1,.int .i64 x,.str [],.sl (.none 4) []]) ho;simp only[eE,eN,seval,o6,c93,eV,TabU,ga,sUp,k1,q2,q3,f0,f4,o7 h1,o7 h2,x0.sF,Bz,AJ];have hfk:AU (sA (AR (sA H m (.box [.int .i64 1,.int .i64 x,.str [],.sl (.none 4) []])) tk) (m+4) .tok) (m+10):=
  (Ek (hf.sA (m:=m+1) zo zo) (λid e h=>by have:=ho id e h;omega)).sA zo zo
 have hmp:l.map eB++[Fs.int .u8 1]=(l++[1]).map eB:=by rw[oD];rfl
 rw[hmp];refine(KD (tk:=.own (m+4) 1) (l++[1]) (FD x) (Lo h1 h2) (by rw[ou];simp only[oI,pd];omega) hfk ⟨rfl,AC ..⟩ rfl (λid e h=>by cases h;omega)).mono ?_;rintro o H' n' ⟨id,s5,hid2,rfl,ht,hf',si⟩;simp only[eE,eN,seval,BG];refine⟨id,zo,hid2,?_,ht,hf',λi hi=>?_⟩
 ·rw[B7,oT];rfl
 ·rw[si i zo];show AD (sA (sA (AR (sA H m _) tk) (m+4) .tok) (m+4) .dead) i=_;rw[AH,AA _ _ _ _ zo];exact PJ zo
end
end Go.AM
