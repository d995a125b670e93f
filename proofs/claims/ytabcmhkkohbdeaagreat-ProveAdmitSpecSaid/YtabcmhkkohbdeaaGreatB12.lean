/-
  Parts of the proof. Conditions: none.
-/
import Derived.Test.YtabcmhkkohbdeaaGreatB11
set_option maxRecDepth 20000
set_option linter.all false
namespace Go.AM
open Go.Lib Go.Proofs Go.Proofs.Tryz
structure GrV(g:v7):Prop where
 hG:Av g.sh g.w g.h g.holes=some g.cells
 ho:An g.holes
def Ah(g:v7)(c:Int):Int:=g.cells.getD c.toNat 0
def JK(g:v7)(c:Int):Prop:=0<=c/\c.toNat<g.cells.length
def GrV.at{g:v7}(G:GrV g){c:Int}(h:JK g c):∃k:Nat,c=(k:Int)/\k<g.cells.length/\g.cells[k]?=some (Ah g c)/\0<=Ah g c/\1<=g.w/\g.w<=16/\0<=(Ah g c).tmod g.w/\(Ah g c).tmod g.w<16/\0<=(Ah g c).tdiv g.w/\(Ah g c).tdiv g.w<16/\((Ah g c).tdiv g.w).tdiv 2=(Ah g c).tdiv g.w/2/\(g.sh=1\/g.sh=2):=by
 obtain⟨h0,h1⟩:=h;obtain⟨hs,w1,w2,k1,k2,-,-,-,hc⟩:=IT G.hG;obtain⟨-,-,hr⟩:=BX G.hG;have hg:=rc h1;have hp:g.cells[c.toNat]?=some (Ah g c):=by unfold Ah;rw[ur,hg];rfl
 have hm:Ah g c∈g.cells:=te hp;have xu:=hm;rw[hc]at xu;have hm3:=(tV.mp xu).1;have hq:0<=Ah g c/\Ah g c<g.w*g.h:=by grind [CX]
 refine⟨c.toNat,zo,h1,hp,hq.1,w1,w2,Int.tmod_nonneg _ hq.1,by have:=Int.tmod_lt_of_pos (Ah g c) (b:=g.w) zo;omega,Int.tdiv_nonneg hq.1 zo,?_,Int.tdiv_eq_ediv_of_nonneg (Int.tdiv_nonneg hq.1 zo),hs⟩;rw[Int.tdiv_eq_ediv_of_nonneg hq.1];have:=Int.ediv_lt_of_lt_mul (by omega:0<g.w) (by rw[Int.mul_comm];exact hq.2);omega
def p180(g:v7)(c:Int)(G:GrV g)(h:JK g c):Aw prog 180 [CK g,.int .i64 c] (.int .i64 ((Ah g c).tmod g.w)):=by
 obtain⟨k,rfl,hk,hg,hp,w1,w2,x1,x2,y1,y2,ey,hs⟩:=G.at h;have hw:(g.w=0)=False:=ri zo;have my:((k:Int)<(g.cells.length:Int))=True:=ra zo;refine .mk ⟨BL 0 ..,zt,zt⟩ zt (qK.a (AI AH.tnil (AJ ?_)));simp only[eE,eN,seval,eY,qK,AE,hg,my,hw]
def p181(g:v7)(c:Int)(G:GrV g)(h:JK g c):Aw prog 181 [CK g,.int .i64 c] (.int .i64 ((Ah g c).tdiv g.w)):=by
 obtain⟨k,rfl,hk,hg,hp,w1,w2,x1,x2,y1,y2,ey,hs⟩:=G.at h;have hw:(g.w=0)=False:=ri zo;have my:((k:Int)<(g.cells.length:Int))=True:=ra zo;have e1:IntKind.wrap .i64 ((Ah g k).tdiv g.w)=(Ah g k).tdiv g.w:=A6 zo zo;refine .mk ⟨BL 0 ..,zt,zt⟩ zt (qL.a (AI AH.tnil (AJ ?_)));simp only[eE,eN,seval,eY,qL,AE,hg,my,hw,e1]
def QE(g:v7)(c:Int):Fs:=.int .i64 ((Ah g c).tmod g.w)
def OL(g:v7)(c:Int):Fs:=.int .i64 ((Ah g c).tdiv g.w)
def Kn(g:v7)(c:Int):Int:=(Ah g c).tmod g.w-((Ah g c).tdiv g.w).tdiv 2
def k9(g:v7)(c:Int):Fs:=.int .i64 (Kn g c)
def dH:Bc:=AG 180 (s2 DY dI (λg c=>GrV g/\JK g c) QE) (AG 181 (s2 DY dI (λg c=>GrV g/\JK g c) OL) tnil)
def QF:AH prog dH:=(AH.tnil.add (q2 λg c h=>p181 g c h.1 h.2)).add (q2 λg c h=>p180 g c h.1 h.2)
def p182(g:v7)(c:Int)(G:GrV g)(h:JK g c):Aw prog 182 [CK g,.int .i64 c] (k9 g c):=by
 obtain⟨k,-,hk,hg,hp,w1,w2,x1,x2,y1,y2,ey,hs⟩:=G.at h;have f1:DY.ok (.agg (AE g.sh g.w g.h g.holes g.cells))=True:=EH g;have f2:DY.dec (.agg (AE g.sh g.w g.h g.holes g.cells))=g:=DG g;simp only[AE]at f1 f2;unfold k9 Kn;have hG:(GrV g)=True:=ra G;have hI:(JK g c)=True:=ra h;refine .mk ⟨BL 0 ..,zt,zt⟩ zt (qM.a (AI QF (AJ ?_)));have a0:=Xx y1;have e1:IntKind.wrap .i64 ((Ah g c).tdiv g.w-((Ah g c).tdiv g.w).tmod 2)=(Ah g c).tdiv g.w-((Ah g c).tdiv g.w).tmod 2:=by
  have:=Int.tmod_nonneg 2 y1;have:=Int.tmod_lt_of_pos ((Ah g c).tdiv g.w) (b:=2) zd;exact A6 zo zo
 have e2:IntKind.wrap .i64 (((Ah g c).tdiv g.w).tdiv 2)=((Ah g c).tdiv g.w).tdiv 2:=A6 zo zo;have e3:IntKind.wrap .i64 ((Ah g c).tmod g.w-((Ah g c).tdiv g.w).tdiv 2)=(Ah g c).tmod g.w-((Ah g c).tdiv g.w).tdiv 2:=A6 zo zo;simp only[eE,eN,seval,qM,AE,dH,s2,f1,f2,BD,Au,QE,OL,hG,hI,a0,e1,e2,e3,AG]
def dJ:Bc:=AG 182 (s2 DY dI (λg c=>GrV g/\JK g c) k9) dH
def U7:AH prog dJ:=QF.add (q2 λg c h=>p182 g c h.1 h.2)
theorem TT(a:List Fs)(H:AB):dJ 182 a H=s2 DY dI (λg c=>GrV g/\JK g c) k9 a H:=rfl
theorem TU(a:List Fs)(H:AB):dJ 180 a H=s2 DY dI (λg c=>GrV g/\JK g c) QE a H:=rfl
theorem QG(a:List Fs)(H:AB):dJ 181 a H=s2 DY dI (λg c=>GrV g/\JK g c) OL a H:=rfl
def p126(g:v7)(a b:Int)(G:GrV g)(ha:JK g a)(hb:JK g b):Aw prog 126 [CK g,.int .i64 a,.int .i64 b] (.bool (N8 g.sh (DX g.sh g.w (Ah g a)) (DX g.sh g.w (Ah g b)))):=by
 obtain⟨k,-,-,-,-,w1,w2,x1,x2,y1,y2,ey,hs⟩:=G.at ha;obtain⟨k',-,-,-,-,-,-,u1,u2,v1,v2,ev,-⟩:=G.at hb;have f1:DY.ok (.agg (AE g.sh g.w g.h g.holes g.cells))=True:=EH g;have f2:DY.dec (.agg (AE g.sh g.w g.h g.holes g.cells))=g:=DG g;simp only[AE]at f1 f2;have hG:(GrV g)=True:=ra G;have hI:(JK g a)=True:=ra ha;have hJ:(JK g b)=True:=ra hb;have e1:IntKind.wrap .i64 ((Ah g b).tmod g.w-(Ah g a).tmod g.w)=(Ah g b).tmod g.w-(Ah g a).tmod g.w:=A6 zo zo;have e2:IntKind.wrap .i64 ((Ah g b).tdiv g.w-(Ah g a).tdiv g.w)=(Ah g b).tdiv g.w-(Ah g a).tdiv g.w:=A6 zo zo;have e3:IntKind.wrap .i64 (Kn g b-Kn g a)=Kn g b-Kn g a:=by
  unfold Kn;exact A6 zo zo
 refine .mk ⟨BL 0 ..,zt,zt,zt⟩ zt (gR.a (AI U7 (AJ ?_)));rcases hs with h1|h2
 ·have q:N8 g.sh (DX g.sh g.w (Ah g a)) (DX g.sh g.w (Ah g b))=(decide ((Ah g b).tdiv g.w-(Ah g a).tdiv g.w=0)&&(decide ((Ah g b).tmod g.w-(Ah g a).tmod g.w=1)||decide ((Ah g b).tmod g.w-(Ah g a).tmod g.w= -1))||decide ((Ah g b).tmod g.w-(Ah g a).tmod g.w=0)&&(decide ((Ah g b).tdiv g.w-(Ah g a).tdiv g.w=1)||decide ((Ah g b).tdiv g.w-(Ah g a).tdiv g.w= -1))):=by
   unfold N8 DX;simp only[rt h1,rj (by omega:¬g.sh=2)]
  have hq:(g.sh=1)=True:=ra h1;rw[q];simp only[eZ,seval,gR,AE,TU,QG,s2,f1,f2,BD,Au,QE,OL,hG,hI,hJ,e1,e2,hq]
 ·have q:N8 g.sh (DX g.sh g.w (Ah g a)) (DX g.sh g.w (Ah g b))=(decide (Kn g b-Kn g a=1)&&decide ((Ah g b).tdiv g.w-(Ah g a).tdiv g.w=0)||decide (Kn g b-Kn g a= -1)&&decide ((Ah g b).tdiv g.w-(Ah g a).tdiv g.w=0)||decide (Kn g b-Kn g a=0)&&decide ((Ah g b).tdiv g.w-(Ah g a).tdiv g.w=1)||decide (Kn g b-Kn g a=0)&&decide ((Ah g b).tdiv g.w-(Ah g a).tdiv g.w= -1)||decide (Kn g b-Kn g a=1)&&decide ((Ah g b).tdiv g.w-(Ah g a).tdiv g.w= -1)||decide (Kn g b-Kn g a= -1)&&decide ((Ah g b).tdiv g.w-(Ah g a).tdiv g.w=1)):=by
   unfold N8 DX Kn;simp only[rj (by omega:¬g.sh=1),rt h2]
  have hq:(g.sh=1)=False:=ri zo;rw[q];simp only[eZ,seval,gR,AE,TU,QG,TT,s2,f1,f2,BD,Au,QE,OL,k9,hG,hI,hJ,e1,e2,e3,hq]
def I5(g:v7)(f c:Int):Int:=if f=1 then(Ah g c).tdiv g.w else if g.sh=1 then(Ah g c).tmod g.w else if f=2 then Kn g c else Kn g c+(Ah g c).tdiv g.w
def p183(g:v7)(f c:Int)(G:GrV g)(h:JK g c):Aw prog 183 [CK g,.int .i64 f,.int .i64 c] (.int .i64 (I5 g f c)):=by
 obtain⟨k,-,-,-,-,w1,w2,x1,x2,y1,y2,ey,hs⟩:=G.at h;have f1:DY.ok (.agg (AE g.sh g.w g.h g.holes g.cells))=True:=EH g;have f2:DY.dec (.agg (AE g.sh g.w g.h g.holes g.cells))=g:=DG g;simp only[AE]at f1 f2;have hG:(GrV g)=True:=ra G;have hI:(JK g c)=True:=ra h;have e1:IntKind.wrap .i64 (Kn g c+(Ah g c).tdiv g.w)=Kn g c+(Ah g c).tdiv g.w:=by
  unfold Kn;exact A6 zo zo
 refine .mk ⟨BL 0 ..,zt,zt,zt⟩ zt (Xm.a (AI U7 (AJ ?_)));unfold I5;by_cases q1:f=1
 ·rw[rt q1];simp only[eZ,seval,Xm,AE,QG,s2,f1,f2,BD,Au,OL,hG,hI,ra q1]
 rw[rj q1];by_cases q2:g.sh=1
 ·rw[rt q2];simp only[eZ,seval,Xm,AE,TU,s2,f1,f2,BD,Au,QE,hG,hI,ri q1,ra q2]
 rw[rj q2];by_cases q3:f=2
 ·rw[rt q3];simp only[eZ,seval,Xm,AE,TT,s2,f1,f2,BD,Au,k9,hG,hI,ri q1,ri q2,ra q3]
 rw[rj q3];simp only[eZ,seval,Xm,AE,QG,TT,s2,f1,f2,BD,Au,OL,k9,hG,hI,ri q1,ri q2,ri q3,e1]
def Dn(g:v7)(c:Nat):BF:=DX g.sh g.w (Ah g (c:Int))
def D9{g:v7}{c:Nat}(h:c<g.cells.length):(Aa g.sh g.w g.cells)[c]?=some (Dn g c):=by
 unfold Aa Dn Ah;rw[sb,rc h,rr,ur,rc h];rfl
def B8(g:v7):(Aa g.sh g.w g.cells).length=g.cells.length:=r9 ..
def X3(g:v7)(a b:Nat):Bool:=N8 g.sh (Dn g a) (Dn g b)
def Kh(g:v7)(a:Nat):List Int:=CQ g.cells.length (X3 g a)
def Ya(g:v7):(List.range g.cells.length).map (Kh g)=El g.sh (Aa g.sh g.w g.cells):=by
 unfold El;refine uR λi=>?_
 rw[sb,sb];by_cases h:i<g.cells.length
 ·rw[D9 h,vC h];simp only[sU];rw[cH,B8];unfold Kh;congr 1;refine EJ λb hb=>?_
  rw[D9 hb];exact RI ..
 ·simp_all [B8]
def Lg(g:v7):Fs:=if GO g.sh g.w g.h g.holes g.cells then .tup [Bv (El g.sh (Aa g.sh g.w g.cells)),.int .i64 0]else .tup [Bv [],.int .i64 130]
structure IFil(m:Nat)(P:Nat->Bool)(H0:AB)(n0:Nat)(v:VRi):Prop where
 hj:v.j<=m
 hn:n0<=v.n
 fr:AP v.H v.n
 hk:∀id,id<n0->AD v.H id=AD H0 id
 tok:DA 1 n0 v.H v.tc
 es:v.tc.esz=1\/CQ v.j P=[]
structure INb(g:v7)(m:Nat)(L:Nat->List (List Int))(v:VRg):Prop where
 hi:v.i<=m
 hn:3<=v.n
 fr:AP v.H v.n
 h0:AD v.H 0=some (.box (AE g.sh g.w g.h g.holes g.cells))
 tok:DA 1 1 v.H v.tl
 es:v.tl.esz=1\/v.E=[]
 hE:Wks v.E ((L v.i).map Am)
def dK(g:v7)(a b:Int):Fs:=.bool (N8 g.sh (DX g.sh g.w (Ah g a)) (DX g.sh g.w (Ah g b)))
def Thn:Bc:=AG 126 (s3 DY dI dI (λg a b=>GrV g/\JK g a/\JK g b) dK) rJ
def lA:AH prog Thn:=TQ.add (q3 λg a b h=>p126 g a b h.1 h.2.1 h.2.2)
theorem iz(a:List Fs)(H:AB):Thn 126 a H=s3 DY dI dI (λg a b=>GrV g/\JK g a/\JK g b) dK a H:=rfl
theorem i4(a:List Fs)(H:AB):Thn 125 a H=s1 DY (λg=>An g.holes) Jf a H:=rfl
def p79(g:v7)(hh:An g.holes):Aw prog 79 [CK g] (Lg g):=by
 refine .mk ⟨BL 0 ..,zt⟩ (by unfold Lg;split<;>exact⟨BC 0 _,zt,zt⟩) (c79.a (AI lA (AJ ?_)));have f1:DY.ok (.agg (AE g.sh g.w g.h g.holes g.cells))=True:=EH g;have f2:DY.dec (.agg (AE g.sh g.w g.h g.holes g.cells))=g:=DG g;simp only[AE]at f1 f2;cases hgo:GO g.sh g.w g.h g.holes g.cells with
 |false=>
  have hv:Lg g= .tup [Bv [],.int .i64 130]:=by unfold Lg;rw[hgo];rfl
  have hc:Jf g= .int .i64 130:=by unfold Jf;rw[hgo];rfl
  rw[hv];simp only[eZ,seval,rf,c79,AE,i4,s1,f1,f2,ra hh,hc];exact Wk.tup (.cons (Wk.sl (.inr rfl)) (.cons (Wk.refl _) .nil))
 |true=>
 have hc:Jf g= .int .i64 0:=by unfold Jf;rw[hgo];rfl
 have hG:Av g.sh g.w g.h g.holes=some g.cells:=t5 hgo;have G:GrV g:=⟨hG,hh⟩;obtain⟨hr1,hr2,hr3⟩:=BX hG;have hv:Lg g= .tup [Bv ((List.range g.cells.length).map (Kh g)),.int .i64 0]:=by unfold Lg;rw[hgo,Ya];rfl
 rw[hv];simp only[eZ,seval,re,c79,AE,i4,s1,f1,f2,ra hh,hc];refine AO (λv:VRg=>⟨[(1,true,.ptr 0 0),(4,true,.sl v.tl v.E),(5,true,.int .i64 v.i)],v.H,v.n⟩) (INb g g.cells.length λi=>(List.range i).map (Kh g)) (λv=>g.cells.length-v.i)
  ⟨0,[],.nil,hset Ai 0 (.box (AE g.sh g.w g.h g.holes g.cells)),3⟩ rfl ⟨rm _,rq _,AP.nil.hset (m:=3) (rm 3) (show 0<3 by decide),rfl,.inl rfl,.inr rfl,.nil⟩ ?_
 rintro⟨i,E,tl,H,n⟩ hI;have hi:=hI.hi;have hn:=hI.hn;have l7:=hI.fr;have h0:=hI.h0;have l5:=hI.tok;have s5:=hI.es;have hE:=hI.hE;simp only at hi hn l7 h0 l5 s5 hE;have wj:=h0;simp only[AE]at wj;by_cases c9:i<g.cells.length;case neg=>
  obtain rfl:i=g.cells.length:=zo
  simp only[eZ,seval,r9,wj,Ad c9];exact Wk.tup (.cons (Wk.slx s5 hE) (.cons (Wk.refl _) .nil))
 have e:=AK (k:=i) zo;have gi:JK g (i:Int):=⟨zo,by rw[rr];exact c9⟩;simp only[eZ,seval,r9,wj,AN c9];refine AO (λv:VRi=>⟨[(1,true,.ptr 0 0),(4,true,.sl tl E),(5,true,.int .i64 i),(6,true,.sl v.tc ((CQ v.j (X3 g i)).map eI)),(7,true,.int .i64 v.j)],v.H,v.n⟩)
  (IFil g.cells.length (X3 g i) H n) (λv=>g.cells.length-v.j) ⟨0,.nil,H,n⟩ rfl ⟨rm _,rq _,l7,λid p9=>rfl,.inl rfl,.inr rfl⟩ ?_
 rintro⟨j,tc,H1,n1⟩ ⟨hj,me,hf1,hk,htc,hec⟩;simp only at hj me hf1 hk htc hec;have wc:AD H1 0=some (.box (AE g.sh g.w g.h g.holes g.cells)):=by rw[hk 0 zo];exact h0
 have h01':=wc;simp only[AE]at h01';by_cases l9:j<g.cells.length
 ·have ej:=AK (k:=j) zo;have gj:JK g (j:Int):=⟨zo,by rw[rr];exact l9⟩;have hs:=EU j (X3 g i);have hb:N8 g.sh (DX g.sh g.w (Ah g (i:Int))) (DX g.sh g.w (Ah g (j:Int)))=X3 g i j:=rfl;cases hbb:X3 g i j with
  |false=>
   rw[hbb,rj zd]at hs;rw[hbb]at hb;simp only[eZ,seval,r9,h01',AN l9,iz,s3,f1,f2,BD,Au,dK,ra G,ra gi,ra gj,hb,ej];exact .mk ⟨j+1,tc,H1,n1⟩ (by simp only[hs]) ⟨l9,me,hf1,hk,htc,by simp only[hs];exact hec⟩ zp
  |true=>
   rw[hbb,rt rfl]at hs;rw[hbb]at hb;have hlen:=C0 j (X3 g i);have q1:BH H1 1 tc=True:=ra htc.app;have q2:((CQ j (X3 g i)).length<=35184372088831)=True:=ra zo;have q3:Al ((CQ j (X3 g i)).length+1) 8=True:=ra (Ac zo zd);simp only[eZ,seval,r9,h01',AN l9,iz,s3,f1,f2,BD,Au,dK,ra G,ra gi,ra gj,hb,ej,q1,q2,q3,Bq hf1];refine .mk ⟨j+1,.own (n1+3) 1,hset (AU H1 tc) (n1+3) .tok,n1+5⟩ ?_ ⟨l9,zp,(Ab htc hf1).hset (m:=n1+5) zo zo,λid p9=>?_,.inr (.inr ⟨n1+3,rfl,zo,AC ..⟩),.inl rfl⟩ zp
   ·simp only[hs,rz];rfl
   ·grind [AA,Af]
 obtain rfl:j=g.cells.length:=zo
 have hEl:E.length=i:=by
  have:=hE.len;simp only[r9,uh]at this;exact this
 have y9:DA 1 1 H1 tl:=by
  rcases l5 with rfl|rfl|⟨id,rfl,h1,h2⟩
  ·exact .inl rfl
  ·exact .inr (.inl rfl)
  ·exact .inr (.inr ⟨id,rfl,h1,by rw[hk id (l7.lt h2)];exact h2⟩)
 have q1:BH H1 1 tl=True:=ra y9.app;have q2:(E.length<=35184372088831)=True:=ra zo;have q3:Al (E.length+1) 24=True:=ra (Ac zo zd);simp only[eZ,seval,r9,h01',Ad l9,e,q1,q2,q3,Bq hf1];refine .mk ⟨i+1,E++[.sl tc ((Kh g i).map eI)],.own (n1+3) 1,hset (AU H1 tl) (n1+3) .tok,n1+5⟩ rfl ⟨c9,zp,(Ab y9 hf1).hset (m:=n1+5) zo zo,?_,.inr (.inr ⟨n1+3,rfl,zo,AC ..⟩),.inl rfl,?_⟩ zp
 ·grind [AA,Af]
 ·simp only[tJ,rz,sw,sI];simp only[ui]at hE⊢;exact hE.app (.cons (Wk.sl (hec.imp id λq=>by unfold Kh;rw[q];rfl)) .nil)
def TV(g:v7)(f n:Int)(c:Nat):Bool:=decide (I5 g f (c:Int)=n)
def rM(g:v7)(f n:Int):List Int:=CQ g.cells.length (TV g f n)
def U8(g:v7)(f:Int)(i:Nat):List (List Int):=((List.range i).map λ(k:Nat)=>rM g f (-16+(k:Int))).filter λl=>!l.isEmpty
def Yb{g:v7}{f:Int}{fn:BF->Option Int}(h:∀c,c<g.cells.length->fn (Dn g c)=some (I5 g f (c:Int))):U8 g f 49=CM (Aa g.sh g.w g.cells) fn:=by
 unfold U8 CM Ka;rw[ui];congr 1;refine sY λk _=>?_
 unfold rM CL;simp only[Function.comp];rw[B8];refine EJ λc hc=>?_
 rw[D9 hc,vp,h c hc];unfold TV;rw[su];simp only[rn,Option.some.injEq];omega
def dL(g:v7)(f:Int)(i:Nat):(U8 g f i).length<=i:=by
 refine sO (tg ..) ?_;rw[r9,uh];exact rq _
def Yc(g:v7)(f:Int)(i:Nat):U8 g f (i+1)=U8 g f i++if(rM g f (-16+(i:Int))).isEmpty then[]else[rM g f (-16+(i:Int))]:=by
 unfold U8;rw[tJ,rz,tD];congr 1;simp only[sw,sI,tI,uA];cases (rM g f (-16+(i:Int))).isEmpty<;>rfl
def fLn(g:v7)(f c:Int):Fs:=.int .i64 (I5 g f c)
def Thl:Bc:=AG 183 (s3 DY dI dI (λg f c=>GrV g/\JK g c) fLn) rJ
def lB:AH prog Thl:=TQ.add (q3 λg f c h=>p183 g f c h.1 h.2)
structure ILn(g:v7)(m:Nat)(L:Nat->List (List Int))(v:VRg):Prop where
 hi:v.i<=m
 hn:2<=v.n
 fr:AP v.H v.n
 h0:AD v.H 0=some (.box (AE g.sh g.w g.h g.holes g.cells))
 tok:DA 1 1 v.H v.tl
 es:v.tl.esz=1\/v.E=[]
 hE:Wks v.E ((L v.i).map Am)
def p127(g:v7)(f:Int)(G:GrV g):Aw prog 127 [CK g,.int .i64 f] (Bv (U8 g f 49)):=by
 refine .mk ⟨BL 0 ..,zt,zt⟩ (BC 0 _) (qI.a (AI lB (AJ ?_)));have f1:DY.ok (.agg (AE g.sh g.w g.h g.holes g.cells))=True:=EH g;have f2:DY.dec (.agg (AE g.sh g.w g.h g.holes g.cells))=g:=DG g;simp only[AE]at f1 f2;obtain⟨hr1,hr2,hr3⟩:=BX G.hG;simp only[eE,eN,seval,qI,AE];refine AO (λv:VRg=>⟨[(1,true,.int .i64 f),(2,true,.ptr 0 0),(5,true,.sl v.tl v.E),(6,true,.int .i64 (-16+(v.i:Int)))],v.H,v.n⟩) (ILn g 49 (U8 g f)) (λv=>49-v.i)
  ⟨0,[],.nil,hset Ai 0 (.box (AE g.sh g.w g.h g.holes g.cells)),2⟩ rfl ⟨rm _,rq _,AP.nil.hset (m:=2) (rm 2) (show 0<2 by decide),rfl,.inl rfl,.inr rfl,.nil⟩ ?_
 rintro⟨i,E,tl,H,n⟩ hI;have hi:=hI.hi;have hn:=hI.hn;have l7:=hI.fr;have h0:=hI.h0;have l5:=hI.tok;have s5:=hI.es;have hE:=hI.hE;simp only at hi hn l7 h0 l5 s5 hE;by_cases c9:i<49;case neg=>
  obtain rfl:i=49:=zo
  have hq:(-16+((49:Nat):Int)<=32)=False:=ri zo;simp only[eZ,seval,hq];exact Wk.slx s5 hE
 have hq:(-16+(i:Int)<=32)=True:=ra zo;have e:IntKind.wrap .i64 (-16+(i:Int)+1)= -16+((i+1:Nat):Int):=by rw[A6 zo zo];omega
 simp only[eZ,seval,hq];refine AO (λv:VRi=>⟨[(1,true,.int .i64 f),(2,true,.ptr 0 0),(5,true,.sl tl E),(6,true,.int .i64 (-16+(i:Int))),(7,true,.sl v.tc ((CQ v.j (TV g f (-16+(i:Int)))).map eI)),(8,true,.int .i64 v.j)],v.H,v.n⟩)
  (IFil g.cells.length (TV g f (-16+(i:Int))) H n) (λv=>g.cells.length-v.j) ⟨0,.nil,H,n⟩ rfl ⟨rm _,rq _,l7,λid p9=>rfl,.inl rfl,.inr rfl⟩ ?_
 rintro⟨j,tc,H1,n1⟩ ⟨hj,me,hf1,hk,htc,hec⟩;simp only at hj me hf1 hk htc hec;have wc:AD H1 0=some (.box (AE g.sh g.w g.h g.holes g.cells)):=by rw[hk 0 zo];exact h0
 have h01':=wc;simp only[AE]at h01';by_cases l9:j<g.cells.length
 ·have ej:=AK (k:=j) zo;have gj:JK g (j:Int):=⟨zo,by rw[rr];exact l9⟩;have hs:=EU j (TV g f (-16+(i:Int)));cases hbb:TV g f (-16+(i:Int)) j with
  |false=>
   rw[hbb,rj zd]at hs;have hb:(I5 g f (j:Int)= -16+(i:Int))=False:=ri (vf hbb);simp only[eZ,seval,r9,h01',AN l9,Thl,s3,f1,f2,BD,Au,fLn,ra G,ra gj,hb,ej,AG];exact .mk ⟨j+1,tc,H1,n1⟩ (by simp only[hs]) ⟨l9,me,hf1,hk,htc,by simp only[hs];exact hec⟩ zp
  |true=>
   rw[hbb,rt rfl]at hs;have hb:(I5 g f (j:Int)= -16+(i:Int))=True:=ra (t5 hbb);have hlen:=C0 j (TV g f (-16+(i:Int)));have q1:BH H1 1 tc=True:=ra htc.app;have q2:((CQ j (TV g f (-16+(i:Int)))).length<=35184372088831)=True:=ra zo;have q3:Al ((CQ j (TV g f (-16+(i:Int)))).length+1) 8=True:=ra (Ac zo zd);simp only[eZ,seval,r9,h01',AN l9,Thl,s3,f1,f2,BD,Au,fLn,ra G,ra gj,hb,ej,q1,q2,q3,Bq hf1,AG];refine .mk ⟨j+1,.own (n1+3) 1,hset (AU H1 tc) (n1+3) .tok,n1+5⟩ ?_ ⟨l9,zp,(Ab htc hf1).hset (m:=n1+5) zo zo,λid p9=>?_,.inr (.inr ⟨n1+3,rfl,zo,AC ..⟩),.inl rfl⟩ zp
   ·simp only[hs,rz];rfl
   ·grind [AA,Af]
 obtain rfl:j=g.cells.length:=zo
 have hEl:E.length<=i:=by
  have:=hE.len;simp only[r9]at this;have:=dL g f i;omega
 have y9:DA 1 1 H1 tl:=by
  rcases l5 with rfl|rfl|⟨id,rfl,h1,h2⟩
  ·exact .inl rfl
  ·exact .inr (.inl rfl)
  ·exact .inr (.inr ⟨id,rfl,h1,by rw[hk id (l7.lt h2)];exact h2⟩)
 have hsu:=Yc g f i;have hLl:rM g f (-16+(i:Int))=CQ g.cells.length (TV g f (-16+(i:Int))):=rfl;rw[hLl]at hsu;by_cases hz:(CQ g.cells.length (TV g f (-16+(i:Int)))).length=0
 ·have hq0:((0:Int)<((CQ g.cells.length (TV g f (-16+(i:Int)))).length:Int))=False:=ri zo;rw[tF.1 hz]at hsu;simp only[List.isEmpty_nil,t8,sE]at hsu;simp only[eZ,seval,r9,h01',Ad l9,e,hq0];exact .mk ⟨i+1,E,tl,H1,n1⟩ rfl ⟨c9,zp,hf1,wc,y9,s5,by simp only[hsu];exact hE⟩ zp
 have hq0:((0:Int)<((CQ g.cells.length (TV g f (-16+(i:Int)))).length:Int))=True:=ra zo;have hem:(CQ g.cells.length (TV g f (-16+(i:Int)))).isEmpty=false:=by
  rw[List.isEmpty_eq_false_iff];intro q;rw[q]at hz;exact hz rfl
 rw[hem]at hsu;simp only[sr,sG]at hsu;have q1:BH H1 1 tl=True:=ra y9.app;have q2:(E.length<=35184372088831)=True:=ra zo;have q3:Al (E.length+1) 24=True:=ra (Ac zo zd);simp only[eZ,seval,r9,h01',Ad l9,e,hq0,q1,q2,q3,Bq hf1];refine .mk ⟨i+1,E++[.sl tc ((CQ g.cells.length (TV g f (-16+(i:Int)))).map eI)],.own (n1+3) 1,hset (AU H1 tl) (n1+3) .tok,n1+5⟩ rfl ⟨c9,zp,(Ab y9 hf1).hset (m:=n1+5) zo zo,?_,.inr (.inr ⟨n1+3,rfl,zo,AC ..⟩),.inl rfl,?_⟩ zp
 ·grind [AA,Af]
 ·simp only[hsu,rz,sw,sI];exact hE.app (.cons (Wk.sl (hec.imp id λq=>by rw[q];rfl)) .nil)
def U9(g:v7)(k c:Nat):Bool:=decide ((k:Int)=0)&&decide ((Ah g (c:Int)).tmod g.w=(Ah g (c:Int)).tdiv g.w)||decide ((k:Int)=1)&&decide ((Ah g (c:Int)).tmod g.w=g.w-1-(Ah g (c:Int)).tdiv g.w)
def Il(g:v7)(k:Nat):List Int:=CQ g.cells.length (U9 g k)
def dN(g:v7):List (List Int):=(if(Il g 0).isEmpty then[]else[Il g 0])++(if(Il g 1).isEmpty||decide (Il g 0=Il g 1)then[]else[Il g 1])
def dgS_S{g:v7}(h:g.sh=1):dN g=MG g.w (Aa g.sh g.w g.cells):=by
 have hsp:∀c:Nat,Dn g c=((Ah g (c:Int)).tmod g.w,(Ah g (c:Int)).tdiv g.w):=λc=>by
  unfold Dn DX;rw[rj zo]
 have h0:Il g 0=CL (Aa g.sh g.w g.cells) (λs=>if s.1=s.2 then some 0 else none) 0:=by
  unfold Il CL;rw[B8];refine EJ λc hc=>?_
  rw[D9 hc,hsp,vp];unfold U9;by_cases q:(Ah g (c:Int)).tmod g.w=(Ah g (c:Int)).tdiv g.w<;>simp [q]
 have h1:Il g 1=CL (Aa g.sh g.w g.cells) (λs=>if s.1+s.2=g.w-1 then some 0 else none) 0:=by
  unfold Il CL;rw[B8];refine EJ λc hc=>?_
  rw[D9 hc,hsp,vp];unfold U9;by_cases q:(Ah g (c:Int)).tmod g.w=g.w-1-(Ah g (c:Int)).tdiv g.w
  ·simp_all
  ·grind
 unfold dN MG;rw[h0,h1]
def Thd:Bc:=AG 167 (s2 BA BA (λa _=>An a) λa b=>.bool (decide (a=b))) dH
def lC:AH prog Thd:=QF.add (q2 p167)
theorem i5(a:List Fs)(H:AB):Thd 167 a H=s2 BA BA (λa _=>An a) (λa b=>.bool (decide (a=b))) a H:=rfl
theorem i6(a:List Fs)(H:AB):Thd 180 a H=s2 DY dI (λg c=>GrV g/\JK g c) QE a H:=rfl
theorem i7(a:List Fs)(H:AB):Thd 181 a H=s2 DY dI (λg c=>GrV g/\JK g c) OL a H:=rfl
structure IDg(g:v7)(v:VRg):Prop where
 hi:v.i<=2
 hn:2<=v.n
 fr:AP v.H v.n
 h0:AD v.H 0=some (.box (AE g.sh g.w g.h g.holes g.cells))
 tok:DA 1 1 v.H v.tl
 es:v.tl.esz=1\/v.E=[]
 ne:¬g.w=g.h->v.i=0
 e0:v.i=0->v.E=[]
 e1:v.i=1->(Il g 0=[]/\v.E=[])\/(Il g 0≠[]/\∃t,t.esz=1/\v.E=[.sl t ((Il g 0).map eI)])
 e2:v.i=2->Wks v.E ((dN g).map Am)
def i8(g:v7):List (List Int):=if g.w=g.h then dN g else[]
def p128(g:v7)(G:GrV g):Aw prog 128 [CK g] (Bv (i8 g)):=by
 refine .mk ⟨BL 0 ..,zt⟩ (BC 0 _) (qJ.a (AI lC (AJ ?_)));have f1:DY.ok (.agg (AE g.sh g.w g.h g.holes g.cells))=True:=EH g;have f2:DY.dec (.agg (AE g.sh g.w g.h g.holes g.cells))=g:=DG g;simp only[AE]at f1 f2;obtain⟨hr1,hr2,hr3⟩:=BX G.hG;simp only[eE,eN,seval,qJ,AE];refine AO (λv:VRg=>⟨[(1,true,.ptr 0 0),(3,true,.sl v.tl v.E),(4,true,.int .i64 v.i)],v.H,v.n⟩) (IDg g) (λv=>2-v.i)
  ⟨0,[],.nil,hset Ai 0 (.box (AE g.sh g.w g.h g.holes g.cells)),2⟩ rfl ⟨rm _,rq _,AP.nil.hset (m:=2) (rm 2) (show 0<2 by decide),rfl,.inl rfl,.inr rfl,λ_=>rfl,λ_=>rfl,(λq=>by cases q),(λq=>by cases q)⟩ ?_
 rintro⟨i,E,tl,H,n⟩ hI;have hi:=hI.hi;have hn:=hI.hn;have l7:=hI.fr;have h0:=hI.h0;have l5:=hI.tok;have s5:=hI.es;have s6:=hI.ne;have hE0:=hI.e0;have hE1:=hI.e1;have hE2:=hI.e2;simp only at hi hn l7 h0 l5 s5 s6 hE0 hE1 hE2;have wj:=h0;simp only[AE]at wj;by_cases hwh:g.w=g.h;case neg=>
  have hi0:=s6 hwh;subst hi0;have hE:=hE0 rfl;subst hE;have hv:i8 g=[]:=by unfold i8;rw[rj hwh]
  have hq:(((0:Nat):Int)<2)=True:=ra zd;rw[hv];simp only[eZ,seval,c0,wj,ri hwh];exact Wk.sl s5
 have hv:i8 g=dN g:=by unfold i8;rw[rt hwh]
 rw[hv];by_cases c9:i<2;case neg=>
  obtain rfl:i=2:=zo
  have hq:(((2:Nat):Int)<2)=False:=ri zd;simp only[eZ,seval,wj,hq];exact Wk.slx s5 (hE2 rfl)
 have hq:((i:Int)<2)=True:=ra zo;have e:=AK (k:=i) zo;simp only[eZ,seval,wj,hq,ra hwh];refine AO (λv:VRi=>⟨[(1,true,.ptr 0 0),(3,true,.sl tl E),(4,true,.int .i64 i),(5,true,.sl v.tc ((CQ v.j (U9 g i)).map eI)),(6,true,.int .i64 v.j)],v.H,v.n⟩)
  (IFil g.cells.length (U9 g i) H n) (λv=>g.cells.length-v.j) ⟨0,.nil,H,n⟩ rfl ⟨rm _,rq _,l7,λid p9=>rfl,.inl rfl,.inr rfl⟩ ?_
 rintro⟨j,tc,H1,n1⟩ ⟨hj,me,hf1,hk,htc,hec⟩;simp only at hj me hf1 hk htc hec;have wc:AD H1 0=some (.box (AE g.sh g.w g.h g.holes g.cells)):=by rw[hk 0 zo];exact h0
 have h01':=wc;simp only[AE]at h01';by_cases l9:j<g.cells.length
 ·have ej:=AK (k:=j) zo;have gj:JK g (j:Int):=⟨zo,by rw[rr];exact l9⟩;obtain⟨-,-,-,-,-,w1,w2,x1,x2,y1,y2,ey,-⟩:=G.at gj;have r1:IntKind.wrap .i64 (g.w-1)=g.w-1:=A6 zo zo;have r2:IntKind.wrap .i64 (g.w-1-(Ah g (j:Int)).tdiv g.w)=g.w-1-(Ah g (j:Int)).tdiv g.w:=A6 zo zo;have hs:=EU j (U9 g i);have hb:(decide ((i:Int)=0)&&decide ((Ah g (j:Int)).tmod g.w=(Ah g (j:Int)).tdiv g.w)||decide ((i:Int)=1)&&decide ((Ah g (j:Int)).tmod g.w=g.w-1-(Ah g (j:Int)).tdiv g.w))=U9 g i j:=rfl;cases hbb:U9 g i j with
  |false=>
   rw[hbb,rj zd]at hs;rw[hbb]at hb;simp only[eZ,seval,r9,h01',AN l9,i6,i7,s2,f1,f2,BD,Au,QE,OL,ra G,ra gj,r1,r2,hb,ej];exact .mk ⟨j+1,tc,H1,n1⟩ (by simp only[hs]) ⟨l9,me,hf1,hk,htc,by simp only[hs];exact hec⟩ zp
  |true=>
   rw[hbb,rt rfl]at hs;rw[hbb]at hb;have hlen:=C0 j (U9 g i);have q1:BH H1 1 tc=True:=ra htc.app;have q2:((CQ j (U9 g i)).length<=35184372088831)=True:=ra zo;have q3:Al ((CQ j (U9 g i)).length+1) 8=True:=ra (Ac zo zd);simp only[eZ,seval,r9,h01',AN l9,i6,i7,s2,f1,f2,BD,Au,QE,OL,ra G,ra gj,r1,r2,hb,ej,q1,q2,q3,Bq hf1];refine .mk ⟨j+1,.own (n1+3) 1,hset (AU H1 tc) (n1+3) .tok,n1+5⟩ ?_ ⟨l9,zp,(Ab htc hf1).hset (m:=n1+5) zo zo,λid p9=>?_,.inr (.inr ⟨n1+3,rfl,zo,AC ..⟩),.inl rfl⟩ zp
   ·simp only[hs,rz];rfl
   ·grind [AA,Af]
 obtain rfl:j=g.cells.length:=zo
 have y9:DA 1 1 H1 tl:=by
  rcases l5 with rfl|rfl|⟨id,rfl,h1,h2⟩
  ·exact .inl rfl
  ·exact .inr (.inl rfl)
  ·exact .inr (.inr ⟨id,rfl,h1,by rw[hk id (l7.lt h2)];exact h2⟩)
 have hA:Il g i=CQ g.cells.length (U9 g i):=rfl;have hAl:=C0 g.cells.length (U9 g i);rw[<-hA]at hec hAl⊢;have hi01:i=0\/i=1:=zo
 have q1:BH H1 1 tl=True:=ra y9.app;by_cases hz:(Il g i).length=0
 ·have hz0:((0:Int)<((Il g i).length:Int))=False:=ri zo;have hzn:=tF.1 hz;simp only[eZ,seval,eY,h01',Ad l9,e,hz0];refine .mk ⟨i+1,E,tl,H1,n1⟩ rfl ⟨c9,zp,hf1,wc,y9,s5,λq=>absurd hwh q,(λq=>by cases q),λq=>?_,λq=>?_⟩ zp
  ·have q':i+1=1:=q;obtain rfl:i=0:=zo
   exact .inl ⟨hzn,hE0 rfl⟩
  ·have q':i+1=2:=q;obtain rfl:i=1:=zo
   simp only[];unfold dN;rw[hzn];simp only[List.isEmpty_nil,uZ,t8,sE];rcases hE1 rfl with⟨a1,rfl⟩|⟨a1,t,a2,rfl⟩
   ·rw[a1];exact .nil
   ·rw[rj (by simp [a1])];exact .cons (Wk.sl (.inl a2)) .nil
 have hz0:((0:Int)<((Il g i).length:Int))=True:=ra zo;have hane:Il g i≠[]:=λq=>by rw[q]at hz;exact hz rfl
 have het:tc.esz=1:=hec.resolve_right hane;have hap:∀E':List Fs,((E'.length:Int)=0)=True\/True:=λ_=>.inr zt
 rcases hi01 with rfl|rfl
 ·have hE:=hE0 rfl;subst hE;have q3:Al ([]:List Fs).length.succ 24=True:=ra (Ac zd zd);have q4:Al 1 24=True:=ra (Ac zd zd);have z1:((([]:List Fs).length:Int)=0)=True:=ra rfl;simp only[eZ,seval,re,eY,h01',Ad l9,hz0,q1,q4,Bq hf1];refine .mk ⟨1,[.sl tc ((Il g 0).map eI)],.own (n1+3) 1,hset (AU H1 tl) (n1+3) .tok,n1+5⟩ rfl ⟨(by show 1<=2;decide),zp,(Ab y9 hf1).hset (m:=n1+5) zo zo,?_,.inr (.inr ⟨n1+3,rfl,zo,AC ..⟩),.inl rfl,λq=>absurd hwh q,(λq=>by cases q),λq=>.inr ⟨hane,tc,het,rfl⟩,(λq=>by cases q)⟩ zp;simp only[];rw[AA _ _ _ _ zo,Af y9 (.inl zo)];exact wc
 ·rcases hE1 rfl with⟨a1,rfl⟩|⟨a1,t,a2,rfl⟩
  ·have q4:Al 1 24=True:=ra (Ac zd zd);simp only[eZ,seval,re,eY,h01',Ad l9,hz0,q1,q4,Bq hf1];refine .mk ⟨2,[.sl tc ((Il g 1).map eI)],.own (n1+3) 1,hset (AU H1 tl) (n1+3) .tok,n1+5⟩ rfl ⟨(by show 2<=2;decide),zp,(Ab y9 hf1).hset (m:=n1+5) zo zo,?_,.inr (.inr ⟨n1+3,rfl,zo,AC ..⟩),.inl rfl,λq=>absurd hwh q,(λq=>by cases q),(λq=>by cases q),λq=>?_⟩ zp
   ·grind [AA,Af]
   ·simp only[];unfold dN;rw[a1];simp only[List.isEmpty_nil,t8,sj];rw[rj (by simp [hane,Ne.symm hane])];exact .cons (Wk.sl (.inl het)) .nil
  ·have hts:tl.esz=1:=s5.resolve_right zw;have o1:BA.ok (.sl t ((Il g 0).map eI))=True:=ra ⟨.inl a2,by rw[Ax]⟩;have o2:BA.dec (.sl t ((Il g 0).map eI))=Il g 0:=Ax _;have o3:BA.ok (.sl tc ((Il g 1).map eI))=True:=ra ⟨.inl het,by rw[Ax]⟩;have o4:BA.dec (.sl tc ((Il g 1).map eI))=Il g 1:=Ax _;have hA0:=C0 g.cells.length (U9 g 0);have o5:An (Il g 0)=True:=ra (show(Il g 0).length<_ by unfold Il;omega);by_cases hsame:Il g 0=Il g 1
   ·simp only[eZ,seval,re,eY,h01',Ad l9,hz0,ra hts,i5,s2,o1,o2,o3,o4,o5,BS hsame];refine .mk ⟨2,[.sl t ((Il g 0).map eI)],tl,H1,n1⟩ rfl ⟨(by show 2<=2;decide),zp,hf1,wc,y9,s5,λq=>absurd hwh q,(λq=>by cases q),(λq=>by cases q),λq=>?_⟩ zp;simp only[];unfold dN;rw[rj (by simp [a1]),rt (by simp [hsame])];exact .cons (Wk.sl (.inl a2)) .nil
   ·have q4:Al 2 24=True:=ra (Ac zd zd);simp only[eZ,seval,rf,eY,h01',Ad l9,hz0,ra hts,i5,s2,o1,o2,o3,o4,o5,A3 hsame,q1,q4,Bq hf1];refine .mk ⟨2,[.sl t ((Il g 0).map eI),.sl tc ((Il g 1).map eI)],.own (n1+3) 1,hset (AU H1 tl) (n1+3) .tok,n1+5⟩ rfl ⟨(by show 2<=2;decide),zp,(Ab y9 hf1).hset (m:=n1+5) zo zo,?_,.inr (.inr ⟨n1+3,rfl,zo,AC ..⟩),.inl rfl,λq=>absurd hwh q,(λq=>by cases q),(λq=>by cases q),λq=>?_⟩ zp
    ·grind [AA,Af]
    ·simp only[];unfold dN;rw[rj (by simp [a1]),rj (by simp [hane,hsame])];exact .cons (Wk.sl (.inl a2)) (.cons (Wk.sl (.inl het)) .nil)
def Hw(g:v7)(c b:Nat):Bool:=decide ((b:Int)=(c:Int))||(Kh g c).contains (b:Int)
def Yd(g:v7)(c:Nat):List Int:=CQ g.cells.length (Hw g c)
def Ov(g:v7)(c:Nat):List (List Int):=((Kh g c).filter λb=>decide ((c:Int)<b)).map λb=>[(c:Int),b]
def Hp(i:Nat):List Int:=CQ i λ_=>true
def OG(g:v7)(f:Int)(i:Nat):List (List Int):=
 if f=0 then(List.range i).map λ(c:Nat)=>[(c:Int)]else if f=5 then(List.range i).map (Yd g)else if f=6 then(List.range i).flatMap (Ov g)else[]
def Ye(g:v7)(f:Int):List (List Int):=
 if f=1\/f=2 then U8 g f 49 else if f=3 then(if g.sh=1 then i8 g else U8 g f 49)else if f=4 then(List.range g.cells.length).map (Kh g)else if f=7 then[Hp g.cells.length]else OG g f g.cells.length
def WY(g:v7)(f:Int):Fs:=if GO g.sh g.w g.h g.holes g.cells then(if f<0\/7<f then .tup [Bv [],.int .i64 1]else .tup [Bv (Ye g f),.int .i64 0])else .tup [Bv [],.int .i64 130]
def lD{g:v7}(G:GrV g){f:Nat}(hf:f<=7):Ye g (f:Int)=FA g.sh g.w g.h (Aa g.sh g.w g.cells) f:=by
 obtain⟨hs,-⟩:=IT G.hG;have hrow:∀c:Nat,(Dn g c).2=(Ah g (c:Int)).tdiv g.w:=λc=>rfl
 have hsq:g.sh=1->∀c:Nat,(Dn g c).1=(Ah g (c:Int)).tmod g.w:=λh c=>by
  unfold Dn DX;rw[rj zo]
 have hhx:g.sh=2->∀c:Nat,(Dn g c).1=Kn g (c:Int):=λh c=>by
  unfold Dn DX Kn;rw[rt h]
 have hl1:U8 g 1 49=CM (Aa g.sh g.w g.cells) λs=>some s.2:=Yb λc hc=>by
  unfold I5;rw[rt rfl,hrow]
 have hl2:U8 g 2 49=CM (Aa g.sh g.w g.cells) λs=>some s.1:=Yb λc hc=>by
  unfold I5;rcases hs with h|h
  ·rw[rj zd,rt h,hsq h]
  ·rw[rj zd,rj zo,rt rfl,hhx h]
 have hl3:g.sh=2->U8 g 3 49=CM (Aa g.sh g.w g.cells) λs=>some (s.1+s.2):=λh=>Yb λc hc=>by
  unfold I5;rw[rj zd,rj zo,rj zd,hrow,hhx h]
 have xb:=Ya g;have hS:=B8 g;have hn:∀c:Nat,c<g.cells.length->((El g.sh (Aa g.sh g.w g.cells))[c]?.getD [])=Kh g c:=λc hc=>by
  rw[<-xb,sb,vC hc];rfl
 unfold Ye FA OG;rcases(by omega:f=0\/f=1\/f=2\/f=3\/f=4\/f=5\/f=6\/f=7)with rfl|rfl|rfl|rfl|rfl|rfl|rfl|rfl
 ·simp_all [TD,ui]
 ·simp (decide:=true) only[t8,sG];exact hl1
 ·simp (decide:=true) only[t8,sG];exact hl2
 ·simp (decide:=true) only[t8,sG];rcases hs with h|h
  ·rw[rt h,rj zo];unfold i8;rw[dgS_S h]
  ·rw[rj zo,rt h];exact hl3 h
 ·simp (decide:=true) only[t8,sG];exact xb
 ·simp (decide:=true) only[t8,sG];rw[hS];refine sY λc hc=>?_
  have hc':=t9.1 hc;unfold Yd;refine EJ λb hb=>?_
  unfold Hw;rw[D9 hc'];have e1:(Kh g c).contains (b:Int)=X3 g c b:=by
   unfold Kh;rw[su,sN,N6];exact⟨λq=>q.2,λq=>⟨hb,q⟩⟩
  have e2:X3 g c b=(Fc g.sh).any λd=>decide ((Aa g.sh g.w g.cells)[b]?=some (I2 (Dn g c) d)):=by
   unfold X3;rw[RI,D9 hb];unfold Xw;simp only[Option.some.injEq]
  rw[e1,e2];simp only[sU];congr 1;rw[su];simp only[rn];omega
 ·simp (decide:=true) only[t8,sG];rw[hS,List.flatMap_def,List.flatMap_def];congr 1;refine sY λc hc=>?_
  rw[hn c (t9.1 hc)];rfl
 ·simp (decide:=true) only[t8,sG];rw[hS];rfl
def MX{e lo n i:Nat}{H:AB}{tl ta:w8}(h:DA e lo H tl)(ha:DA e lo H ta)(hd:∀a b x y,tl= .own a x->ta= .own b y->a≠b)(hf:AP H n)(hi:n<=i):DA e lo (hset (AU H ta) i .tok) tl:=by
 rcases h with rfl|rfl|⟨id,rfl,h1,h2⟩
 ·exact .inl rfl
 ·exact .inr (.inl rfl)
 ·refine .inr (.inr ⟨id,rfl,h1,?_⟩);have p9:=hf.lt h2;rw[AA _ _ _ _ zo];rcases ha with rfl|rfl|⟨b,rfl,-,-⟩
  ·exact h2
  ·exact h2
  ·simp only[AU];rw[AA _ _ _ _ (hd _ _ _ _ rfl rfl).symm];exact h2
def QH(g:v7)(c:Nat):(Kh g c).length<=g.cells.length:=C0 ..
def WZ(g:v7)(c:Nat):(Ov g c).length<=g.cells.length:=by
 unfold Ov;rw[r9];exact sO (tg ..) (QH g c)
def VA(g:v7)(f:Int)(h:g.cells.length<=256):∀i,(OG g f i).length<=256*i:=by
 intro i;unfold OG;split
 ·simp;omega
 ·split
  ·simp;omega
  ·split
   ·induction i with
    |zero=>simp
    |succ i ih=>
     rw[tJ,uM,sm];have:=WZ g i;simp only[uJ,List.flatMap_nil,sE];omega
   ·simp
def Ow(i:Nat):Hp (i+1)=Hp i++[(i:Int)]:=by unfold Hp;rw[EU,rt rfl]
def OM:Bc:=AG 79 (s1 DY (λg=>An g.holes) Lg) (AG 124 (s2 BA dI (λl _=>An l) λl x=>.bool (l.contains x)) (AG 127 (s2 DY dI (λg _=>GrV g) λg f=>Bv (U8 g f 49)) (AG 128 (s1 DY GrV λg=>Bv (i8 g)) tnil)))
def dO:AH prog OM:=(((AH.tnil.add (q1 p128)).add (q2 λg f h=>p127 g f h)).add (q2 p124)).add (q1 p79)
structure VFm where
 i:Nat
 E:List Fs
 tl:w8
 ta:w8
 H:AB
 n:Nat
def X4(tl ta:w8):Prop:=∀a b x y,tl= .own a x->ta= .own b y->a≠b
def X4.symm{tl ta:w8}(h:X4 tl ta):X4 ta tl:=λa b x y h1 h2=>(h b a y x h2 h1).symm
def X4.fresh{e lo n i:Nat}{H:AB}{tl:w8}(h:DA e lo H tl)(hf:AP H n)(hi:n<=i)(s:Nat):X4 tl (.own i s):=λa b x y h1 h2=>by
 injection h2 with h2 _
 subst h2;rcases h with rfl|rfl|⟨id,rfl,-,h3⟩
 ·cases h1
 ·cases h1
 ·injection h1 with h1 _
  have:=hf.lt h3;omega
structure IFm(g:v7)(f:Int)(v:VFm):Prop where
 hi:v.i<=g.cells.length
 hn:3<=v.n
 fr:AP v.H v.n
 h0:AD v.H 0=some (.box (AE g.sh g.w g.h g.holes g.cells))
 tok:DA 1 1 v.H v.tl
 toka:DA 1 1 v.H v.ta
 ap:X4 v.tl v.ta
 es:v.tl.esz=1\/v.E=[]
 esa:v.ta.esz=1\/v.i=0
 hE:Wks v.E ((OG g f v.i).map Am)
def Yf(g:v7)(c j:Nat):List (List Int):=(((Kh g c).take j).filter λb=>decide ((c:Int)<b)).map λb=>[(c:Int),b]
def dP(g:v7)(c j:Nat):(Yf g c j).length<=j:=by
 unfold Yf;rw[r9];refine sO (tg ..) ?_;rw[sD];omega
def Yg(g:v7)(c:Nat){j:Nat}(h:j<(Kh g c).length):Yf g c (j+1)=if(c:Int)<(Kh g c)[j]then Yf g c j++[[(c:Int),(Kh g c)[j]]]else Yf g c j:=by
 unfold Yf;rw[sf,rc h];simp only[Option.toList,tD,tI,uA,rz,rn];split<;>simp
structure IPr(g:v7)(c ia:Nat)(v:VRg):Prop where
 hj:v.i<=(Kh g c).length
 hn:ia<v.n
 fr:AP v.H v.n
 h0:AD v.H 0=some (.box (AE g.sh g.w g.h g.holes g.cells))
 tok:DA 1 1 v.H v.tl
 toka:DA 1 1 v.H (.own ia 1)
 ap:X4 v.tl (.own ia 1)
 es:v.tl.esz=1\/v.E=[]
 hE:Wks v.E ((OG g 6 c++Yf g c v.i).map Am)
def p80(g:v7)(f:Int)(hh:An g.holes):Aw prog 80 [CK g,.int .i64 f] (WY g f):=by
 refine .mk ⟨BL 0 ..,zt,zt⟩ (by unfold WY;split;(·split<;>exact⟨BC 0 _,zt,zt⟩);(·exact⟨BC 0 _,zt,zt⟩)) (c80.a (AI dO (AJ ?_)));have f1:DY.ok (.agg (AE g.sh g.w g.h g.holes g.cells))=True:=EH g;have f2:DY.dec (.agg (AE g.sh g.w g.h g.holes g.cells))=g:=DG g;simp only[AE]at f1 f2;cases hgo:GO g.sh g.w g.h g.holes g.cells with
 |false=>
  have hv:WY g f= .tup [Bv [],.int .i64 130]:=by unfold WY;rw[hgo];rfl
  have hc:Lg g= .tup [Bv [],.int .i64 130]:=by unfold Lg;rw[hgo];rfl
  rw[hv];simp only[eZ,seval,rf,eY,c80,AE,OM,s1,f1,f2,ra hh,hc,AG];exact Wk.tup (.cons (Wk.sl (.inr rfl)) (.cons (Wk.refl _) .nil))
 |true=>
 have hG:Av g.sh g.w g.h g.holes=some g.cells:=t5 hgo;have G:GrV g:=⟨hG,hh⟩;obtain⟨hr1,hr2,hr3⟩:=BX hG;obtain⟨ar,har⟩:∃ar,ar=(List.range g.cells.length).map (Kh g):=⟨_,rfl⟩;have hc:Lg g= .tup [Bv ar,.int .i64 0]:=by unfold Lg;rw[hgo,har,Ya];rfl
 have harl:ar.length=g.cells.length:=by rw[har];simp
 have harg:∀c,c<g.cells.length->ar[c]?=some (Kh g c):=λc hc=>by rw[har,sb,vC hc];rfl
 by_cases hf:f<0\/7<f
 ·have hv:WY g f= .tup [Bv [],.int .i64 1]:=by unfold WY;rw[hgo,rt rfl,rt hf]
  have hb:(decide (f<0)||decide (7<f))=true:=by simpa using hf
  rw[hv];simp only[eZ,seval,re,eY,c80,AE,OM,s1,f1,f2,ra hh,hc,hb,AG];exact Wk.tup (.cons (Wk.sl (.inr rfl)) (.cons (Wk.refl _) .nil))
 have hv:WY g f= .tup [Bv (Ye g f),.int .i64 0]:=by unfold WY;rw[hgo,rt rfl,rj hf]
 have hb:(decide (f<0)||decide (7<f))=false:=by
  rw[uv];intro q;exact hf (by simpa using q)
 rw[hv];simp only[eZ,seval,re,eY,c80,AE,OM,s1,f1,f2,ra hh,hc,hb,AG];refine AO (λv:VFm=>⟨[(1,true,.int .i64 f),(2,true,.ptr 0 0),(6,true,Bv ar),(8,true,.sl v.tl v.E),(9,true,.sl v.ta ((Hp v.i).map eI)),(10,true,.int .i64 v.i)],v.H,v.n⟩) (IFm g f) (λv=>g.cells.length-v.i)
  ⟨0,[],.nil,.nil,hset Ai 0 (.box (AE g.sh g.w g.h g.holes g.cells)),3⟩ rfl ⟨rm _,rq _,AP.nil.hset (m:=3) (rm 3) (show 0<3 by decide),rfl,.inl rfl,.inl rfl,(λa b x y h=>by cases h),.inr rfl,.inr rfl,by
   have:OG g f 0=[]:=by
    unfold OG;repeat (split; ·rfl)
    rfl
   show Wks [] ((OG g f 0).map Am);rw[this];exact .nil⟩ ?_
 rintro⟨i,E,tl,ta,H,n⟩ hI;have hi:=hI.hi;have hn:=hI.hn;have l7:=hI.fr;have h0:=hI.h0;have htl:=hI.tok;have ya:=hI.toka;have hap:=hI.ap;have s5:=hI.es;have hesa:=hI.esa;have hE:=hI.hE;simp only at hi hn l7 h0 htl ya hap s5 hesa hE;have wj:=h0;simp only[AE]at wj;have hEl:E.length<=256*i:=by
  have:=hE.len;rw[r9]at this;rw[this];exact VA g f hr2 i
 by_cases c9:i<g.cells.length;case neg=>
  obtain rfl:i=g.cells.length:=zo
  unfold Ye;by_cases q12:f=1\/f=2
  ·rw[rt q12];rcases q12 with rfl|rfl
   ·simp only[eZ,seval,r9,wj,Ad c9,OM,s2,f1,f2,BD,Au,ra G,AG];exact Wk.tup (.cons (Wk.refl _) (.cons (Wk.refl _) .nil))
   ·simp only[eZ,seval,r9,wj,Ad c9,OM,s2,f1,f2,BD,Au,ra G,AG];exact Wk.tup (.cons (Wk.refl _) (.cons (Wk.refl _) .nil))
  rw[rj q12];have w1:(f=1)=False:=ri λq=>q12 (.inl q)
  have w2:(f=2)=False:=ri λq=>q12 (.inr q)
  by_cases q3:f=3
  ·rw[rt q3];by_cases qs:g.sh=1
   ·rw[rt qs];subst q3;simp only[eZ,seval,r9,wj,Ad c9,OM,s1,f1,f2,ra G,ra qs,AG];exact Wk.tup (.cons (Wk.refl _) (.cons (Wk.refl _) .nil))
   ·rw[rj qs];subst q3;simp only[eZ,seval,r9,wj,Ad c9,OM,s2,f1,f2,BD,Au,ra G,ri qs,AG];exact Wk.tup (.cons (Wk.refl _) (.cons (Wk.refl _) .nil))
  rw[rj q3];by_cases q4:f=4
  ·rw[rt q4,<-har];subst q4;simp only[eZ,seval,r9,wj,Ad c9];exact Wk.tup (.cons (Wk.refl _) (.cons (Wk.refl _) .nil))
  rw[rj q4];by_cases q7:f=7
  ·rw[rt q7];subst q7;simp only[eZ,seval,r9,wj,Ad c9];refine Wk.tup (.cons (Wk.slx (.inl rfl) (.cons (Wk.sl (hesa.imp id λq=>by rw[q];rfl)) .nil)) (.cons (Wk.refl _) .nil))
  rw[rj q7];simp only[eZ,seval,r9,wj,Ad c9,w1,w2,ri q3,ri q4,ri q7];exact Wk.tup (.cons (Wk.slx s5 hE) (.cons (Wk.refl _) .nil))
 have e:=AK (k:=i) zo;have wm:(Hp i).length<=i:=C0 ..;have q1:BH H 1 ta=True:=ra ya.app;have q2:((Hp i).length<=35184372088831)=True:=ra zo;have q3:Al ((Hp i).length+1) 8=True:=ra (Ac zo zd);have hH2f:AP (hset (AU H ta) (n+3) .tok) (n+5):=(Ab ya l7).hset zo zo;have hH20:AD (hset (AU H ta) (n+3) .tok) 0=some (.box (AE g.sh g.w g.h g.holes g.cells)):=by grind [AA,Af]
 have hH2l:DA 1 1 (hset (AU H ta) (n+3) .tok) tl:=MX htl ya hap l7 zo;have hH2a:DA 1 1 (hset (AU H ta) (n+3) .tok) (.own (n+3) 1):=.inr (.inr ⟨n+3,rfl,zo,AC ..⟩);have hH2p:X4 tl (.own (n+3) 1):=X4.fresh htl l7 zo 1;have hAs:=Ow i;have r2:(E.length<=35184372088831)=True:=ra zo;have r3:Al (E.length+1) 24=True:=ra (Ac zo zd);by_cases z0':f=0
 ·subst z0';have hfm:OG g 0 (i+1)=OG g 0 i++[[(i:Int)]]:=by
   unfold OG;rw[rt rfl,rt rfl,tJ,rz];rfl
  have a1:BH (hset (AU H ta) (n+3) .tok) 1 tl=True:=ra hH2l.app;simp only[eZ,seval,r9,wj,AN c9,q1,q2,q3,Bq l7,Bq (Ab ya l7),a1,r2,r3,e];refine .mk ⟨i+1,E++[.sl (.exact 1) [.int .i64 i]],.own (n+9) 1,.own (n+3) 1,hset (AU (hset (AU H ta) (n+3) .tok) tl) (n+9) .tok,n+11⟩ (by simp only[hAs,rz];rfl) ⟨c9,zp,(Ab hH2l hH2f).hset (m:=n+11) zo zo,?_,.inr (.inr ⟨n+9,rfl,zo,AC ..⟩),MX hH2a hH2l hH2p.symm hH2f zo,(X4.fresh hH2a hH2f zo 1).symm,.inl rfl,.inl rfl,?_⟩ zp
  ·simp only[];rw[AA _ _ _ _ zo,Af hH2l (.inl zo)];exact hH20
  ·simp only[hfm,rz,sw,sI];exact hE.app (.cons (Wk.sl (.inl rfl)) .nil)
 have z0:(f=0)=False:=ri z0';by_cases z5':f=5
 ·subst z5';have hfm:OG g 5 (i+1)=OG g 5 i++[Yd g i]:=by
   unfold OG;rw[rj zd,rt rfl,rj zd,rt rfl,tJ,rz];rfl
  simp only[eZ,seval,r9,wj,AN c9,q1,q2,q3,Bq l7];refine AO (λv:VRi=>⟨[(1,true,.int .i64 5),(2,true,.ptr 0 0),(6,true,Bv ar),(8,true,.sl tl E),(9,true,.sl (.own (n+3) 1) ((Hp i).map eI++[.int .i64 i])),(10,true,.int .i64 i),(11,true,.sl v.tc ((CQ v.j (Hw g i)).map eI)),(12,true,.int .i64 v.j)],v.H,v.n⟩)
   (IFil g.cells.length (Hw g i) (hset (AU H ta) (n+3) .tok) (n+5)) (λv=>g.cells.length-v.j) ⟨0,.nil,hset (AU H ta) (n+3) .tok,n+5⟩ rfl ⟨rm _,rq _,hH2f,λid p9=>rfl,.inl rfl,.inr rfl⟩ ?_
  rintro⟨j,tc,H1,n1⟩ ⟨hj,me,hf1,hk,htc,hec⟩;simp only at hj me hf1 hk htc hec;have wc:AD H1 0=some (.box (AE g.sh g.w g.h g.holes g.cells)):=by rw[hk 0 zo];exact hH20
  have h01':=wc;simp only[AE]at h01';by_cases l9:j<g.cells.length
  ·have ej:=AK (k:=j) zo;have hs:=EU j (Hw g i);have hga:=harg i c9;have hia:i<ar.length:=zo
   have hfn:An (Kh g i)=True:=ra (show(Kh g i).length<_ by have:=QH g i;omega);have hb:(decide ((j:Int)=(i:Int))||(Kh g i).contains (j:Int))=Hw g i j:=rfl;cases hbb:Hw g i j with
   |false=>
    rw[hbb,rj zd]at hs;rw[hbb]at hb;simp only[eZ,seval,eY,h01',AN l9,AN hia,hga,OM,s2,Ak,Ag,BD,Au,hfn,hb,ej,AG];exact .mk ⟨j+1,tc,H1,n1⟩ (by simp only[hs]) ⟨l9,me,hf1,hk,htc,by simp only[hs];exact hec⟩ zp
   |true=>
    rw[hbb,rt rfl]at hs;rw[hbb]at hb;have hlen:=C0 j (Hw g i);have u1:BH H1 1 tc=True:=ra htc.app;have u2:((CQ j (Hw g i)).length<=35184372088831)=True:=ra zo;have u3:Al ((CQ j (Hw g i)).length+1) 8=True:=ra (Ac zo zd);simp only[eZ,seval,eY,h01',AN l9,AN hia,hga,OM,s2,Ak,Ag,BD,Au,hfn,hb,ej,u1,u2,u3,Bq hf1,AG];refine .mk ⟨j+1,.own (n1+3) 1,hset (AU H1 tc) (n1+3) .tok,n1+5⟩ ?_ ⟨l9,zp,(Ab htc hf1).hset (m:=n1+5) zo zo,λid p9=>?_,.inr (.inr ⟨n1+3,rfl,zo,AC ..⟩),.inl rfl⟩ zp
    ·simp only[hs,rz];rfl
    ·grind [AA,Af]
  obtain rfl:j=g.cells.length:=zo
  have up:∀{t:w8},DA 1 1 (hset (AU H ta) (n+3) .tok) t->DA 1 1 H1 t:=λh=>by
   rcases h with rfl|rfl|⟨id,rfl,h1,h2⟩
   ·exact .inl rfl
   ·exact .inr (.inl rfl)
   ·exact .inr (.inr ⟨id,rfl,h1,by rw[hk id (hH2f.lt h2)];exact h2⟩)
  have y9:=up hH2l;have wi:=up hH2a;have a1:BH H1 1 tl=True:=ra y9.app;simp only[eZ,seval,r9,h01',Ad l9,e,a1,r2,r3,Bq hf1];refine .mk ⟨i+1,E++[.sl tc ((CQ g.cells.length (Hw g i)).map eI)],.own (n1+3) 1,.own (n+3) 1,hset (AU H1 tl) (n1+3) .tok,n1+5⟩ (by simp only[hAs,rz];rfl) ⟨c9,zp,(Ab y9 hf1).hset (m:=n1+5) zo zo,?_,.inr (.inr ⟨n1+3,rfl,zo,AC ..⟩),MX wi y9 hH2p.symm hf1 zo,(X4.fresh wi hf1 zo 1).symm,.inl rfl,.inl rfl,?_⟩ zp
  ·grind [AA,Af]
  ·simp only[hfm,rz,sw,sI];exact hE.app (.cons (Wk.sl (hec.imp id λq=>by rw[q];rfl)) .nil)
 have z5:(f=5)=False:=ri z5';by_cases z6':f=6
 ·subst z6';have hfm:OG g 6 (i+1)=OG g 6 i++Ov g i:=by
   unfold OG;rw[rj zd,rj zd,rt rfl,rj zd,rj zd,rt rfl,tJ,uM];simp
  simp only[eZ,seval,r9,wj,AN c9,q1,q2,q3,Bq l7];refine AO (λv:VRg=>⟨[(1,true,.int .i64 6),(2,true,.ptr 0 0),(6,true,Bv ar),(8,true,.sl v.tl v.E),(9,true,.sl (.own (n+3) 1) ((Hp i).map eI++[.int .i64 i])),(10,true,.int .i64 i),(13,true,.int .i64 v.i)],v.H,v.n⟩)
   (IPr g i (n+3)) (λv=>(Kh g i).length-v.i) ⟨0,E,tl,hset (AU H ta) (n+3) .tok,n+5⟩ rfl ⟨rm _,zp,hH2f,hH20,hH2l,hH2a,hH2p,s5,by
    show Wks E ((OG g 6 i++Yf g i 0).map Am);have:Yf g i 0=[]:=rfl;rw[this,sE];exact hE⟩ ?_
  rintro⟨j,E1,t1,H1,n1⟩ hJ;have hj:=hJ.hj;have me:=hJ.hn;have hf1:=hJ.fr;have wc:=hJ.h0;have y9:=hJ.tok;have wi:=hJ.toka;have hp1:=hJ.ap;have he1:=hJ.es;have hE1:=hJ.hE;simp only at hj me hf1 wc y9 wi hp1 he1 hE1;have h01':=wc;simp only[AE]at h01';have hga:=harg i c9;have hia:i<ar.length:=zo
  have hnl:=QH g i;by_cases l9:j<(Kh g i).length
  ·have ej:=AK (k:=j) zo;have hgj:=rc l9;have hst:=Yg g i l9;generalize (Kh g i)[j]=x at hgj hst;by_cases hx:(i:Int)<x
   ·rw[rt hx]at hst;have hEl1:E1.length<=65536:=by
     have:=hE1.len;rw[r9,sm]at this;have a:=VA g 6 hr2 i;have b:=dP g i j;omega
    have a1:BH H1 1 t1=True:=ra y9.app;have u2:(E1.length<=35184372088831)=True:=ra zo;have u3:Al (E1.length+1) 24=True:=ra (Ac zo zd);simp only[eZ,seval,eY,AN l9,hgj,AN hia,hga,ra hx,ej,a1,u2,u3,Bq hf1];refine .mk ⟨j+1,E1++[.sl (.exact 1) [.int .i64 i,.int .i64 x]],.own (n1+11) 1,hset (AU H1 t1) (n1+11) .tok,n1+13⟩ rfl ⟨l9,zp,(Ab y9 hf1).hset (m:=n1+13) zo zo,?_,.inr (.inr ⟨n1+11,rfl,zo,AC ..⟩),MX wi y9 hp1.symm hf1 zo,(X4.fresh wi hf1 zo 1).symm,.inl rfl,?_⟩ zp
    ·grind [AA,Af]
    ·simp only[hst,<-sJ,rz,sw,sI];rw[rz]at hE1;exact hE1.app (.cons (Wk.sl (.inl rfl)) .nil)
   ·rw[rj hx]at hst;simp only[eZ,seval,eY,AN l9,hgj,AN hia,hga,ri hx,ej];exact .mk ⟨j+1,E1,t1,H1,n1⟩ rfl ⟨l9,me,hf1,wc,y9,wi,hp1,he1,by simp only[hst];exact hE1⟩ zp
  obtain rfl:j=(Kh g i).length:=zo
  simp only[eZ,seval,eY,Ad l9,AN hia,hga,e];refine .mk ⟨i+1,E1,t1,.own (n+3) 1,H1,n1⟩ (by simp only[hAs,rz];rfl) ⟨c9,zp,hf1,wc,y9,wi,hp1,he1,.inl rfl,?_⟩ zp;have e9:Yf g i (Kh g i).length=Ov g i:=by unfold Yf Ov;rw[se]
  simp only[hfm,<-e9];exact hE1
 have z6:(f=6)=False:=ri z6';have hfm:OG g f (i+1)=OG g f i:=by
  unfold OG;rw[rj z0',rj z5',rj z6',rj z0',rj z5',rj z6']
 simp only[eZ,seval,r9,wj,AN c9,q1,q2,q3,Bq l7,z0,z5,z6,e];exact .mk ⟨i+1,E,tl,.own (n+3) 1,hset (AU H ta) (n+3) .tok,n+5⟩ (by simp only[hAs,rz];rfl) ⟨c9,zp,hH2f,hH20,hH2l,hH2a,hH2p,s5,.inl rfl,by simp only[hfm];exact hE⟩ zp
section
variable {cells:List Int}
theorem VB:∀{l:List xj},DV cells l=0->∀r∈l,LM cells r=0
 |[],_,r,h=>by cases h
 |a::s,h0,r,h=>by
  unfold DV at h0;split at h0
  ·rename_i ha;rcases sP.1 h with rfl|h
   ·exact ha
   ·exact VB h0 r h
  ·rename_i ha;exact absurd h0 ha
theorem Yh{x:xk}(h:D2 x=0)(hc:Av x.sh x.w x.h x.holes=some cells):DV cells x.regs=0:=by
 unfold D2 at h;split at h
 ·cases h
 ·split at h
  ·rename_i e he;exact absurd h (GQ he)
  ·grind
theorem fmV_S{g:v7}(G:GrV g){f:Nat}(hf:f<=7):WY g (f:Int)= .tup [Bv (FA g.sh g.w g.h (Aa g.sh g.w g.cells) f),.int .i64 0]:=by
 have hgo:GO g.sh g.w g.h g.holes g.cells=true:=sk G.hG;unfold WY;rw[hgo,rt rfl,rj zo,lD G hf]
theorem Yi{g:v7}(G:GrV g):Lg g= .tup [Bv (El g.sh (Aa g.sh g.w g.cells)),.int .i64 0]:=by
 have hgo:GO g.sh g.w g.h g.holes g.cells=true:=sk G.hG;unfold Lg;rw[hgo,rt rfl]
theorem VC{x:xk}(h:D2 x=0)(hc:Av x.sh x.w x.h x.holes=some cells){r:xj}(hr:r∈x.regs):EI cells r.ls= .tup [Bv (r.ls.map (Bk cells)),.int .i64 0]:=by
 have h1:=VB (Yh h hc) r hr;unfold LM at h1;unfold EI;split at h1
 ·cases h1
 ·rename_i q;rw[rt (by simpa using q)]
end
abbrev Wa:zx:=⟨KW,⟨0,0,0,[],[]⟩,[],[]⟩
def C1(d:xk):Fs:=match EY d with
 | .error e=>.tup [A5 Wa,.int .i64 e]
 | .ok k=>.tup [A5 k,.int .i64 0]
abbrev zKn:List Fs:=[.str [],z0,z0,z0,z0,zs,zs,zs,zs,zs,z0,z0,z0,zs,zs,zs,zs]
def Yj{d:xk}{g:v7}{nb:List (List Int)}{ls:List (List (List Int))}{a b c d' e f h i j:Fs}(ha:Wk a (Am d.holes))(hb:Wk b (IW d.syms))(hc:Wk c (HP d.regs))(hd:Wk d' (E6 d.clus))(he:Wk e (Dr d.ruls))(hf:Wk f (Am g.holes))(hh:Wk h (Am g.cells))(hi:Wk i (Bv nb))(hj:Wk j (ML ls)):
  Wk (.agg [.str d.nm,.int .i64 d.ver,.int .i64 d.sh,.int .i64 d.w,.int .i64 d.h,a,b,c,d',e,.int .i64 g.sh,.int .i64 g.w,.int .i64 g.h,f,h,i,j]) (A5 ⟨d,g,nb,ls⟩):=
 Wk.agg (.cons (Wk.refl _) (.cons (Wk.refl _) (.cons (Wk.refl _) (.cons (Wk.refl _) (.cons (Wk.refl _) (.cons ha (.cons hb (.cons hc (.cons hd (.cons he (.cons (Wk.refl _) (.cons (Wk.refl _) (.cons (Wk.refl _) (.cons hf (.cons hh (.cons hi (.cons hj .nil)))))))))))))))))
def QI(e:Int):Wk (.tup [.agg zKn,.int .i64 e]) (.tup [A5 Wa,.int .i64 e]):=
 Wk.tup (.cons (Yj (d:=KW) (g:=⟨0,0,0,[],[]⟩) (Wk.sl (.inr rfl)) (Wk.sl (.inr rfl)) (Wk.sl (.inr rfl)) (Wk.sl (.inr rfl)) (Wk.sl (.inr rfl)) (Wk.sl (.inr rfl)) (Wk.sl (.inr rfl)) (Wk.sl (.inr rfl)) (Wk.sl (.inr rfl))) (.cons (Wk.refl _) .nil))
def lE:Bc:=AG 76 (s1 dD QD Cf) (AG 77 (s1 dD zk λd=>.int .i64 (D2 d)) (AG 78 cQ (AG 79 (s1 DY (λg=>An g.holes) Lg) (AG 80 (s2 DY dI (λg _=>An g.holes) WY) (AG 81 (s2 DY N0 (λg l=>Av g.sh g.w g.h g.holes=some g.cells/\An g.holes/\B6 l) λg l=>EI g.cells l) tnil)))))
def lF:AH prog lE:=(((((AH.tnil.add (q2 λg l h=>p81 g l h.1 h.2.1 h.2.2)).add (q2 λg f h=>p80 g f h)).add (q1 p79)).add qMk).add (q1 λd h=>p77 d h)).add (q1 λd h=>p76 d h.1 h.2)
theorem Yk(a:List Fs)(H:AB):lE 76 a H=s1 dD QD Cf a H:=rfl
theorem i9(a:List Fs)(H:AB):lE 77 a H=s1 dD zk (λd=>.int .i64 (D2 d)) a H:=rfl
theorem Tbd_m(sh w h:Int)(x:Fs)(H:AB):lE 78 [.int .i64 sh,.int .i64 w,.int .i64 h,x] H=(BA.ok x/\An (BA.dec x),Be sh w h (BA.dec x)):=rfl
theorem Tbd_n(a:List Fs)(H:AB):lE 79 a H=s1 DY (λg=>An g.holes) Lg a H:=rfl
theorem Tbd_f(a:List Fs)(H:AB):lE 80 a H=s2 DY dI (λg _=>An g.holes) WY a H:=rfl
theorem Tbd_g(a:List Fs)(H:AB):lE 81 a H=s2 DY N0 (λg l=>Av g.sh g.w g.h g.holes=some g.cells/\An g.holes/\B6 l) (λg l=>EI g.cells l) a H:=rfl
abbrev Wb(x:xk)(cells:List Int)(v:Fs):List Fs:=[.str x.nm,.int .i64 x.ver,.int .i64 x.sh,.int .i64 x.w,.int .i64 x.h,Am x.holes,IW x.syms,HP x.regs,E6 x.clus,Dr x.ruls,.int .i64 x.sh,.int .i64 x.w,.int .i64 x.h,Am x.holes,Am cells,Bv (El x.sh (Aa x.sh x.w cells)),v]
structure IBd(x:xk)(cells:List Int)(m:Nat)(L:Nat->List (List (List Int)))(v:VRg):Prop where
 hi:v.i<=m
 hn:15<=v.n
 fr:AP v.H v.n
 h1:AD v.H 1=some (.box zKn)
 h8:AD v.H 8=some (.box (AL x))
 h13:AD v.H 13=some (.box (Wb x cells (.sl v.tl v.E)))
 tok:DA 1 14 v.H v.tl
 es:v.tl.esz=1\/v.E=[]
 hE:Wks v.E ((L v.i).map Bv)
def p45(d:xk)(hd:QD d):Aw prog 45 [B5 d] (C1 d):=by
 refine .mk ⟨As 0 d,zt⟩ (by unfold C1;split<;>exact⟨Aj 0 _,zt,zt⟩) (c45.a (AI lF (AJ ?_)));have e1:dD.ok (.agg (AL d))=True:=BR d;have e2:dD.dec (.agg (AL d))=d:=Az d;simp only[AL]at e1 e2;unfold C1 EY;cases hr:CJ d with
 |error e=>
  have hv:Cf d= .tup [B5 KW,.int .i64 e]:=by unfold Cf;rw[hr]
  have he:(e=0)=False:=ri (GQ hr);simp only[eZ,seval,rf,eY,BG,c45,AL,Yk,s1,e1,e2,ra hd,hv,he];exact QI e
 |ok x=>
 have hv:Cf d= .tup [B5 x,.int .i64 0]:=by unfold Cf;rw[hr]
 have hfx:=Ik hd.1 hr;have x1:dD.ok (.agg (AL x))=True:=BR x;have x2:dD.dec (.agg (AL x))=x:=Az x;simp only[AL]at x1 x2;simp only[];by_cases hc:D2 x=0;case neg=>
  rw[rt hc];simp only[eZ,seval,re,rf,eY,BG,c45,AL,Yk,i9,s1,e1,e2,x1,x2,ra hd,ra hfx,hv,ri hc];exact QI _
 rw[rj (λz=>z hc)];obtain⟨cells,hg⟩:=RZ hc;rw[hg];simp only[];have hm:Be x.sh x.w x.h x.holes= .tup [Ek x.sh x.w x.h x.holes cells,.int .i64 0]:=by unfold Be;rw[hg]
 have G:GrV (BE x cells):=⟨hg,hfx.ho⟩;have g1:DY.ok (.agg [.int .i64 x.sh,.int .i64 x.w,.int .i64 x.h,Am x.holes,Am cells])=True:=EH (BE x cells);have g2:DY.dec (.agg [.int .i64 x.sh,.int .i64 x.w,.int .i64 x.h,Am x.holes,Am cells])=BE x cells:=DG (BE x cells);have hho:An (BE x cells).holes=True:=ra hfx.ho;have xb:Lg (BE x cells)= .tup [Bv (El x.sh (Aa x.sh x.w cells)),.int .i64 0]:=Yi G;simp only[eZ,seval,re,eY,c45,AL,Yk,i9,Tbd_m,Tbd_n,s1,e1,e2,x1,x2,g1,g2,Ak,Ag,ra hd,ra hfx,ra hfx.ho,hho,hv,hc,hm,xb];refine AO (λv:VRg=>⟨[(2,true,.ptr 1 0),(4,true,.ptr 8 0),(6,true,.ptr 13 0),(7,true,.int .i64 v.i)],v.H,v.n⟩) (IBd x cells 8 λi=>(List.range i).map λf=>FA x.sh x.w x.h (Aa x.sh x.w cells) f) (λv=>8-v.i)
  ⟨0,[],.nil,_,15⟩ rfl ?_ ?_
 ·refine⟨rm _,rq _,?_,rfl,rfl,rfl,.inl rfl,.inr rfl,.nil⟩;simp only[];repeat' (first|exact AP.nil.hset (m:=15) (rm _) zd|refine AP.hset ?_ (rq _) zd)
 rintro⟨i,E,tl,H,n⟩ hI;have hi:=hI.hi;have hn:=hI.hn;have l7:=hI.fr;have h1:=hI.h1;have h8:=hI.h8;have h13:=hI.h13;have htl:=hI.tok;have s5:=hI.es;have hE:=hI.hE;simp only at hi hn l7 h1 h8 h13 htl s5 hE;have h8':=h8;simp only[AL]at h8';by_cases c9:i<8
 ·have e:=AK (k:=i) zo;have hq:((i:Int)<8)=True:=ra zo;have hfm:WY (BE x cells) (i:Int)= .tup [Bv (FA x.sh x.w x.h (Aa x.sh x.w cells) i),.int .i64 0]:=fmV_S G zo;have hEl:E.length=i:=by
   have:=hE.len;rw[r9,r9,uh]at this;exact this
  have q1:BH H 1 tl=True:=ra htl.app;have q2:(E.length<=35184372088831)=True:=ra zo;have q3:Al (E.length+1) 24=True:=ra (Ac zo zd);have hk13:=Af htl (i:=13) (.inr ⟨_,h13⟩);rw[h13]at hk13;have y1:∀k,(13=n+k)=False:=λk=>ri zo
  have y2:(n=9)=False:=ri zo;have y3:(9=n)=False:=ri zo;simp only[eZ,seval,eY,h13,hq,Tbd_f,s2,g1,g2,BD,Au,hho,hfm,e,q1,q2,q3,Bq l7,hk13,y2];refine .mk ⟨i+1,E++[Bv (FA x.sh x.w x.h (Aa x.sh x.w cells) i)],.own (n+4) 1,hset (hset (AU H tl) (n+4) .tok) 13 (.box (Wb x cells (.sl (.own (n+4) 1) (E++[Bv (FA x.sh x.w x.h (Aa x.sh x.w cells) i)])))),n+7⟩ rfl ⟨c9,zp,((Ab htl l7).hset (m:=n+7) zo zo).hset (rq _) (show 13<n+7 by omega),?_,?_,AC ..,.inr (.inr ⟨n+4,rfl,zo,?_⟩),.inl rfl,?_⟩ zp
  ·grind [AA,Af]
  ·grind [AA,Af]
  ·simp only[];rw[AA _ _ _ _ zo,AC]
  ·simp only[tJ,rz,sw,sI]at hE⊢;exact hE.app (.cons (Wk.refl _) .nil)
 obtain rfl:i=8:=zo
 have hq:(((8:Nat):Int)<8)=False:=ri zd;simp only[eZ,seval,hq];refine AO (λv:VRg=>⟨[(2,true,.ptr 1 0),(4,true,.ptr 8 0),(6,true,.ptr 13 0),(10,true,.int .i64 v.i)],v.H,v.n⟩) (IBd x cells x.regs.length λi=>((List.range 8).map λf=>FA x.sh x.w x.h (Aa x.sh x.w cells) f)++(x.regs.take i).map λr=>r.ls.map (Bk cells)) (λv=>x.regs.length-v.i)
  ⟨0,E,tl,H,n⟩ rfl ⟨rm _,hn,l7,h1,h8,h13,htl,s5,by
   simp only[tX,sI,sE];exact hE⟩ ?_
 clear hE s5 htl h13 h8' h8 h1 l7 hn hI hq c9 hi;rintro⟨i,E,tl,H,n⟩ hI;have hi:=hI.hi;have hn:=hI.hn;have l7:=hI.fr;have h1:=hI.h1;have h8:=hI.h8;have h13:=hI.h13;have htl:=hI.tok;have s5:=hI.es;have hE:=hI.hE;simp only at hi hn l7 h1 h8 h13 htl s5 hE;have h8':=h8;simp only[AL]at h8';have hrl:x.regs.length<=4:=by simp_all [D2,KV,rl,rn]<;>omega
 by_cases c9:i<x.regs.length
 ·have e:=AK (k:=i) zo;have hgr:=rc c9;have hmem:x.regs[i]∈x.regs:=rY c9;have hrg:=VC hc hg hmem;have hfl:B6 x.regs[i].ls=True:=ra (hfx.rgs _ hmem);have l5:x.regs.take (i+1)=x.regs.take i++[x.regs[i]]:=by rw[sf,hgr];rfl
  generalize x.regs[i]=r at hgr hrg hfl l5;have hgc:(Av (BE x cells).sh (BE x cells).w (BE x cells).h (BE x cells).holes=some (BE x cells).cells)=True:=ra hg;have hgd:(Av (BE x cells).sh (BE x cells).w (BE x cells).h (BE x cells).holes=some cells)=True:=ra hg;have hgx:(BE x cells).cells=cells:=rfl;have hEl:E.length=8+i:=by
   have:=hE.len;rw[r9,sm,r9,r9,uh,sD]at this;omega
  have q1:BH H 1 tl=True:=ra htl.app;have q2:(E.length<=35184372088831)=True:=ra zo;have q3:Al (E.length+1) 24=True:=ra (Ac zo zd);have hk13:=Af htl (i:=13) (.inr ⟨_,h13⟩);rw[h13]at hk13;have y1:∀k,(13=n+k)=False:=λk=>ri zo
  have y2:(n=9)=False:=ri zo;have y3:(9=n)=False:=ri zo;simp only[eZ,seval,eY,h8',h13,AN c9,hgr,Tbd_g,s2,g1,g2,Dj,Cz,hho,hgd,hgx,hfl,hrg,e,q1,q2,q3,Bq l7,hk13,y2];refine .mk ⟨i+1,E++[Bv (r.ls.map (Bk cells))],.own (n+4) 1,hset (hset (AU H tl) (n+4) .tok) 13 (.box (Wb x cells (.sl (.own (n+4) 1) (E++[Bv (r.ls.map (Bk cells))])))),n+7⟩ rfl ⟨c9,zp,((Ab htl l7).hset (m:=n+7) zo zo).hset (rq _) (show 13<n+7 by omega),?_,?_,AC ..,.inr (.inr ⟨n+4,rfl,zo,?_⟩),.inl rfl,?_⟩ zp
  ·grind [AA,Af]
  ·grind [AA,Af]
  ·simp only[];rw[AA _ _ _ _ zo,AC]
  ·simp only[l5,rz,sw,sI]at hE⊢;rw[<-sJ];exact hE.app (.cons (Wk.refl _) .nil)
 obtain rfl:i=x.regs.length:=zo
 rw[se]at hE;simp only[eZ,seval,BG,r9,h8',h13,h1,Ad c9];exact Wk.tup (.cons (Yj (d:=x) (g:=BE x cells) (Wk.refl _) (Wk.refl _) (Wk.refl _) (Wk.refl _) (Wk.refl _) (Wk.refl _) (Wk.refl _) (Wk.refl _) (Wk.slx s5 hE)) (.cons (Wk.refl _) .nil))
def Ox{d:xk}{e:Int}(h:EY d= .error e):¬e=0:=by
 unfold EY at h;split at h
 ·rename_i e' he;cases h;exact GQ he
 ·grind
def T8c:Bc:=AG 45 (s1 dD QD C1) (AG 75 (s2 B2 B2 (λa _=>FewKr a) λa b=>.bool (decide (a=b))) tnil)
def lG:AH prog T8c:=(AH.tnil.add (q2 λa b h=>p75 a b h)).add (q1 λd h=>p45 d h)
def p44(k:zx)(h1:QD k.d)(h2:FewKr k):Aw prog 44 [A5 k] (.int .i64 (BM k)):=by
 refine .mk ⟨Aj 0 k,zt⟩ zt (c44.a (AI lG (AJ ?_)));have e1:dD.ok (.agg (AL k.d))=True:=BR k.d;have e2:dD.dec (.agg (AL k.d))=k.d:=Az k.d;have u1:B2.ok (.agg (AF k))=True:=CC k;have u2:B2.dec (.agg (AF k))=k:=Bm k;simp only[AL]at e1 e2;simp only[AF,AE,AL,si,sj]at u1 u2;unfold BM JH;cases hb:EY k.d with
 |error e=>
  have hv:C1 k.d= .tup [A5 Wa,.int .i64 e]:=by unfold C1;rw[hb]
  have he:(e=0)=False:=ri (Ox hb);simp only[eZ,seval,re,rf,eY,c44,AF,AE,AL,T8c,s1,s2,e1,e2,u1,u2,ra h1,ra h2,hv,he,AG]
 |ok x=>
 have hv:C1 k.d= .tup [A5 x,.int .i64 0]:=by unfold C1;rw[hb]
 have v1:B2.ok (.agg (AF x))=True:=CC x;have v2:B2.dec (.agg (AF x))=x:=Bm x;simp only[AF,AE,AL,si,sj]at v1 v2;simp only[];by_cases hx:k=x
 ·simp only[eZ,seval,re,eY,c44,AF,AE,AL,T8c,s1,s2,e1,e2,u1,u2,v1,v2,ra h1,ra h2,hv,BS hx,AG]
 ·simp only[eZ,seval,re,rf,eY,c44,AF,AE,AL,T8c,s1,s2,e1,e2,u1,u2,v1,v2,ra h1,ra h2,hv,A3 hx,AG]
def VD(k:zx):Bool:=decide ((16:Int)<(k.g.cells.length:Int))||decide ((256:Int)<(k.g.holes.length:Int))||decide ((20:Int)<(k.nb.length:Int))||decide ((12:Int)<(k.ls.length:Int))||decide ((6:Int)<(k.d.syms.length:Int))||decide ((6:Int)<(k.d.regs.length:Int))||decide ((6:Int)<(k.d.clus.length:Int))||decide ((10:Int)<(k.d.ruls.length:Int))||decide ((256:Int)<(k.d.holes.length:Int))
def QJ(k:zx):Bool:=!VD k&&(k.ls.all λl=>decide (l.length<=40))&&k.d.regs.all λr=>decide (r.ls.length<=20)
def p6(k:zx):Aw prog 6 [A5 k] (.bool (QJ k)):=by
 refine .mk ⟨Aj 0 k,zt⟩ zt (c6.a (AI AH.tnil (AJ ?_)));have hb:(decide ((16:Int)<(k.g.cells.length:Int))||decide ((256:Int)<(k.g.holes.length:Int))||decide ((20:Int)<(k.nb.length:Int))||decide ((12:Int)<(k.ls.length:Int))||decide ((6:Int)<(k.d.syms.length:Int))||decide ((6:Int)<(k.d.regs.length:Int))||decide ((6:Int)<(k.d.clus.length:Int))||decide ((10:Int)<(k.d.ruls.length:Int))||decide ((256:Int)<(k.d.holes.length:Int)))=VD k:=rfl;cases hm:VD k with
 |true=>
  rw[hm]at hb;have hR:QJ k=false:=by unfold QJ;rw[hm];rfl
  rw[hR];simp only[eZ,seval,r9,c6,AF,AE,AL,hb]
 |false=>
 rw[hm]at hb;have hbd:=hb;simp only[tv,sR]at hbd;have xa:k.ls.length<=12:=zo
 have hrs:k.d.regs.length<=6:=zo
 have hk:QJ k=((k.ls.all λl=>decide (l.length<=40))&&k.d.regs.all λr=>decide (r.ls.length<=20)):=by unfold QJ;rw[hm];rfl
 rw[hk];simp only[eZ,seval,r9,c6,AF,AE,AL,hb];refine AO (λi:Nat=>⟨[(1,true,.ptr 0 0),(3,true,.int .i64 i)],hset Ai 0 (.box (AF k)),2⟩) (λi=>i<=k.ls.length/\(k.ls.all λl=>decide (l.length<=40))=((k.ls.drop i).all λl=>decide (l.length<=40))) (λi=>k.ls.length-i) 0 rfl ⟨rm _,rfl⟩ ?_;rintro i ⟨hi,he⟩;by_cases c9:i<k.ls.length
 ·have hg:=rc c9;have e:=AK (k:=i) zo;rw[sn c9,uq]at he;generalize k.ls[i]=l at hg he;by_cases hq:l.length<=40
  ·have hq':((40:Int)<(l.length:Int))=False:=ri zo;rw[sk hq,sS]at he;simp only[eZ,seval,eY,AF,AE,AL,AN c9,hg,hq',e];exact .mk (i+1) rfl ⟨c9,he⟩ zo
  ·have hq':((40:Int)<(l.length:Int))=True:=ra zo;rw[sa hq,sV]at he;rw[he,sV];simp only[eZ,seval,eY,AF,AE,AL,AN c9,hg,hq']
 obtain rfl:i=k.ls.length:=zo
 rw[sK,List.all_nil]at he;rw[he,sS];simp only[eZ,seval,r9,AF,AE,AL,Ad c9];refine AO (λi:Nat=>⟨[(1,true,.ptr 0 0),(4,true,.int .i64 i)],hset Ai 0 (.box (AF k)),2⟩) (λi=>i<=k.d.regs.length/\(k.d.regs.all λr=>decide (r.ls.length<=20))=((k.d.regs.drop i).all λr=>decide (r.ls.length<=20))) (λi=>k.d.regs.length-i) 0 rfl ⟨rm _,rfl⟩ ?_;rintro i ⟨hi,he⟩;by_cases c9:i<k.d.regs.length
 ·have hg:=rc c9;have e:=AK (k:=i) zo;rw[sn c9,uq]at he;generalize k.d.regs[i]=l at hg he;by_cases hq:l.ls.length<=20
  ·have hq':((20:Int)<(l.ls.length:Int))=False:=ri zo;rw[sk hq,sS]at he;simp only[eZ,seval,eY,AF,AE,AL,AN c9,hg,hq',e];exact .mk (i+1) rfl ⟨c9,he⟩ zo
  ·have hq':((20:Int)<(l.ls.length:Int))=True:=ra zo;rw[sa hq,sV]at he;rw[he];simp only[eZ,seval,eY,AF,AE,AL,AN c9,hg,hq']
 obtain rfl:i=k.d.regs.length:=zo
 rw[sK,List.all_nil]at he;rw[he];simp only[eZ,seval,r9,AF,AE,AL,Ad c9]
structure VSp where
 i:Nat
 H:AB
 n:Nat
def Mv(g:v7)(G:GrV g){l' q:Nat}{J:Nat->AB->Nat->Prop}(hJ:∀i H n,J i H n->AD H q=some (.box (AE g.sh g.w g.h g.holes g.cells)))
  (hy:∀i H n,i<g.cells.length->J i H n->∀R:Bool->AB->Nat->Prop,(∀H' n',J (i+1) H' n'->R true H' n')->CV prog l' [.int .i64 i,.agg [.int .i64 (Dn g i).1,.int .i64 (Dn g i).2]] H n R) {H:AB} {n:Nat} (h0:J 0 H n):
  AV prog 248 [.fn (.yield l') [] [],.ptr q 0] H n λo H' n'=>o= .ret (.tup [])/\J g.cells.length H' n':=by
 obtain⟨hr1,hr2,hr3⟩:=BX G.hG;refine c248.a (AI AH.tnil (AJ ?_));have hq:=hJ 0 H n h0;simp only[AE]at hq;simp only[eE,eN,seval,r9,c248,hq];refine AO (λv:VSp=>⟨[(0,true,.fn (.yield l') [] []),(1,true,.ptr q 0),(8,true,Am g.cells),(9,true,.int .i64 g.cells.length),(10,true,.int .i64 v.i)],v.H,v.n⟩) (λv=>v.i<=g.cells.length/\J v.i v.H v.n) (λv=>g.cells.length-v.i)
  ⟨0,H,n⟩ rfl ⟨rm _,h0⟩ ?_
 rintro⟨i,H1,m⟩ ⟨hi,hj⟩;simp only at hi hj;by_cases c9:i<g.cells.length
 ·have hq1:=hJ i H1 m hj;simp only[AE]at hq1;have gi:JK g (i:Int):=⟨zo,by rw[rr];exact c9⟩;obtain⟨k,hk,-,hg,hp,w1,w2,x1,x2,y1,y2,ey,hs⟩:=G.at gi;obtain rfl:k=i:=zo
  have e:=AK (k:=k) zo;have hw:(g.w=0)=False:=ri zo;have r1:IntKind.wrap .i64 ((Ah g (k:Int)).tdiv g.w)=(Ah g (k:Int)).tdiv g.w:=A6 zo zo;have r2:IntKind.wrap .i64 (((Ah g (k:Int)).tdiv g.w).tdiv 2)=((Ah g (k:Int)).tdiv g.w).tdiv 2:=A6 zo zo;have r3:IntKind.wrap .i64 ((Ah g (k:Int)).tmod g.w-((Ah g (k:Int)).tdiv g.w).tdiv 2)=(Ah g (k:Int)).tmod g.w-((Ah g (k:Int)).tdiv g.w).tdiv 2:=A6 zo zo;rcases hs with h1|h2
  ·have hsp:Dn g k=((Ah g (k:Int)).tmod g.w,(Ah g (k:Int)).tdiv g.w):=by unfold Dn DX;rw[rj zo]
   have hz:(g.sh=2)=False:=ri zo;have hyk:=hy k H1 m c9 hj;rw[hsp]at hyk;simp only[eZ,seval,eY,AN c9,hg,hq1,hw,r1,hz];refine hyk _ λH' n' hj'=>?_
   simp only[eZ,seval,re,Og,e];exact .mk ⟨k+1,H',n'⟩ rfl ⟨c9,hj'⟩ zp
  ·have hsp:Dn g k=((Ah g (k:Int)).tmod g.w-((Ah g (k:Int)).tdiv g.w).tdiv 2,(Ah g (k:Int)).tdiv g.w):=by unfold Dn DX;rw[rt h2]
   have hz:(g.sh=2)=True:=ra h2;have hyk:=hy k H1 m c9 hj;rw[hsp]at hyk;simp only[eZ,seval,eY,AN c9,hg,hq1,hw,r1,r2,r3,hz];refine hyk _ λH' n' hj'=>?_
   simp only[eZ,seval,re,Og,e];exact .mk ⟨k+1,H',n'⟩ rfl ⟨c9,hj'⟩ zp
 obtain rfl:i=g.cells.length:=zo
 simp only[eZ,seval,Ad c9];exact hj
def Ko(vals:List Int)(k a b:Int):Bool:=decide (k=1)&&decide (a=b)||decide (k=4)&&decide (BW vals b<=BW vals a)
def Mw(vals:List Int)(a b:Int):Int:=max (BW vals a-BW vals b) (BW vals b-BW vals a)
def lH(vals:List Int)(k n:Int)(ls l:List Int):Bool:=
 if k=2 then !l.contains (-1)&&decide (GJ ls l=0)
 else if k=3 then !l.contains (-1)&&decide (Mw vals (l[0]?.getD 0) (l[1]?.getD 0)<n)
 else if k=6 then decide (n<(GJ ls l:Int))||decide ((l.length:Int)-n<(Jg ls l:Int))
 else false
def Kp(vals:List Int)(k n:Int)(ls l:List Int):Bool:=Ba (Ko vals k) l||lH vals k n ls l
theorem GR{bad:Int->Int->Bool}(h:∀a b,bad a b=false):∀l,Ba bad l=false
 |[]=>rfl
 |a::r=>by
  unfold Ba;rw[GR h r,vv];simp [h]
def Lh{p q:Int->Int->Bool}(h:∀a b,p a b=q a b)(l:List Int):Ba p l=Ba q l:=by
 have:p=q:=by funext a b;exact h a b
 rw[this]
def dR{l:List Int}(h:∀s∈l,-1<=s):decide (Kd l=0)= !l.contains (-1):=by
 rw[su,rn,tq,vq,sR];unfold Kd;rw[tF,vh];constructor
 ·intro q hm;exact q _ hm zw
 ·grind
def Wc{vals:List Int}{k n:Int}{ls l:List Int}(h:∀s∈l,-1<=s)(h3:k=3->l.length=2):Kp vals k n ls l=CY vals k n ls l:=by
 unfold Kp CY lH;by_cases k1:k=1
 ·subst k1;rw[rj zd,rj zd,rj zd,vv,rt rfl];exact Lh (λa b=>by simp [Ko]) l
 by_cases k2:k=2
 ·subst k2;rw[GR (λa b=>by simp [Ko]),rt rfl,rj zd,rt rfl,tH,dR h,Bool.and_comm]
 by_cases k3:k=3
 ·subst k3;rw[GR (λa b=>by simp [Ko]),rj zd,rt rfl,rj zd,rj zd,rt rfl,tH];obtain⟨a,b,rfl⟩:∃a b,l=[a,b]:=by
   have:=h3 rfl
   match l,this with
   |[a,b],_=>exact⟨a,b,rfl⟩
  have ha:=h a zw;have hb:=h b zw;rw[su];unfold Ba Ba Ba Mw Us;simp only[vq,sP,uE,vF,vz,List.any_nil,vv,rl,tq,sR,rn,tG,tZ,rZ];omega
 by_cases k4:k=4
 ·subst k4;rw[rj zd,rj zd,rj zd,vv,rj zd,rj zd,rj zd,rt rfl];exact Lh (λa b=>by simp [Ko]) l
 rw[GR (λa b=>by simp [Ko,k1,k4]),rj k2,rj k3,rj k1,rj k2,rj k3,rj k4,tH]
section
abbrev ON(s:BF):Fs:=.agg [.int .i64 s.1,.int .i64 s.2]
def Hq:List BF->Nat->List (Fs×Fs×Nat)
 |[],_=>[]
 |s::r,i=>(ON s,.int .i64 (i:Int),i)::Hq r (i+1)
theorem QK:∀(l:List BF) (i:Nat),EM (.arr 2 .i64) (Hq l i)=True
 |[],_=>rfl
 |s::r,i=>by rw[Hq,EM,QK r (i+1)];simp [KT.is,OW]
def lI(s t:BF):Ht (ON s) (ON t)=decide (s=t):=by
 obtain⟨a,b⟩:=s;obtain⟨c,d⟩:=t;rw[su];simp [Ht,ceqs,Prod.mk.injEq]
def TW(x:BF)(r:List BF)(s:BF):Eo (x::r) s=if x=s then some 0 else(Eo r s).map (· +1):=by
 unfold Eo;rw[List.findIdx?_cons];by_cases h:x=s
 ·simp [h]
 ·simp only[h,vm,sr,sG];cases List.findIdx? (λx=>decide (x=s)) r<;>simp
theorem VE:∀(l:List BF) (s:BF) (i:Nat),Bi (ON s) (Hq l i)=(Eo l s).map λn=>.int .i64 (n+(i:Int))
 |[],s,i=>rfl
 |x::r,s,i=>by
  rw[Hq,Bi,TW,VE r s (i+1),lI];by_cases h:x=s
  ·subst h;simp
  ·have:¬s=x:=λq=>h q.symm
   simp only[h,this,vm,sr,sG];cases Eo r s with
   |none=>rfl
   |some n=>simp only[sU];congr 2;omega
def Mx(l:List BF)(s:BF):Bi (ON s) (Hq l 0)=(Eo l s).map λn=>.int .i64 n:=by
 rw[VE];congr 1;funext n;simp
theorem Yl:∀(l:List BF) (s:BF) (i:Nat),Hq (l++[s]) i=Hq l i++[(ON s,.int .i64 ((i+l.length:Nat):Int),i+l.length)]
 |[],s,i=>rfl
 |x::r,s,i=>by
  rw[si,Hq,Yl r s (i+1),Hq,si,sC,show i+1+r.length=i+(r.length+1)by omega]
def lJ{l:List BF}{s:BF}(h:s∉l):EV (ON s) (.int .i64 (l.length:Int)) l.length (Hq l 0)=Hq (l++[s]) 0:=by
 have h':=N7.2 h;rw[KX (by rw[Mx,h'];rfl),Yl];simp
def My{g:v7}{i:Nat}(h:i<g.cells.length):(Aa g.sh g.w g.cells).take (i+1)=(Aa g.sh g.w g.cells).take i++[Dn g i]:=by
 rw[sf,D9 h];rfl
def Wd{g:v7}{i:Nat}(hd:(Aa g.sh g.w g.cells).Nodup)(h:i<g.cells.length):Dn g i∉(Aa g.sh g.w g.cells).take i:=by
 have e:=My h;have:((Aa g.sh g.w g.cells).take i++[Dn g i]).Nodup:=by rw[<-e];exact hd.sublist (List.take_sublist ..)
 rw[ug]at this;exact λhm=>this.2.2 _ hm _ zw rfl
def lK:xq->xq
 | .arr e l=>.frz e l
 |x=>x
def QL(id:Nat)(H:AB):AB:=λi=>if i=id then(H i).map lK else H i
def We(ids:List Nat)(H:AB):AB:=ids.foldr QL H
variable {H:AB}
theorem Ym{id e:Nat}{l:List Fs}(h:AD H id=some (.arr e l)):QL id H=hset H id (.frz e l):=by
 funext i;unfold QL hset;by_cases q:i=id
 ·subst q;have h':H i=some (.arr e l):=h;rw[rt rfl,rt rfl,h'];rfl
 ·rw[rj q,rj (λe=>q e.symm)]
theorem Wf{id:Nat}(h:∀e l,AD H id≠some (.arr e l)):QL id H=H:=by
 funext i;unfold QL;split
 ·rename_i q;subst q;have h':∀e l,H i≠some (.arr e l):=h;cases hh:H i with
  |none=>rfl
  |some ob=>cases ob<;>first|rfl|(exact absurd hh (h' _ _))
 ·rfl
theorem Mz:∀(ids:List Nat) (H:AB) (i:Nat),AD (We ids H) i=if i∈ids then(AD H i).map lK else AD H i
 |[],H,i=>by simp [We]
 |id::r,H,i=>by
  have ih:=Mz r H i;show QL id (We r H) i=_;unfold QL;have ih':We r H i=if i∈r then(AD H i).map lK else AD H i:=ih
  rw[ih'];by_cases q:i=id
  ·subst q;rw[rt rfl,rt (sX ..)];split
   ·cases AD H i with
    |none=>rfl
    |some ob=>cases ob<;>rfl
   ·rfl
  ·simp_all
theorem AV.sealN{P:Program}{f:FuncId}{args:List Fs}{n:Nat}:∀(k:Nat) {R R':v8->AB->Nat->Prop},AV P f args H n R->
  (∀o H' n',R o H' n'->∃ids:List Nat,ids.length<=k/\R' o (We ids H') n')->AV P f args H n R'
 |0,R,R',h,hr=>h.mono λo H' n' q=>by
  obtain⟨ids,h1,h2⟩:=hr _ _ _ q;have:ids=[]:=t6 zo;subst this;exact h2
 |k+1,R,R',h,hr=>by
  refine AV.seal (R:=λo H' n'=>∃id,R' o (QL id H') n'\/R' o H' n') (AV.sealN k h (R':=λo H' n'=>∃id,R' o (QL id H') n'\/R' o H' n') λo H' n' q=>?_) λo H' n' q=>?_
  ·obtain⟨ids,h1,h2⟩:=hr _ _ _ q;cases ids with
   |nil=>exact⟨[],rm _,0,.inr h2⟩
   |cons id r=>exact⟨r,by simp at h1;omega,id,.inl h2⟩
  ·grind [Ym,Wf]
theorem Stab.conv{g:q8}{f:Nat->Option Value}{e:Nat}:∀{l m:List Fs} {o:Nat},l.length=m.length->(∀(k:Nat) a b,l[k]?=some a->m[k]?=some b->∀x,AR g a x->AR g b x)->Stab g e f o l->Stab g e f o m
 |[],[],_,_,_,h=>h
 |a::l,b::m,o,hl,hh,⟨⟨v,h1,h2,h3⟩,h4⟩=>
  ⟨⟨v,hh 0 a b rfl rfl v h1,h2,h3⟩,Stab.conv (by simpa using hl) (λk a b h1 h2=>hh (k+1) a b (by simpa using h1) (by simpa using h2)) h4⟩
end
section
theorem Yn:((2:Nat):Int)=2:=rfl
variable {H:AB} {lv:Fs} {g:v7} {n i lo id:Nat} {α:Type}
theorem M1(hf:AP H n):AV prog 225 [CK g] H n λo H' n'=>o= .ret (.fn (.func 248) [] [.ptr n 0])/\H'=hset H n (.box (AE g.sh g.w g.h g.holes g.cells))/\n'=n+2:=by
 refine c225.a (AI AH.tnil (AJ ?_));simp only[eE,eN,seval,c225,AE,S1 hf]
def Gf:List BF:=[(1,0),(-1,0),(0,1),(0,-1),(1,-1),(-1,1)]
def DK(sh:Int):Nat:=if sh=1 then 4 else 6
theorem TY(sh:Int):Fc sh=Gf.take (DK sh):=by
 unfold Fc DK Gf;split<;>rfl
abbrev Re:List Fs:=[.int .i64 1,.int .i64 0,.int .i64 (-1),.int .i64 0,.int .i64 0,.int .i64 1,.int .i64 0,.int .i64 (-1),.int .i64 1,.int .i64 (-1),.int .i64 (-1),.int .i64 1]
abbrev Oy:List Fs:=Gf.map ON
abbrev clG(q:Nat):Fs:=.fn (.func 248) [] [.ptr q 0]
theorem Wg{ob:xq}(h:AD H i=some ob):hset H i ob=H:=by
 funext j;unfold hset;by_cases e:i=j
 ·subst e;rw[rt rfl];exact h.symm
 ·rw[rj e]
theorem RO.keep{enc:α->Fs}{e:Nat}{H':AB}{qs:List α}(h:RO enc e lo H lv qs)(hk:∀id e' l,lo<=id->AD H id=some (.arr e' l)->AD H' id=some (.arr e' l)):RO enc e lo H' lv qs:=by
 rcases h with h|⟨h1,id,rest,h2,h3,h4⟩
 ·exact .inl h
 ·exact .inr ⟨h1,id,rest,h2,h3,hk id _ _ h3 h4⟩
abbrev eNa(q:Nat):List (Nat×Bool×Fs):=[(1,true,.ptr 0 0),(2,true,.ptr 1 0),(3,true,.int .i64 0),(4,true,.ptr 10 0),(5,true,.ptr 12 0),(6,true,.ptr 15 0),(30,true,clG q)]
structure NbA(g:v7)(l':Nat)(i:Nat)(H:AB)(m:Nat):Prop where
 fr:AP H m
 lm:20<=m
 h0:AD H 0=some (.box (AE g.sh g.w g.h g.holes g.cells))
 h1:AD H 1=some (.box [.sl .nil []])
 h10:AD H 10=some (.box Re)
 h12:AD H 12=some (.box [.int .i64 (DK g.sh:Nat)])
 h14:AD H 14=some (.map (Hq ((Aa g.sh g.w g.cells).take i) 0) i)
 h15:AD H 15=some (.box [.mp 14])
 hq:AD H 17=some (.box (AE g.sh g.w g.h g.holes g.cells))
 hL:AD H 19=some (.lp ⟨l',.ready,none,85,eNa 17, #[31,32],Mi,Mj⟩)
theorem y_nbA{l':Nat}(hd:(Aa g.sh g.w g.cells).Nodup)(hi:i<g.cells.length){m:Nat}(F:NbA g l' i H m){R:Bool->AB->Nat->Prop}(hR:∀H' m',NbA g l' (i+1) H' m'->R true H' m'):
  CV prog l' [.int .i64 i,ON (Dn g i)] H m R:=by
 obtain⟨fr,lm,h0,h1,h10,h12,h14,h15,hq,hL⟩:=F;refine qT hL rfl (AI AH.tnil (AJ ?_));simp only[eE,eN,seval,Q1,Gl,um,uu,tM,uO,S1 fr,AQ];have y1:(m=19)=False:=ri zo;have y2:(m=15)=False:=ri zo;have y3:(m=14)=False:=ri zo;have y4:(14=m)=False:=ri zo;have y5:(15=m)=False:=ri zo;have y6:(19=m)=False:=ri zo;refine⟨_,(AA _ _ _ _ zo).trans hL,rfl,AI AH.tnil (AJ ?_)⟩;have hn:=Wd hd hi;have hf:Bi (ON (Dn g i)) (Hq ((Aa g.sh g.w g.cells).take i) 0)=none:=by rw[Mx,N7.2 hn];rfl
 have hs:=lJ hn;have hlen:((Aa g.sh g.w g.cells).take i).length=i:=by rw[sD,B8];omega
 rw[hlen]at hs;have hkt:(KT.arr 2 IntKind.i64).is (ON (Dn g i))=True:=ra ⟨rfl,rfl,zt⟩;simp only[eE,eN,seval,xE,Option.isSome_none,Q0,h15,h14,y2,y3,y6,QK,hkt,hf,hs];refine⟨⟨l',.busy,none,85,eNa 17, #[31,32],Mi,Mj⟩,by simp only[AT];simp,hR _ _ ⟨?_,?_,?_,?_,?_,?_,?_,?_,?_,?_⟩⟩
 ·intro j hj;have hj':m+2<=j:=hj;simp only[AT];repeat rw[rj zo]
  exact fr j zo
 ·simp only[];omega
 all_goals simp only[]
 ·repeat rw[AA _ _ _ _ zo]
  exact h0
 ·repeat rw[AA _ _ _ _ zo]
  exact h1
 ·repeat rw[AA _ _ _ _ zo]
  exact h10
 ·repeat rw[AA _ _ _ _ zo]
  exact h12
 ·rw[AA _ _ _ _ zo,AC,<-My hi]
 ·repeat rw[AA _ _ _ _ zo]
  exact h15
 ·repeat rw[AA _ _ _ _ zo]
  exact hq
 ·rw[AC]
abbrev eNb(q:Nat):List (Nat×Bool×Fs):=[(2,true,.ptr 1 0),(3,true,.int .i64 0),(4,true,.ptr 10 0),(5,true,.ptr 12 0),(6,true,.ptr 15 0),(41,true,clG q)]
structure NbB(g:v7)(l' q id:Nat)(c:Nat)(i:Nat)(H:AB)(m:Nat):Prop where
 fr:AP H m
 lq:id<q
 l20:20<=id
 lm:q+2<m
 h1:AD H 1=some (.box [.ref id 1 0 g.cells.length g.cells.length])
 h10:AD H 10=some (.box Re)\/AD H 10=some (.arr 2 Oy)
 h12:AD H 12=some (.box [.int .i64 (DK g.sh:Nat)])
 h14:AD H 14=some (.map (Hq (Aa g.sh g.w g.cells) 0) c)
 h15:AD H 15=some (.box [.mp 14])
 hq:AD H q=some (.box (AE g.sh g.w g.h g.holes g.cells))
 hL:AD H (q+2)=some (.lp ⟨l',.ready,none,85,eNb q, #[42,43],KO,KP⟩)
 hE:∃E,AD H id=some (.arr 1 E)/\E.length=g.cells.length/\(∀k,i<=k->k<g.cells.length->E[k]?=some (.sl .nil []))/\∀k,k<i->∃a,E[k]?=some a/\RO eI 1 (id+1) H a (HX g.sh (Aa g.sh g.w g.cells) (Dn g k))
def TZ(sh:Int)(S:List BF)(s:BF)(j:Nat):List Int:=(Gf.take j).filterMap λd=>Eo S (I2 s d)
theorem lL(sh:Int)(S:List BF)(s:BF):TZ sh S s (DK sh)=IZ sh S s:=by unfold TZ IZ;rw[TY]
theorem dU(sh:Int)(S:List BF)(s:BF){j:Nat}{d:BF}(h:Gf[j]?=some d):TZ sh S s (j+1)=TZ sh S s j++(Eo S (I2 s d)).toList:=by
 unfold TZ;rw[sf,h,List.filterMap_append];congr 1
theorem lM(sh:Int)(S:List BF)(s:BF)(j:Nat):(TZ sh S s j).length<=j:=by
 unfold TZ;refine sO (List.length_filterMap_le ..) ?_;rw[sD];omega
theorem lN{sh:Int}(h:AD H 10=some (.box Re)\/AD H 10=some (.arr 2 Oy)):(JQ H 6 2 0 (DK sh:Nat) (.ptr 10 0)).1=True/\(JQ H 6 2 0 (DK sh:Nat) (.ptr 10 0)).2=(hset H 10 (.arr 2 Oy),.ref 10 2 0 (DK sh) 6):=by
 have hm:DK sh=4\/DK sh=6:=by unfold DK;split<;>simp
 rcases h with h|h
 ·rcases hm with e|e<;>rw[e]<;>(simp [JQ,h,grp];rfl)
 ·rcases hm with e|e<;>rw[e]<;>simp [JQ,h,Gf,Wg h]
theorem Yo{l:List α}{x:α}(h:l[i]?=some x):l.set i x=l:=uR λk=>by
 rw[uS];split
 ·grind
 ·rfl
structure VNb where
 j:Nat
 lv:Fs
 H:AB
 n:Nat
theorem Wh{enc:α->Fs}{e:Nat}{qs:List α}(h:RO enc e lo H lv qs):lv.cells=[lv]/\nT lv=True:=by
 rcases h with⟨rfl,-⟩|⟨-,id,rest,rfl,-⟩<;>exact⟨rfl,ra zt⟩
theorem y_nbB{l' q c:Nat}(G:GrV g)(hd:(Aa g.sh g.w g.cells).Nodup)(hi:i<g.cells.length){m:Nat}(F:NbB g l' q id c i H m){R:Bool->AB->Nat->Prop}(hR:∀H' m',NbB g l' q id c (i+1) H' m'->R true H' m'):
  CV prog l' [.int .i64 i,ON (Dn g i)] H m R:=by
 obtain⟨fr,lq,l20,lm,h1,h10,h12,h14,h15,hq,hL,E,hE,hEl,hE1,hE2⟩:=F;refine qU hL rfl (AI AH.tnil (AJ ?_));simp only[eE,eN,seval,Q3,Gl,um,uu,tM,uO,S1 fr,AQ];refine⟨_,(AA _ _ _ _ zo).trans hL,rfl,AI AH.tnil (AJ ?_)⟩;have hlen:=B8 g;obtain⟨hr1,hr2,hr3⟩:=BX G.hG;generalize hlp:xq.lp ⟨l',.busy,none,85,eNb q, #[42,43],KO,KP⟩=lpO;generalize hS:Aa g.sh g.w g.cells=S at hd h14 hE2 hR hlen;generalize hs:Dn g i=s at hR;have y1:∀k,(12=m+k)=False:=λk=>ri zo
 obtain⟨s1,s2⟩:=lN (H:=hset (hset H m (.box [.int .i64 s.1,.int .i64 s.2])) (q+2) lpO) (sh:=g.sh) (by
  rw[AA _ _ _ _ zo,AA _ _ _ _ zo];exact h10)
 have z1:(m=12)=False:=ri zo;have z2:(q+2=12)=False:=ri zo;simp only[eE,eN,seval,xE,Q2,h12,z1,z2,s1,s2];have hH10:∀x ob,hset (hset (hset H m (.box [.int .i64 s.1,.int .i64 s.2])) (q+2) lpO) 10 ob x=AD (hset (hset (hset H m (.box [.int .i64 s.1,.int .i64 s.2])) (q+2) lpO) 10 ob) x:=λ_ _=>rfl
 have mk:DK g.sh<=6:=by unfold DK;split<;>omega
 have hsr: -16<=s.1/\s.1<=16/\ -16<=s.2/\s.2<=16:=by
  have gi:JK g (i:Int):=⟨zo,by rw[rr];exact hi⟩;obtain⟨k,hk,-,hg,hp,w1,w2,x1,x2,y1',y2',ey,xn⟩:=G.at gi;obtain rfl:k=i:=zo
  subst hs;unfold Dn DX;split<;>simp only[]<;>omega
 generalize hHb:hset (hset (hset H m (.box [.int .i64 s.1,.int .i64 s.2])) (q+2) lpO) 10 (.arr 2 Oy)=Hb;have b10:AD Hb 10=some (.arr 2 Oy):=by subst hHb;exact AC ..
 have bm:AD Hb m=some (.box [.int .i64 s.1,.int .i64 s.2]):=by grind [AA,AC]
 have bL:AD Hb (q+2)=some lpO:=by
  subst hHb;rw[AA _ _ _ _ zo,AC]
 have bo:∀x,x≠m->x≠q+2->x≠10->AD Hb x=AD H x:=λx n1 n2 n3=>by
  subst hHb;rw[AA _ _ _ _ (Ne.symm n3),AA _ _ _ _ (Ne.symm n2),AA _ _ _ _ (Ne.symm n1)]
 have bf:AP Hb (m+2):=λx hx=>by rw[bo x zo zo zo];exact fr x zo
 clear hHb hH10 s1 s2 h10;refine AO (λv:VNb=>⟨[(2,true,.ptr 1 0),(6,true,.ptr 15 0),(9,true,.int .i64 i),(10,true,.ptr m 0),(45,true,.ref 10 2 0 (DK g.sh) 6),(46,true,.int .i64 (DK g.sh:Nat)),(47,true,.int .i64 v.j)],v.H,v.n⟩)
  (λv=>v.j<=DK g.sh/\m+2<=v.n/\AP v.H v.n/\(∀x,x≠id->x<m+2->AD v.H x=AD Hb x)/\AD v.H id=some (.arr 1 (E.set i v.lv))/\RO eI 1 (m+2) v.H v.lv (TZ g.sh S s v.j)) (λv=>DK g.sh-v.j)
  ⟨0,.sl .nil [],Hb,m+2⟩ rfl ⟨rm _,rq _,bf,λ_ _ _=>rfl,?_,.inl ⟨rfl,rfl⟩⟩ ?_
 ·grind [Yo]
 rintro⟨j,lv,H2,n2⟩ ⟨hj,hn2,wp,my,hid2,wl⟩;simp only at hj hn2 wp my hid2 wl;have c1:AD H2 1=some (.box [.ref id 1 0 g.cells.length g.cells.length]):=by rw[my 1 zo zo,bo 1 zo zo zo];exact h1
 have qS:AD H2 14=some (.map (Hq S 0) c):=by rw[my 14 zo zo,bo 14 zo zo zo];exact h14
 have rV:AD H2 15=some (.box [.mp 14]):=by rw[my 15 zo zo,bo 15 zo zo zo];exact h15
 have rT:AD H2 10=some (.arr 2 Oy):=by rw[my 10 zo zo];exact b10
 have cm:AD H2 m=some (.box [.int .i64 s.1,.int .i64 s.2]):=by rw[my m zo zo];exact bm
 have wo:=Wh wl;have yh:(E.set i lv)[i]?=some lv:=by rw[List.getElem?_set_self zo]
 have xo:i<(E.set i lv).length:=by rw[tS];omega
 have hel:(E.set i lv).length=g.cells.length:=by rw[tS];omega
 have v1:∀k,(n2+k=m)=False:=λk=>ri zo
 have v2:∀k,(n2+k=1)=False:=λk=>ri zo
 have v3:∀k,(n2+k=14)=False:=λk=>ri zo
 have v4:∀k,(n2+k=15)=False:=λk=>ri zo
 have v5:∀k,(n2+k=10)=False:=λk=>ri zo
 have v6:∀k,(n2+k=id)=False:=λk=>ri zo
 have hfl:=lM g.sh S s j;by_cases c9:j<DK g.sh;case neg=>
  obtain rfl:j=DK g.sh:=zo
  rw[lL]at wl hfl;have hfs:=Ur g.sh hd s;have cL:AD H2 (q+2)=some lpO:=by rw[my (q+2) zo zo];exact bL
  have fin:∀H3,(∀x,x<m->x≠id->AD H3 x=AD H2 x)->AD H3 id=some (.arr 1 (E.set i lv))->AP H3 n2->RO eI 1 (id+1) H3 lv (HX g.sh S s)->
    ∃x,AD H3 (q+2)=some (.lp x)/\R true (hset H3 (q+2) (.lp {x with st:=.ready,pend:=none})) n2:=by
   intro H3 k1 k2 k3 k4;refine⟨⟨l',.busy,none,85,eNb q, #[42,43],KO,KP⟩,?_,hR _ _ ⟨k3.hset (rq _) zo,lq,l20,zo,?_,.inr ?_,?_,?_,?_,?_,AC ..,E.set i lv,?_,hel,λk h1 h2=>?_,λk h1=>?_⟩⟩
   ·rw[k1 (q+2) zo zo,cL,hlp]
   ·grind [AA]
   ·grind [AA]
   ·grind [AA]
   ·grind [AA]
   ·grind [AA]
   ·grind [AA]
   ·rw[AA _ _ _ _ zo];exact k2
   ·rw[List.getElem?_set_ne zo];exact hE1 k zo h2
   ·by_cases e:k=i
    ·subst e;refine⟨lv,yh,?_⟩;rw[hS,hs];exact k4.keep λx e' l hx ho=>by
      rw[AA _ _ _ _ (λe=>by subst e;rw[k1 (q+2) zo zo,cL,<-hlp]at ho;cases ho)];exact ho
    ·obtain⟨a,ha,hla⟩:=hE2 k zo;refine⟨a,by rw[List.getElem?_set_ne (λe'=>e e'.symm)];exact ha,?_⟩;rw[hS];rcases hla with h|⟨z1,z,rest,z2,z3,z4⟩
     ·exact .inl h
     ·have zm:=fr.lt z4;refine .inr ⟨z1,z,rest,z2,z3,?_⟩;have zq:z≠q+2:=λe=>by subst e;rw[hL]at z4;cases z4
      rw[AA _ _ _ _ (Ne.symm zq),k1 z zo zo,my z zo zo,bo z zo zq (λe=>zo)];exact z4
  simp only[eZ,seval,eY,Ad c9,c1,hid2,hel,AN hi,hi,yh,wo.1];rcases wl with⟨rfl,hq0⟩|⟨s6,z,rest,rfl,hz,hz2⟩
  ·refine QA.mono ?_;rintro o H3 n3 ⟨rfl,rfl,rfl⟩;simp only[eE,eN,BV];refine fin _ (λ_ _ _=>rfl) hid2 wp (.inl ⟨rfl,?_⟩);rw[<-hfs,hq0,List.mergeSort_nil]
  ·refine(RD hz2 zw zo).mono ?_;rintro o H3 n3 ⟨rfl,rfl,rfl⟩;rw[vj,List.drop_left];simp only[eE,eN,BV];have ye:(HX g.sh S s).length=(IZ g.sh S s).length:=by rw[<-hfs,Ep]
   refine fin _ (λx h1 h2=>AA _ _ _ _ zo) (by rw[AA _ _ _ _ zo];exact hid2) (wp.hset (rq _) (wp.lt hz2)) (.inr ⟨?_,z,rest,by rw[ye],zo,by rw[AC,hfs]⟩);intro e;rw[e]at ye;exact s6 (t6 ye.symm)
 have hj6:j<Gf.length:=by
  have:Gf.length=6:=rfl
  omega
 obtain⟨d,hgd⟩:∃d,Gf[j]?=some d:=⟨_,rc hj6⟩;have hdr: -1<=d.1/\d.1<=1/\ -1<=d.2/\d.2<=1:=by
  have hm:=te hgd;simp only[Gf,sP,uE,vF]at hm;rcases hm with rfl|rfl|rfl|rfl|rfl|rfl<;>decide
 have w1:IntKind.wrap .i64 (s.1+d.1)=s.1+d.1:=A6 zo zo;have w2:IntKind.wrap .i64 (s.2+d.2)=s.2+d.2:=A6 zo zo;have e:=AK (k:=j) zo;have hfind:Bi (.agg [.int .i64 (s.1+d.1),.int .i64 (s.2+d.2)]) (Hq S 0)=(Eo S (I2 s d)).map λn=>.int .i64 n:=Mx S (I2 s d)
 have hkt:(KT.arr 2 IntKind.i64).is (.agg [.int .i64 (s.1+d.1),.int .i64 (s.2+d.2)])=True:=ra ⟨rfl,rfl,zt⟩;have hsu:=dU g.sh S s hgd;cases hix:Eo S (I2 s d)with
 |none=>
  rw[hix]at hfind hsu;rw[Option.toList_none,sE]at hsu;simp only[eZ,seval,xE,eY,AN c9,rT,hj6,hgd,Bq wp,rV,cm,v1,v3,v4,w1,w2,qS,hkt,QK,hfind,C9,e,AQ,Yn];refine .mk ⟨j+1,lv,hset H2 (n2+2) (.box [.int .i64 d.1,.int .i64 d.2]),n2+4⟩ rfl ⟨c9,zp,wp.hset (m:=n2+4) zo zo,λx h1 h2=>?_,?_,?_⟩ zp
  ·simp only[];rw[AA _ _ _ _ zo];exact my x h1 h2
  ·simp only[];rw[AA _ _ _ _ zo];exact hid2
  ·simp only[hsu];exact wl.keep λx e' l hx ho=>by rw[AA _ _ _ _ (λe=>by subst e;rw[wp _ zo]at ho;cases ho)];exact ho
 |some b=>
 rw[hix]at hfind hsu;rw[Option.toList_some]at hsu;have hbl:(id<n2+4)=True:=ra zo;simp only[eZ,eX,seval,xE,eY,AN c9,rT,hj6,hgd,Bq wp,rV,cm,v1,v2,v3,v4,v6,w1,w2,qS,hkt,QK,hfind,C9,AQ,Yn,c1,hid2,AN hi,xo,yh,wo.1,hbl];have hlv2:RO eI 1 (m+2) (hset H2 (n2+2) (.box [.int .i64 d.1,.int .i64 d.2])) lv (TZ g.sh S s j):=wl.keep λx e' l hx ho=>by rw[AA _ _ _ _ (λe=>by subst e;rw[wp _ zo]at ho;cases ho)];exact ho
 have hid3:AD (hset H2 (n2+2) (.box [.int .i64 d.1,.int .i64 d.2])) id=some (.arr 1 (E.set i lv)):=by rw[AA _ _ _ _ zo];exact hid2
 have hf3:AP (hset H2 (n2+2) (.box [.int .i64 d.1,.int .i64 d.2])) (n2+4):=wp.hset zo zo;have hk3:∀x,x≠id->x<m+2->AD (hset H2 (n2+2) (.box [.int .i64 d.1,.int .i64 d.2])) x=AD Hb x:=λx h1 h2=>by rw[AA _ _ _ _ zo];exact my x h1 h2
 generalize hset H2 (n2+2) (.box [.int .i64 d.1,.int .i64 d.2])=H3 at hlv2 hid3 hf3 hk3;refine RE (enc:=eI) (lo:=m+2) (qs:=TZ g.sh S s j) (z0:=0) hlv2 rfl zd rfl rfl (Ac zo zd) (hf3 _ zo) zo zo ?_;intro z rest hz hzm;have hzl:z<n2+13:=by
  rcases hzm with rfl|⟨Z,h⟩
  ·omega
  ·have:=hf3.lt h;omega
 have u1:(z=id)=False:=ri zo;simp only[eZ,seval,eY,KM,LT,hid3,u1,AN hi,hi,yh,hel,List.set_set,e];refine .mk ⟨j+1,.ref z 1 0 (TZ g.sh S s j++[b]).length ((TZ g.sh S s j++[b]).length+rest.length),hset (hset H3 z (.arr 1 (((TZ g.sh S s j++[b])++rest).map eI))) id (.arr 1 (E.set i (.ref z 1 0 (TZ g.sh S s j++[b]).length ((TZ g.sh S s j++[b]).length+rest.length)))),n2+15⟩ rfl ⟨c9,zp,?_,λx h1 h2=>?_,?_,?_⟩ zp
 ·exact(hf3.hset (m:=n2+15) zo zo).hset (rq _) (show id<n2+15 by omega)
 ·simp only[];rw[AA _ _ _ _ zo,AA _ _ _ _ zo];exact hk3 x h1 h2
 ·simp only[];rw[AC]
 ·simp only[hsu];exact .inr ⟨zw,z,rest,rfl,hz,by rw[AA _ _ _ _ zo,AC]⟩
def NbR(g:v7):v8->AB->Nat->Prop:=λo H _=>
 (GO g.sh g.w g.h g.holes g.cells=false/\o= .ret (.tup [.sl .nil [],.int .i64 130]))\/
 (GO g.sh g.w g.h g.holes g.cells=true/\∃id E,o= .ret (.tup [.ref id 1 0 g.cells.length g.cells.length,.int .i64 0])/\AD H id=some (.arr 1 E)/\E.length=g.cells.length/\
  ∀k,k<g.cells.length->∃a,E[k]?=some a/\RO eI 1 (id+1) H a (HX g.sh (Aa g.sh g.w g.cells) (Dn g k)))
def Tnb:Bc:=AG 224 (s1 DY (λg=>An g.holes/\An g.cells) Jf) tnil
theorem lO:AH prog Tnb:=AH.tnil.add (q1 λg h=>p224 g.sh g.w g.h g.holes g.cells h.1 h.2)
theorem t_nb(g:v7)(hh:An g.holes)(hc:An g.cells):AV prog 156 [CK g] Ai 0 (NbR g):=by
 refine a156 (AI lO (AJ ?_));have f1:DY.ok (.agg (AE g.sh g.w g.h g.holes g.cells))=True:=EH g;have f2:DY.dec (.agg (AE g.sh g.w g.h g.holes g.cells))=g:=DG g;simp only[AE]at f1 f2;cases hgo:GO g.sh g.w g.h g.holes g.cells with
 |false=>
  have hck:Jf g= .int .i64 130:=by unfold Jf;rw[hgo];rfl
  simp only[eZ,seval,rf,BG,gU,AE,Tnb,s1,f1,f2,ra hh,ra hc,hck,AG];exact .inl ⟨hgo,rfl⟩
 |true=>
 have hck:Jf g= .int .i64 0:=by unfold Jf;rw[hgo];rfl
 have hG:Av g.sh g.w g.h g.holes=some g.cells:=t5 hgo;have G:GrV g:=⟨hG,hh⟩;obtain⟨hr1,hr2,hr3⟩:=BX hG;have hw:1<=g.w:=by
  unfold Av at hG;split at hG
  ·rename_i q;exact q.2.1
  ·cases hG
 have hd:(Aa g.sh g.w g.cells).Nodup:=MH hw hr1 λp hp=>(hr3 p hp).1
 have h4:g.sh=1->(4:Int)=((DK g.sh:Nat):Int):=λe=>by unfold DK;rw[rt e];rfl
 have h6:g.sh≠1->(6:Int)=((DK g.sh:Nat):Int):=λe=>by unfold DK;rw[rj e];rfl
 rcases Classical.em (g.sh=1)with wn|wn
 case' inl=>
  simp only[eZ,seval,re,xE,gU,AE,Tnb,s1,f1,f2,ra hh,ra hc,hck,BS wn,AQ,AG];rw[h4 wn]
 case' inr=>
  simp only[eZ,seval,re,xE,gU,AE,Tnb,s1,f1,f2,ra hh,ra hc,hck,A3 wn,AQ,AG];rw[h6 wn]
 all_goals
  generalize hH0:hset _ 15 (xq.box [Fs.mp 14])=H0;have a0:AD H0 0=some (.box (AE g.sh g.w g.h g.holes g.cells)):=by rw[<-hH0];rfl
  have a1:AD H0 1=some (.box [.sl .nil []]):=by rw[<-hH0];rfl
  have gQ:AD H0 10=some (.box Re):=by rw[<-hH0];rfl
  have a12:AD H0 12=some (.box [.int .i64 (DK g.sh:Nat)]):=by rw[<-hH0];rfl
  have a14:AD H0 14=some (.map [] 0):=by rw[<-hH0];rfl
  have a15:AD H0 15=some (.box [.mp 14]):=by rw[<-hH0];rfl
  have af:AP H0 17:=by
   rw[<-hH0];repeat' (first|exact AP.nil|refine AP.hset ?_ (rq _) zd)
  clear hH0;refine(M1 af).mono ?_;rintro o H1 n1 ⟨rfl,rfl,rfl⟩;simp only[eE,eN,seval,BV,GB];intro l';refine(Mv g G (J:=NbA g l') (λi H n F=>F.hq) (λi H n hi F R hR=>y_nbA hd hi F hR) ?_).mono ?_
  ·refine⟨?_,zd,?_,?_,?_,?_,?_,?_,?_,?_⟩
   ·exact(af.hset (m:=20) zd zd).hset (rq _) zd
   all_goals first|(rw[AA _ _ _ _ zd,AA _ _ _ _ zd];assumption)|(rw[AA _ _ _ _ zd,AC])|(rw[AC])
  rintro o H2 n2 ⟨rfl,F⟩;have Ffr:=F.fr;have Flm:=F.lm;have F0:=F.h0;have F1:=F.h1;have F10:=F.h10;have F12:=F.h12;have F14:=F.h14;have F15:=F.h15;have FL:=F.hL;rw[sQ (by rw[B8];exact rq _)]at F14;simp only[AE]at F0;have u1:(n2=1)=False:=ri zo;have u2:∀k,(n2+k=1)=False:=λk=>ri zo
  have u3:∀k,(n2+k=0)=False:=λk=>ri zo
  have u4:∀k,(n2+k=19)=False:=λk=>ri zo
  have w1:Al g.cells.length 24=True:=ra (Ac zo zd);have w2:((g.cells.length:Int)<=35184372088832)=True:=ra zo;have u5:(n2=16)=False:=ri zo;simp only[eE,eN,seval,eY,GA,FL,F0,Bq Ffr,F1,u2,u3,u5,w1,w2];generalize hH3:hset _ 1 (xq.box [Fs.ref (n2+3) 1 0 g.cells.length g.cells.length])=H3;have d0:AD H3 0=some (.box (AE g.sh g.w g.h g.holes g.cells)):=by
   rw[<-hH3];repeat rw[AA _ _ _ _ zo]
   exact F0
  have d1:AD H3 1=some (.box [.ref (n2+3) 1 0 g.cells.length g.cells.length]):=by rw[<-hH3,AC]
  have d10:AD H3 10=some (.box Re):=by
   rw[<-hH3];repeat rw[AA _ _ _ _ zo]
   exact F10
  have d12:AD H3 12=some (.box [.int .i64 (DK g.sh:Nat)]):=by
   rw[<-hH3];repeat rw[AA _ _ _ _ zo]
   exact F12
  have d14:AD H3 14=some (.map (Hq (Aa g.sh g.w g.cells) 0) g.cells.length):=by
   rw[<-hH3];repeat rw[AA _ _ _ _ zo]
   exact F14
  have d15:AD H3 15=some (.box [.mp 14]):=by
   rw[<-hH3];repeat rw[AA _ _ _ _ zo]
   exact F15
  have dE:AD H3 (n2+3)=some (.arr 1 (List.replicate g.cells.length (.sl .nil []))):=by rw[<-hH3,AA _ _ _ _ zo,AC]
  have df:AP H3 (n2+5):=by
   rw[<-hH3];exact(((Ffr.hset (m:=n2+5) zo zo).hset (m:=n2+5) (rq _) zo).hset (rq _) zo)
  clear hH3;refine(M1 df).mono ?_;rintro o H4 n4 ⟨rfl,rfl,rfl⟩;simp only[eE,eN,seval,BV,GB];intro l2;refine(Mv g G (J:=NbB g l2 (n2+5) (n2+3) g.cells.length) (λi H n F=>F.hq) (λi H n hi F R hR=>y_nbB G hd hi F hR) ?_).mono ?_
  ·refine⟨(df.hset (m:=n2+8) zo zo).hset (m:=n2+8) (rq _) zo,zo,zo,zo,?_,.inl ?_,?_,?_,?_,?_,AC ..,List.replicate g.cells.length (.sl .nil []),?_,tP,λk _ hk=>?_,λk hk=>absurd hk (td _)⟩
   ·repeat rw[AA _ _ _ _ zo]
    exact d1
   ·repeat rw[AA _ _ _ _ zo]
    exact d10
   ·repeat rw[AA _ _ _ _ zo]
    exact d12
   ·repeat rw[AA _ _ _ _ zo]
    exact d14
   ·repeat rw[AA _ _ _ _ zo]
    exact d15
   ·rw[AA _ _ _ _ zo,AC]
   ·repeat rw[AA _ _ _ _ zo]
    exact dE
   ·rw[List.getElem?_replicate,rt hk]
  rintro o H5 n5 ⟨rfl,K⟩;obtain⟨kfr,klq,kl2,klm,k1,k10,k12,k14,k15,kq,kL,E,kE,kEl,-,kE2⟩:=K;have e1:(n2+5+2=1)=False:=ri zo;have e2:(n2+7=1)=False:=ri zo;simp only[eE,eN,seval,BG,GA,kL,k1,e1];refine .inr ⟨hgo,n2+3,E,rfl,?_,kEl,λk hk=>?_⟩
  ·repeat rw[AA _ _ _ _ zo]
   exact kE
  ·obtain⟨a,ha,hla⟩:=kE2 k hk;refine⟨a,ha,hla.keep λx e' l hx ho=>?_⟩;have x1:x≠n2+7:=λe=>by subst e;rw[kL]at ho;cases ho
   rw[AA _ _ _ _ zo,AA _ _ _ _ (Ne.symm x1)];exact ho
def Rf:Fs->Option Nat
 | .ref i _ _ _ _=>some i
 |_=>none
theorem dV{cap:Nat}{E rest:List Fs}(ho:AD H id=some (.frz 1 (E++rest)))(hc:E.length<=cap){g:q8}{w:World}{x:Value}(hR:x7 g H n w)(hv:AR g (.ref id 1 0 E.length cap) x):AR g (.sl (.none 1) E) x:=by
 obtain⟨L,h1,h2,rfl⟩:=hv;obtain⟨L',j1,j2,j3⟩:=hR.obj id _ ho;rw[h1]at j1;cases j1;refine .inr ⟨zt,L.blk,0,cap,⟨none,zw,.inl rfl⟩,hc,?_,zt⟩;have:=Stab.take E.length _ _ j3;rw[vj]at this;exact this
theorem Yp{cap:Nat}{E rest:List Fs}{xs:List (List Int)}(ho:AD H id=some (.frz 1 (E++rest)))(hc:E.length<=cap)(hl:E.length=xs.length)(he:∀(k:Nat) a x,E[k]?=some a->xs[k]?=some x->LF 1 a H (x.map eI)){g:q8}{w:World}{y:Value}(hR:x7 g H n w)(hv:AR g (.ref id 1 0 E.length cap) y):AR g (Bv xs) y:=by
 have h1:=dV ho hc hR hv;rcases h1 with⟨q1,rfl,q3⟩|⟨-,b,o,cap,hv,hc,hst,-⟩
 ·refine .inl ⟨?_,rfl,zt⟩;have:xs=[]:=t6 (by rw[<-hl,q1];rfl);rw[this];rfl
 ·refine .inr ⟨zt,b,o,cap,?_,by rw[r9,<-hl];exact hc,?_,zt⟩
  ·grind
  ·refine Stab.conv (by rw[r9];exact hl) (λk a b ha hb x hx=>?_) hst;rw[sb,tO]at hb;obtain⟨z,hz,rfl⟩:=hb;exact LS (he k a z ha hz) hR hx
theorem RO.seal{qs:List Int}{ids:List Nat}(h:RO eI 1 lo H lv qs)(hi:∀z,Rf lv=some z->z∈ids):LF 1 lv (We ids H) (qs.map eI):=by
 rcases h with⟨rfl,rfl⟩|⟨s6,z,rest,rfl,-,h4⟩
 ·exact .inl ⟨rfl,_,rfl,.inl rfl⟩
 ·refine .inr ⟨by simpa using s6,z,_,rest.map eI,by rw[r9],?_,zw⟩;rw[Mz,rt (hi z rfl),h4,rz];rfl
def NbS(g:v7):v8->AB->Nat->Prop:=λo H _=>
 (GO g.sh g.w g.h g.holes g.cells=false/\o= .ret (.tup [.sl .nil [],.int .i64 130]))\/
 (GO g.sh g.w g.h g.holes g.cells=true/\∃id E,o= .ret (.tup [.ref id 1 0 g.cells.length g.cells.length,.int .i64 0])/\AD H id=some (.frz 1 E)/\E.length=g.cells.length/\
  ∀k,k<g.cells.length->∃a,E[k]?=some a/\LF 1 a H ((HX g.sh (Aa g.sh g.w g.cells) (Dn g k)).map eI))
theorem p156(g:v7)(hh:An g.holes)(hc:An g.cells):Aw prog 156 [CK g] (Lg g):=by
 refine⟨⟨BL 0 ..,zt⟩,by unfold Lg;split<;>exact⟨BC 0 _,zt,zt⟩,AV.out (AV.sealN (g.cells.length+1) (t_nb g hh hc) (R':=NbS g) ?_) ?_⟩
 ·rintro o H n (h|⟨hg,id,E,ho,hE,hl,hk⟩)
  ·exact⟨[],rm _,.inl h⟩
  ·refine⟨id::E.filterMap Rf,?_,.inr ⟨hg,id,E,ho,?_,hl,λk hk'=>?_⟩⟩
   ·grind
   ·rw[Mz,rt (sX ..),hE];rfl
   ·obtain⟨a,ha,hla⟩:=hk k hk';exact⟨a,ha,hla.seal λz hz=>tB _ (List.mem_filterMap.2 ⟨a,te ha,hz⟩)⟩
 ·rintro o H n (⟨hg,rfl⟩|⟨hg,id,E,rfl,hE,hl,hk⟩)
  ·refine⟨_,⟨_,rfl,?_⟩,λg w e hR he=>he⟩;unfold Lg;rw[hg];exact Wk.tup (.cons (Wk.sl (.inr rfl)) (.cons (Wk.refl _) .nil))
  ·refine⟨.ret (Lg g),⟨_,rfl,Wk.refl _⟩,λgh w e hR he=>?_⟩;cases e with
   |panicked c=>exact he.elim
   |outgrown=>exact he.elim
   |returned x=>
    have hv:Lg g= .tup [Bv (El g.sh (Aa g.sh g.w g.cells)),.int .i64 0]:=by unfold Lg;rw[hg];rfl
    rw[hv];obtain⟨vs,rfl,y,r,e1,k1,k2⟩:=he;refine⟨vs,rfl,y,r,e1,?_,k2⟩;rw[<-hl]at k1;refine Yp (rest:=[]) (by rw[sE];exact hE) (rq _) (by rw[hl,El,r9,B8]) (λk a z ha hz=>?_) hR k1;have hkl:k<g.cells.length:=by rw[<-hl];exact(tA.1 ha).1
    obtain⟨a',ha',hla⟩:=hk k hkl;rw[ha]at ha';obtain rfl:=Option.some.inj ha';rw[El,sb,D9 hkl,sU]at hz;rw[<-Option.some.inj hz];exact hla
end
end Go.AM
