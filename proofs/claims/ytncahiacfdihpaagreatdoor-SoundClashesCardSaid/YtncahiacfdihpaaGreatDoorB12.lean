/-
  Parts of the proof. Conditions: none.
-/
import Derived.Test.YtncahiacfdihpaaGreatDoorB11
set_option maxRecDepth 20000
set_option linter.all false
namespace Go.AM
open Go.Lib Go.Proofs Go.Proofs.Tryz
structure GrV(g:j9):Prop where
 hG:Ai g.sh g.w g.h g.holes=some g.cells
 ho:few g.holes
def Ac(g:j9)(c:Int):Int:=g.cells.getD c.toNat 0
def inG(g:j9)(c:Int):Prop:=0<=c/\c.toNat<g.cells.length
def GrV.at{g:j9}(G:GrV g){c:Int}(h:inG g c):∃k:Nat,c=(k:Int)/\k<g.cells.length/\g.cells[k]?=some (Ac g c)/\0<=Ac g c/\1<=g.w/\g.w<=16/\0<=(Ac g c).tmod g.w/\(Ac g c).tmod g.w<16/\0<=(Ac g c).tdiv g.w/\(Ac g c).tdiv g.w<16/\((Ac g c).tdiv g.w).tdiv 2=(Ac g c).tdiv g.w/2/\(g.sh=1\/g.sh=2):=by
 obtain⟨h0,h1⟩:=h;obtain⟨hs,w1,w2,k1,k2,-,-,-,hc⟩:=Fh G.hG;obtain⟨-,-,hr⟩:=Ax G.hG;have hg:=W2 h1;have hp:g.cells[c.toNat]?=some (Ac g c):=by unfold Ac;rw[YB,hg];rfl
 have hm:Ac g c∈g.cells:=Xw hp;have x6:=hm;rw[hc]at x6;have hm3:=(Yn.mp x6).1;have hq:0<=Ac g c/\Ac g c<g.w*g.h:=by grind [Bu]
 refine⟨c.toNat,zo,h1,hp,hq.1,w1,w2,Int.tmod_nonneg _ hq.1,by have:=Int.tmod_lt_of_pos (Ac g c) (b:=g.w) zo;omega,Int.tdiv_nonneg hq.1 zo,?_,Int.tdiv_eq_ediv_of_nonneg (Int.tdiv_nonneg hq.1 zo),hs⟩;rw[Int.tdiv_eq_ediv_of_nonneg hq.1];have:=Int.ediv_lt_of_lt_mul (by omega:0<g.w) (by rw[Int.mul_comm];exact hq.2);omega
def p169(g:j9)(c:Int)(G:GrV g)(h:inG g c):Pur prog 169 [B0 g,.int .i64 c] (.int .i64 ((Ac g c).tmod g.w)):=by
 obtain⟨k,rfl,hk,hg,hp,w1,w2,x1,x2,y1,y2,ey,hs⟩:=G.at h;have hw:(g.w=0)=False:=W4 zo;have l7:((k:Int)<(g.cells.length:Int))=True:=W1 zo;refine .mk ⟨Aq 0 ..,trivial,trivial⟩ trivial (c169.a (AF AI.tnil (AG ?_)));simp only[eE,eN,seval,eY,c169,AD,hg,l7,hw]
def p170(g:j9)(c:Int)(G:GrV g)(h:inG g c):Pur prog 170 [B0 g,.int .i64 c] (.int .i64 ((Ac g c).tdiv g.w)):=by
 obtain⟨k,rfl,hk,hg,hp,w1,w2,x1,x2,y1,y2,ey,hs⟩:=G.at h;have hw:(g.w=0)=False:=W4 zo;have l7:((k:Int)<(g.cells.length:Int))=True:=W1 zo;have e1:IntKind.wrap .i64 ((Ac g k).tdiv g.w)=(Ac g k).tdiv g.w:=An zo zo;refine .mk ⟨Aq 0 ..,trivial,trivial⟩ trivial (c170.a (AF AI.tnil (AG ?_)));simp only[eE,eN,seval,eY,c170,AD,hg,l7,hw,e1]
def fCol(g:j9)(c:Int):Fs:=.int .i64 ((Ac g c).tmod g.w)
def fRow(g:j9)(c:Int):Fs:=.int .i64 ((Ac g c).tdiv g.w)
def axA(g:j9)(c:Int):Int:=(Ac g c).tmod g.w-((Ac g c).tdiv g.w).tdiv 2
def fAx(g:j9)(c:Int):Fs:=.int .i64 (axA g c)
def Th6c:Tab:=tadd 169 (s2 dGd dI (λg c=>GrV g/\inG g c) fCol) (tadd 170 (s2 dGd dI (λg c=>GrV g/\inG g c) fRow) tnil)
def LO:AI prog Th6c:=(AI.tnil.add (q2 λg c h=>p170 g c h.1 h.2)).add (q2 λg c h=>p169 g c h.1 h.2)
def p171(g:j9)(c:Int)(G:GrV g)(h:inG g c):Pur prog 171 [B0 g,.int .i64 c] (fAx g c):=by
 obtain⟨k,-,hk,hg,hp,w1,w2,x1,x2,y1,y2,ey,hs⟩:=G.at h;have f1:dGd.ok (.agg (AD g.sh g.w g.h g.holes g.cells))=True:=DQ g;have f2:dGd.dec (.agg (AD g.sh g.w g.h g.holes g.cells))=g:=CD g;simp only[AD]at f1 f2;unfold fAx axA;have hG:(GrV g)=True:=W1 G;have hI:(inG g c)=True:=W1 h;refine .mk ⟨Aq 0 ..,trivial,trivial⟩ trivial (c171.a (AF LO (AG ?_)));have a0:=Rw y1;have e1:IntKind.wrap .i64 ((Ac g c).tdiv g.w-((Ac g c).tdiv g.w).tmod 2)=(Ac g c).tdiv g.w-((Ac g c).tdiv g.w).tmod 2:=by
  have:=Int.tmod_nonneg 2 y1;have:=Int.tmod_lt_of_pos ((Ac g c).tdiv g.w) (b:=2) zd;exact An zo zo
 have e2:IntKind.wrap .i64 (((Ac g c).tdiv g.w).tdiv 2)=((Ac g c).tdiv g.w).tdiv 2:=An zo zo;have e3:IntKind.wrap .i64 ((Ac g c).tmod g.w-((Ac g c).tdiv g.w).tdiv 2)=(Ac g c).tmod g.w-((Ac g c).tdiv g.w).tdiv 2:=An zo zo;simp only[eE,eN,seval,c171,AD,Th6c,s2,f1,f2,A0,Ah,fCol,fRow,hG,hI,a0,e1,e2,e3,tadd]
def Th6a:Tab:=tadd 171 (s2 dGd dI (λg c=>GrV g/\inG g c) fAx) Th6c
def PH:AI prog Th6a:=LO.add (q2 λg c h=>p171 g c h.1 h.2)
theorem PI(a:List Fs)(H:AC):Th6a 171 a H=s2 dGd dI (λg c=>GrV g/\inG g c) fAx a H:=rfl
theorem PJ(a:List Fs)(H:AC):Th6a 169 a H=s2 dGd dI (λg c=>GrV g/\inG g c) fCol a H:=rfl
theorem Mc(a:List Fs)(H:AC):Th6a 170 a H=s2 dGd dI (λg c=>GrV g/\inG g c) fRow a H:=rfl
def p126(g:j9)(a b:Int)(G:GrV g)(ha:inG g a)(hb:inG g b):Pur prog 126 [B0 g,.int .i64 a,.int .i64 b] (.bool (besR g.sh (C9 g.sh g.w (Ac g a)) (C9 g.sh g.w (Ac g b)))):=by
 obtain⟨k,-,-,-,-,w1,w2,x1,x2,y1,y2,ey,hs⟩:=G.at ha;obtain⟨k',-,-,-,-,-,-,u1,u2,v1,v2,ev,-⟩:=G.at hb;have f1:dGd.ok (.agg (AD g.sh g.w g.h g.holes g.cells))=True:=DQ g;have f2:dGd.dec (.agg (AD g.sh g.w g.h g.holes g.cells))=g:=CD g;simp only[AD]at f1 f2;have hG:(GrV g)=True:=W1 G;have hI:(inG g a)=True:=W1 ha;have hJ:(inG g b)=True:=W1 hb;have e1:IntKind.wrap .i64 ((Ac g b).tmod g.w-(Ac g a).tmod g.w)=(Ac g b).tmod g.w-(Ac g a).tmod g.w:=An zo zo;have e2:IntKind.wrap .i64 ((Ac g b).tdiv g.w-(Ac g a).tdiv g.w)=(Ac g b).tdiv g.w-(Ac g a).tdiv g.w:=An zo zo;have e3:IntKind.wrap .i64 (axA g b-axA g a)=axA g b-axA g a:=by
  unfold axA;exact An zo zo
 refine .mk ⟨Aq 0 ..,trivial,trivial,trivial⟩ trivial (c126.a (AF PH (AG ?_)));rcases hs with h1|h2
 ·have q:besR g.sh (C9 g.sh g.w (Ac g a)) (C9 g.sh g.w (Ac g b))=(decide ((Ac g b).tdiv g.w-(Ac g a).tdiv g.w=0)&&(decide ((Ac g b).tmod g.w-(Ac g a).tmod g.w=1)||decide ((Ac g b).tmod g.w-(Ac g a).tmod g.w= -1))||decide ((Ac g b).tmod g.w-(Ac g a).tmod g.w=0)&&(decide ((Ac g b).tdiv g.w-(Ac g a).tdiv g.w=1)||decide ((Ac g b).tdiv g.w-(Ac g a).tdiv g.w= -1))):=by
   unfold besR C9;simp only[X0 h1,W6 (by omega:¬g.sh=2)]
  have hq:(g.sh=1)=True:=W1 h1;rw[q];simp only[eZ,seval,c126,AD,PJ,Mc,s2,f1,f2,A0,Ah,fCol,fRow,hG,hI,hJ,e1,e2,hq]
 ·have q:besR g.sh (C9 g.sh g.w (Ac g a)) (C9 g.sh g.w (Ac g b))=(decide (axA g b-axA g a=1)&&decide ((Ac g b).tdiv g.w-(Ac g a).tdiv g.w=0)||decide (axA g b-axA g a= -1)&&decide ((Ac g b).tdiv g.w-(Ac g a).tdiv g.w=0)||decide (axA g b-axA g a=0)&&decide ((Ac g b).tdiv g.w-(Ac g a).tdiv g.w=1)||decide (axA g b-axA g a=0)&&decide ((Ac g b).tdiv g.w-(Ac g a).tdiv g.w= -1)||decide (axA g b-axA g a=1)&&decide ((Ac g b).tdiv g.w-(Ac g a).tdiv g.w= -1)||decide (axA g b-axA g a= -1)&&decide ((Ac g b).tdiv g.w-(Ac g a).tdiv g.w=1)):=by
   unfold besR C9 axA;simp only[W6 (by omega:¬g.sh=1),X0 h2]
  have hq:(g.sh=1)=False:=W4 zo;rw[q];simp only[eZ,seval,c126,AD,PJ,Mc,PI,s2,f1,f2,A0,Ah,fCol,fRow,fAx,hG,hI,hJ,e1,e2,e3,hq]
def Hx(g:j9)(f c:Int):Int:=if f=1 then(Ac g c).tdiv g.w else if g.sh=1 then(Ac g c).tmod g.w else if f=2 then axA g c else axA g c+(Ac g c).tdiv g.w
def p172(g:j9)(f c:Int)(G:GrV g)(h:inG g c):Pur prog 172 [B0 g,.int .i64 f,.int .i64 c] (.int .i64 (Hx g f c)):=by
 obtain⟨k,-,-,-,-,w1,w2,x1,x2,y1,y2,ey,hs⟩:=G.at h;have f1:dGd.ok (.agg (AD g.sh g.w g.h g.holes g.cells))=True:=DQ g;have f2:dGd.dec (.agg (AD g.sh g.w g.h g.holes g.cells))=g:=CD g;simp only[AD]at f1 f2;have hG:(GrV g)=True:=W1 G;have hI:(inG g c)=True:=W1 h;have e1:IntKind.wrap .i64 (axA g c+(Ac g c).tdiv g.w)=axA g c+(Ac g c).tdiv g.w:=by
  unfold axA;exact An zo zo
 refine .mk ⟨Aq 0 ..,trivial,trivial,trivial⟩ trivial (c172.a (AF PH (AG ?_)));unfold Hx;by_cases q1:f=1
 ·rw[X0 q1];simp only[eZ,seval,c172,AD,Mc,s2,f1,f2,A0,Ah,fRow,hG,hI,W1 q1]
 rw[W6 q1];by_cases q2:g.sh=1
 ·rw[X0 q2];simp only[eZ,seval,c172,AD,PJ,s2,f1,f2,A0,Ah,fCol,hG,hI,W4 q1,W1 q2]
 rw[W6 q2];by_cases q3:f=2
 ·rw[X0 q3];simp only[eZ,seval,c172,AD,PI,s2,f1,f2,A0,Ah,fAx,hG,hI,W4 q1,W4 q2,W1 q3]
 rw[W6 q3];simp only[eZ,seval,c172,AD,Mc,PI,s2,f1,f2,A0,Ah,fRow,fAx,hG,hI,W4 q1,W4 q2,W4 q3,e1]
def spC(g:j9)(c:Nat):Spot:=C9 g.sh g.w (Ac g (c:Int))
def DG{g:j9}{c:Nat}(h:c<g.cells.length):(AT g.sh g.w g.cells)[c]?=some (spC g c):=by
 unfold AT spC Ac;rw[Xa,W2 h,X1,YB,W2 h];rfl
def BI(g:j9):(AT g.sh g.w g.cells).length=g.cells.length:=W0 ..
def nbB(g:j9)(a b:Nat):Bool:=besR g.sh (spC g a) (spC g b)
def nbL(g:j9)(a:Nat):List Int:=idxP g.cells.length (nbB g a)
def VD(g:j9):(List.range g.cells.length).map (nbL g)=nbsS g.sh (AT g.sh g.w g.cells):=by
 unfold nbsS;refine Zd λi=>?_
 rw[Xa,Xa];by_cases h:i<g.cells.length
 ·rw[DG h,Zr h];simp only[Xz];rw[Ux,BI];unfold nbL;congr 1;refine Ce λb hb=>?_
  rw[DG hb];exact MV ..
 ·simp_all [BI]
def nbV(g:j9):Fs:=if grOK g.sh g.w g.h g.holes g.cells then .tup [eLl (nbsS g.sh (AT g.sh g.w g.cells)),.int .i64 0]else .tup [eLl [],.int .i64 130]
structure IFil(m:Nat)(P:Nat->Bool)(H0:AC)(n0:Nat)(v:VRi):Prop where
 hj:v.j<=m
 hn:n0<=v.n
 fr:AQ v.H v.n
 hk:∀id,id<n0->hget v.H id=hget H0 id
 tok:tkG 1 n0 v.H v.tc
 es:v.tc.esz=1\/idxP v.j P=[]
structure INb(g:j9)(m:Nat)(L:Nat->List (List Int))(v:VRg):Prop where
 hi:v.i<=m
 hn:3<=v.n
 fr:AQ v.H v.n
 h0:hget v.H 0=some (.box (AD g.sh g.w g.h g.holes g.cells))
 tok:tkG 1 1 v.H v.tl
 es:v.tl.esz=1\/v.E=[]
 hE:Wks v.E ((L v.i).map eIs)
def fBes(g:j9)(a b:Int):Fs:=.bool (besR g.sh (C9 g.sh g.w (Ac g a)) (C9 g.sh g.w (Ac g b)))
def Thn:Tab:=tadd 126 (s3 dGd dI dI (λg a b=>GrV g/\inG g a/\inG g b) fBes) Trr
def Thn_ok:AI prog Thn:=PB.add (q3 λg a b h=>p126 g a b h.1 h.2.1 h.2.2)
theorem Thn_b(a:List Fs)(H:AC):Thn 126 a H=s3 dGd dI dI (λg a b=>GrV g/\inG g a/\inG g b) fBes a H:=rfl
theorem Thn_c(a:List Fs)(H:AC):Thn 125 a H=s1 dGd (λg=>few g.holes) chkV a H:=rfl
def p88(g:j9)(hh:few g.holes):Pur prog 88 [B0 g] (nbV g):=by
 refine .mk ⟨Aq 0 ..,trivial⟩ (by unfold nbV;split<;>exact⟨Ak 0 _,trivial,trivial⟩) (c88.a (AF Thn_ok (AG ?_)));have f1:dGd.ok (.agg (AD g.sh g.w g.h g.holes g.cells))=True:=DQ g;have f2:dGd.dec (.agg (AD g.sh g.w g.h g.holes g.cells))=g:=CD g;simp only[AD]at f1 f2;cases hgo:grOK g.sh g.w g.h g.holes g.cells with
 |false=>
  have hv:nbV g= .tup [eLl [],.int .i64 130]:=by unfold nbV;rw[hgo];rfl
  have hc:chkV g= .int .i64 130:=by unfold chkV;rw[hgo];rfl
  rw[hv];simp only[eZ,seval,W7,c88,AD,Thn_c,s1,f1,f2,W1 hh,hc];exact Wk.tup (.cons (Wk.sl (.inr rfl)) (.cons (Wk.refl _) .nil))
 |true=>
 have hc:chkV g= .int .i64 0:=by unfold chkV;rw[hgo];rfl
 have hG:Ai g.sh g.w g.h g.holes=some g.cells:=Xu hgo;have G:GrV g:=⟨hG,hh⟩;obtain⟨hr1,hr2,hr3⟩:=Ax hG;have hv:nbV g= .tup [eLl ((List.range g.cells.length).map (nbL g)),.int .i64 0]:=by unfold nbV;rw[hgo,VD];rfl
 rw[hv];simp only[eZ,seval,W3,c88,AD,Thn_c,s1,f1,f2,W1 hh,hc];refine AL (λv:VRg=>⟨[(1,true,.ptr 0 0),(4,true,.sl v.tl v.E),(5,true,.int .i64 v.i)],v.H,v.n⟩) (INb g g.cells.length λi=>(List.range i).map (nbL g)) (λv=>g.cells.length-v.i)
  ⟨0,[],.nil,hset hnil 0 (.box (AD g.sh g.w g.h g.holes g.cells)),3⟩ rfl ⟨Wz _,W9 _,AQ.nil.hset (m:=3) (Wz 3) (show 0<3 by decide),rfl,.inl rfl,.inr rfl,.nil⟩ ?_
 rintro⟨i,E,tl,H,n⟩ hI;have hi:=hI.hi;have hn:=hI.hn;have c7:=hI.fr;have h0:=hI.h0;have c8:=hI.tok;have d8:=hI.es;have hE:=hI.hE;simp only at hi hn c7 h0 c8 d8 hE;have s6:=h0;simp only[AD]at s6;by_cases c5:i<g.cells.length;case neg=>
  obtain rfl:i=g.cells.length:=zo
  simp only[eZ,seval,W0,s6,lt_F c5];exact Wk.tup (.cons (Wk.slx d8 hE) (.cons (Wk.refl _) .nil))
 have e:=AE (k:=i) zo;have gi:inG g (i:Int):=⟨zo,by rw[X1];exact c5⟩;simp only[eZ,seval,W0,s6,lt_T c5];refine AL (λv:VRi=>⟨[(1,true,.ptr 0 0),(4,true,.sl tl E),(5,true,.int .i64 i),(6,true,.sl v.tc ((idxP v.j (nbB g i)).map eI)),(7,true,.int .i64 v.j)],v.H,v.n⟩)
  (IFil g.cells.length (nbB g i) H n) (λv=>g.cells.length-v.j) ⟨0,.nil,H,n⟩ rfl ⟨Wz _,W9 _,c7,λid d7=>rfl,.inl rfl,.inr rfl⟩ ?_
 rintro⟨j,tc,H1,n1⟩ ⟨hj,l5,hf1,hk,htc,hec⟩;simp only at hj l5 hf1 hk htc hec;have l9:hget H1 0=some (.box (AD g.sh g.w g.h g.holes g.cells)):=by rw[hk 0 zo];exact h0
 have h01':=l9;simp only[AD]at h01';by_cases hlj:j<g.cells.length
 ·have ej:=AE (k:=j) zo;have gj:inG g (j:Int):=⟨zo,by rw[X1];exact hlj⟩;have hs:=Co j (nbB g i);have hb:besR g.sh (C9 g.sh g.w (Ac g (i:Int))) (C9 g.sh g.w (Ac g (j:Int)))=nbB g i j:=rfl;cases hbb:nbB g i j with
  |false=>
   rw[hbb,W6 zd]at hs;rw[hbb]at hb;simp only[eZ,seval,W0,h01',lt_T hlj,Thn_b,s3,f1,f2,A0,Ah,fBes,W1 G,W1 gi,W1 gj,hb,ej];exact .mk ⟨j+1,tc,H1,n1⟩ (by simp only[hs]) ⟨hlj,l5,hf1,hk,htc,by simp only[hs];exact hec⟩ zp
  |true=>
   rw[hbb,X0 rfl]at hs;rw[hbb]at hb;have hlen:=Bv j (nbB g i);have q1:A8 H1 1 tc=True:=W1 htc.app;have q2:((idxP j (nbB g i)).length<=35184372088831)=True:=W1 zo;have q3:Aj ((idxP j (nbB g i)).length+1) 8=True:=W1 (AZ zo zd);simp only[eZ,seval,W0,h01',lt_T hlj,Thn_b,s3,f1,f2,A0,Ah,fBes,W1 G,W1 gi,W1 gj,hb,ej,q1,q2,q3,fr1 hf1];refine .mk ⟨j+1,.own (n1+3) 1,hset (AP H1 tc) (n1+3) .tok,n1+5⟩ ?_ ⟨hlj,zp,(AU htc hf1).hset (m:=n1+5) zo zo,λid d7=>?_,.inr (.inr ⟨n1+3,rfl,zo,AB ..⟩),.inl rfl⟩ zp
   ·simp only[hs,X2];rfl
   ·grind [AA,AW]
 obtain rfl:j=g.cells.length:=zo
 have hEl:E.length=i:=by
  have:=hE.len;simp only[W0,Yv]at this;exact this
 have i9:tkG 1 1 H1 tl:=by
  rcases c8 with rfl|rfl|⟨id,rfl,h1,h2⟩
  ·exact .inl rfl
  ·exact .inr (.inl rfl)
  ·exact .inr (.inr ⟨id,rfl,h1,by rw[hk id (c7.lt h2)];exact h2⟩)
 have q1:A8 H1 1 tl=True:=W1 i9.app;have q2:(E.length<=35184372088831)=True:=W1 zo;have q3:Aj (E.length+1) 24=True:=W1 (AZ zo zd);simp only[eZ,seval,W0,h01',lt_F hlj,e,q1,q2,q3,fr1 hf1];refine .mk ⟨i+1,E++[.sl tc ((nbL g i).map eI)],.own (n1+3) 1,hset (AP H1 tl) (n1+3) .tok,n1+5⟩ rfl ⟨c5,zp,(AU i9 hf1).hset (m:=n1+5) zo zo,?_,.inr (.inr ⟨n1+3,rfl,zo,AB ..⟩),.inl rfl,?_⟩ zp
 ·grind [AA,AW]
 ·simp only[Y4,X2,Xh,Xp];simp only[YM]at hE⊢;exact hE.app (.cons (Wk.sl (hec.imp id λq=>by unfold nbL;rw[q];rfl)) .nil)
def lnB(g:j9)(f n:Int)(c:Nat):Bool:=decide (Hx g f (c:Int)=n)
def lnL(g:j9)(f n:Int):List Int:=idxP g.cells.length (lnB g f n)
def lnT(g:j9)(f:Int)(i:Nat):List (List Int):=((List.range i).map λ(k:Nat)=>lnL g f (-16+(k:Int))).filter λl=>!l.isEmpty
def VE{g:j9}{f:Int}{fn:Spot->Option Int}(h:∀c,c<g.cells.length->fn (spC g c)=some (Hx g f (c:Int))):lnT g f 49=Bi (AT g.sh g.w g.cells) fn:=by
 unfold lnT Bi Jq;rw[YM];congr 1;refine XI λk _=>?_
 unfold lnL B1;simp only[Function.comp];rw[BI];refine Ce λc hc=>?_
 rw[DG hc,Zl,h c hc];unfold lnB;rw[Xc];simp only[W8,Option.some.injEq];omega
def VG(g:j9)(f:Int)(i:Nat):(lnT g f i).length<=i:=by
 refine XJ (XU ..) ?_;rw[W0,Yv];exact W9 _
def SV(g:j9)(f:Int)(i:Nat):lnT g f (i+1)=lnT g f i++if(lnL g f (-16+(i:Int))).isEmpty then[]else[lnL g f (-16+(i:Int))]:=by
 unfold lnT;rw[Y4,X2,Yr];congr 1;simp only[Xh,Xp,XA,Zs];cases (lnL g f (-16+(i:Int))).isEmpty<;>rfl
def fLn(g:j9)(f c:Int):Fs:=.int .i64 (Hx g f c)
def Thl:Tab:=tadd 172 (s3 dGd dI dI (λg f c=>GrV g/\inG g c) fLn) Trr
def Thl_ok:AI prog Thl:=PB.add (q3 λg f c h=>p172 g f c h.1 h.2)
structure ILn(g:j9)(m:Nat)(L:Nat->List (List Int))(v:VRg):Prop where
 hi:v.i<=m
 hn:2<=v.n
 fr:AQ v.H v.n
 h0:hget v.H 0=some (.box (AD g.sh g.w g.h g.holes g.cells))
 tok:tkG 1 1 v.H v.tl
 es:v.tl.esz=1\/v.E=[]
 hE:Wks v.E ((L v.i).map eIs)
def p127(g:j9)(f:Int)(G:GrV g):Pur prog 127 [B0 g,.int .i64 f] (eLl (lnT g f 49)):=by
 refine .mk ⟨Aq 0 ..,trivial,trivial⟩ (Ak 0 _) (c127.a (AF Thl_ok (AG ?_)));have f1:dGd.ok (.agg (AD g.sh g.w g.h g.holes g.cells))=True:=DQ g;have f2:dGd.dec (.agg (AD g.sh g.w g.h g.holes g.cells))=g:=CD g;simp only[AD]at f1 f2;obtain⟨hr1,hr2,hr3⟩:=Ax G.hG;simp only[eE,eN,seval,c127,AD];refine AL (λv:VRg=>⟨[(1,true,.int .i64 f),(2,true,.ptr 0 0),(5,true,.sl v.tl v.E),(6,true,.int .i64 (-16+(v.i:Int)))],v.H,v.n⟩) (ILn g 49 (lnT g f)) (λv=>49-v.i)
  ⟨0,[],.nil,hset hnil 0 (.box (AD g.sh g.w g.h g.holes g.cells)),2⟩ rfl ⟨Wz _,W9 _,AQ.nil.hset (m:=2) (Wz 2) (show 0<2 by decide),rfl,.inl rfl,.inr rfl,.nil⟩ ?_
 rintro⟨i,E,tl,H,n⟩ hI;have hi:=hI.hi;have hn:=hI.hn;have c7:=hI.fr;have h0:=hI.h0;have c8:=hI.tok;have d8:=hI.es;have hE:=hI.hE;simp only at hi hn c7 h0 c8 d8 hE;by_cases c5:i<49;case neg=>
  obtain rfl:i=49:=zo
  have hq:(-16+((49:Nat):Int)<=32)=False:=W4 zo;simp only[eZ,seval,hq];exact Wk.slx d8 hE
 have hq:(-16+(i:Int)<=32)=True:=W1 zo;have e:IntKind.wrap .i64 (-16+(i:Int)+1)= -16+((i+1:Nat):Int):=by rw[An zo zo];omega
 simp only[eZ,seval,hq];refine AL (λv:VRi=>⟨[(1,true,.int .i64 f),(2,true,.ptr 0 0),(5,true,.sl tl E),(6,true,.int .i64 (-16+(i:Int))),(7,true,.sl v.tc ((idxP v.j (lnB g f (-16+(i:Int)))).map eI)),(8,true,.int .i64 v.j)],v.H,v.n⟩)
  (IFil g.cells.length (lnB g f (-16+(i:Int))) H n) (λv=>g.cells.length-v.j) ⟨0,.nil,H,n⟩ rfl ⟨Wz _,W9 _,c7,λid d7=>rfl,.inl rfl,.inr rfl⟩ ?_
 rintro⟨j,tc,H1,n1⟩ ⟨hj,l5,hf1,hk,htc,hec⟩;simp only at hj l5 hf1 hk htc hec;have l9:hget H1 0=some (.box (AD g.sh g.w g.h g.holes g.cells)):=by rw[hk 0 zo];exact h0
 have h01':=l9;simp only[AD]at h01';by_cases hlj:j<g.cells.length
 ·have ej:=AE (k:=j) zo;have gj:inG g (j:Int):=⟨zo,by rw[X1];exact hlj⟩;have hs:=Co j (lnB g f (-16+(i:Int)));cases hbb:lnB g f (-16+(i:Int)) j with
  |false=>
   rw[hbb,W6 zd]at hs;have hb:(Hx g f (j:Int)= -16+(i:Int))=False:=W4 (Zb hbb);simp only[eZ,seval,W0,h01',lt_T hlj,Thl,s3,f1,f2,A0,Ah,fLn,W1 G,W1 gj,hb,ej,tadd];exact .mk ⟨j+1,tc,H1,n1⟩ (by simp only[hs]) ⟨hlj,l5,hf1,hk,htc,by simp only[hs];exact hec⟩ zp
  |true=>
   rw[hbb,X0 rfl]at hs;have hb:(Hx g f (j:Int)= -16+(i:Int))=True:=W1 (Xu hbb);have hlen:=Bv j (lnB g f (-16+(i:Int)));have q1:A8 H1 1 tc=True:=W1 htc.app;have q2:((idxP j (lnB g f (-16+(i:Int)))).length<=35184372088831)=True:=W1 zo;have q3:Aj ((idxP j (lnB g f (-16+(i:Int)))).length+1) 8=True:=W1 (AZ zo zd);simp only[eZ,seval,W0,h01',lt_T hlj,Thl,s3,f1,f2,A0,Ah,fLn,W1 G,W1 gj,hb,ej,q1,q2,q3,fr1 hf1,tadd];refine .mk ⟨j+1,.own (n1+3) 1,hset (AP H1 tc) (n1+3) .tok,n1+5⟩ ?_ ⟨hlj,zp,(AU htc hf1).hset (m:=n1+5) zo zo,λid d7=>?_,.inr (.inr ⟨n1+3,rfl,zo,AB ..⟩),.inl rfl⟩ zp
   ·simp only[hs,X2];rfl
   ·grind [AA,AW]
 obtain rfl:j=g.cells.length:=zo
 have hEl:E.length<=i:=by
  have:=hE.len;simp only[W0]at this;have:=VG g f i;omega
 have i9:tkG 1 1 H1 tl:=by
  rcases c8 with rfl|rfl|⟨id,rfl,h1,h2⟩
  ·exact .inl rfl
  ·exact .inr (.inl rfl)
  ·exact .inr (.inr ⟨id,rfl,h1,by rw[hk id (c7.lt h2)];exact h2⟩)
 have hsu:=SV g f i;have hLl:lnL g f (-16+(i:Int))=idxP g.cells.length (lnB g f (-16+(i:Int))):=rfl;rw[hLl]at hsu;by_cases hz:(idxP g.cells.length (lnB g f (-16+(i:Int)))).length=0
 ·have hq0:((0:Int)<((idxP g.cells.length (lnB g f (-16+(i:Int)))).length:Int))=False:=W4 zo;rw[XZ.1 hz]at hsu;simp only[List.isEmpty_nil,XG,Xn]at hsu;simp only[eZ,seval,W0,h01',lt_F hlj,e,hq0];exact .mk ⟨i+1,E,tl,H1,n1⟩ rfl ⟨c5,zp,hf1,l9,i9,d8,by simp only[hsu];exact hE⟩ zp
 have hq0:((0:Int)<((idxP g.cells.length (lnB g f (-16+(i:Int)))).length:Int))=True:=W1 zo;have hem:(idxP g.cells.length (lnB g f (-16+(i:Int)))).isEmpty=false:=by
  rw[List.isEmpty_eq_false_iff];intro q;rw[q]at hz;exact hz rfl
 rw[hem]at hsu;simp only[Xd,Xo]at hsu;have q1:A8 H1 1 tl=True:=W1 i9.app;have q2:(E.length<=35184372088831)=True:=W1 zo;have q3:Aj (E.length+1) 24=True:=W1 (AZ zo zd);simp only[eZ,seval,W0,h01',lt_F hlj,e,hq0,q1,q2,q3,fr1 hf1];refine .mk ⟨i+1,E++[.sl tc ((idxP g.cells.length (lnB g f (-16+(i:Int)))).map eI)],.own (n1+3) 1,hset (AP H1 tl) (n1+3) .tok,n1+5⟩ rfl ⟨c5,zp,(AU i9 hf1).hset (m:=n1+5) zo zo,?_,.inr (.inr ⟨n1+3,rfl,zo,AB ..⟩),.inl rfl,?_⟩ zp
 ·grind [AA,AW]
 ·simp only[hsu,X2,Xh,Xp];exact hE.app (.cons (Wk.sl (hec.imp id λq=>by rw[q];rfl)) .nil)
def dgB(g:j9)(k c:Nat):Bool:=decide ((k:Int)=0)&&decide ((Ac g (c:Int)).tmod g.w=(Ac g (c:Int)).tdiv g.w)||decide ((k:Int)=1)&&decide ((Ac g (c:Int)).tmod g.w=g.w-1-(Ac g (c:Int)).tdiv g.w)
def dgA(g:j9)(k:Nat):List Int:=idxP g.cells.length (dgB g k)
def dgS(g:j9):List (List Int):=(if(dgA g 0).isEmpty then[]else[dgA g 0])++(if(dgA g 1).isEmpty||decide (dgA g 0=dgA g 1)then[]else[dgA g 1])
def dgS_S{g:j9}(h:g.sh=1):dgS g=K9 g.w (AT g.sh g.w g.cells):=by
 have hsp:∀c:Nat,spC g c=((Ac g (c:Int)).tmod g.w,(Ac g (c:Int)).tdiv g.w):=λc=>by
  unfold spC C9;rw[W6 zo]
 have h0:dgA g 0=B1 (AT g.sh g.w g.cells) (λs=>if s.1=s.2 then some 0 else none) 0:=by
  unfold dgA B1;rw[BI];refine Ce λc hc=>?_
  rw[DG hc,hsp,Zl];unfold dgB;by_cases q:(Ac g (c:Int)).tmod g.w=(Ac g (c:Int)).tdiv g.w<;>simp [q]
 have h1:dgA g 1=B1 (AT g.sh g.w g.cells) (λs=>if s.1+s.2=g.w-1 then some 0 else none) 0:=by
  unfold dgA B1;rw[BI];refine Ce λc hc=>?_
  rw[DG hc,hsp,Zl];unfold dgB;by_cases q:(Ac g (c:Int)).tmod g.w=g.w-1-(Ac g (c:Int)).tdiv g.w
  ·simp_all
  ·grind
 unfold dgS K9;rw[h0,h1]
def Thd:Tab:=tadd 130 (s2 dIs dIs (λa _=>few a) λa b=>.bool (decide (a=b))) Th6c
def Thd_ok:AI prog Thd:=LO.add (q2 p130)
theorem Thd_s(a:List Fs)(H:AC):Thd 130 a H=s2 dIs dIs (λa _=>few a) (λa b=>.bool (decide (a=b))) a H:=rfl
theorem Thd_c(a:List Fs)(H:AC):Thd 169 a H=s2 dGd dI (λg c=>GrV g/\inG g c) fCol a H:=rfl
theorem Thd_r(a:List Fs)(H:AC):Thd 170 a H=s2 dGd dI (λg c=>GrV g/\inG g c) fRow a H:=rfl
structure IDg(g:j9)(v:VRg):Prop where
 hi:v.i<=2
 hn:2<=v.n
 fr:AQ v.H v.n
 h0:hget v.H 0=some (.box (AD g.sh g.w g.h g.holes g.cells))
 tok:tkG 1 1 v.H v.tl
 es:v.tl.esz=1\/v.E=[]
 ne:¬g.w=g.h->v.i=0
 e0:v.i=0->v.E=[]
 e1:v.i=1->(dgA g 0=[]/\v.E=[])\/(dgA g 0≠[]/\∃t,t.esz=1/\v.E=[.sl t ((dgA g 0).map eI)])
 e2:v.i=2->Wks v.E ((dgS g).map eIs)
def dgV(g:j9):List (List Int):=if g.w=g.h then dgS g else[]
def p128(g:j9)(G:GrV g):Pur prog 128 [B0 g] (eLl (dgV g)):=by
 refine .mk ⟨Aq 0 ..,trivial⟩ (Ak 0 _) (c128.a (AF Thd_ok (AG ?_)));have f1:dGd.ok (.agg (AD g.sh g.w g.h g.holes g.cells))=True:=DQ g;have f2:dGd.dec (.agg (AD g.sh g.w g.h g.holes g.cells))=g:=CD g;simp only[AD]at f1 f2;obtain⟨hr1,hr2,hr3⟩:=Ax G.hG;simp only[eE,eN,seval,c128,AD];refine AL (λv:VRg=>⟨[(1,true,.ptr 0 0),(3,true,.sl v.tl v.E),(4,true,.int .i64 v.i)],v.H,v.n⟩) (IDg g) (λv=>2-v.i)
  ⟨0,[],.nil,hset hnil 0 (.box (AD g.sh g.w g.h g.holes g.cells)),2⟩ rfl ⟨Wz _,W9 _,AQ.nil.hset (m:=2) (Wz 2) (show 0<2 by decide),rfl,.inl rfl,.inr rfl,λ_=>rfl,λ_=>rfl,(λq=>by cases q),(λq=>by cases q)⟩ ?_
 rintro⟨i,E,tl,H,n⟩ hI;have hi:=hI.hi;have hn:=hI.hn;have c7:=hI.fr;have h0:=hI.h0;have c8:=hI.tok;have d8:=hI.es;have d9:=hI.ne;have hE0:=hI.e0;have hE1:=hI.e1;have hE2:=hI.e2;simp only at hi hn c7 h0 c8 d8 d9 hE0 hE1 hE2;have s6:=h0;simp only[AD]at s6;by_cases hwh:g.w=g.h;case neg=>
  have hi0:=d9 hwh;subst hi0;have hE:=hE0 rfl;subst hE;have hv:dgV g=[]:=by unfold dgV;rw[W6 hwh]
  have hq:(((0:Nat):Int)<2)=True:=W1 zd;rw[hv];simp only[eZ,seval,c0,s6,W4 hwh];exact Wk.sl d8
 have hv:dgV g=dgS g:=by unfold dgV;rw[X0 hwh]
 rw[hv];by_cases c5:i<2;case neg=>
  obtain rfl:i=2:=zo
  have hq:(((2:Nat):Int)<2)=False:=W4 zd;simp only[eZ,seval,s6,hq];exact Wk.slx d8 (hE2 rfl)
 have hq:((i:Int)<2)=True:=W1 zo;have e:=AE (k:=i) zo;simp only[eZ,seval,s6,hq,W1 hwh];refine AL (λv:VRi=>⟨[(1,true,.ptr 0 0),(3,true,.sl tl E),(4,true,.int .i64 i),(5,true,.sl v.tc ((idxP v.j (dgB g i)).map eI)),(6,true,.int .i64 v.j)],v.H,v.n⟩)
  (IFil g.cells.length (dgB g i) H n) (λv=>g.cells.length-v.j) ⟨0,.nil,H,n⟩ rfl ⟨Wz _,W9 _,c7,λid d7=>rfl,.inl rfl,.inr rfl⟩ ?_
 rintro⟨j,tc,H1,n1⟩ ⟨hj,l5,hf1,hk,htc,hec⟩;simp only at hj l5 hf1 hk htc hec;have l9:hget H1 0=some (.box (AD g.sh g.w g.h g.holes g.cells)):=by rw[hk 0 zo];exact h0
 have h01':=l9;simp only[AD]at h01';by_cases hlj:j<g.cells.length
 ·have ej:=AE (k:=j) zo;have gj:inG g (j:Int):=⟨zo,by rw[X1];exact hlj⟩;obtain⟨-,-,-,-,-,w1,w2,x1,x2,y1,y2,ey,-⟩:=G.at gj;have r1:IntKind.wrap .i64 (g.w-1)=g.w-1:=An zo zo;have r2:IntKind.wrap .i64 (g.w-1-(Ac g (j:Int)).tdiv g.w)=g.w-1-(Ac g (j:Int)).tdiv g.w:=An zo zo;have hs:=Co j (dgB g i);have hb:(decide ((i:Int)=0)&&decide ((Ac g (j:Int)).tmod g.w=(Ac g (j:Int)).tdiv g.w)||decide ((i:Int)=1)&&decide ((Ac g (j:Int)).tmod g.w=g.w-1-(Ac g (j:Int)).tdiv g.w))=dgB g i j:=rfl;cases hbb:dgB g i j with
  |false=>
   rw[hbb,W6 zd]at hs;rw[hbb]at hb;simp only[eZ,seval,W0,h01',lt_T hlj,Thd_c,Thd_r,s2,f1,f2,A0,Ah,fCol,fRow,W1 G,W1 gj,r1,r2,hb,ej];exact .mk ⟨j+1,tc,H1,n1⟩ (by simp only[hs]) ⟨hlj,l5,hf1,hk,htc,by simp only[hs];exact hec⟩ zp
  |true=>
   rw[hbb,X0 rfl]at hs;rw[hbb]at hb;have hlen:=Bv j (dgB g i);have q1:A8 H1 1 tc=True:=W1 htc.app;have q2:((idxP j (dgB g i)).length<=35184372088831)=True:=W1 zo;have q3:Aj ((idxP j (dgB g i)).length+1) 8=True:=W1 (AZ zo zd);simp only[eZ,seval,W0,h01',lt_T hlj,Thd_c,Thd_r,s2,f1,f2,A0,Ah,fCol,fRow,W1 G,W1 gj,r1,r2,hb,ej,q1,q2,q3,fr1 hf1];refine .mk ⟨j+1,.own (n1+3) 1,hset (AP H1 tc) (n1+3) .tok,n1+5⟩ ?_ ⟨hlj,zp,(AU htc hf1).hset (m:=n1+5) zo zo,λid d7=>?_,.inr (.inr ⟨n1+3,rfl,zo,AB ..⟩),.inl rfl⟩ zp
   ·simp only[hs,X2];rfl
   ·grind [AA,AW]
 obtain rfl:j=g.cells.length:=zo
 have i9:tkG 1 1 H1 tl:=by
  rcases c8 with rfl|rfl|⟨id,rfl,h1,h2⟩
  ·exact .inl rfl
  ·exact .inr (.inl rfl)
  ·exact .inr (.inr ⟨id,rfl,h1,by rw[hk id (c7.lt h2)];exact h2⟩)
 have hA:dgA g i=idxP g.cells.length (dgB g i):=rfl;have hAl:=Bv g.cells.length (dgB g i);rw[<-hA]at hec hAl⊢;have hi01:i=0\/i=1:=zo
 have q1:A8 H1 1 tl=True:=W1 i9.app;by_cases hz:(dgA g i).length=0
 ·have hz0:((0:Int)<((dgA g i).length:Int))=False:=W4 zo;have hzn:=XZ.1 hz;simp only[eZ,seval,eY,h01',lt_F hlj,e,hz0];refine .mk ⟨i+1,E,tl,H1,n1⟩ rfl ⟨c5,zp,hf1,l9,i9,d8,λq=>absurd hwh q,(λq=>by cases q),λq=>?_,λq=>?_⟩ zp
  ·have q':i+1=1:=q;obtain rfl:i=0:=zo
   exact .inl ⟨hzn,hE0 rfl⟩
  ·have q':i+1=2:=q;obtain rfl:i=1:=zo
   simp only[];unfold dgS;rw[hzn];simp only[List.isEmpty_nil,Zg,XG,Xn];rcases hE1 rfl with⟨a1,rfl⟩|⟨a1,t,a2,rfl⟩
   ·rw[a1];exact .nil
   ·rw[W6 (by simp [a1])];exact .cons (Wk.sl (.inl a2)) .nil
 have hz0:((0:Int)<((dgA g i).length:Int))=True:=W1 zo;have hane:dgA g i≠[]:=λq=>by rw[q]at hz;exact hz rfl
 have het:tc.esz=1:=hec.resolve_right hane;have hap:∀E':List Fs,((E'.length:Int)=0)=True\/True:=λ_=>.inr trivial
 rcases hi01 with rfl|rfl
 ·have hE:=hE0 rfl;subst hE;have q3:Aj ([]:List Fs).length.succ 24=True:=W1 (AZ zd zd);have q4:Aj 1 24=True:=W1 (AZ zd zd);have z1:((([]:List Fs).length:Int)=0)=True:=W1 rfl;simp only[eZ,seval,W3,eY,h01',lt_F hlj,hz0,q1,q4,fr1 hf1];refine .mk ⟨1,[.sl tc ((dgA g 0).map eI)],.own (n1+3) 1,hset (AP H1 tl) (n1+3) .tok,n1+5⟩ rfl ⟨(by show 1<=2;decide),zp,(AU i9 hf1).hset (m:=n1+5) zo zo,?_,.inr (.inr ⟨n1+3,rfl,zo,AB ..⟩),.inl rfl,λq=>absurd hwh q,(λq=>by cases q),λq=>.inr ⟨hane,tc,het,rfl⟩,(λq=>by cases q)⟩ zp;simp only[];rw[AA _ _ _ _ zo,AW i9 (.inl zo)];exact l9
 ·rcases hE1 rfl with⟨a1,rfl⟩|⟨a1,t,a2,rfl⟩
  ·have q4:Aj 1 24=True:=W1 (AZ zd zd);simp only[eZ,seval,W3,eY,h01',lt_F hlj,hz0,q1,q4,fr1 hf1];refine .mk ⟨2,[.sl tc ((dgA g 1).map eI)],.own (n1+3) 1,hset (AP H1 tl) (n1+3) .tok,n1+5⟩ rfl ⟨(by show 2<=2;decide),zp,(AU i9 hf1).hset (m:=n1+5) zo zo,?_,.inr (.inr ⟨n1+3,rfl,zo,AB ..⟩),.inl rfl,λq=>absurd hwh q,(λq=>by cases q),(λq=>by cases q),λq=>?_⟩ zp
   ·grind [AA,AW]
   ·simp only[];unfold dgS;rw[a1];simp only[List.isEmpty_nil,XG,Xl];rw[W6 (by simp [hane,Ne.symm hane])];exact .cons (Wk.sl (.inl het)) .nil
  ·have hts:tl.esz=1:=d8.resolve_right zw;have o1:dIs.ok (.sl t ((dgA g 0).map eI))=True:=W1 ⟨.inl a2,by rw[As]⟩;have o2:dIs.dec (.sl t ((dgA g 0).map eI))=dgA g 0:=As _;have o3:dIs.ok (.sl tc ((dgA g 1).map eI))=True:=W1 ⟨.inl het,by rw[As]⟩;have o4:dIs.dec (.sl tc ((dgA g 1).map eI))=dgA g 1:=As _;have hA0:=Bv g.cells.length (dgB g 0);have o5:few (dgA g 0)=True:=W1 (show(dgA g 0).length<_ by unfold dgA;omega);by_cases hsame:dgA g 0=dgA g 1
   ·simp only[eZ,seval,W3,eY,h01',lt_F hlj,hz0,W1 hts,Thd_s,s2,o1,o2,o3,o4,o5,BA hsame];refine .mk ⟨2,[.sl t ((dgA g 0).map eI)],tl,H1,n1⟩ rfl ⟨(by show 2<=2;decide),zp,hf1,l9,i9,d8,λq=>absurd hwh q,(λq=>by cases q),(λq=>by cases q),λq=>?_⟩ zp;simp only[];unfold dgS;rw[W6 (by simp [a1]),X0 (by simp [hsame])];exact .cons (Wk.sl (.inl a2)) .nil
   ·have q4:Aj 2 24=True:=W1 (AZ zd zd);simp only[eZ,seval,W7,eY,h01',lt_F hlj,hz0,W1 hts,Thd_s,s2,o1,o2,o3,o4,o5,Aw hsame,q1,q4,fr1 hf1];refine .mk ⟨2,[.sl t ((dgA g 0).map eI),.sl tc ((dgA g 1).map eI)],.own (n1+3) 1,hset (AP H1 tl) (n1+3) .tok,n1+5⟩ rfl ⟨(by show 2<=2;decide),zp,(AU i9 hf1).hset (m:=n1+5) zo zo,?_,.inr (.inr ⟨n1+3,rfl,zo,AB ..⟩),.inl rfl,λq=>absurd hwh q,(λq=>by cases q),(λq=>by cases q),λq=>?_⟩ zp
    ·grind [AA,AW]
    ·simp only[];unfold dgS;rw[W6 (by simp [a1]),W6 (by simp [hane,hsame])];exact .cons (Wk.sl (.inl a2)) (.cons (Wk.sl (.inl het)) .nil)
def Gw(g:j9)(c b:Nat):Bool:=decide ((b:Int)=(c:Int))||(nbL g c).contains (b:Int)
def VH(g:j9)(c:Nat):List Int:=idxP g.cells.length (Gw g c)
def Nr(g:j9)(c:Nat):List (List Int):=((nbL g c).filter λb=>decide ((c:Int)<b)).map λb=>[(c:Int),b]
def allL(i:Nat):List Int:=idxP i λ_=>true
def fmL(g:j9)(f:Int)(i:Nat):List (List Int):=
 if f=0 then(List.range i).map λ(c:Nat)=>[(c:Int)]else if f=5 then(List.range i).map (VH g)else if f=6 then(List.range i).flatMap (Nr g)else[]
def famR(g:j9)(f:Int):List (List Int):=
 if f=1\/f=2 then lnT g f 49 else if f=3 then(if g.sh=1 then dgV g else lnT g f 49)else if f=4 then(List.range g.cells.length).map (nbL g)else if f=7 then[allL g.cells.length]else fmL g f g.cells.length
def fmV(g:j9)(f:Int):Fs:=if grOK g.sh g.w g.h g.holes g.cells then(if f<0\/7<f then .tup [eLl [],.int .i64 1]else .tup [eLl (famR g f),.int .i64 0])else .tup [eLl [],.int .i64 130]
def famR_S{g:j9}(G:GrV g){f:Nat}(hf:f<=7):famR g (f:Int)=famS g.sh g.w g.h (AT g.sh g.w g.cells) f:=by
 obtain⟨hs,-⟩:=Fh G.hG;have hrow:∀c:Nat,(spC g c).2=(Ac g (c:Int)).tdiv g.w:=λc=>rfl
 have hsq:g.sh=1->∀c:Nat,(spC g c).1=(Ac g (c:Int)).tmod g.w:=λh c=>by
  unfold spC C9;rw[W6 zo]
 have hhx:g.sh=2->∀c:Nat,(spC g c).1=axA g (c:Int):=λh c=>by
  unfold spC C9 axA;rw[X0 h]
 have hl1:lnT g 1 49=Bi (AT g.sh g.w g.cells) λs=>some s.2:=VE λc hc=>by
  unfold Hx;rw[X0 rfl,hrow]
 have hl2:lnT g 2 49=Bi (AT g.sh g.w g.cells) λs=>some s.1:=VE λc hc=>by
  unfold Hx;rcases hs with h|h
  ·rw[W6 zd,X0 h,hsq h]
  ·rw[W6 zd,W6 zo,X0 rfl,hhx h]
 have hl3:g.sh=2->lnT g 3 49=Bi (AT g.sh g.w g.cells) λs=>some (s.1+s.2):=λh=>VE λc hc=>by
  unfold Hx;rw[W6 zd,W6 zo,W6 zd,hrow,hhx h]
 have t6:=VD g;have hS:=BI g;have hn:∀c:Nat,c<g.cells.length->((nbsS g.sh (AT g.sh g.w g.cells))[c]?.getD [])=nbL g c:=λc hc=>by
  rw[<-t6,Xa,Zr hc];rfl
 unfold famR famS fmL;rcases(by omega:f=0\/f=1\/f=2\/f=3\/f=4\/f=5\/f=6\/f=7)with rfl|rfl|rfl|rfl|rfl|rfl|rfl|rfl
 ·simp_all [NV,YM]
 ·simp (decide:=true) only[XG,Xo];exact hl1
 ·simp (decide:=true) only[XG,Xo];exact hl2
 ·simp (decide:=true) only[XG,Xo];rcases hs with h|h
  ·rw[X0 h,W6 zo];unfold dgV;rw[dgS_S h]
  ·rw[W6 zo,X0 h];exact hl3 h
 ·simp (decide:=true) only[XG,Xo];exact t6
 ·simp (decide:=true) only[XG,Xo];rw[hS];refine XI λc hc=>?_
  have hc':=XH.1 hc;unfold VH;refine Ce λb hb=>?_
  unfold Gw;rw[DG hc'];have e1:(nbL g c).contains (b:Int)=nbB g c b:=by
   unfold nbL;rw[Xc,Xs,Jp];exact⟨λq=>q.2,λq=>⟨hb,q⟩⟩
  have e2:nbB g c b=(EM g.sh).any λd=>decide ((AT g.sh g.w g.cells)[b]?=some (addP (spC g c) d)):=by
   unfold nbB;rw[MV,DG hb];unfold besS;simp only[Option.some.injEq]
  rw[e1,e2];simp only[Xz];congr 1;rw[Xc];simp only[W8];omega
 ·simp (decide:=true) only[XG,Xo];rw[hS,List.flatMap_def,List.flatMap_def];congr 1;refine XI λc hc=>?_
  rw[hn c (XH.1 hc)];rfl
 ·simp (decide:=true) only[XG,Xo];rw[hS];rfl
def JD{e lo n i:Nat}{H:AC}{tl ta:jz}(h:tkG e lo H tl)(ha:tkG e lo H ta)(hd:∀a b x y,tl= .own a x->ta= .own b y->a≠b)(hf:AQ H n)(hi:n<=i):tkG e lo (hset (AP H ta) i .tok) tl:=by
 rcases h with rfl|rfl|⟨id,rfl,h1,h2⟩
 ·exact .inl rfl
 ·exact .inr (.inl rfl)
 ·refine .inr (.inr ⟨id,rfl,h1,?_⟩);have d7:=hf.lt h2;rw[AA _ _ _ _ zo];rcases ha with rfl|rfl|⟨b,rfl,-,-⟩
  ·exact h2
  ·exact h2
  ·simp only[AP];rw[AA _ _ _ _ (hd _ _ _ _ rfl rfl).symm];exact h2
def LP(g:j9)(c:Nat):(nbL g c).length<=g.cells.length:=Bv ..
def PL(g:j9)(c:Nat):(Nr g c).length<=g.cells.length:=by
 unfold Nr;rw[W0];exact XJ (XU ..) (LP g c)
def PM(g:j9)(f:Int)(h:g.cells.length<=256):∀i,(fmL g f i).length<=256*i:=by
 intro i;unfold fmL;split
 ·simp;omega
 ·split
  ·simp;omega
  ·split
   ·induction i with
    |zero=>simp
    |succ i ih=>
     rw[Y4,Z8,Xb];have:=PL g i;simp only[Z0,List.flatMap_nil,Xn];omega
   ·simp
def J1(i:Nat):allL (i+1)=allL i++[(i:Int)]:=by unfold allL;rw[Co,X0 rfl]
def Thfm:Tab:=tadd 88 (s1 dGd (λg=>few g.holes) nbV) (tadd 124 (s2 dIs dI (λl _=>few l) λl x=>.bool (l.contains x)) (tadd 127 (s2 dGd dI (λg _=>GrV g) λg f=>eLl (lnT g f 49)) (tadd 128 (s1 dGd GrV λg=>eLl (dgV g)) tnil)))
def VI:AI prog Thfm:=(((AI.tnil.add (q1 p128)).add (q2 λg f h=>p127 g f h)).add (q2 p124)).add (q1 p88)
structure VFm where
 i:Nat
 E:List Fs
 tl:jz
 ta:jz
 H:AC
 n:Nat
def apT(tl ta:jz):Prop:=∀a b x y,tl= .own a x->ta= .own b y->a≠b
def apT.symm{tl ta:jz}(h:apT tl ta):apT ta tl:=λa b x y h1 h2=>(h b a y x h2 h1).symm
def apT.fresh{e lo n i:Nat}{H:AC}{tl:jz}(h:tkG e lo H tl)(hf:AQ H n)(hi:n<=i)(s:Nat):apT tl (.own i s):=λa b x y h1 h2=>by
 injection h2 with h2 _
 subst h2;rcases h with rfl|rfl|⟨id,rfl,-,h3⟩
 ·cases h1
 ·cases h1
 ·injection h1 with h1 _
  have:=hf.lt h3;omega
structure IFm(g:j9)(f:Int)(v:VFm):Prop where
 hi:v.i<=g.cells.length
 hn:3<=v.n
 fr:AQ v.H v.n
 h0:hget v.H 0=some (.box (AD g.sh g.w g.h g.holes g.cells))
 tok:tkG 1 1 v.H v.tl
 toka:tkG 1 1 v.H v.ta
 ap:apT v.tl v.ta
 es:v.tl.esz=1\/v.E=[]
 esa:v.ta.esz=1\/v.i=0
 hE:Wks v.E ((fmL g f v.i).map eIs)
def prT(g:j9)(c j:Nat):List (List Int):=(((nbL g c).take j).filter λb=>decide ((c:Int)<b)).map λb=>[(c:Int),b]
def VJ(g:j9)(c j:Nat):(prT g c j).length<=j:=by
 unfold prT;rw[W0];refine XJ (XU ..) ?_;rw[Xg];omega
def SW(g:j9)(c:Nat){j:Nat}(h:j<(nbL g c).length):prT g c (j+1)=if(c:Int)<(nbL g c)[j]then prT g c j++[[(c:Int),(nbL g c)[j]]]else prT g c j:=by
 unfold prT;rw[X7,W2 h];simp only[Option.toList,Yr,XA,Zs,X2,W8];split<;>simp
structure IPr(g:j9)(c ia:Nat)(v:VRg):Prop where
 hj:v.i<=(nbL g c).length
 hn:ia<v.n
 fr:AQ v.H v.n
 h0:hget v.H 0=some (.box (AD g.sh g.w g.h g.holes g.cells))
 tok:tkG 1 1 v.H v.tl
 toka:tkG 1 1 v.H (.own ia 1)
 ap:apT v.tl (.own ia 1)
 es:v.tl.esz=1\/v.E=[]
 hE:Wks v.E ((fmL g 6 c++prT g c v.i).map eIs)
def p89(g:j9)(f:Int)(hh:few g.holes):Pur prog 89 [B0 g,.int .i64 f] (fmV g f):=by
 refine .mk ⟨Aq 0 ..,trivial,trivial⟩ (by unfold fmV;split;(·split<;>exact⟨Ak 0 _,trivial,trivial⟩);(·exact⟨Ak 0 _,trivial,trivial⟩)) (c89.a (AF VI (AG ?_)));have f1:dGd.ok (.agg (AD g.sh g.w g.h g.holes g.cells))=True:=DQ g;have f2:dGd.dec (.agg (AD g.sh g.w g.h g.holes g.cells))=g:=CD g;simp only[AD]at f1 f2;cases hgo:grOK g.sh g.w g.h g.holes g.cells with
 |false=>
  have hv:fmV g f= .tup [eLl [],.int .i64 130]:=by unfold fmV;rw[hgo];rfl
  have hc:nbV g= .tup [eLl [],.int .i64 130]:=by unfold nbV;rw[hgo];rfl
  rw[hv];simp only[eZ,seval,W7,eY,c89,AD,Thfm,s1,f1,f2,W1 hh,hc,tadd];exact Wk.tup (.cons (Wk.sl (.inr rfl)) (.cons (Wk.refl _) .nil))
 |true=>
 have hG:Ai g.sh g.w g.h g.holes=some g.cells:=Xu hgo;have G:GrV g:=⟨hG,hh⟩;obtain⟨hr1,hr2,hr3⟩:=Ax hG;obtain⟨ar,har⟩:∃ar,ar=(List.range g.cells.length).map (nbL g):=⟨_,rfl⟩;have hc:nbV g= .tup [eLl ar,.int .i64 0]:=by unfold nbV;rw[hgo,har,VD];rfl
 have harl:ar.length=g.cells.length:=by rw[har];simp
 have harg:∀c,c<g.cells.length->ar[c]?=some (nbL g c):=λc hc=>by rw[har,Xa,Zr hc];rfl
 by_cases hf:f<0\/7<f
 ·have hv:fmV g f= .tup [eLl [],.int .i64 1]:=by unfold fmV;rw[hgo,X0 rfl,X0 hf]
  have hb:(decide (f<0)||decide (7<f))=true:=by simpa using hf
  rw[hv];simp only[eZ,seval,W3,eY,c89,AD,Thfm,s1,f1,f2,W1 hh,hc,hb,tadd];exact Wk.tup (.cons (Wk.sl (.inr rfl)) (.cons (Wk.refl _) .nil))
 have hv:fmV g f= .tup [eLl (famR g f),.int .i64 0]:=by unfold fmV;rw[hgo,X0 rfl,W6 hf]
 have hb:(decide (f<0)||decide (7<f))=false:=by
  rw[YL];intro q;exact hf (by simpa using q)
 rw[hv];simp only[eZ,seval,W3,eY,c89,AD,Thfm,s1,f1,f2,W1 hh,hc,hb,tadd];refine AL (λv:VFm=>⟨[(1,true,.int .i64 f),(2,true,.ptr 0 0),(6,true,eLl ar),(8,true,.sl v.tl v.E),(9,true,.sl v.ta ((allL v.i).map eI)),(10,true,.int .i64 v.i)],v.H,v.n⟩) (IFm g f) (λv=>g.cells.length-v.i)
  ⟨0,[],.nil,.nil,hset hnil 0 (.box (AD g.sh g.w g.h g.holes g.cells)),3⟩ rfl ⟨Wz _,W9 _,AQ.nil.hset (m:=3) (Wz 3) (show 0<3 by decide),rfl,.inl rfl,.inl rfl,(λa b x y h=>by cases h),.inr rfl,.inr rfl,by
   have:fmL g f 0=[]:=by
    unfold fmL;repeat (split; ·rfl)
    rfl
   show Wks [] ((fmL g f 0).map eIs);rw[this];exact .nil⟩ ?_
 rintro⟨i,E,tl,ta,H,n⟩ hI;have hi:=hI.hi;have hn:=hI.hn;have c7:=hI.fr;have h0:=hI.h0;have htl:=hI.tok;have x7:=hI.toka;have hap:=hI.ap;have d8:=hI.es;have hesa:=hI.esa;have hE:=hI.hE;simp only at hi hn c7 h0 htl x7 hap d8 hesa hE;have s6:=h0;simp only[AD]at s6;have hEl:E.length<=256*i:=by
  have:=hE.len;rw[W0]at this;rw[this];exact PM g f hr2 i
 by_cases c5:i<g.cells.length;case neg=>
  obtain rfl:i=g.cells.length:=zo
  unfold famR;by_cases q12:f=1\/f=2
  ·rw[X0 q12];rcases q12 with rfl|rfl
   ·simp only[eZ,seval,W0,s6,lt_F c5,Thfm,s2,f1,f2,A0,Ah,W1 G,tadd];exact Wk.tup (.cons (Wk.refl _) (.cons (Wk.refl _) .nil))
   ·simp only[eZ,seval,W0,s6,lt_F c5,Thfm,s2,f1,f2,A0,Ah,W1 G,tadd];exact Wk.tup (.cons (Wk.refl _) (.cons (Wk.refl _) .nil))
  rw[W6 q12];have w1:(f=1)=False:=W4 λq=>q12 (.inl q)
  have w2:(f=2)=False:=W4 λq=>q12 (.inr q)
  by_cases q3:f=3
  ·rw[X0 q3];by_cases qs:g.sh=1
   ·rw[X0 qs];subst q3;simp only[eZ,seval,W0,s6,lt_F c5,Thfm,s1,f1,f2,W1 G,W1 qs,tadd];exact Wk.tup (.cons (Wk.refl _) (.cons (Wk.refl _) .nil))
   ·rw[W6 qs];subst q3;simp only[eZ,seval,W0,s6,lt_F c5,Thfm,s2,f1,f2,A0,Ah,W1 G,W4 qs,tadd];exact Wk.tup (.cons (Wk.refl _) (.cons (Wk.refl _) .nil))
  rw[W6 q3];by_cases q4:f=4
  ·rw[X0 q4,<-har];subst q4;simp only[eZ,seval,W0,s6,lt_F c5];exact Wk.tup (.cons (Wk.refl _) (.cons (Wk.refl _) .nil))
  rw[W6 q4];by_cases q7:f=7
  ·rw[X0 q7];subst q7;simp only[eZ,seval,W0,s6,lt_F c5];refine Wk.tup (.cons (Wk.slx (.inl rfl) (.cons (Wk.sl (hesa.imp id λq=>by rw[q];rfl)) .nil)) (.cons (Wk.refl _) .nil))
  rw[W6 q7];simp only[eZ,seval,W0,s6,lt_F c5,w1,w2,W4 q3,W4 q4,W4 q7];exact Wk.tup (.cons (Wk.slx d8 hE) (.cons (Wk.refl _) .nil))
 have e:=AE (k:=i) zo;have hal:(allL i).length<=i:=Bv ..;have q1:A8 H 1 ta=True:=W1 x7.app;have q2:((allL i).length<=35184372088831)=True:=W1 zo;have q3:Aj ((allL i).length+1) 8=True:=W1 (AZ zo zd);have hH2f:AQ (hset (AP H ta) (n+3) .tok) (n+5):=(AU x7 c7).hset zo zo;have hH20:hget (hset (AP H ta) (n+3) .tok) 0=some (.box (AD g.sh g.w g.h g.holes g.cells)):=by grind [AA,AW]
 have hH2l:tkG 1 1 (hset (AP H ta) (n+3) .tok) tl:=JD htl x7 hap c7 zo;have hH2a:tkG 1 1 (hset (AP H ta) (n+3) .tok) (.own (n+3) 1):=.inr (.inr ⟨n+3,rfl,zo,AB ..⟩);have hH2p:apT tl (.own (n+3) 1):=apT.fresh htl c7 zo 1;have hAs:=J1 i;have r2:(E.length<=35184372088831)=True:=W1 zo;have r3:Aj (E.length+1) 24=True:=W1 (AZ zo zd);by_cases z0':f=0
 ·subst z0';have hfm:fmL g 0 (i+1)=fmL g 0 i++[[(i:Int)]]:=by
   unfold fmL;rw[X0 rfl,X0 rfl,Y4,X2];rfl
  have a1:A8 (hset (AP H ta) (n+3) .tok) 1 tl=True:=W1 hH2l.app;simp only[eZ,seval,W0,s6,lt_T c5,q1,q2,q3,fr1 c7,fr1 (AU x7 c7),a1,r2,r3,e];refine .mk ⟨i+1,E++[.sl (.exact 1) [.int .i64 i]],.own (n+9) 1,.own (n+3) 1,hset (AP (hset (AP H ta) (n+3) .tok) tl) (n+9) .tok,n+11⟩ (by simp only[hAs,X2];rfl) ⟨c5,zp,(AU hH2l hH2f).hset (m:=n+11) zo zo,?_,.inr (.inr ⟨n+9,rfl,zo,AB ..⟩),JD hH2a hH2l hH2p.symm hH2f zo,(apT.fresh hH2a hH2f zo 1).symm,.inl rfl,.inl rfl,?_⟩ zp
  ·simp only[];rw[AA _ _ _ _ zo,AW hH2l (.inl zo)];exact hH20
  ·simp only[hfm,X2,Xh,Xp];exact hE.app (.cons (Wk.sl (.inl rfl)) .nil)
 have z0:(f=0)=False:=W4 z0';by_cases z5':f=5
 ·subst z5';have hfm:fmL g 5 (i+1)=fmL g 5 i++[VH g i]:=by
   unfold fmL;rw[W6 zd,X0 rfl,W6 zd,X0 rfl,Y4,X2];rfl
  simp only[eZ,seval,W0,s6,lt_T c5,q1,q2,q3,fr1 c7];refine AL (λv:VRi=>⟨[(1,true,.int .i64 5),(2,true,.ptr 0 0),(6,true,eLl ar),(8,true,.sl tl E),(9,true,.sl (.own (n+3) 1) ((allL i).map eI++[.int .i64 i])),(10,true,.int .i64 i),(11,true,.sl v.tc ((idxP v.j (Gw g i)).map eI)),(12,true,.int .i64 v.j)],v.H,v.n⟩)
   (IFil g.cells.length (Gw g i) (hset (AP H ta) (n+3) .tok) (n+5)) (λv=>g.cells.length-v.j) ⟨0,.nil,hset (AP H ta) (n+3) .tok,n+5⟩ rfl ⟨Wz _,W9 _,hH2f,λid d7=>rfl,.inl rfl,.inr rfl⟩ ?_
  rintro⟨j,tc,H1,n1⟩ ⟨hj,l5,hf1,hk,htc,hec⟩;simp only at hj l5 hf1 hk htc hec;have l9:hget H1 0=some (.box (AD g.sh g.w g.h g.holes g.cells)):=by rw[hk 0 zo];exact hH20
  have h01':=l9;simp only[AD]at h01';by_cases hlj:j<g.cells.length
  ·have ej:=AE (k:=j) zo;have hs:=Co j (Gw g i);have hga:=harg i c5;have hia:i<ar.length:=zo
   have hfn:few (nbL g i)=True:=W1 (show(nbL g i).length<_ by have:=LP g i;omega);have hb:(decide ((j:Int)=(i:Int))||(nbL g i).contains (j:Int))=Gw g i j:=rfl;cases hbb:Gw g i j with
   |false=>
    rw[hbb,W6 zd]at hs;rw[hbb]at hb;simp only[eZ,seval,eY,h01',lt_T hlj,lt_T hia,hga,Thfm,s2,Ad,AY,A0,Ah,hfn,hb,ej,tadd];exact .mk ⟨j+1,tc,H1,n1⟩ (by simp only[hs]) ⟨hlj,l5,hf1,hk,htc,by simp only[hs];exact hec⟩ zp
   |true=>
    rw[hbb,X0 rfl]at hs;rw[hbb]at hb;have hlen:=Bv j (Gw g i);have u1:A8 H1 1 tc=True:=W1 htc.app;have u2:((idxP j (Gw g i)).length<=35184372088831)=True:=W1 zo;have u3:Aj ((idxP j (Gw g i)).length+1) 8=True:=W1 (AZ zo zd);simp only[eZ,seval,eY,h01',lt_T hlj,lt_T hia,hga,Thfm,s2,Ad,AY,A0,Ah,hfn,hb,ej,u1,u2,u3,fr1 hf1,tadd];refine .mk ⟨j+1,.own (n1+3) 1,hset (AP H1 tc) (n1+3) .tok,n1+5⟩ ?_ ⟨hlj,zp,(AU htc hf1).hset (m:=n1+5) zo zo,λid d7=>?_,.inr (.inr ⟨n1+3,rfl,zo,AB ..⟩),.inl rfl⟩ zp
    ·simp only[hs,X2];rfl
    ·grind [AA,AW]
  obtain rfl:j=g.cells.length:=zo
  have up:∀{t:jz},tkG 1 1 (hset (AP H ta) (n+3) .tok) t->tkG 1 1 H1 t:=λh=>by
   rcases h with rfl|rfl|⟨id,rfl,h1,h2⟩
   ·exact .inl rfl
   ·exact .inr (.inl rfl)
   ·exact .inr (.inr ⟨id,rfl,h1,by rw[hk id (hH2f.lt h2)];exact h2⟩)
  have i9:=up hH2l;have m4:=up hH2a;have a1:A8 H1 1 tl=True:=W1 i9.app;simp only[eZ,seval,W0,h01',lt_F hlj,e,a1,r2,r3,fr1 hf1];refine .mk ⟨i+1,E++[.sl tc ((idxP g.cells.length (Gw g i)).map eI)],.own (n1+3) 1,.own (n+3) 1,hset (AP H1 tl) (n1+3) .tok,n1+5⟩ (by simp only[hAs,X2];rfl) ⟨c5,zp,(AU i9 hf1).hset (m:=n1+5) zo zo,?_,.inr (.inr ⟨n1+3,rfl,zo,AB ..⟩),JD m4 i9 hH2p.symm hf1 zo,(apT.fresh m4 hf1 zo 1).symm,.inl rfl,.inl rfl,?_⟩ zp
  ·grind [AA,AW]
  ·simp only[hfm,X2,Xh,Xp];exact hE.app (.cons (Wk.sl (hec.imp id λq=>by rw[q];rfl)) .nil)
 have z5:(f=5)=False:=W4 z5';by_cases z6':f=6
 ·subst z6';have hfm:fmL g 6 (i+1)=fmL g 6 i++Nr g i:=by
   unfold fmL;rw[W6 zd,W6 zd,X0 rfl,W6 zd,W6 zd,X0 rfl,Y4,Z8];simp
  simp only[eZ,seval,W0,s6,lt_T c5,q1,q2,q3,fr1 c7];refine AL (λv:VRg=>⟨[(1,true,.int .i64 6),(2,true,.ptr 0 0),(6,true,eLl ar),(8,true,.sl v.tl v.E),(9,true,.sl (.own (n+3) 1) ((allL i).map eI++[.int .i64 i])),(10,true,.int .i64 i),(13,true,.int .i64 v.i)],v.H,v.n⟩)
   (IPr g i (n+3)) (λv=>(nbL g i).length-v.i) ⟨0,E,tl,hset (AP H ta) (n+3) .tok,n+5⟩ rfl ⟨Wz _,zp,hH2f,hH20,hH2l,hH2a,hH2p,d8,by
    show Wks E ((fmL g 6 i++prT g i 0).map eIs);have:prT g i 0=[]:=rfl;rw[this,Xn];exact hE⟩ ?_
  rintro⟨j,E1,t1,H1,n1⟩ hJ;have hj:=hJ.hj;have l5:=hJ.hn;have hf1:=hJ.fr;have l9:=hJ.h0;have i9:=hJ.tok;have m4:=hJ.toka;have hp1:=hJ.ap;have he1:=hJ.es;have hE1:=hJ.hE;simp only at hj l5 hf1 l9 i9 m4 hp1 he1 hE1;have h01':=l9;simp only[AD]at h01';have hga:=harg i c5;have hia:i<ar.length:=zo
  have hnl:=LP g i;by_cases hlj:j<(nbL g i).length
  ·have ej:=AE (k:=j) zo;have hgj:=W2 hlj;have hst:=SW g i hlj;generalize (nbL g i)[j]=x at hgj hst;by_cases hx:(i:Int)<x
   ·rw[X0 hx]at hst;have hEl1:E1.length<=65536:=by
     have:=hE1.len;rw[W0,Xb]at this;have a:=PM g 6 hr2 i;have b:=VJ g i j;omega
    have a1:A8 H1 1 t1=True:=W1 i9.app;have u2:(E1.length<=35184372088831)=True:=W1 zo;have u3:Aj (E1.length+1) 24=True:=W1 (AZ zo zd);simp only[eZ,seval,eY,lt_T hlj,hgj,lt_T hia,hga,W1 hx,ej,a1,u2,u3,fr1 hf1];refine .mk ⟨j+1,E1++[.sl (.exact 1) [.int .i64 i,.int .i64 x]],.own (n1+11) 1,hset (AP H1 t1) (n1+11) .tok,n1+13⟩ rfl ⟨hlj,zp,(AU i9 hf1).hset (m:=n1+13) zo zo,?_,.inr (.inr ⟨n1+11,rfl,zo,AB ..⟩),JD m4 i9 hp1.symm hf1 zo,(apT.fresh m4 hf1 zo 1).symm,.inl rfl,?_⟩ zp
    ·grind [AA,AW]
    ·simp only[hst,<-Xt,X2,Xh,Xp];rw[X2]at hE1;exact hE1.app (.cons (Wk.sl (.inl rfl)) .nil)
   ·rw[W6 hx]at hst;simp only[eZ,seval,eY,lt_T hlj,hgj,lt_T hia,hga,W4 hx,ej];exact .mk ⟨j+1,E1,t1,H1,n1⟩ rfl ⟨hlj,l5,hf1,l9,i9,m4,hp1,he1,by simp only[hst];exact hE1⟩ zp
  obtain rfl:j=(nbL g i).length:=zo
  simp only[eZ,seval,eY,lt_F hlj,lt_T hia,hga,e];refine .mk ⟨i+1,E1,t1,.own (n+3) 1,H1,n1⟩ (by simp only[hAs,X2];rfl) ⟨c5,zp,hf1,l9,i9,m4,hp1,he1,.inl rfl,?_⟩ zp;have d6:prT g i (nbL g i).length=Nr g i:=by unfold prT Nr;rw[X4]
  simp only[hfm,<-d6];exact hE1
 have z6:(f=6)=False:=W4 z6';have hfm:fmL g f (i+1)=fmL g f i:=by
  unfold fmL;rw[W6 z0',W6 z5',W6 z6',W6 z0',W6 z5',W6 z6']
 simp only[eZ,seval,W0,s6,lt_T c5,q1,q2,q3,fr1 c7,z0,z5,z6,e];exact .mk ⟨i+1,E,tl,.own (n+3) 1,hset (AP H ta) (n+3) .tok,n+5⟩ (by simp only[hAs,X2];rfl) ⟨c5,zp,hH2f,hH20,hH2l,hH2a,hH2p,d8,.inl rfl,by simp only[hfm];exact hE⟩ zp
section
variable {cells:List Int}
theorem PN:∀{l:List zj},C7 cells l=0->∀r∈l,regE cells r=0
 |[],_,r,h=>by cases h
 |a::s,h0,r,h=>by
  unfold C7 at h0;split at h0
  ·rename_i ha;rcases Xr.1 h with rfl|h
   ·exact ha
   ·exact PN h0 r h
  ·rename_i ha;exact absurd h0 ha
theorem SX{x:zk}(h:chkD x=0)(hc:Ai x.sh x.w x.h x.holes=some cells):C7 cells x.regs=0:=by
 unfold chkD at h;split at h
 ·cases h
 ·split at h
  ·rename_i e he;exact absurd h (ER he)
  ·grind
theorem fmV_S{g:j9}(G:GrV g){f:Nat}(hf:f<=7):fmV g (f:Int)= .tup [eLl (famS g.sh g.w g.h (AT g.sh g.w g.cells) f),.int .i64 0]:=by
 have hgo:grOK g.sh g.w g.h g.holes g.cells=true:=Xf G.hG;unfold fmV;rw[hgo,X0 rfl,W6 zo,famR_S G hf]
theorem VK{g:j9}(G:GrV g):nbV g= .tup [eLl (nbsS g.sh (AT g.sh g.w g.cells)),.int .i64 0]:=by
 have hgo:grOK g.sh g.w g.h g.holes g.cells=true:=Xf G.hG;unfold nbV;rw[hgo,X0 rfl]
theorem PO{x:zk}(h:chkD x=0)(hc:Ai x.sh x.w x.h x.holes=some cells){r:zj}(hr:r∈x.regs):rgsV cells r.ls= .tup [eLl (r.ls.map (BP cells)),.int .i64 0]:=by
 have h1:=PN (SX h hc) r hr;unfold regE at h1;unfold rgsV;split at h1
 ·cases h1
 ·rename_i q;rw[X0 (by simpa using q)]
end
abbrev knd0:z8:=⟨dcl0,⟨0,0,0,[],[]⟩,[],[]⟩
def B4(d:zk):Fs:=match DU d with
 | .error e=>.tup [Bj knd0,.int .i64 e]
 | .ok k=>.tup [Bj k,.int .i64 0]
abbrev zKn:List Fs:=[.str [],z0,z0,z0,z0,zs,zs,zs,zs,zs,z0,z0,z0,zs,zs,zs,zs]
def VL{d:zk}{g:j9}{nb:List (List Int)}{ls:List (List (List Int))}{a b c d' e f h i j:Fs}(ha:Wk a (eIs d.holes))(hb:Wk b (eSys d.syms))(hc:Wk c (eRgs d.regs))(hd:Wk d' (eCls d.clus))(he:Wk e (eRus d.ruls))(hf:Wk f (eIs g.holes))(hh:Wk h (eIs g.cells))(hi:Wk i (eLl nb))(hj:Wk j (eLLs ls)):
  Wk (.agg [.str d.nm,.int .i64 d.ver,.int .i64 d.sh,.int .i64 d.w,.int .i64 d.h,a,b,c,d',e,.int .i64 g.sh,.int .i64 g.w,.int .i64 g.h,f,h,i,j]) (Bj ⟨d,g,nb,ls⟩):=
 Wk.agg (.cons (Wk.refl _) (.cons (Wk.refl _) (.cons (Wk.refl _) (.cons (Wk.refl _) (.cons (Wk.refl _) (.cons ha (.cons hb (.cons hc (.cons hd (.cons he (.cons (Wk.refl _) (.cons (Wk.refl _) (.cons (Wk.refl _) (.cons hf (.cons hh (.cons hi (.cons hj .nil)))))))))))))))))
def Md(e:Int):Wk (.tup [.agg zKn,.int .i64 e]) (.tup [Bj knd0,.int .i64 e]):=
 Wk.tup (.cons (VL (d:=dcl0) (g:=⟨0,0,0,[],[]⟩) (Wk.sl (.inr rfl)) (Wk.sl (.inr rfl)) (Wk.sl (.inr rfl)) (Wk.sl (.inr rfl)) (Wk.sl (.inr rfl)) (Wk.sl (.inr rfl)) (Wk.sl (.inr rfl)) (Wk.sl (.inr rfl)) (Wk.sl (.inr rfl))) (.cons (Wk.refl _) .nil))
def Tbd:Tab:=tadd 85 (s1 dD FewR CA) (tadd 86 (s1 dD qk λd=>.int .i64 (chkD d)) (tadd 87 sMk (tadd 88 (s1 dGd (λg=>few g.holes) nbV) (tadd 89 (s2 dGd dI (λg _=>few g.holes) fmV) (tadd 90 (s2 dGd dLl (λg l=>Ai g.sh g.w g.h g.holes=some g.cells/\few g.holes/\Br l) λg l=>rgsV g.cells l) tnil)))))
def Tbd_ok:AI prog Tbd:=(((((AI.tnil.add (q2 λg l h=>p90 g l h.1 h.2.1 h.2.2)).add (q2 λg f h=>p89 g f h)).add (q1 p88)).add qMk).add (q1 λd h=>p86 d h)).add (q1 λd h=>p85 d h.1 h.2)
theorem VN(a:List Fs)(H:AC):Tbd 85 a H=s1 dD FewR CA a H:=rfl
theorem Tbd_c(a:List Fs)(H:AC):Tbd 86 a H=s1 dD qk (λd=>.int .i64 (chkD d)) a H:=rfl
theorem Tbd_m(sh w h:Int)(x:Fs)(H:AC):Tbd 87 [.int .i64 sh,.int .i64 w,.int .i64 h,x] H=(dIs.ok x/\few (dIs.dec x),BK sh w h (dIs.dec x)):=rfl
theorem Tbd_n(a:List Fs)(H:AC):Tbd 88 a H=s1 dGd (λg=>few g.holes) nbV a H:=rfl
theorem Tbd_f(a:List Fs)(H:AC):Tbd 89 a H=s2 dGd dI (λg _=>few g.holes) fmV a H:=rfl
theorem Tbd_g(a:List Fs)(H:AC):Tbd 90 a H=s2 dGd dLl (λg l=>Ai g.sh g.w g.h g.holes=some g.cells/\few g.holes/\Br l) (λg l=>rgsV g.cells l) a H:=rfl
abbrev cKb(x:zk)(cells:List Int)(v:Fs):List Fs:=[.str x.nm,.int .i64 x.ver,.int .i64 x.sh,.int .i64 x.w,.int .i64 x.h,eIs x.holes,eSys x.syms,eRgs x.regs,eCls x.clus,eRus x.ruls,.int .i64 x.sh,.int .i64 x.w,.int .i64 x.h,eIs x.holes,eIs cells,eLl (nbsS x.sh (AT x.sh x.w cells)),v]
structure IBd(x:zk)(cells:List Int)(m:Nat)(L:Nat->List (List (List Int)))(v:VRg):Prop where
 hi:v.i<=m
 hn:15<=v.n
 fr:AQ v.H v.n
 h1:hget v.H 1=some (.box zKn)
 h8:hget v.H 8=some (.box (AH x))
 h13:hget v.H 13=some (.box (cKb x cells (.sl v.tl v.E)))
 tok:tkG 1 14 v.H v.tl
 es:v.tl.esz=1\/v.E=[]
 hE:Wks v.E ((L v.i).map eLl)
def p52(d:zk)(hd:FewR d):Pur prog 52 [encD d] (B4 d):=by
 refine .mk ⟨Ab 0 d,trivial⟩ (by unfold B4;split<;>exact⟨Ag 0 _,trivial,trivial⟩) (c52.a (AF Tbd_ok (AG ?_)));have e1:dD.ok (.agg (AH d))=True:=A7 d;have e2:dD.dec (.agg (AH d))=d:=Al d;simp only[AH]at e1 e2;unfold B4 DU;cases hr:resD d with
 |error e=>
  have hv:CA d= .tup [encD dcl0,.int .i64 e]:=by unfold CA;rw[hr]
  have he:(e=0)=False:=W4 (ER hr);simp only[eZ,seval,W7,eY,BH,c52,AH,VN,s1,e1,e2,W1 hd,hv,he];exact Md e
 |ok x=>
 have hv:CA d= .tup [encD x,.int .i64 0]:=by unfold CA;rw[hr]
 have hfx:=Fv hd.1 hr;have x1:dD.ok (.agg (AH x))=True:=A7 x;have x2:dD.dec (.agg (AH x))=x:=Al x;simp only[AH]at x1 x2;simp only[];by_cases hc:chkD x=0;case neg=>
  rw[X0 hc];simp only[eZ,seval,W3,W7,eY,BH,c52,AH,VN,Tbd_c,s1,e1,e2,x1,x2,W1 hd,W1 hfx,hv,W4 hc];exact Md _
 rw[W6 (λz=>z hc)];obtain⟨cells,hg⟩:=Mb hc;rw[hg];simp only[];have hm:BK x.sh x.w x.h x.holes= .tup [encG x.sh x.w x.h x.holes cells,.int .i64 0]:=by unfold BK;rw[hg]
 have G:GrV (At x cells):=⟨hg,hfx.ho⟩;have g1:dGd.ok (.agg [.int .i64 x.sh,.int .i64 x.w,.int .i64 x.h,eIs x.holes,eIs cells])=True:=DQ (At x cells);have g2:dGd.dec (.agg [.int .i64 x.sh,.int .i64 x.w,.int .i64 x.h,eIs x.holes,eIs cells])=At x cells:=CD (At x cells);have hho:few (At x cells).holes=True:=W1 hfx.ho;have t6:nbV (At x cells)= .tup [eLl (nbsS x.sh (AT x.sh x.w cells)),.int .i64 0]:=VK G;simp only[eZ,seval,W3,eY,c52,AH,VN,Tbd_c,Tbd_m,Tbd_n,s1,e1,e2,x1,x2,g1,g2,Ad,AY,W1 hd,W1 hfx,W1 hfx.ho,hho,hv,hc,hm,t6];refine AL (λv:VRg=>⟨[(2,true,.ptr 1 0),(4,true,.ptr 8 0),(6,true,.ptr 13 0),(7,true,.int .i64 v.i)],v.H,v.n⟩) (IBd x cells 8 λi=>(List.range i).map λf=>famS x.sh x.w x.h (AT x.sh x.w cells) f) (λv=>8-v.i)
  ⟨0,[],.nil,_,15⟩ rfl ?_ ?_
 ·refine⟨Wz _,W9 _,?_,rfl,rfl,rfl,.inl rfl,.inr rfl,.nil⟩;simp only[];repeat' (first|exact AQ.nil.hset (m:=15) (Wz _) zd|refine AQ.hset ?_ (W9 _) zd)
 rintro⟨i,E,tl,H,n⟩ hI;have hi:=hI.hi;have hn:=hI.hn;have c7:=hI.fr;have h1:=hI.h1;have h8:=hI.h8;have h13:=hI.h13;have htl:=hI.tok;have d8:=hI.es;have hE:=hI.hE;simp only at hi hn c7 h1 h8 h13 htl d8 hE;have h8':=h8;simp only[AH]at h8';by_cases c5:i<8
 ·have e:=AE (k:=i) zo;have hq:((i:Int)<8)=True:=W1 zo;have hfm:fmV (At x cells) (i:Int)= .tup [eLl (famS x.sh x.w x.h (AT x.sh x.w cells) i),.int .i64 0]:=fmV_S G zo;have hEl:E.length=i:=by
   have:=hE.len;rw[W0,W0,Yv]at this;exact this
  have q1:A8 H 1 tl=True:=W1 htl.app;have q2:(E.length<=35184372088831)=True:=W1 zo;have q3:Aj (E.length+1) 24=True:=W1 (AZ zo zd);have hk13:=AW htl (i:=13) (.inr ⟨_,h13⟩);rw[h13]at hk13;have y1:∀k,(13=n+k)=False:=λk=>W4 zo
  have y2:(n=9)=False:=W4 zo;have y3:(9=n)=False:=W4 zo;simp only[eZ,seval,eY,h13,hq,Tbd_f,s2,g1,g2,A0,Ah,hho,hfm,e,q1,q2,q3,fr1 c7,hk13,y2];refine .mk ⟨i+1,E++[eLl (famS x.sh x.w x.h (AT x.sh x.w cells) i)],.own (n+4) 1,hset (hset (AP H tl) (n+4) .tok) 13 (.box (cKb x cells (.sl (.own (n+4) 1) (E++[eLl (famS x.sh x.w x.h (AT x.sh x.w cells) i)])))),n+7⟩ rfl ⟨c5,zp,((AU htl c7).hset (m:=n+7) zo zo).hset (W9 _) (show 13<n+7 by omega),?_,?_,AB ..,.inr (.inr ⟨n+4,rfl,zo,?_⟩),.inl rfl,?_⟩ zp
  ·grind [AA,AW]
  ·grind [AA,AW]
  ·simp only[];rw[AA _ _ _ _ zo,AB]
  ·simp only[Y4,X2,Xh,Xp]at hE⊢;exact hE.app (.cons (Wk.refl _) .nil)
 obtain rfl:i=8:=zo
 have hq:(((8:Nat):Int)<8)=False:=W4 zd;simp only[eZ,seval,hq];refine AL (λv:VRg=>⟨[(2,true,.ptr 1 0),(4,true,.ptr 8 0),(6,true,.ptr 13 0),(10,true,.int .i64 v.i)],v.H,v.n⟩) (IBd x cells x.regs.length λi=>((List.range 8).map λf=>famS x.sh x.w x.h (AT x.sh x.w cells) f)++(x.regs.take i).map λr=>r.ls.map (BP cells)) (λv=>x.regs.length-v.i)
  ⟨0,E,tl,H,n⟩ rfl ⟨Wz _,hn,c7,h1,h8,h13,htl,d8,by
   simp only[Y5,Xp,Xn];exact hE⟩ ?_
 clear hE d8 htl h13 h8' h8 h1 c7 hn hI hq c5 hi;rintro⟨i,E,tl,H,n⟩ hI;have hi:=hI.hi;have hn:=hI.hn;have c7:=hI.fr;have h1:=hI.h1;have h8:=hI.h8;have h13:=hI.h13;have htl:=hI.tok;have d8:=hI.es;have hE:=hI.hE;simp only at hi hn c7 h1 h8 h13 htl d8 hE;have h8':=h8;simp only[AH]at h8';have hrl:x.regs.length<=4:=by simp_all [chkD,limD,W5,W8]<;>omega
 by_cases c5:i<x.regs.length
 ·have e:=AE (k:=i) zo;have hgr:=W2 c5;have hmem:x.regs[i]∈x.regs:=X5 c5;have hrg:=PO hc hg hmem;have hfl:Br x.regs[i].ls=True:=W1 (hfx.rgs _ hmem);have c8:x.regs.take (i+1)=x.regs.take i++[x.regs[i]]:=by rw[X7,hgr];rfl
  generalize x.regs[i]=r at hgr hrg hfl c8;have hgc:(Ai (At x cells).sh (At x cells).w (At x cells).h (At x cells).holes=some (At x cells).cells)=True:=W1 hg;have hgd:(Ai (At x cells).sh (At x cells).w (At x cells).h (At x cells).holes=some cells)=True:=W1 hg;have hgx:(At x cells).cells=cells:=rfl;have hEl:E.length=8+i:=by
   have:=hE.len;rw[W0,Xb,W0,W0,Yv,Xg]at this;omega
  have q1:A8 H 1 tl=True:=W1 htl.app;have q2:(E.length<=35184372088831)=True:=W1 zo;have q3:Aj (E.length+1) 24=True:=W1 (AZ zo zd);have hk13:=AW htl (i:=13) (.inr ⟨_,h13⟩);rw[h13]at hk13;have y1:∀k,(13=n+k)=False:=λk=>W4 zo
  have y2:(n=9)=False:=W4 zo;have y3:(9=n)=False:=W4 zo;simp only[eZ,seval,eY,h8',h13,lt_T c5,hgr,Tbd_g,s2,g1,g2,CQ,Bm,hho,hgd,hgx,hfl,hrg,e,q1,q2,q3,fr1 c7,hk13,y2];refine .mk ⟨i+1,E++[eLl (r.ls.map (BP cells))],.own (n+4) 1,hset (hset (AP H tl) (n+4) .tok) 13 (.box (cKb x cells (.sl (.own (n+4) 1) (E++[eLl (r.ls.map (BP cells))])))),n+7⟩ rfl ⟨c5,zp,((AU htl c7).hset (m:=n+7) zo zo).hset (W9 _) (show 13<n+7 by omega),?_,?_,AB ..,.inr (.inr ⟨n+4,rfl,zo,?_⟩),.inl rfl,?_⟩ zp
  ·grind [AA,AW]
  ·grind [AA,AW]
  ·simp only[];rw[AA _ _ _ _ zo,AB]
  ·simp only[c8,X2,Xh,Xp]at hE⊢;rw[<-Xt];exact hE.app (.cons (Wk.refl _) .nil)
 obtain rfl:i=x.regs.length:=zo
 rw[X4]at hE;simp only[eZ,seval,BH,W0,h8',h13,h1,lt_F c5];exact Wk.tup (.cons (VL (d:=x) (g:=At x cells) (Wk.refl _) (Wk.refl _) (Wk.refl _) (Wk.refl _) (Wk.refl _) (Wk.refl _) (Wk.refl _) (Wk.refl _) (Wk.slx d8 hE)) (.cons (Wk.refl _) .nil))
def J2{d:zk}{e:Int}(h:DU d= .error e):¬e=0:=by
 unfold DU at h;split at h
 ·rename_i e' he;cases h;exact ER he
 ·grind
def T8c:Tab:=tadd 52 (s1 dD FewR B4) (tadd 53 (s2 dKn dKn (λa _=>FewKr a) λa b=>.bool (decide (a=b))) tnil)
def T8c_ok:AI prog T8c:=(AI.tnil.add (q2 λa b h=>p53 a b h)).add (q1 λd h=>p52 d h)
def p22(k:z8)(h1:FewR k.d)(h2:FewKr k):Pur prog 22 [Bj k] (.int .i64 (BG k)):=by
 refine .mk ⟨Ag 0 k,trivial⟩ trivial (c22.a (AF T8c_ok (AG ?_)));have e1:dD.ok (.agg (AH k.d))=True:=A7 k.d;have e2:dD.dec (.agg (AH k.d))=k.d:=Al k.d;have u1:dKn.ok (.agg (AJ k))=True:=DW k;have u2:dKn.dec (.agg (AJ k))=k:=CJ k;simp only[AH]at e1 e2;simp only[AJ,AD,AH,Xm,Xl]at u1 u2;unfold BG Gv;cases hb:DU k.d with
 |error e=>
  have hv:B4 k.d= .tup [Bj knd0,.int .i64 e]:=by unfold B4;rw[hb]
  have he:(e=0)=False:=W4 (J2 hb);simp only[eZ,seval,W3,W7,eY,c22,AJ,AD,AH,T8c,s1,s2,e1,e2,u1,u2,W1 h1,W1 h2,hv,he,tadd]
 |ok x=>
 have hv:B4 k.d= .tup [Bj x,.int .i64 0]:=by unfold B4;rw[hb]
 have v1:dKn.ok (.agg (AJ x))=True:=DW x;have v2:dKn.dec (.agg (AJ x))=x:=CJ x;simp only[AJ,AD,AH,Xm,Xl]at v1 v2;simp only[];by_cases hx:k=x
 ·simp only[eZ,seval,W3,eY,c22,AJ,AD,AH,T8c,s1,s2,e1,e2,u1,u2,v1,v2,W1 h1,W1 h2,hv,BA hx,tadd]
 ·simp only[eZ,seval,W3,W7,eY,c22,AJ,AD,AH,T8c,s1,s2,e1,e2,u1,u2,v1,v2,W1 h1,W1 h2,hv,Aw hx,tadd]
structure VSp where
 i:Nat
 H:AC
 n:Nat
def JE(g:j9)(G:GrV g){l' q:Nat}{J:Nat->AC->Nat->Prop}(hJ:∀i H n,J i H n->hget H q=some (.box (AD g.sh g.w g.h g.holes g.cells)))
  (hy:∀i H n,i<g.cells.length->J i H n->∀R:Bool->AC->Nat->Prop,(∀H' n',J (i+1) H' n'->R true H' n')->Bx prog l' [.int .i64 i,.agg [.int .i64 (spC g i).1,.int .i64 (spC g i).2]] H n R) {H:AC} {n:Nat} (h0:J 0 H n):
  AO prog 251 [.fn (.yield l') [] [],.ptr q 0] H n λo H' n'=>o= .ret (.tup [])/\J g.cells.length H' n':=by
 obtain⟨hr1,hr2,hr3⟩:=Ax G.hG;refine c251.a (AF AI.tnil (AG ?_));have hq:=hJ 0 H n h0;simp only[AD]at hq;simp only[eE,eN,seval,W0,c251,hq];refine AL (λv:VSp=>⟨[(0,true,.fn (.yield l') [] []),(1,true,.ptr q 0),(8,true,eIs g.cells),(9,true,.int .i64 g.cells.length),(10,true,.int .i64 v.i)],v.H,v.n⟩) (λv=>v.i<=g.cells.length/\J v.i v.H v.n) (λv=>g.cells.length-v.i)
  ⟨0,H,n⟩ rfl ⟨Wz _,h0⟩ ?_
 rintro⟨i,H1,m⟩ ⟨hi,hj⟩;simp only at hi hj;by_cases c5:i<g.cells.length
 ·have hq1:=hJ i H1 m hj;simp only[AD]at hq1;have gi:inG g (i:Int):=⟨zo,by rw[X1];exact c5⟩;obtain⟨k,hk,-,hg,hp,w1,w2,x1,x2,y1,y2,ey,hs⟩:=G.at gi;obtain rfl:k=i:=zo
  have e:=AE (k:=k) zo;have hw:(g.w=0)=False:=W4 zo;have r1:IntKind.wrap .i64 ((Ac g (k:Int)).tdiv g.w)=(Ac g (k:Int)).tdiv g.w:=An zo zo;have r2:IntKind.wrap .i64 (((Ac g (k:Int)).tdiv g.w).tdiv 2)=((Ac g (k:Int)).tdiv g.w).tdiv 2:=An zo zo;have r3:IntKind.wrap .i64 ((Ac g (k:Int)).tmod g.w-((Ac g (k:Int)).tdiv g.w).tdiv 2)=(Ac g (k:Int)).tmod g.w-((Ac g (k:Int)).tdiv g.w).tdiv 2:=An zo zo;rcases hs with h1|h2
  ·have hsp:spC g k=((Ac g (k:Int)).tmod g.w,(Ac g (k:Int)).tdiv g.w):=by unfold spC C9;rw[W6 zo]
   have hz:(g.sh=2)=False:=W4 zo;have hyk:=hy k H1 m c5 hj;rw[hsp]at hyk;simp only[eZ,seval,eY,lt_T c5,hg,hq1,hw,r1,hz];refine hyk _ λH' n' hj'=>?_
   simp only[eZ,seval,W3,yldK,e];exact .mk ⟨k+1,H',n'⟩ rfl ⟨c5,hj'⟩ zp
  ·have hsp:spC g k=((Ac g (k:Int)).tmod g.w-((Ac g (k:Int)).tdiv g.w).tdiv 2,(Ac g (k:Int)).tdiv g.w):=by unfold spC C9;rw[X0 h2]
   have hz:(g.sh=2)=True:=W1 h2;have hyk:=hy k H1 m c5 hj;rw[hsp]at hyk;simp only[eZ,seval,eY,lt_T c5,hg,hq1,hw,r1,r2,r3,hz];refine hyk _ λH' n' hj'=>?_
   simp only[eZ,seval,W3,yldK,e];exact .mk ⟨k+1,H',n'⟩ rfl ⟨c5,hj'⟩ zp
 obtain rfl:i=g.cells.length:=zo
 simp only[eZ,seval,lt_F c5];exact hj
def badR(vals:List Int)(k a b:Int):Bool:=decide (k=1)&&decide (a=b)||decide (k=4)&&decide (at0 vals b<=at0 vals a)
def J3(vals:List Int)(a b:Int):Int:=max (at0 vals a-at0 vals b) (at0 vals b-at0 vals a)
def endR(vals:List Int)(k n:Int)(ls l:List Int):Bool:=
 if k=2 then !l.contains (-1)&&decide (cOwn ls l=0)
 else if k=3 then !l.contains (-1)&&decide (J3 vals (l[0]?.getD 0) (l[1]?.getD 0)<n)
 else if k=6 then decide (n<(cOwn ls l:Int))||decide ((l.length:Int)-n<(cOth ls l:Int))
 else false
def IJ(vals:List Int)(k n:Int)(ls l:List Int):Bool:=Au (badR vals k) l||endR vals k n ls l
theorem Dy{bad:Int->Int->Bool}(h:∀a b,bad a b=false):∀l,Au bad l=false
 |[]=>rfl
 |a::r=>by
  unfold Au;rw[Dy h r,Bool.or_false];simp [h]
def Gx{p q:Int->Int->Bool}(h:∀a b,p a b=q a b)(l:List Int):Au p l=Au q l:=by
 have:p=q:=by funext a b;exact h a b
 rw[this]
def VO{l:List Int}(h:∀s∈l,-1<=s):decide (cNon l=0)= !l.contains (-1):=by
 rw[Xc,W8,Y9,Zm,Ya];unfold cNon;rw[XZ,YX];constructor
 ·intro q hm;exact q _ hm zw
 ·grind
def PP{vals:List Int}{k n:Int}{ls l:List Int}(h:∀s∈l,-1<=s)(h3:k=3->l.length=2):IJ vals k n ls l=BU vals k n ls l:=by
 unfold IJ BU endR;by_cases k1:k=1
 ·subst k1;rw[W6 zd,W6 zd,W6 zd,Bool.or_false,X0 rfl];exact Gx (λa b=>by simp [badR]) l
 by_cases k2:k=2
 ·subst k2;rw[Dy (λa b=>by simp [badR]),X0 rfl,W6 zd,X0 rfl,Y3,VO h,Bool.and_comm]
 by_cases k3:k=3
 ·subst k3;rw[Dy (λa b=>by simp [badR]),W6 zd,X0 rfl,W6 zd,W6 zd,X0 rfl,Y3];obtain⟨a,b,rfl⟩:∃a b,l=[a,b]:=by
   have:=h3 rfl
   match l,this with
   |[a,b],_=>exact⟨a,b,rfl⟩
  have ha:=h a zw;have hb:=h b zw;rw[Xc];unfold Au Au Au J3 absI;simp only[Zm,Xr,YP,or_false,Za,List.any_nil,Bool.or_false,W5,Y9,Ya,W8,Y2,Yi,X6];omega
 by_cases k4:k=4
 ·subst k4;rw[W6 zd,W6 zd,W6 zd,Bool.or_false,W6 zd,W6 zd,W6 zd,X0 rfl];exact Gx (λa b=>by simp [badR]) l
 rw[Dy (λa b=>by simp [badR,k1,k4]),W6 k2,W6 k3,W6 k1,W6 k2,W6 k3,W6 k4,Y3]
section
abbrev eSp(s:Spot):Fs:=.agg [.int .i64 s.1,.int .i64 s.2]
def spEs:List Spot->Nat->List (Fs×Fs×Nat)
 |[],_=>[]
 |s::r,i=>(eSp s,.int .i64 (i:Int),i)::spEs r (i+1)
theorem Me:∀(l:List Spot) (i:Nat),Dq (.arr 2 .i64) (spEs l i)=True
 |[],_=>rfl
 |s::r,i=>by rw[spEs,Dq,Me r (i+1)];simp [KT.is,isIs]
def ceq_sp(s t:Spot):ceq (eSp s) (eSp t)=decide (s=t):=by
 obtain⟨a,b⟩:=s;obtain⟨c,d⟩:=t;rw[Xc];simp [ceq,ceqs,Prod.mk.injEq]
def Ns(x:Spot)(r:List Spot)(s:Spot):EP (x::r) s=if x=s then some 0 else(EP r s).map (· +1):=by
 unfold EP;rw[List.findIdx?_cons];by_cases h:x=s
 ·simp [h]
 ·simp only[h,Zv,Xd,Xo];cases List.findIdx? (λx=>decide (x=s)) r<;>simp
theorem PQ:∀(l:List Spot) (s:Spot) (i:Nat),BO (eSp s) (spEs l i)=(EP l s).map λn=>.int .i64 (n+(i:Int))
 |[],s,i=>rfl
 |x::r,s,i=>by
  rw[spEs,BO,Ns,PQ r s (i+1),ceq_sp];by_cases h:x=s
  ·subst h;simp
  ·have:¬s=x:=λq=>h q.symm
   simp only[h,this,Zv,Xd,Xo];cases EP r s with
   |none=>rfl
   |some n=>simp only[Xz];congr 2;omega
def JF(l:List Spot)(s:Spot):BO (eSp s) (spEs l 0)=(EP l s).map λn=>.int .i64 n:=by
 rw[PQ];congr 1;funext n;simp
theorem UN:∀(l:List Spot) (s:Spot) (i:Nat),spEs (l++[s]) i=spEs l i++[(eSp s,.int .i64 ((i+l.length:Nat):Int),i+l.length)]
 |[],s,i=>rfl
 |x::r,s,i=>by
  rw[Xm,spEs,UN r s (i+1),spEs,Xm,Xe,show i+1+r.length=i+(r.length+1)by omega]
def sp_set{l:List Spot}{s:Spot}(h:s∉l):mset (eSp s) (.int .i64 (l.length:Int)) l.length (spEs l 0)=spEs (l++[s]) 0:=by
 have h':=I4.2 h;rw[Gp (by rw[JF,h'];rfl),UN];simp
def IK{g:j9}{i:Nat}(h:i<g.cells.length):(AT g.sh g.w g.cells).take (i+1)=(AT g.sh g.w g.cells).take i++[spC g i]:=by
 rw[X7,DG h];rfl
def PR{g:j9}{i:Nat}(hd:(AT g.sh g.w g.cells).Nodup)(h:i<g.cells.length):spC g i∉(AT g.sh g.w g.cells).take i:=by
 have e:=IK h;have:((AT g.sh g.w g.cells).take i++[spC g i]).Nodup:=by rw[<-e];exact hd.sublist (List.take_sublist ..)
 rw[Yj]at this;exact λhm=>this.2.2 _ hm _ zw rfl
def frzO:zz->zz
 | .arr e l=>.frz e l
 |x=>x
def frz1(id:Nat)(H:AC):AC:=λi=>if i=id then(H i).map frzO else H i
def frzs(ids:List Nat)(H:AC):AC:=ids.foldr frz1 H
variable {H:AC}
theorem SY{id e:Nat}{l:List Fs}(h:hget H id=some (.arr e l)):frz1 id H=hset H id (.frz e l):=by
 funext i;unfold frz1 hset;by_cases q:i=id
 ·subst q;have h':H i=some (.arr e l):=h;rw[X0 rfl,X0 rfl,h'];rfl
 ·rw[W6 q,W6 (λe=>q e.symm)]
theorem PS{id:Nat}(h:∀e l,hget H id≠some (.arr e l)):frz1 id H=H:=by
 funext i;unfold frz1;split
 ·rename_i q;subst q;have h':∀e l,H i≠some (.arr e l):=h;cases hh:H i with
  |none=>rfl
  |some ob=>cases ob<;>first|rfl|(exact absurd hh (h' _ _))
 ·rfl
theorem JG:∀(ids:List Nat) (H:AC) (i:Nat),hget (frzs ids H) i=if i∈ids then(hget H i).map frzO else hget H i
 |[],H,i=>by simp [frzs]
 |id::r,H,i=>by
  have ih:=JG r H i;show frz1 id (frzs r H) i=_;unfold frz1;have ih':frzs r H i=if i∈r then(hget H i).map frzO else hget H i:=ih
  rw[ih'];by_cases q:i=id
  ·subst q;rw[X0 rfl,X0 (Xy ..)];split
   ·cases hget H i with
    |none=>rfl
    |some ob=>cases ob<;>rfl
   ·rfl
  ·simp_all
theorem AO.sealN{P:Program}{f:FuncId}{args:List Fs}{n:Nat}:∀(k:Nat) {R R':j8->AC->Nat->Prop},AO P f args H n R->
  (∀o H' n',R o H' n'->∃ids:List Nat,ids.length<=k/\R' o (frzs ids H') n')->AO P f args H n R'
 |0,R,R',h,hr=>h.mono λo H' n' q=>by
  obtain⟨ids,h1,h2⟩:=hr _ _ _ q;have:ids=[]:=XD zo;subst this;exact h2
 |k+1,R,R',h,hr=>by
  refine AO.seal (R:=λo H' n'=>∃id,R' o (frz1 id H') n'\/R' o H' n') (AO.sealN k h (R':=λo H' n'=>∃id,R' o (frz1 id H') n'\/R' o H' n') λo H' n' q=>?_) λo H' n' q=>?_
  ·obtain⟨ids,h1,h2⟩:=hr _ _ _ q;cases ids with
   |nil=>exact⟨[],Wz _,0,.inr h2⟩
   |cons id r=>exact⟨r,by simp at h1;omega,id,.inl h2⟩
  ·grind [SY,PS]
theorem Stab.conv{g:Zz}{f:Nat->Option Value}{e:Nat}:∀{l m:List Fs} {o:Nat},l.length=m.length->(∀(k:Nat) a b,l[k]?=some a->m[k]?=some b->∀x,VRel g a x->VRel g b x)->Stab g e f o l->Stab g e f o m
 |[],[],_,_,_,h=>h
 |a::l,b::m,o,hl,hh,⟨⟨v,h1,h2,h3⟩,h4⟩=>
  ⟨⟨v,hh 0 a b rfl rfl v h1,h2,h3⟩,Stab.conv (by simpa using hl) (λk a b h1 h2=>hh (k+1) a b (by simpa using h1) (by simpa using h2)) h4⟩
end
section
theorem c2n:((2:Nat):Int)=2:=rfl
variable {H:AC} {lv:Fs} {g:j9} {n i lo id:Nat} {α:Type}
theorem JH(hf:AQ H n):AO prog 220 [B0 g] H n λo H' n'=>o= .ret (.fn (.func 251) [] [.ptr n 0])/\H'=hset H n (.box (AD g.sh g.w g.h g.holes g.cells))/\n'=n+2:=by
 refine c220.a (AF AI.tnil (AG ?_));simp only[eE,eN,seval,c220,AD,fr0 hf]
def E6:List Spot:=[(1,0),(-1,0),(0,1),(0,-1),(1,-1),(-1,1)]
def Cr(sh:Int):Nat:=if sh=1 then 4 else 6
theorem Nt(sh:Int):EM sh=E6.take (Cr sh):=by
 unfold EM Cr E6;split<;>rfl
abbrev PT:List Fs:=[.int .i64 1,.int .i64 0,.int .i64 (-1),.int .i64 0,.int .i64 0,.int .i64 1,.int .i64 0,.int .i64 (-1),.int .i64 1,.int .i64 (-1),.int .i64 (-1),.int .i64 1]
abbrev Nu:List Fs:=E6.map eSp
abbrev clG(q:Nat):Fs:=.fn (.func 251) [] [.ptr q 0]
theorem PU{ob:zz}(h:hget H i=some ob):hset H i ob=H:=by
 funext j;unfold hset;by_cases e:i=j
 ·subst e;rw[X0 rfl];exact h.symm
 ·rw[W6 e]
theorem LvG.keep{enc:α->Fs}{e:Nat}{H':AC}{qs:List α}(h:LvG enc e lo H lv qs)(hk:∀id e' l,lo<=id->hget H id=some (.arr e' l)->hget H' id=some (.arr e' l)):LvG enc e lo H' lv qs:=by
 rcases h with h|⟨h1,id,rest,h2,h3,h4⟩
 ·exact .inl h
 ·exact .inr ⟨h1,id,rest,h2,h3,hk id _ _ h3 h4⟩
abbrev eNa(q:Nat):List (Nat×Bool×Fs):=[(1,true,.ptr 0 0),(2,true,.ptr 1 0),(3,true,.int .i64 0),(4,true,.ptr 10 0),(5,true,.ptr 12 0),(6,true,.ptr 15 0),(30,true,clG q)]
structure NbA(g:j9)(l':Nat)(i:Nat)(H:AC)(m:Nat):Prop where
 fr:AQ H m
 lm:20<=m
 h0:hget H 0=some (.box (AD g.sh g.w g.h g.holes g.cells))
 h1:hget H 1=some (.box [.sl .nil []])
 h10:hget H 10=some (.box PT)
 h12:hget H 12=some (.box [.int .i64 (Cr g.sh:Nat)])
 h14:hget H 14=some (.map (spEs ((AT g.sh g.w g.cells).take i) 0) i)
 h15:hget H 15=some (.box [.mp 14])
 hq:hget H 17=some (.box (AD g.sh g.w g.h g.holes g.cells))
 hL:hget H 19=some (.lp ⟨l',.ready,none,85,eNa 17, #[31,32],Jl,Jm⟩)
theorem y_nbA{l':Nat}(hd:(AT g.sh g.w g.cells).Nodup)(hi:i<g.cells.length){m:Nat}(F:NbA g l' i H m){R:Bool->AC->Nat->Prop}(hR:∀H' m',NbA g l' (i+1) H' m'->R true H' m'):
  Bx prog l' [.int .i64 i,eSp (spC g i)] H m R:=by
 obtain⟨fr,lm,h0,h1,h10,h12,h14,h15,hq,hL⟩:=F;refine y148_0 hL rfl (AF AI.tnil (AG ?_));simp only[eE,eN,seval,MF,renv,YH,YK,Y8,YV,fr0 fr,AN];have y1:(m=19)=False:=W4 zo;have y2:(m=15)=False:=W4 zo;have y3:(m=14)=False:=W4 zo;have y4:(14=m)=False:=W4 zo;have y5:(15=m)=False:=W4 zo;have y6:(19=m)=False:=W4 zo;refine⟨_,(AA _ _ _ _ zo).trans hL,rfl,AF AI.tnil (AG ?_)⟩;have hn:=PR hd hi;have hf:BO (eSp (spC g i)) (spEs ((AT g.sh g.w g.cells).take i) 0)=none:=by rw[JF,I4.2 hn];rfl
 have hs:=sp_set hn;have hlen:((AT g.sh g.w g.cells).take i).length=i:=by rw[Xg,BI];omega
 rw[hlen]at hs;have hkt:(KT.arr 2 IntKind.i64).is (eSp (spC g i))=True:=W1 ⟨rfl,rfl,trivial⟩;simp only[eE,eN,seval,xE,Option.isSome_none,ME,h15,h14,y2,y3,y6,Me,hkt,hf,hs];refine⟨⟨l',.busy,none,85,eNa 17, #[31,32],Jl,Jm⟩,by simp only[AK];simp,hR _ _ ⟨?_,?_,?_,?_,?_,?_,?_,?_,?_,?_⟩⟩
 ·intro j hj;have hj':m+2<=j:=hj;simp only[AK];repeat rw[W6 zo]
  exact fr j zo
 ·simp only[];omega
 all_goals simp only[]
 ·repeat rw[AA _ _ _ _ zo]
  exact h0
 ·repeat rw[AA _ _ _ _ zo]
  exact h1
 ·repeat rw[AA _ _ _ _ zo]
  exact h10
 ·repeat rw[AA _ _ _ _ zo]
  exact h12
 ·rw[AA _ _ _ _ zo,AB,<-IK hi]
 ·repeat rw[AA _ _ _ _ zo]
  exact h15
 ·repeat rw[AA _ _ _ _ zo]
  exact hq
 ·rw[AB]
abbrev eNb(q:Nat):List (Nat×Bool×Fs):=[(2,true,.ptr 1 0),(3,true,.int .i64 0),(4,true,.ptr 10 0),(5,true,.ptr 12 0),(6,true,.ptr 15 0),(41,true,clG q)]
structure NbB(g:j9)(l' q id:Nat)(c:Nat)(i:Nat)(H:AC)(m:Nat):Prop where
 fr:AQ H m
 lq:id<q
 l20:20<=id
 lm:q+2<m
 h1:hget H 1=some (.box [.ref id 1 0 g.cells.length g.cells.length])
 h10:hget H 10=some (.box PT)\/hget H 10=some (.arr 2 Nu)
 h12:hget H 12=some (.box [.int .i64 (Cr g.sh:Nat)])
 h14:hget H 14=some (.map (spEs (AT g.sh g.w g.cells) 0) c)
 h15:hget H 15=some (.box [.mp 14])
 hq:hget H q=some (.box (AD g.sh g.w g.h g.holes g.cells))
 hL:hget H (q+2)=some (.lp ⟨l',.ready,none,85,eNb q, #[42,43],Hd,He⟩)
 hE:∃E,hget H id=some (.arr 1 E)/\E.length=g.cells.length/\(∀k,i<=k->k<g.cells.length->E[k]?=some (.sl .nil []))/\∀k,k<i->∃a,E[k]?=some a/\LvG eI 1 (id+1) H a (nbS g.sh (AT g.sh g.w g.cells) (spC g k))
def fdT(sh:Int)(S:List Spot)(s:Spot)(j:Nat):List Int:=(E6.take j).filterMap λd=>EP S (addP s d)
theorem fd_end(sh:Int)(S:List Spot)(s:Spot):fdT sh S s (Cr sh)=GS sh S s:=by unfold fdT GS;rw[Nt]
theorem VP(sh:Int)(S:List Spot)(s:Spot){j:Nat}{d:Spot}(h:E6[j]?=some d):fdT sh S s (j+1)=fdT sh S s j++(EP S (addP s d)).toList:=by
 unfold fdT;rw[X7,h,List.filterMap_append];congr 1
theorem fd_len(sh:Int)(S:List Spot)(s:Spot)(j:Nat):(fdT sh S s j).length<=j:=by
 unfold fdT;refine XJ (List.length_filterMap_le ..) ?_;rw[Xg];omega
theorem slx_st{sh:Int}(h:hget H 10=some (.box PT)\/hget H 10=some (.arr 2 Nu)):(slxE H 6 2 0 (Cr sh:Nat) (.ptr 10 0)).1=True/\(slxE H 6 2 0 (Cr sh:Nat) (.ptr 10 0)).2=(hset H 10 (.arr 2 Nu),.ref 10 2 0 (Cr sh) 6):=by
 have hm:Cr sh=4\/Cr sh=6:=by unfold Cr;split<;>simp
 rcases h with h|h
 ·rcases hm with e|e<;>rw[e]<;>(simp [slxE,h,grp];rfl)
 ·rcases hm with e|e<;>rw[e]<;>simp [slxE,h,E6,PU h]
theorem SZ{l:List α}{x:α}(h:l[i]?=some x):l.set i x=l:=Zd λk=>by
 rw[List.getElem?_set];split
 ·grind
 ·rfl
structure VNb where
 j:Nat
 lv:Fs
 H:AC
 n:Nat
theorem PV{enc:α->Fs}{e:Nat}{qs:List α}(h:LvG enc e lo H lv qs):lv.cells=[lv]/\nT lv=True:=by
 rcases h with⟨rfl,-⟩|⟨-,id,rest,rfl,-⟩<;>exact⟨rfl,W1 trivial⟩
theorem y_nbB{l' q c:Nat}(G:GrV g)(hd:(AT g.sh g.w g.cells).Nodup)(hi:i<g.cells.length){m:Nat}(F:NbB g l' q id c i H m){R:Bool->AC->Nat->Prop}(hR:∀H' m',NbB g l' q id c (i+1) H' m'->R true H' m'):
  Bx prog l' [.int .i64 i,eSp (spC g i)] H m R:=by
 obtain⟨fr,lq,l20,lm,h1,h10,h12,h14,h15,hq,hL,E,hE,hEl,hE1,hE2⟩:=F;refine y148_1 hL rfl (AF AI.tnil (AG ?_));simp only[eE,eN,seval,MH,renv,YH,YK,Y8,YV,fr0 fr,AN];refine⟨_,(AA _ _ _ _ zo).trans hL,rfl,AF AI.tnil (AG ?_)⟩;have hlen:=BI g;obtain⟨hr1,hr2,hr3⟩:=Ax G.hG;generalize hlp:zz.lp ⟨l',.busy,none,85,eNb q, #[42,43],Hd,He⟩=lpO;generalize hS:AT g.sh g.w g.cells=S at hd h14 hE2 hR hlen;generalize hs:spC g i=s at hR;have y1:∀k,(12=m+k)=False:=λk=>W4 zo
 obtain⟨s1,s2⟩:=slx_st (H:=hset (hset H m (.box [.int .i64 s.1,.int .i64 s.2])) (q+2) lpO) (sh:=g.sh) (by
  rw[AA _ _ _ _ zo,AA _ _ _ _ zo];exact h10)
 have z1:(m=12)=False:=W4 zo;have z2:(q+2=12)=False:=W4 zo;simp only[eE,eN,seval,xE,MG,h12,z1,z2,s1,s2];have hH10:∀x ob,hset (hset (hset H m (.box [.int .i64 s.1,.int .i64 s.2])) (q+2) lpO) 10 ob x=hget (hset (hset (hset H m (.box [.int .i64 s.1,.int .i64 s.2])) (q+2) lpO) 10 ob) x:=λ_ _=>rfl
 have mk:Cr g.sh<=6:=by unfold Cr;split<;>omega
 have hsr: -16<=s.1/\s.1<=16/\ -16<=s.2/\s.2<=16:=by
  have gi:inG g (i:Int):=⟨zo,by rw[X1];exact hi⟩;obtain⟨k,hk,-,hg,hp,w1,w2,x1,x2,y1',y2',ey,x0⟩:=G.at gi;obtain rfl:k=i:=zo
  subst hs;unfold spC C9;split<;>simp only[]<;>omega
 generalize hHb:hset (hset (hset H m (.box [.int .i64 s.1,.int .i64 s.2])) (q+2) lpO) 10 (.arr 2 Nu)=Hb;have b10:hget Hb 10=some (.arr 2 Nu):=by subst hHb;exact AB ..
 have bm:hget Hb m=some (.box [.int .i64 s.1,.int .i64 s.2]):=by grind [AA,AB]
 have bL:hget Hb (q+2)=some lpO:=by
  subst hHb;rw[AA _ _ _ _ zo,AB]
 have bo:∀x,x≠m->x≠q+2->x≠10->hget Hb x=hget H x:=λx n1 n2 n3=>by
  subst hHb;rw[AA _ _ _ _ (Ne.symm n3),AA _ _ _ _ (Ne.symm n2),AA _ _ _ _ (Ne.symm n1)]
 have bf:AQ Hb (m+2):=λx hx=>by rw[bo x zo zo zo];exact fr x zo
 clear hHb hH10 s1 s2 h10;refine AL (λv:VNb=>⟨[(2,true,.ptr 1 0),(6,true,.ptr 15 0),(9,true,.int .i64 i),(10,true,.ptr m 0),(45,true,.ref 10 2 0 (Cr g.sh) 6),(46,true,.int .i64 (Cr g.sh:Nat)),(47,true,.int .i64 v.j)],v.H,v.n⟩)
  (λv=>v.j<=Cr g.sh/\m+2<=v.n/\AQ v.H v.n/\(∀x,x≠id->x<m+2->hget v.H x=hget Hb x)/\hget v.H id=some (.arr 1 (E.set i v.lv))/\LvG eI 1 (m+2) v.H v.lv (fdT g.sh S s v.j)) (λv=>Cr g.sh-v.j)
  ⟨0,.sl .nil [],Hb,m+2⟩ rfl ⟨Wz _,W9 _,bf,λ_ _ _=>rfl,?_,.inl ⟨rfl,rfl⟩⟩ ?_
 ·grind [SZ]
 rintro⟨j,lv,H2,n2⟩ ⟨hj,hn2,o7,l7,hid2,m5⟩;simp only at hj hn2 o7 l7 hid2 m5;have c1:hget H2 1=some (.box [.ref id 1 0 g.cells.length g.cells.length]):=by rw[l7 1 zo zo,bo 1 zo zo zo];exact h1
 have c14:hget H2 14=some (.map (spEs S 0) c):=by rw[l7 14 zo zo,bo 14 zo zo zo];exact h14
 have c15:hget H2 15=some (.box [.mp 14]):=by rw[l7 15 zo zo,bo 15 zo zo zo];exact h15
 have c10:hget H2 10=some (.arr 2 Nu):=by rw[l7 10 zo zo];exact b10
 have cm:hget H2 m=some (.box [.int .i64 s.1,.int .i64 s.2]):=by rw[l7 m zo zo];exact bm
 have m7:=PV m5;have ah:(E.set i lv)[i]?=some lv:=by rw[List.getElem?_set_self zo]
 have u0:i<(E.set i lv).length:=by rw[YS];omega
 have hel:(E.set i lv).length=g.cells.length:=by rw[YS];omega
 have v1:∀k,(n2+k=m)=False:=λk=>W4 zo
 have v2:∀k,(n2+k=1)=False:=λk=>W4 zo
 have v3:∀k,(n2+k=14)=False:=λk=>W4 zo
 have v4:∀k,(n2+k=15)=False:=λk=>W4 zo
 have v5:∀k,(n2+k=10)=False:=λk=>W4 zo
 have v6:∀k,(n2+k=id)=False:=λk=>W4 zo
 have hfl:=fd_len g.sh S s j;by_cases c5:j<Cr g.sh;case neg=>
  obtain rfl:j=Cr g.sh:=zo
  rw[fd_end]at m5 hfl;have hfs:=Ow g.sh hd s;have cL:hget H2 (q+2)=some lpO:=by rw[l7 (q+2) zo zo];exact bL
  have fin:∀H3,(∀x,x<m->x≠id->hget H3 x=hget H2 x)->hget H3 id=some (.arr 1 (E.set i lv))->AQ H3 n2->LvG eI 1 (id+1) H3 lv (nbS g.sh S s)->
    ∃x,hget H3 (q+2)=some (.lp x)/\R true (hset H3 (q+2) (.lp {x with st:=.ready,pend:=none})) n2:=by
   intro H3 k1 k2 k3 k4;refine⟨⟨l',.busy,none,85,eNb q, #[42,43],Hd,He⟩,?_,hR _ _ ⟨k3.hset (W9 _) zo,lq,l20,zo,?_,.inr ?_,?_,?_,?_,?_,AB ..,E.set i lv,?_,hel,λk h1 h2=>?_,λk h1=>?_⟩⟩
   ·rw[k1 (q+2) zo zo,cL,hlp]
   ·grind [AA]
   ·grind [AA]
   ·grind [AA]
   ·grind [AA]
   ·grind [AA]
   ·grind [AA]
   ·rw[AA _ _ _ _ zo];exact k2
   ·rw[List.getElem?_set_ne zo];exact hE1 k zo h2
   ·by_cases e:k=i
    ·subst e;refine⟨lv,ah,?_⟩;rw[hS,hs];exact k4.keep λx e' l hx ho=>by
      rw[AA _ _ _ _ (λe=>by subst e;rw[k1 (q+2) zo zo,cL,<-hlp]at ho;cases ho)];exact ho
    ·obtain⟨a,ha,hla⟩:=hE2 k zo;refine⟨a,by rw[List.getElem?_set_ne (λe'=>e e'.symm)];exact ha,?_⟩;rw[hS];rcases hla with h|⟨z1,z,rest,z2,z3,z4⟩
     ·exact .inl h
     ·have zm:=fr.lt z4;refine .inr ⟨z1,z,rest,z2,z3,?_⟩;have zq:z≠q+2:=λe=>by subst e;rw[hL]at z4;cases z4
      rw[AA _ _ _ _ (Ne.symm zq),k1 z zo zo,l7 z zo zo,bo z zo zq (λe=>zo)];exact z4
  simp only[eZ,seval,eY,lt_F c5,c1,hid2,hel,lt_T hi,hi,ah,m7.1];rcases m5 with⟨rfl,hq0⟩|⟨d9,z,rest,rfl,hz,hz2⟩
  ·refine LL.mono ?_;rintro o H3 n3 ⟨rfl,rfl,rfl⟩;simp only[eE,eN,retK];refine fin _ (λ_ _ _=>rfl) hid2 o7 (.inl ⟨rfl,?_⟩);rw[<-hfs,hq0,List.mergeSort_nil]
  ·refine(NT hz2 zw zo).mono ?_;rintro o H3 n3 ⟨rfl,rfl,rfl⟩;rw[Ze,List.drop_left];simp only[eE,eN,retK];have hsl:(nbS g.sh S s).length=(GS g.sh S s).length:=by rw[<-hfs,DE]
   refine fin _ (λx h1 h2=>AA _ _ _ _ zo) (by rw[AA _ _ _ _ zo];exact hid2) (o7.hset (W9 _) (o7.lt hz2)) (.inr ⟨?_,z,rest,by rw[hsl],zo,by rw[AB,hfs]⟩);intro e;rw[e]at hsl;exact d9 (XD hsl.symm)
 have hj6:j<E6.length:=by
  have:E6.length=6:=rfl
  omega
 obtain⟨d,hgd⟩:∃d,E6[j]?=some d:=⟨_,W2 hj6⟩;have hdr: -1<=d.1/\d.1<=1/\ -1<=d.2/\d.2<=1:=by
  have hm:=Xw hgd;simp only[E6,Xr,YP,or_false]at hm;rcases hm with rfl|rfl|rfl|rfl|rfl|rfl<;>decide
 have w1:IntKind.wrap .i64 (s.1+d.1)=s.1+d.1:=An zo zo;have w2:IntKind.wrap .i64 (s.2+d.2)=s.2+d.2:=An zo zo;have e:=AE (k:=j) zo;have hfind:BO (.agg [.int .i64 (s.1+d.1),.int .i64 (s.2+d.2)]) (spEs S 0)=(EP S (addP s d)).map λn=>.int .i64 n:=JF S (addP s d)
 have hkt:(KT.arr 2 IntKind.i64).is (.agg [.int .i64 (s.1+d.1),.int .i64 (s.2+d.2)])=True:=W1 ⟨rfl,rfl,trivial⟩;have hsu:=VP g.sh S s hgd;cases hix:EP S (addP s d)with
 |none=>
  rw[hix]at hfind hsu;rw[Option.toList_none,Xn]at hsu;simp only[eZ,seval,xE,eY,lt_T c5,c10,hj6,hgd,fr1 o7,c15,cm,v1,v3,v4,w1,w2,c14,hkt,Me,hfind,CY,e,AN,c2n];refine .mk ⟨j+1,lv,hset H2 (n2+2) (.box [.int .i64 d.1,.int .i64 d.2]),n2+4⟩ rfl ⟨c5,zp,o7.hset (m:=n2+4) zo zo,λx h1 h2=>?_,?_,?_⟩ zp
  ·simp only[];rw[AA _ _ _ _ zo];exact l7 x h1 h2
  ·simp only[];rw[AA _ _ _ _ zo];exact hid2
  ·simp only[hsu];exact m5.keep λx e' l hx ho=>by rw[AA _ _ _ _ (λe=>by subst e;rw[o7 _ zo]at ho;cases ho)];exact ho
 |some b=>
 rw[hix]at hfind hsu;rw[Option.toList_some]at hsu;have hbl:(id<n2+4)=True:=W1 zo;simp only[eZ,eX,seval,xE,eY,lt_T c5,c10,hj6,hgd,fr1 o7,c15,cm,v1,v2,v3,v4,v6,w1,w2,c14,hkt,Me,hfind,CY,AN,c2n,c1,hid2,lt_T hi,u0,ah,m7.1,hbl];have hlv2:LvG eI 1 (m+2) (hset H2 (n2+2) (.box [.int .i64 d.1,.int .i64 d.2])) lv (fdT g.sh S s j):=m5.keep λx e' l hx ho=>by rw[AA _ _ _ _ (λe=>by subst e;rw[o7 _ zo]at ho;cases ho)];exact ho
 have hid3:hget (hset H2 (n2+2) (.box [.int .i64 d.1,.int .i64 d.2])) id=some (.arr 1 (E.set i lv)):=by rw[AA _ _ _ _ zo];exact hid2
 have hf3:AQ (hset H2 (n2+2) (.box [.int .i64 d.1,.int .i64 d.2])) (n2+4):=o7.hset zo zo;have hk3:∀x,x≠id->x<m+2->hget (hset H2 (n2+2) (.box [.int .i64 d.1,.int .i64 d.2])) x=hget Hb x:=λx h1 h2=>by rw[AA _ _ _ _ zo];exact l7 x h1 h2
 generalize hset H2 (n2+2) (.box [.int .i64 d.1,.int .i64 d.2])=H3 at hlv2 hid3 hf3 hk3;refine MP (enc:=eI) (lo:=m+2) (qs:=fdT g.sh S s j) (z0:=0) hlv2 rfl zd rfl rfl (AZ zo zd) (hf3 _ zo) zo zo ?_;intro z rest hz hzm;have hzl:z<n2+13:=by
  rcases hzm with rfl|⟨Z,h⟩
  ·omega
  ·have:=hf3.lt h;omega
 have u1:(z=id)=False:=W4 zo;simp only[eZ,seval,eY,HX,I1,hid3,u1,lt_T hi,hi,ah,hel,List.set_set,e];refine .mk ⟨j+1,.ref z 1 0 (fdT g.sh S s j++[b]).length ((fdT g.sh S s j++[b]).length+rest.length),hset (hset H3 z (.arr 1 (((fdT g.sh S s j++[b])++rest).map eI))) id (.arr 1 (E.set i (.ref z 1 0 (fdT g.sh S s j++[b]).length ((fdT g.sh S s j++[b]).length+rest.length)))),n2+15⟩ rfl ⟨c5,zp,?_,λx h1 h2=>?_,?_,?_⟩ zp
 ·exact(hf3.hset (m:=n2+15) zo zo).hset (W9 _) (show id<n2+15 by omega)
 ·simp only[];rw[AA _ _ _ _ zo,AA _ _ _ _ zo];exact hk3 x h1 h2
 ·simp only[];rw[AB]
 ·simp only[hsu];exact .inr ⟨zw,z,rest,rfl,hz,by rw[AA _ _ _ _ zo,AB]⟩
def NbR(g:j9):j8->AC->Nat->Prop:=λo H _=>
 (grOK g.sh g.w g.h g.holes g.cells=false/\o= .ret (.tup [.sl .nil [],.int .i64 130]))\/
 (grOK g.sh g.w g.h g.holes g.cells=true/\∃id E,o= .ret (.tup [.ref id 1 0 g.cells.length g.cells.length,.int .i64 0])/\hget H id=some (.arr 1 E)/\E.length=g.cells.length/\
  ∀k,k<g.cells.length->∃a,E[k]?=some a/\LvG eI 1 (id+1) H a (nbS g.sh (AT g.sh g.w g.cells) (spC g k)))
def Tnb:Tab:=tadd 219 (s1 dGd (λg=>few g.holes/\few g.cells) chkV) tnil
theorem Tnb_ok:AI prog Tnb:=AI.tnil.add (q1 λg h=>p219 g.sh g.w g.h g.holes g.cells h.1 h.2)
theorem t_nb(g:j9)(hh:few g.holes)(hc:few g.cells):AO prog 148 [B0 g] hnil 0 (NbR g):=by
 refine a148 (AF Tnb_ok (AG ?_));have f1:dGd.ok (.agg (AD g.sh g.w g.h g.holes g.cells))=True:=DQ g;have f2:dGd.dec (.agg (AD g.sh g.w g.h g.holes g.cells))=g:=CD g;simp only[AD]at f1 f2;cases hgo:grOK g.sh g.w g.h g.holes g.cells with
 |false=>
  have hck:chkV g= .int .i64 130:=by unfold chkV;rw[hgo];rfl
  simp only[eZ,seval,W7,BH,c148,AD,Tnb,s1,f1,f2,W1 hh,W1 hc,hck,tadd];exact .inl ⟨hgo,rfl⟩
 |true=>
 have hck:chkV g= .int .i64 0:=by unfold chkV;rw[hgo];rfl
 have hG:Ai g.sh g.w g.h g.holes=some g.cells:=Xu hgo;have G:GrV g:=⟨hG,hh⟩;obtain⟨hr1,hr2,hr3⟩:=Ax hG;have hw:1<=g.w:=by
  unfold Ai at hG;split at hG
  ·rename_i q;exact q.2.1
  ·cases hG
 have hd:(AT g.sh g.w g.cells).Nodup:=Hu hw hr1 λp hp=>(hr3 p hp).1
 have h4:g.sh=1->(4:Int)=((Cr g.sh:Nat):Int):=λe=>by unfold Cr;rw[X0 e];rfl
 have h6:g.sh≠1->(6:Int)=((Cr g.sh:Nat):Int):=λe=>by unfold Cr;rw[W6 e];rfl
 rcases Classical.em (g.sh=1)with m6|m6
 case' inl=>
  simp only[eZ,seval,W3,xE,c148,AD,Tnb,s1,f1,f2,W1 hh,W1 hc,hck,BA m6,AN,tadd];rw[h4 m6]
 case' inr=>
  simp only[eZ,seval,W3,xE,c148,AD,Tnb,s1,f1,f2,W1 hh,W1 hc,hck,Aw m6,AN,tadd];rw[h6 m6]
 all_goals
  generalize hH0:hset _ 15 (zz.box [Fs.mp 14])=H0;have a0:hget H0 0=some (.box (AD g.sh g.w g.h g.holes g.cells)):=by rw[<-hH0];rfl
  have a1:hget H0 1=some (.box [.sl .nil []]):=by rw[<-hH0];rfl
  have a10:hget H0 10=some (.box PT):=by rw[<-hH0];rfl
  have a12:hget H0 12=some (.box [.int .i64 (Cr g.sh:Nat)]):=by rw[<-hH0];rfl
  have a14:hget H0 14=some (.map [] 0):=by rw[<-hH0];rfl
  have a15:hget H0 15=some (.box [.mp 14]):=by rw[<-hH0];rfl
  have af:AQ H0 17:=by
   rw[<-hH0];repeat' (first|exact AQ.nil|refine AQ.hset ?_ (W9 _) zd)
  clear hH0;refine(JH af).mono ?_;rintro o H1 n1 ⟨rfl,rfl,rfl⟩;simp only[eE,eN,seval,retK,FG];intro l';refine(JE g G (J:=NbA g l') (λi H n F=>F.hq) (λi H n hi F R hR=>y_nbA hd hi F hR) ?_).mono ?_
  ·refine⟨?_,zd,?_,?_,?_,?_,?_,?_,?_,?_⟩
   ·exact(af.hset (m:=20) zd zd).hset (W9 _) zd
   all_goals first|(rw[AA _ _ _ _ zd,AA _ _ _ _ zd];assumption)|(rw[AA _ _ _ _ zd,AB])|(rw[AB])
  rintro o H2 n2 ⟨rfl,F⟩;have Ffr:=F.fr;have Flm:=F.lm;have F0:=F.h0;have F1:=F.h1;have F10:=F.h10;have F12:=F.h12;have F14:=F.h14;have F15:=F.h15;have FL:=F.hL;rw[XE (by rw[BI];exact W9 _)]at F14;simp only[AD]at F0;have u1:(n2=1)=False:=W4 zo;have u2:∀k,(n2+k=1)=False:=λk=>W4 zo
  have u3:∀k,(n2+k=0)=False:=λk=>W4 zo
  have u4:∀k,(n2+k=19)=False:=λk=>W4 zo
  have w1:Aj g.cells.length 24=True:=W1 (AZ zo zd);have w2:((g.cells.length:Int)<=35184372088832)=True:=W1 zo;have u5:(n2=16)=False:=W4 zo;simp only[eE,eN,seval,eY,FF,FL,F0,fr1 Ffr,F1,u2,u3,u5,w1,w2];generalize hH3:hset _ 1 (zz.box [Fs.ref (n2+3) 1 0 g.cells.length g.cells.length])=H3;have d0:hget H3 0=some (.box (AD g.sh g.w g.h g.holes g.cells)):=by
   rw[<-hH3];repeat rw[AA _ _ _ _ zo]
   exact F0
  have d1:hget H3 1=some (.box [.ref (n2+3) 1 0 g.cells.length g.cells.length]):=by rw[<-hH3,AB]
  have d10:hget H3 10=some (.box PT):=by
   rw[<-hH3];repeat rw[AA _ _ _ _ zo]
   exact F10
  have d12:hget H3 12=some (.box [.int .i64 (Cr g.sh:Nat)]):=by
   rw[<-hH3];repeat rw[AA _ _ _ _ zo]
   exact F12
  have d14:hget H3 14=some (.map (spEs (AT g.sh g.w g.cells) 0) g.cells.length):=by
   rw[<-hH3];repeat rw[AA _ _ _ _ zo]
   exact F14
  have d15:hget H3 15=some (.box [.mp 14]):=by
   rw[<-hH3];repeat rw[AA _ _ _ _ zo]
   exact F15
  have dE:hget H3 (n2+3)=some (.arr 1 (List.replicate g.cells.length (.sl .nil []))):=by rw[<-hH3,AA _ _ _ _ zo,AB]
  have df:AQ H3 (n2+5):=by
   rw[<-hH3];exact(((Ffr.hset (m:=n2+5) zo zo).hset (m:=n2+5) (W9 _) zo).hset (W9 _) zo)
  clear hH3;refine(JH df).mono ?_;rintro o H4 n4 ⟨rfl,rfl,rfl⟩;simp only[eE,eN,seval,retK,FG];intro l2;refine(JE g G (J:=NbB g l2 (n2+5) (n2+3) g.cells.length) (λi H n F=>F.hq) (λi H n hi F R hR=>y_nbB G hd hi F hR) ?_).mono ?_
  ·refine⟨(df.hset (m:=n2+8) zo zo).hset (m:=n2+8) (W9 _) zo,zo,zo,zo,?_,.inl ?_,?_,?_,?_,?_,AB ..,List.replicate g.cells.length (.sl .nil []),?_,Yo,λk _ hk=>?_,λk hk=>absurd hk (XK _)⟩
   ·repeat rw[AA _ _ _ _ zo]
    exact d1
   ·repeat rw[AA _ _ _ _ zo]
    exact d10
   ·repeat rw[AA _ _ _ _ zo]
    exact d12
   ·repeat rw[AA _ _ _ _ zo]
    exact d14
   ·repeat rw[AA _ _ _ _ zo]
    exact d15
   ·rw[AA _ _ _ _ zo,AB]
   ·repeat rw[AA _ _ _ _ zo]
    exact dE
   ·rw[List.getElem?_replicate,X0 hk]
  rintro o H5 n5 ⟨rfl,K⟩;obtain⟨kfr,klq,kl2,klm,k1,k10,k12,k14,k15,kq,kL,E,kE,kEl,-,kE2⟩:=K;have e1:(n2+5+2=1)=False:=W4 zo;have e2:(n2+7=1)=False:=W4 zo;simp only[eE,eN,seval,BH,FF,kL,k1,e1];refine .inr ⟨hgo,n2+3,E,rfl,?_,kEl,λk hk=>?_⟩
  ·repeat rw[AA _ _ _ _ zo]
   exact kE
  ·obtain⟨a,ha,hla⟩:=kE2 k hk;refine⟨a,ha,hla.keep λx e' l hx ho=>?_⟩;have x1:x≠n2+7:=λe=>by subst e;rw[kL]at ho;cases ho
   rw[AA _ _ _ _ zo,AA _ _ _ _ (Ne.symm x1)];exact ho
def PW:Fs->Option Nat
 | .ref i _ _ _ _=>some i
 |_=>none
theorem VQ{cap:Nat}{E rest:List Fs}(ho:hget H id=some (.frz 1 (E++rest)))(hc:E.length<=cap){g:Zz}{w:World}{x:Value}(hR:qv g H n w)(hv:VRel g (.ref id 1 0 E.length cap) x):VRel g (.sl (.none 1) E) x:=by
 obtain⟨L,h1,h2,rfl⟩:=hv;obtain⟨L',j1,j2,j3⟩:=hR.obj id _ ho;rw[h1]at j1;cases j1;refine .inr ⟨trivial,L.blk,0,cap,⟨none,zw,.inl rfl⟩,hc,?_,trivial⟩;have:=Stab.take E.length _ _ j3;rw[Ze]at this;exact this
theorem Sa{cap:Nat}{E rest:List Fs}{xs:List (List Int)}(ho:hget H id=some (.frz 1 (E++rest)))(hc:E.length<=cap)(hl:E.length=xs.length)(he:∀(k:Nat) a x,E[k]?=some a->xs[k]?=some x->LF 1 a H (x.map eI)){g:Zz}{w:World}{y:Value}(hR:qv g H n w)(hv:VRel g (.ref id 1 0 E.length cap) y):VRel g (eLl xs) y:=by
 have h1:=VQ ho hc hR hv;rcases h1 with⟨q1,rfl,q3⟩|⟨-,b,o,cap,hv,hc,hst,-⟩
 ·refine .inl ⟨?_,rfl,trivial⟩;have:xs=[]:=XD (by rw[<-hl,q1];rfl);rw[this];rfl
 ·refine .inr ⟨trivial,b,o,cap,?_,by rw[W0,<-hl];exact hc,?_,trivial⟩
  ·grind
  ·refine Stab.conv (by rw[W0];exact hl) (λk a b ha hb x hx=>?_) hst;rw[Xa,Yd]at hb;obtain⟨z,hz,rfl⟩:=hb;exact I0 (he k a z ha hz) hR hx
theorem LvG.seal{qs:List Int}{ids:List Nat}(h:LvG eI 1 lo H lv qs)(hi:∀z,PW lv=some z->z∈ids):LF 1 lv (frzs ids H) (qs.map eI):=by
 rcases h with⟨rfl,rfl⟩|⟨d9,z,rest,rfl,-,h4⟩
 ·exact .inl ⟨rfl,_,rfl,.inl rfl⟩
 ·refine .inr ⟨by simpa using d9,z,_,rest.map eI,by rw[W0],?_,zw⟩;rw[JG,X0 (hi z rfl),h4,X2];rfl
def NbS(g:j9):j8->AC->Nat->Prop:=λo H _=>
 (grOK g.sh g.w g.h g.holes g.cells=false/\o= .ret (.tup [.sl .nil [],.int .i64 130]))\/
 (grOK g.sh g.w g.h g.holes g.cells=true/\∃id E,o= .ret (.tup [.ref id 1 0 g.cells.length g.cells.length,.int .i64 0])/\hget H id=some (.frz 1 E)/\E.length=g.cells.length/\
  ∀k,k<g.cells.length->∃a,E[k]?=some a/\LF 1 a H ((nbS g.sh (AT g.sh g.w g.cells) (spC g k)).map eI))
theorem p148(g:j9)(hh:few g.holes)(hc:few g.cells):Pur prog 148 [B0 g] (nbV g):=by
 refine⟨⟨Aq 0 ..,trivial⟩,by unfold nbV;split<;>exact⟨Ak 0 _,trivial,trivial⟩,AO.out (AO.sealN (g.cells.length+1) (t_nb g hh hc) (R':=NbS g) ?_) ?_⟩
 ·rintro o H n (h|⟨hg,id,E,ho,hE,hl,hk⟩)
  ·exact⟨[],Wz _,.inl h⟩
  ·refine⟨id::E.filterMap PW,?_,.inr ⟨hg,id,E,ho,?_,hl,λk hk'=>?_⟩⟩
   ·grind
   ·rw[JG,X0 (Xy ..),hE];rfl
   ·obtain⟨a,ha,hla⟩:=hk k hk';exact⟨a,ha,hla.seal λz hz=>XY _ (List.mem_filterMap.2 ⟨a,Xw ha,hz⟩)⟩
 ·rintro o H n (⟨hg,rfl⟩|⟨hg,id,E,rfl,hE,hl,hk⟩)
  ·refine⟨_,⟨_,rfl,?_⟩,λg w e hR he=>he⟩;unfold nbV;rw[hg];exact Wk.tup (.cons (Wk.sl (.inr rfl)) (.cons (Wk.refl _) .nil))
  ·refine⟨.ret (nbV g),⟨_,rfl,Wk.refl _⟩,λgh w e hR he=>?_⟩;cases e with
   |panicked c=>exact he.elim
   |outgrown=>exact he.elim
   |returned x=>
    have hv:nbV g= .tup [eLl (nbsS g.sh (AT g.sh g.w g.cells)),.int .i64 0]:=by unfold nbV;rw[hg];rfl
    rw[hv];obtain⟨vs,rfl,y,r,e1,k1,k2⟩:=he;refine⟨vs,rfl,y,r,e1,?_,k2⟩;rw[<-hl]at k1;refine Sa (rest:=[]) (by rw[Xn];exact hE) (W9 _) (by rw[hl,nbsS,W0,BI]) (λk a z ha hz=>?_) hR k1;have hkl:k<g.cells.length:=by rw[<-hl];exact(XW.1 ha).1
    obtain⟨a',ha',hla⟩:=hk k hkl;rw[ha]at ha';obtain rfl:=Option.some.inj ha';rw[nbsS,Xa,DG hkl,Xz]at hz;rw[<-Option.some.inj hz];exact hla
end
end Go.AM
