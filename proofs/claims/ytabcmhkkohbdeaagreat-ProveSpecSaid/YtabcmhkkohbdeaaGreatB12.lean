/-
  Parts of the proof. Conditions: none.
-/
import Derived.Test.YtabcmhkkohbdeaaGreatB11
set_option maxRecDepth 20000
set_option linter.all false
namespace Go.AM
open Go.Lib Go.Proofs Go.Proofs.Tryz
structure yO(g:v7):Prop where
 hG:Au g.sh g.w g.h g.wC=some g.cells
 ho:Aq g.wC
def Ai(g:v7)(c:Int):Int:=g.cells.getD c.toNat 0
def JO(g:v7)(c:Int):Prop:=0<=c/\c.toNat<g.cells.length
def yO.at{g:v7}(G:yO g){c:Int}(h:JO g c):∃k:Nat,c=(k:Int)/\k<g.cells.length/\g.cells[k]?=some (Ai g c)/\0<=Ai g c/\1<=g.w/\g.w<=16/\0<=(Ai g c).tmod g.w/\(Ai g c).tmod g.w<16/\0<=(Ai g c).tdiv g.w/\(Ai g c).tdiv g.w<16/\((Ai g c).tdiv g.w).tdiv 2=(Ai g c).tdiv g.w/2/\(g.sh=1\/g.sh=2):=by
 obtain⟨h0,h1⟩:=h;obtain⟨hs,w1,w2,k1,k2,-,-,-,hc⟩:=If G.hG;obtain⟨-,-,hr⟩:=Ba G.hG;have hg:=rz h1;have hp:g.cells[c.toNat]?=some (Ai g c):=by unfold Ai;rw[uK,hg];rfl
 have hm:Ai g c∈g.cells:=sZ hp;have yh:=hm;rw[hc]at yh;have hm3:=(tV.mp yh).1;have hq:0<=Ai g c/\Ai g c<g.w*g.h:=by grind [Ca]
 refine⟨c.toNat,zo,h1,hp,hq.1,w1,w2,Int.tmod_nonneg _ hq.1,by have:=Int.tmod_lt_of_pos (Ai g c) (b:=g.w) zo;omega,Int.tdiv_nonneg hq.1 zo,?_,Int.tdiv_eq_ediv_of_nonneg (Int.tdiv_nonneg hq.1 zo),hs⟩;rw[Int.tdiv_eq_ediv_of_nonneg hq.1];have:=Int.ediv_lt_of_lt_mul (by omega:0<g.w) (by rw[Int.mul_comm];exact hq.2);omega
def p180(g:v7)(c:Int)(G:yO g)(h:JO g c):Av prog 180 [CM g,.int .i64 c] (.int .i64 ((Ai g c).tmod g.w)):=by
 obtain⟨k,rfl,hk,hg,hp,w1,w2,x1,x2,y1,y2,ey,hs⟩:=G.at h;have hw:(g.w=0)=False:=sb zo;have so:((k:Int)<(g.cells.length:Int))=True:=r9 zo;refine .mk ⟨BM 0 ..,zt,zt⟩ zt (qh.a (AI AH.wD (AJ ?_)));simp only[eE,eN,seval,eY,qh,AE,hg,so,hw]
def p181(g:v7)(c:Int)(G:yO g)(h:JO g c):Av prog 181 [CM g,.int .i64 c] (.int .i64 ((Ai g c).tdiv g.w)):=by
 obtain⟨k,rfl,hk,hg,hp,w1,w2,x1,x2,y1,y2,ey,hs⟩:=G.at h;have hw:(g.w=0)=False:=sb zo;have so:((k:Int)<(g.cells.length:Int))=True:=r9 zo;have e1:IntKind.wrap .i64 ((Ai g k).tdiv g.w)=(Ai g k).tdiv g.w:=A4 zo zo;refine .mk ⟨BM 0 ..,zt,zt⟩ zt (qi.a (AI AH.wD (AJ ?_)));simp only[eE,eN,seval,eY,qi,AE,hg,so,hw,e1]
def QV(g:v7)(c:Int):Fs:=.int .i64 ((Ai g c).tmod g.w)
def Oa(g:v7)(c:Int):Fs:=.int .i64 ((Ai g c).tdiv g.w)
def Km(g:v7)(c:Int):Int:=(Ai g c).tmod g.w-((Ai g c).tdiv g.w).tdiv 2
def lw(g:v7)(c:Int):Fs:=.int .i64 (Km g c)
def eO:Bg:=AF 180 (s2 DS dI (λg c=>yO g/\JO g c) QV) (AF 181 (s2 DS dI (λg c=>yO g/\JO g c) Oa) wD)
def QW:AH prog eO:=(AH.wD.add (q2 λg c h=>p181 g c h.1 h.2)).add (q2 λg c h=>p180 g c h.1 h.2)
def p182(g:v7)(c:Int)(G:yO g)(h:JO g c):Av prog 182 [CM g,.int .i64 c] (lw g c):=by
 obtain⟨k,-,hk,hg,hp,w1,w2,x1,x2,y1,y2,ey,hs⟩:=G.at h;have f1:DS.ok (.agg (AE g.sh g.w g.h g.wC g.cells))=True:=EA g;have f2:DS.dec (.agg (AE g.sh g.w g.h g.wC g.cells))=g:=DC g;simp only[AE]at f1 f2;unfold lw Km;have hG:(yO g)=True:=r9 G;have hI:(JO g c)=True:=r9 h;refine .mk ⟨BM 0 ..,zt,zt⟩ zt (qj.a (AI QW (AJ ?_)));have a0:=YY y1;have e1:IntKind.wrap .i64 ((Ai g c).tdiv g.w-((Ai g c).tdiv g.w).tmod 2)=(Ai g c).tdiv g.w-((Ai g c).tdiv g.w).tmod 2:=by
  have:=Int.tmod_nonneg 2 y1;have:=Int.tmod_lt_of_pos ((Ai g c).tdiv g.w) (b:=2) zd;exact A4 zo zo
 have e2:IntKind.wrap .i64 (((Ai g c).tdiv g.w).tdiv 2)=((Ai g c).tdiv g.w).tdiv 2:=A4 zo zo;have e3:IntKind.wrap .i64 ((Ai g c).tmod g.w-((Ai g c).tdiv g.w).tdiv 2)=(Ai g c).tmod g.w-((Ai g c).tdiv g.w).tdiv 2:=A4 zo zo;simp only[eE,eN,seval,qj,AE,eO,s2,f1,f2,Ay,An,QV,Oa,hG,hI,a0,e1,e2,e3,AF]
def eQ:Bg:=AF 182 (s2 DS dI (λg c=>yO g/\JO g c) lw) eO
def Vb:AH prog eQ:=QW.add (q2 λg c h=>p182 g c h.1 h.2)
theorem Tr(a:List Fs)(H:AB):eQ 182 a H=s2 DS dI (λg c=>yO g/\JO g c) lw a H:=rfl
theorem Ts(a:List Fs)(H:AB):eQ 180 a H=s2 DS dI (λg c=>yO g/\JO g c) QV a H:=rfl
theorem QX(a:List Fs)(H:AB):eQ 181 a H=s2 DS dI (λg c=>yO g/\JO g c) Oa a H:=rfl
def p126(g:v7)(a b:Int)(G:yO g)(ha:JO g a)(hb:JO g b):Av prog 126 [CM g,.int .i64 a,.int .i64 b] (.bool (OL g.sh (DR g.sh g.w (Ai g a)) (DR g.sh g.w (Ai g b)))):=by
 obtain⟨k,-,-,-,-,w1,w2,x1,x2,y1,y2,ey,hs⟩:=G.at ha;obtain⟨k',-,-,-,-,-,-,u1,u2,v1,v2,ev,-⟩:=G.at hb;have f1:DS.ok (.agg (AE g.sh g.w g.h g.wC g.cells))=True:=EA g;have f2:DS.dec (.agg (AE g.sh g.w g.h g.wC g.cells))=g:=DC g;simp only[AE]at f1 f2;have hG:(yO g)=True:=r9 G;have hI:(JO g a)=True:=r9 ha;have hJ:(JO g b)=True:=r9 hb;have e1:IntKind.wrap .i64 ((Ai g b).tmod g.w-(Ai g a).tmod g.w)=(Ai g b).tmod g.w-(Ai g a).tmod g.w:=A4 zo zo;have e2:IntKind.wrap .i64 ((Ai g b).tdiv g.w-(Ai g a).tdiv g.w)=(Ai g b).tdiv g.w-(Ai g a).tdiv g.w:=A4 zo zo;have e3:IntKind.wrap .i64 (Km g b-Km g a)=Km g b-Km g a:=by
  unfold Km;exact A4 zo zo
 refine .mk ⟨BM 0 ..,zt,zt,zt⟩ zt (iP.a (AI Vb (AJ ?_)));rcases hs with h1|h2
 ·have q:OL g.sh (DR g.sh g.w (Ai g a)) (DR g.sh g.w (Ai g b))=(decide ((Ai g b).tdiv g.w-(Ai g a).tdiv g.w=0)&&(decide ((Ai g b).tmod g.w-(Ai g a).tmod g.w=1)||decide ((Ai g b).tmod g.w-(Ai g a).tmod g.w= -1))||decide ((Ai g b).tmod g.w-(Ai g a).tmod g.w=0)&&(decide ((Ai g b).tdiv g.w-(Ai g a).tdiv g.w=1)||decide ((Ai g b).tdiv g.w-(Ai g a).tdiv g.w= -1))):=by
   unfold OL DR;simp only[sn h1,sg (by omega:¬g.sh=2)]
  have hq:(g.sh=1)=True:=r9 h1;rw[q];simp only[eZ,seval,iP,AE,Ts,QX,s2,f1,f2,Ay,An,QV,Oa,hG,hI,hJ,e1,e2,hq]
 ·have q:OL g.sh (DR g.sh g.w (Ai g a)) (DR g.sh g.w (Ai g b))=(decide (Km g b-Km g a=1)&&decide ((Ai g b).tdiv g.w-(Ai g a).tdiv g.w=0)||decide (Km g b-Km g a= -1)&&decide ((Ai g b).tdiv g.w-(Ai g a).tdiv g.w=0)||decide (Km g b-Km g a=0)&&decide ((Ai g b).tdiv g.w-(Ai g a).tdiv g.w=1)||decide (Km g b-Km g a=0)&&decide ((Ai g b).tdiv g.w-(Ai g a).tdiv g.w= -1)||decide (Km g b-Km g a=1)&&decide ((Ai g b).tdiv g.w-(Ai g a).tdiv g.w= -1)||decide (Km g b-Km g a= -1)&&decide ((Ai g b).tdiv g.w-(Ai g a).tdiv g.w=1)):=by
   unfold OL DR Km;simp only[sg (by omega:¬g.sh=1),sn h2]
  have hq:(g.sh=1)=False:=sb zo;rw[q];simp only[eZ,seval,iP,AE,Ts,QX,Tr,s2,f1,f2,Ay,An,QV,Oa,lw,hG,hI,hJ,e1,e2,e3,hq]
def JC(g:v7)(f c:Int):Int:=if f=1 then(Ai g c).tdiv g.w else if g.sh=1 then(Ai g c).tmod g.w else if f=2 then Km g c else Km g c+(Ai g c).tdiv g.w
def p183(g:v7)(f c:Int)(G:yO g)(h:JO g c):Av prog 183 [CM g,.int .i64 f,.int .i64 c] (.int .i64 (JC g f c)):=by
 obtain⟨k,-,-,-,-,w1,w2,x1,x2,y1,y2,ey,hs⟩:=G.at h;have f1:DS.ok (.agg (AE g.sh g.w g.h g.wC g.cells))=True:=EA g;have f2:DS.dec (.agg (AE g.sh g.w g.h g.wC g.cells))=g:=DC g;simp only[AE]at f1 f2;have hG:(yO g)=True:=r9 G;have hI:(JO g c)=True:=r9 h;have e1:IntKind.wrap .i64 (Km g c+(Ai g c).tdiv g.w)=Km g c+(Ai g c).tdiv g.w:=by
  unfold Km;exact A4 zo zo
 refine .mk ⟨BM 0 ..,zt,zt,zt⟩ zt (YN.a (AI Vb (AJ ?_)));unfold JC;by_cases q1:f=1
 ·rw[sn q1];simp only[eZ,seval,YN,AE,QX,s2,f1,f2,Ay,An,Oa,hG,hI,r9 q1]
 rw[sg q1];by_cases q2:g.sh=1
 ·rw[sn q2];simp only[eZ,seval,YN,AE,Ts,s2,f1,f2,Ay,An,QV,hG,hI,sb q1,r9 q2]
 rw[sg q2];by_cases q3:f=2
 ·rw[sn q3];simp only[eZ,seval,YN,AE,Tr,s2,f1,f2,Ay,An,lw,hG,hI,sb q1,sb q2,r9 q3]
 rw[sg q3];simp only[eZ,seval,YN,AE,QX,Tr,s2,f1,f2,Ay,An,Oa,lw,hG,hI,sb q1,sb q2,sb q3,e1]
def Dg(g:v7)(c:Nat):BF:=DR g.sh g.w (Ai g (c:Int))
def Dz{g:v7}{c:Nat}(h:c<g.cells.length):(AZ g.sh g.w g.cells)[c]?=some (Dg g c):=by
 unfold AZ Dg Ai;rw[sF,rz h,sm,uK,rz h];rfl
def B9(g:v7):(AZ g.sh g.w g.cells).length=g.cells.length:=ry ..
def Yf(g:v7)(a b:Nat):Bool:=OL g.sh (Dg g a) (Dg g b)
def Ke(g:v7)(a:Nat):List Int:=CU g.cells.length (Yf g a)
def ZC(g:v7):(List.range g.cells.length).map (Ke g)=Ek g.sh (AZ g.sh g.w g.cells):=by
 unfold Ek;refine uM λi=>?_
 rw[sF,sF];by_cases h:i<g.cells.length
 ·rw[Dz h,vU h];simp only[td];rw[dY,B9];unfold Ke;congr 1;refine EC λb hb=>?_
  rw[Dz hb];exact RZ ..
 ·simp_all [B9]
def Ll(g:v7):Fs:=if GT g.sh g.w g.h g.wC g.cells then .wJ [Br (Ek g.sh (AZ g.sh g.w g.cells)),.int .i64 0]else .wJ [Br [],.int .i64 130]
structure IFil(m:Nat)(P:Nat->Bool)(H0:AB)(n0:Nat)(v:VRi):Prop where
 hj:v.j<=m
 hn:n0<=v.n
 fr:AO v.H v.n
 hk:∀id,id<n0->AD v.H id=AD H0 id
 tok:C8 1 n0 v.H v.tc
 es:v.tc.esz=1\/CU v.j P=[]
structure INb(g:v7)(m:Nat)(L:Nat->List (List Int))(v:VRg):Prop where
 hi:v.i<=m
 hn:3<=v.n
 fr:AO v.H v.n
 h0:AD v.H 0=some (.box (AE g.sh g.w g.h g.wC g.cells))
 tok:C8 1 1 v.H v.tl
 es:v.tl.esz=1\/v.E=[]
 hE:zn v.E ((L v.i).map Aj)
def eR(g:v7)(a b:Int):Fs:=.bool (OL g.sh (DR g.sh g.w (Ai g a)) (DR g.sh g.w (Ai g b)))
def Thn:Bg:=AF 126 (s3 DS dI dI (λg a b=>yO g/\JO g a/\JO g b) eR) rc
def ly:AH prog Thn:=To.add (q3 λg a b h=>p126 g a b h.1 h.2.1 h.2.2)
theorem jY(a:List Fs)(H:AB):Thn 126 a H=s3 DS dI dI (λg a b=>yO g/\JO g a/\JO g b) eR a H:=rfl
theorem jZ(a:List Fs)(H:AB):Thn 125 a H=s1 DS (λg=>Aq g.wC) Jh a H:=rfl
def p79(g:v7)(hh:Aq g.wC):Av prog 79 [CM g] (Ll g):=by
 refine .mk ⟨BM 0 ..,zt⟩ (by unfold Ll;split<;>exact⟨BC 0 _,zt,zt⟩) (c79.a (AI ly (AJ ?_)));have f1:DS.ok (.agg (AE g.sh g.w g.h g.wC g.cells))=True:=EA g;have f2:DS.dec (.agg (AE g.sh g.w g.h g.wC g.cells))=g:=DC g;simp only[AE]at f1 f2;cases hgo:GT g.sh g.w g.h g.wC g.cells with
 |false=>
  have hv:Ll g= .wJ [Br [],.int .i64 130]:=by unfold Ll;rw[hgo];rfl
  have hc:Jh g= .int .i64 130:=by unfold Jh;rw[hgo];rfl
  rw[hv];simp only[eZ,seval,se,c79,AE,jZ,s1,f1,f2,r9 hh,hc];exact Wk.wJ (.cons (Wk.sl (.inr rfl)) (.cons (Wk.refl _) .nil))
 |true=>
 have hc:Jh g= .int .i64 0:=by unfold Jh;rw[hgo];rfl
 have hG:Au g.sh g.w g.h g.wC=some g.cells:=th hgo;have G:yO g:=⟨hG,hh⟩;obtain⟨hr1,hr2,hr3⟩:=Ba hG;have hv:Ll g= .wJ [Br ((List.range g.cells.length).map (Ke g)),.int .i64 0]:=by unfold Ll;rw[hgo,ZC];rfl
 rw[hv];simp only[eZ,seval,sa,c79,AE,jZ,s1,f1,f2,r9 hh,hc];refine AQ (λv:VRg=>⟨[(1,true,.ptr 0 0),(4,true,.sl v.tl v.E),(5,true,.int .i64 v.i)],v.H,v.n⟩) (INb g g.cells.length λi=>(List.range i).map (Ke g)) (λv=>g.cells.length-v.i)
  ⟨0,[],.nil,wB Ak 0 (.box (AE g.sh g.w g.h g.wC g.cells)),3⟩ rfl ⟨sk _,sj _,AO.nil.wB (m:=3) (sk 3) (show 0<3 by decide),rfl,.inl rfl,.inr rfl,.nil⟩ ?_
 rintro⟨i,E,tl,H,n⟩ hI;have hi:=hI.hi;have hn:=hI.hn;have l9:=hI.fr;have h0:=hI.h0;have l7:=hI.tok;have s7:=hI.es;have hE:=hI.hE;simp only at hi hn l9 h0 l7 s7 hE;have wj:=h0;simp only[AE]at wj;by_cases e9:i<g.cells.length;case neg=>
  obtain rfl:i=g.cells.length:=zo
  simp only[eZ,seval,ry,wj,Ag e9];exact Wk.wJ (.cons (Wk.yY s7 hE) (.cons (Wk.refl _) .nil))
 have e:=AK (k:=i) zo;have gi:JO g (i:Int):=⟨zo,by rw[sm];exact e9⟩;simp only[eZ,seval,ry,wj,AN e9];refine AQ (λv:VRi=>⟨[(1,true,.ptr 0 0),(4,true,.sl tl E),(5,true,.int .i64 i),(6,true,.sl v.tc ((CU v.j (Yf g i)).map eI)),(7,true,.int .i64 v.j)],v.H,v.n⟩)
  (IFil g.cells.length (Yf g i) H n) (λv=>g.cells.length-v.j) ⟨0,.nil,H,n⟩ rfl ⟨sk _,sj _,l9,λid s5=>rfl,.inl rfl,.inr rfl⟩ ?_
 rintro⟨j,tc,H1,n1⟩ ⟨hj,to,wW,hk,htc,hec⟩;simp only at hj to wW hk htc hec;have wh:AD H1 0=some (.box (AE g.sh g.w g.h g.wC g.cells)):=by rw[hk 0 zo];exact h0
 have yz:=wh;simp only[AE]at yz;by_cases s6:j<g.cells.length
 ·have ej:=AK (k:=j) zo;have gj:JO g (j:Int):=⟨zo,by rw[sm];exact s6⟩;have hs:=EO j (Yf g i);have hb:OL g.sh (DR g.sh g.w (Ai g (i:Int))) (DR g.sh g.w (Ai g (j:Int)))=Yf g i j:=rfl;cases hbb:Yf g i j with
  |false=>
   rw[hbb,sg zd]at hs;rw[hbb]at hb;simp only[eZ,seval,ry,yz,AN s6,jY,s3,f1,f2,Ay,An,eR,r9 G,r9 gi,r9 gj,hb,ej];exact .mk ⟨j+1,tc,H1,n1⟩ (by simp only[hs]) ⟨s6,to,wW,hk,htc,by simp only[hs];exact hec⟩ zp
  |true=>
   rw[hbb,sn rfl]at hs;rw[hbb]at hb;have hlen:=Cw j (Yf g i);have q1:BB H1 1 tc=True:=r9 htc.app;have q2:((CU j (Yf g i)).length<=35184372088831)=True:=r9 zo;have q3:Al ((CU j (Yf g i)).length+1) 8=True:=r9 (Ae zo zd);simp only[eZ,seval,ry,yz,AN s6,jY,s3,f1,f2,Ay,An,eR,r9 G,r9 gi,r9 gj,hb,ej,q1,q2,q3,Bq wW];refine .mk ⟨j+1,.own (n1+3) 1,wB (AU H1 tc) (n1+3) .tok,n1+5⟩ ?_ ⟨s6,zp,(Ab htc wW).wB (m:=n1+5) zo zo,λid s5=>?_,.inr (.inr ⟨n1+3,rfl,zo,AC ..⟩),.inl rfl⟩ zp
   ·simp only[hs,su];rfl
   ·grind [AA,Ac]
 obtain rfl:j=g.cells.length:=zo
 have hEl:E.length=i:=by
  have:=hE.len;simp only[ry,uE]at this;exact this
 have me:C8 1 1 H1 tl:=by
  rcases l7 with rfl|rfl|⟨id,rfl,h1,h2⟩
  ·exact .inl rfl
  ·exact .inr (.inl rfl)
  ·exact .inr (.inr ⟨id,rfl,h1,by rw[hk id (l9.lt h2)];exact h2⟩)
 have q1:BB H1 1 tl=True:=r9 me.app;have q2:(E.length<=35184372088831)=True:=r9 zo;have q3:Al (E.length+1) 24=True:=r9 (Ae zo zd);simp only[eZ,seval,ry,yz,Ag s6,e,q1,q2,q3,Bq wW];refine .mk ⟨i+1,E++[.sl tc ((Ke g i).map eI)],.own (n1+3) 1,wB (AU H1 tl) (n1+3) .tok,n1+5⟩ rfl ⟨e9,zp,(Ab me wW).wB (m:=n1+5) zo zo,?_,.inr (.inr ⟨n1+3,rfl,zo,AC ..⟩),.inl rfl,?_⟩ zp
 ·grind [AA,Ac]
 ·simp only[uc,su,sS,t6];simp only[uP]at hE⊢;exact hE.app (.cons (Wk.sl (hec.imp id λq=>by unfold Ke;rw[q];rfl)) .nil)
def Tt(g:v7)(f n:Int)(c:Nat):Bool:=decide (JC g f (c:Int)=n)
def rf(g:v7)(f n:Int):List Int:=CU g.cells.length (Tt g f n)
def Vc(g:v7)(f:Int)(i:Nat):List (List Int):=((List.range i).map λ(k:Nat)=>rf g f (-16+(k:Int))).filter λl=>!l.isEmpty
def ZD{g:v7}{f:Int}{fn:BF->Option Int}(h:∀c,c<g.cells.length->fn (Dg g c)=some (JC g f (c:Int))):Vc g f 49=CO (AZ g.sh g.w g.cells) fn:=by
 unfold Vc CO Ka;rw[uP];congr 1;refine tG λk _=>?_
 unfold rf CN;simp only[Function.comp];rw[B9];refine EC λc hc=>?_
 rw[Dz hc,vO,h c hc];unfold Tt;rw[sP];simp only[si,Option.some.injEq];omega
def eS(g:v7)(f:Int)(i:Nat):(Vc g f i).length<=i:=by
 refine sX (tN ..) ?_;rw[ry,uE];exact sj _
def ZE(g:v7)(f:Int)(i:Nat):Vc g f (i+1)=Vc g f i++if(rf g f (-16+(i:Int))).isEmpty then[]else[rf g f (-16+(i:Int))]:=by
 unfold Vc;rw[uc,su,uh];congr 1;simp only[sS,t6,tE,uV];cases (rf g f (-16+(i:Int))).isEmpty<;>rfl
def fLn(g:v7)(f c:Int):Fs:=.int .i64 (JC g f c)
def Thl:Bg:=AF 183 (s3 DS dI dI (λg f c=>yO g/\JO g c) fLn) rc
def lz:AH prog Thl:=To.add (q3 λg f c h=>p183 g f c h.1 h.2)
structure ILn(g:v7)(m:Nat)(L:Nat->List (List Int))(v:VRg):Prop where
 hi:v.i<=m
 hn:2<=v.n
 fr:AO v.H v.n
 h0:AD v.H 0=some (.box (AE g.sh g.w g.h g.wC g.cells))
 tok:C8 1 1 v.H v.tl
 es:v.tl.esz=1\/v.E=[]
 hE:zn v.E ((L v.i).map Aj)
def p127(g:v7)(f:Int)(G:yO g):Av prog 127 [CM g,.int .i64 f] (Br (Vc g f 49)):=by
 refine .mk ⟨BM 0 ..,zt,zt⟩ (BC 0 _) (qf.a (AI lz (AJ ?_)));have f1:DS.ok (.agg (AE g.sh g.w g.h g.wC g.cells))=True:=EA g;have f2:DS.dec (.agg (AE g.sh g.w g.h g.wC g.cells))=g:=DC g;simp only[AE]at f1 f2;obtain⟨hr1,hr2,hr3⟩:=Ba G.hG;simp only[eE,eN,seval,qf,AE];refine AQ (λv:VRg=>⟨[(1,true,.int .i64 f),(2,true,.ptr 0 0),(5,true,.sl v.tl v.E),(6,true,.int .i64 (-16+(v.i:Int)))],v.H,v.n⟩) (ILn g 49 (Vc g f)) (λv=>49-v.i)
  ⟨0,[],.nil,wB Ak 0 (.box (AE g.sh g.w g.h g.wC g.cells)),2⟩ rfl ⟨sk _,sj _,AO.nil.wB (m:=2) (sk 2) (show 0<2 by decide),rfl,.inl rfl,.inr rfl,.nil⟩ ?_
 rintro⟨i,E,tl,H,n⟩ hI;have hi:=hI.hi;have hn:=hI.hn;have l9:=hI.fr;have h0:=hI.h0;have l7:=hI.tok;have s7:=hI.es;have hE:=hI.hE;simp only at hi hn l9 h0 l7 s7 hE;by_cases e9:i<49;case neg=>
  obtain rfl:i=49:=zo
  have hq:(-16+((49:Nat):Int)<=32)=False:=sb zo;simp only[eZ,seval,hq];exact Wk.yY s7 hE
 have hq:(-16+(i:Int)<=32)=True:=r9 zo;have e:IntKind.wrap .i64 (-16+(i:Int)+1)= -16+((i+1:Nat):Int):=by rw[A4 zo zo];omega
 simp only[eZ,seval,hq];refine AQ (λv:VRi=>⟨[(1,true,.int .i64 f),(2,true,.ptr 0 0),(5,true,.sl tl E),(6,true,.int .i64 (-16+(i:Int))),(7,true,.sl v.tc ((CU v.j (Tt g f (-16+(i:Int)))).map eI)),(8,true,.int .i64 v.j)],v.H,v.n⟩)
  (IFil g.cells.length (Tt g f (-16+(i:Int))) H n) (λv=>g.cells.length-v.j) ⟨0,.nil,H,n⟩ rfl ⟨sk _,sj _,l9,λid s5=>rfl,.inl rfl,.inr rfl⟩ ?_
 rintro⟨j,tc,H1,n1⟩ ⟨hj,to,wW,hk,htc,hec⟩;simp only at hj to wW hk htc hec;have wh:AD H1 0=some (.box (AE g.sh g.w g.h g.wC g.cells)):=by rw[hk 0 zo];exact h0
 have yz:=wh;simp only[AE]at yz;by_cases s6:j<g.cells.length
 ·have ej:=AK (k:=j) zo;have gj:JO g (j:Int):=⟨zo,by rw[sm];exact s6⟩;have hs:=EO j (Tt g f (-16+(i:Int)));cases hbb:Tt g f (-16+(i:Int)) j with
  |false=>
   rw[hbb,sg zd]at hs;have hb:(JC g f (j:Int)= -16+(i:Int))=False:=sb (vE hbb);simp only[eZ,seval,ry,yz,AN s6,Thl,s3,f1,f2,Ay,An,fLn,r9 G,r9 gj,hb,ej,AF];exact .mk ⟨j+1,tc,H1,n1⟩ (by simp only[hs]) ⟨s6,to,wW,hk,htc,by simp only[hs];exact hec⟩ zp
  |true=>
   rw[hbb,sn rfl]at hs;have hb:(JC g f (j:Int)= -16+(i:Int))=True:=r9 (th hbb);have hlen:=Cw j (Tt g f (-16+(i:Int)));have q1:BB H1 1 tc=True:=r9 htc.app;have q2:((CU j (Tt g f (-16+(i:Int)))).length<=35184372088831)=True:=r9 zo;have q3:Al ((CU j (Tt g f (-16+(i:Int)))).length+1) 8=True:=r9 (Ae zo zd);simp only[eZ,seval,ry,yz,AN s6,Thl,s3,f1,f2,Ay,An,fLn,r9 G,r9 gj,hb,ej,q1,q2,q3,Bq wW,AF];refine .mk ⟨j+1,.own (n1+3) 1,wB (AU H1 tc) (n1+3) .tok,n1+5⟩ ?_ ⟨s6,zp,(Ab htc wW).wB (m:=n1+5) zo zo,λid s5=>?_,.inr (.inr ⟨n1+3,rfl,zo,AC ..⟩),.inl rfl⟩ zp
   ·simp only[hs,su];rfl
   ·grind [AA,Ac]
 obtain rfl:j=g.cells.length:=zo
 have hEl:E.length<=i:=by
  have:=hE.len;simp only[ry]at this;have:=eS g f i;omega
 have me:C8 1 1 H1 tl:=by
  rcases l7 with rfl|rfl|⟨id,rfl,h1,h2⟩
  ·exact .inl rfl
  ·exact .inr (.inl rfl)
  ·exact .inr (.inr ⟨id,rfl,h1,by rw[hk id (l9.lt h2)];exact h2⟩)
 have hsu:=ZE g f i;have hLl:rf g f (-16+(i:Int))=CU g.cells.length (Tt g f (-16+(i:Int))):=rfl;rw[hLl]at hsu;by_cases hz:(CU g.cells.length (Tt g f (-16+(i:Int)))).length=0
 ·have hq0:((0:Int)<((CU g.cells.length (Tt g f (-16+(i:Int)))).length:Int))=False:=sb zo;rw[tZ.1 hz]at hsu;simp only[List.isEmpty_nil,tD,sR]at hsu;simp only[eZ,seval,ry,yz,Ag s6,e,hq0];exact .mk ⟨i+1,E,tl,H1,n1⟩ rfl ⟨e9,zp,wW,wh,me,s7,by simp only[hsu];exact hE⟩ zp
 have hq0:((0:Int)<((CU g.cells.length (Tt g f (-16+(i:Int)))).length:Int))=True:=r9 zo;have hem:(CU g.cells.length (Tt g f (-16+(i:Int)))).isEmpty=false:=by
  rw[List.isEmpty_eq_false_iff];intro q;rw[q]at hz;exact hz rfl
 rw[hem]at hsu;simp only[sN,sY]at hsu;have q1:BB H1 1 tl=True:=r9 me.app;have q2:(E.length<=35184372088831)=True:=r9 zo;have q3:Al (E.length+1) 24=True:=r9 (Ae zo zd);simp only[eZ,seval,ry,yz,Ag s6,e,hq0,q1,q2,q3,Bq wW];refine .mk ⟨i+1,E++[.sl tc ((CU g.cells.length (Tt g f (-16+(i:Int)))).map eI)],.own (n1+3) 1,wB (AU H1 tl) (n1+3) .tok,n1+5⟩ rfl ⟨e9,zp,(Ab me wW).wB (m:=n1+5) zo zo,?_,.inr (.inr ⟨n1+3,rfl,zo,AC ..⟩),.inl rfl,?_⟩ zp
 ·grind [AA,Ac]
 ·simp only[hsu,su,sS,t6];exact hE.app (.cons (Wk.sl (hec.imp id λq=>by rw[q];rfl)) .nil)
def Vd(g:v7)(k c:Nat):Bool:=decide ((k:Int)=0)&&decide ((Ai g (c:Int)).tmod g.w=(Ai g (c:Int)).tdiv g.w)||decide ((k:Int)=1)&&decide ((Ai g (c:Int)).tmod g.w=g.w-1-(Ai g (c:Int)).tdiv g.w)
def Ix(g:v7)(k:Nat):List Int:=CU g.cells.length (Vd g k)
def eT(g:v7):List (List Int):=(if(Ix g 0).isEmpty then[]else[Ix g 0])++(if(Ix g 1).isEmpty||decide (Ix g 0=Ix g 1)then[]else[Ix g 1])
def dgS_S{g:v7}(h:g.sh=1):eT g=ML g.w (AZ g.sh g.w g.cells):=by
 have yS:∀c:Nat,Dg g c=((Ai g (c:Int)).tmod g.w,(Ai g (c:Int)).tdiv g.w):=λc=>by
  unfold Dg DR;rw[sg zo]
 have h0:Ix g 0=CN (AZ g.sh g.w g.cells) (λs=>if s.1=s.2 then some 0 else none) 0:=by
  unfold Ix CN;rw[B9];refine EC λc hc=>?_
  rw[Dz hc,yS,vO];unfold Vd;by_cases q:(Ai g (c:Int)).tmod g.w=(Ai g (c:Int)).tdiv g.w<;>simp [q]
 have h1:Ix g 1=CN (AZ g.sh g.w g.cells) (λs=>if s.1+s.2=g.w-1 then some 0 else none) 0:=by
  unfold Ix CN;rw[B9];refine EC λc hc=>?_
  rw[Dz hc,yS,vO];unfold Vd;by_cases q:(Ai g (c:Int)).tmod g.w=g.w-1-(Ai g (c:Int)).tdiv g.w
  ·simp_all
  ·grind
 unfold eT ML;rw[h0,h1]
def Thd:Bg:=AF 167 (s2 A3 A3 (λa _=>Aq a) λa b=>.bool (decide (a=b))) eO
def mA:AH prog Thd:=QW.add (q2 p167)
theorem ja(a:List Fs)(H:AB):Thd 167 a H=s2 A3 A3 (λa _=>Aq a) (λa b=>.bool (decide (a=b))) a H:=rfl
theorem jb(a:List Fs)(H:AB):Thd 180 a H=s2 DS dI (λg c=>yO g/\JO g c) QV a H:=rfl
theorem jc(a:List Fs)(H:AB):Thd 181 a H=s2 DS dI (λg c=>yO g/\JO g c) Oa a H:=rfl
structure IDg(g:v7)(v:VRg):Prop where
 hi:v.i<=2
 hn:2<=v.n
 fr:AO v.H v.n
 h0:AD v.H 0=some (.box (AE g.sh g.w g.h g.wC g.cells))
 tok:C8 1 1 v.H v.tl
 es:v.tl.esz=1\/v.E=[]
 ne:¬g.w=g.h->v.i=0
 e0:v.i=0->v.E=[]
 e1:v.i=1->(Ix g 0=[]/\v.E=[])\/(Ix g 0≠[]/\∃t,t.esz=1/\v.E=[.sl t ((Ix g 0).map eI)])
 e2:v.i=2->zn v.E ((eT g).map Aj)
def jd(g:v7):List (List Int):=if g.w=g.h then eT g else[]
def p128(g:v7)(G:yO g):Av prog 128 [CM g] (Br (jd g)):=by
 refine .mk ⟨BM 0 ..,zt⟩ (BC 0 _) (qg.a (AI mA (AJ ?_)));have f1:DS.ok (.agg (AE g.sh g.w g.h g.wC g.cells))=True:=EA g;have f2:DS.dec (.agg (AE g.sh g.w g.h g.wC g.cells))=g:=DC g;simp only[AE]at f1 f2;obtain⟨hr1,hr2,hr3⟩:=Ba G.hG;simp only[eE,eN,seval,qg,AE];refine AQ (λv:VRg=>⟨[(1,true,.ptr 0 0),(3,true,.sl v.tl v.E),(4,true,.int .i64 v.i)],v.H,v.n⟩) (IDg g) (λv=>2-v.i)
  ⟨0,[],.nil,wB Ak 0 (.box (AE g.sh g.w g.h g.wC g.cells)),2⟩ rfl ⟨sk _,sj _,AO.nil.wB (m:=2) (sk 2) (show 0<2 by decide),rfl,.inl rfl,.inr rfl,λ_=>rfl,λ_=>rfl,(λq=>by cases q),(λq=>by cases q)⟩ ?_
 rintro⟨i,E,tl,H,n⟩ hI;have hi:=hI.hi;have hn:=hI.hn;have l9:=hI.fr;have h0:=hI.h0;have l7:=hI.tok;have s7:=hI.es;have s8:=hI.ne;have hE0:=hI.e0;have hE1:=hI.e1;have hE2:=hI.e2;simp only at hi hn l9 h0 l7 s7 s8 hE0 hE1 hE2;have wj:=h0;simp only[AE]at wj;by_cases hwh:g.w=g.h;case neg=>
  have hi0:=s8 hwh;subst hi0;have hE:=hE0 rfl;subst hE;have hv:jd g=[]:=by unfold jd;rw[sg hwh]
  have hq:(((0:Nat):Int)<2)=True:=r9 zd;rw[hv];simp only[eZ,seval,c0,wj,sb hwh];exact Wk.sl s7
 have hv:jd g=eT g:=by unfold jd;rw[sn hwh]
 rw[hv];by_cases e9:i<2;case neg=>
  obtain rfl:i=2:=zo
  have hq:(((2:Nat):Int)<2)=False:=sb zd;simp only[eZ,seval,wj,hq];exact Wk.yY s7 (hE2 rfl)
 have hq:((i:Int)<2)=True:=r9 zo;have e:=AK (k:=i) zo;simp only[eZ,seval,wj,hq,r9 hwh];refine AQ (λv:VRi=>⟨[(1,true,.ptr 0 0),(3,true,.sl tl E),(4,true,.int .i64 i),(5,true,.sl v.tc ((CU v.j (Vd g i)).map eI)),(6,true,.int .i64 v.j)],v.H,v.n⟩)
  (IFil g.cells.length (Vd g i) H n) (λv=>g.cells.length-v.j) ⟨0,.nil,H,n⟩ rfl ⟨sk _,sj _,l9,λid s5=>rfl,.inl rfl,.inr rfl⟩ ?_
 rintro⟨j,tc,H1,n1⟩ ⟨hj,to,wW,hk,htc,hec⟩;simp only at hj to wW hk htc hec;have wh:AD H1 0=some (.box (AE g.sh g.w g.h g.wC g.cells)):=by rw[hk 0 zo];exact h0
 have yz:=wh;simp only[AE]at yz;by_cases s6:j<g.cells.length
 ·have ej:=AK (k:=j) zo;have gj:JO g (j:Int):=⟨zo,by rw[sm];exact s6⟩;obtain⟨-,-,-,-,-,w1,w2,x1,x2,y1,y2,ey,-⟩:=G.at gj;have r1:IntKind.wrap .i64 (g.w-1)=g.w-1:=A4 zo zo;have r2:IntKind.wrap .i64 (g.w-1-(Ai g (j:Int)).tdiv g.w)=g.w-1-(Ai g (j:Int)).tdiv g.w:=A4 zo zo;have hs:=EO j (Vd g i);have hb:(decide ((i:Int)=0)&&decide ((Ai g (j:Int)).tmod g.w=(Ai g (j:Int)).tdiv g.w)||decide ((i:Int)=1)&&decide ((Ai g (j:Int)).tmod g.w=g.w-1-(Ai g (j:Int)).tdiv g.w))=Vd g i j:=rfl;cases hbb:Vd g i j with
  |false=>
   rw[hbb,sg zd]at hs;rw[hbb]at hb;simp only[eZ,seval,ry,yz,AN s6,jb,jc,s2,f1,f2,Ay,An,QV,Oa,r9 G,r9 gj,r1,r2,hb,ej];exact .mk ⟨j+1,tc,H1,n1⟩ (by simp only[hs]) ⟨s6,to,wW,hk,htc,by simp only[hs];exact hec⟩ zp
  |true=>
   rw[hbb,sn rfl]at hs;rw[hbb]at hb;have hlen:=Cw j (Vd g i);have q1:BB H1 1 tc=True:=r9 htc.app;have q2:((CU j (Vd g i)).length<=35184372088831)=True:=r9 zo;have q3:Al ((CU j (Vd g i)).length+1) 8=True:=r9 (Ae zo zd);simp only[eZ,seval,ry,yz,AN s6,jb,jc,s2,f1,f2,Ay,An,QV,Oa,r9 G,r9 gj,r1,r2,hb,ej,q1,q2,q3,Bq wW];refine .mk ⟨j+1,.own (n1+3) 1,wB (AU H1 tc) (n1+3) .tok,n1+5⟩ ?_ ⟨s6,zp,(Ab htc wW).wB (m:=n1+5) zo zo,λid s5=>?_,.inr (.inr ⟨n1+3,rfl,zo,AC ..⟩),.inl rfl⟩ zp
   ·simp only[hs,su];rfl
   ·grind [AA,Ac]
 obtain rfl:j=g.cells.length:=zo
 have me:C8 1 1 H1 tl:=by
  rcases l7 with rfl|rfl|⟨id,rfl,h1,h2⟩
  ·exact .inl rfl
  ·exact .inr (.inl rfl)
  ·exact .inr (.inr ⟨id,rfl,h1,by rw[hk id (l9.lt h2)];exact h2⟩)
 have hA:Ix g i=CU g.cells.length (Vd g i):=rfl;have hAl:=Cw g.cells.length (Vd g i);rw[<-hA]at hec hAl⊢;have hi01:i=0\/i=1:=zo
 have q1:BB H1 1 tl=True:=r9 me.app;by_cases hz:(Ix g i).length=0
 ·have hz0:((0:Int)<((Ix g i).length:Int))=False:=sb zo;have hzn:=tZ.1 hz;simp only[eZ,seval,eY,yz,Ag s6,e,hz0];refine .mk ⟨i+1,E,tl,H1,n1⟩ rfl ⟨e9,zp,wW,wh,me,s7,λq=>absurd hwh q,(λq=>by cases q),λq=>?_,λq=>?_⟩ zp
  ·have q':i+1=1:=q;obtain rfl:i=0:=zo
   exact .inl ⟨hzn,hE0 rfl⟩
  ·have q':i+1=2:=q;obtain rfl:i=1:=zo
   simp only[];unfold eT;rw[hzn];simp only[List.isEmpty_nil,vK,tD,sR];rcases hE1 rfl with⟨a1,rfl⟩|⟨a1,t,a2,rfl⟩
   ·rw[a1];exact .nil
   ·rw[sg (by simp [a1])];exact .cons (Wk.sl (.inl a2)) .nil
 have hz0:((0:Int)<((Ix g i).length:Int))=True:=r9 zo;have hane:Ix g i≠[]:=λq=>by rw[q]at hz;exact hz rfl
 have het:tc.esz=1:=hec.resolve_right hane;have yC:∀E':List Fs,((E'.length:Int)=0)=True\/True:=λ_=>.inr zt
 rcases hi01 with rfl|rfl
 ·have hE:=hE0 rfl;subst hE;have q3:Al ([]:List Fs).length.succ 24=True:=r9 (Ae zd zd);have q4:Al 1 24=True:=r9 (Ae zd zd);have z1:((([]:List Fs).length:Int)=0)=True:=r9 rfl;simp only[eZ,seval,sa,eY,yz,Ag s6,hz0,q1,q4,Bq wW];refine .mk ⟨1,[.sl tc ((Ix g 0).map eI)],.own (n1+3) 1,wB (AU H1 tl) (n1+3) .tok,n1+5⟩ rfl ⟨(by show 1<=2;decide),zp,(Ab me wW).wB (m:=n1+5) zo zo,?_,.inr (.inr ⟨n1+3,rfl,zo,AC ..⟩),.inl rfl,λq=>absurd hwh q,(λq=>by cases q),λq=>.inr ⟨hane,tc,het,rfl⟩,(λq=>by cases q)⟩ zp;simp only[];rw[AA _ _ _ _ zo,Ac me (.inl zo)];exact wh
 ·rcases hE1 rfl with⟨a1,rfl⟩|⟨a1,t,a2,rfl⟩
  ·have q4:Al 1 24=True:=r9 (Ae zd zd);simp only[eZ,seval,sa,eY,yz,Ag s6,hz0,q1,q4,Bq wW];refine .mk ⟨2,[.sl tc ((Ix g 1).map eI)],.own (n1+3) 1,wB (AU H1 tl) (n1+3) .tok,n1+5⟩ rfl ⟨(by show 2<=2;decide),zp,(Ab me wW).wB (m:=n1+5) zo zo,?_,.inr (.inr ⟨n1+3,rfl,zo,AC ..⟩),.inl rfl,λq=>absurd hwh q,(λq=>by cases q),(λq=>by cases q),λq=>?_⟩ zp
   ·grind [AA,Ac]
   ·simp only[];unfold eT;rw[a1];simp only[List.isEmpty_nil,tD,sI];rw[sg (by simp [hane,Ne.symm hane])];exact .cons (Wk.sl (.inl het)) .nil
  ·have hts:tl.esz=1:=s7.resolve_right zw;have o1:A3.ok (.sl t ((Ix g 0).map eI))=True:=r9 ⟨.inl a2,by rw[Aw]⟩;have o2:A3.dec (.sl t ((Ix g 0).map eI))=Ix g 0:=Aw _;have o3:A3.ok (.sl tc ((Ix g 1).map eI))=True:=r9 ⟨.inl het,by rw[Aw]⟩;have o4:A3.dec (.sl tc ((Ix g 1).map eI))=Ix g 1:=Aw _;have hA0:=Cw g.cells.length (Vd g 0);have o5:Aq (Ix g 0)=True:=r9 (show(Ix g 0).length<_ by unfold Ix;omega);by_cases hsame:Ix g 0=Ix g 1
   ·simp only[eZ,seval,sa,eY,yz,Ag s6,hz0,r9 hts,ja,s2,o1,o2,o3,o4,o5,BU hsame];refine .mk ⟨2,[.sl t ((Ix g 0).map eI)],tl,H1,n1⟩ rfl ⟨(by show 2<=2;decide),zp,wW,wh,me,s7,λq=>absurd hwh q,(λq=>by cases q),(λq=>by cases q),λq=>?_⟩ zp;simp only[];unfold eT;rw[sg (by simp [a1]),sn (by simp [hsame])];exact .cons (Wk.sl (.inl a2)) .nil
   ·have q4:Al 2 24=True:=r9 (Ae zd zd);simp only[eZ,seval,se,eY,yz,Ag s6,hz0,r9 hts,ja,s2,o1,o2,o3,o4,o5,A5 hsame,q1,q4,Bq wW];refine .mk ⟨2,[.sl t ((Ix g 0).map eI),.sl tc ((Ix g 1).map eI)],.own (n1+3) 1,wB (AU H1 tl) (n1+3) .tok,n1+5⟩ rfl ⟨(by show 2<=2;decide),zp,(Ab me wW).wB (m:=n1+5) zo zo,?_,.inr (.inr ⟨n1+3,rfl,zo,AC ..⟩),.inl rfl,λq=>absurd hwh q,(λq=>by cases q),(λq=>by cases q),λq=>?_⟩ zp
    ·grind [AA,Ac]
    ·simp only[];unfold eT;rw[sg (by simp [a1]),sg (by simp [hane,hsame])];exact .cons (Wk.sl (.inl a2)) (.cons (Wk.sl (.inl het)) .nil)
def IG(g:v7)(c b:Nat):Bool:=decide ((b:Int)=(c:Int))||(Ke g c).contains (b:Int)
def ZF(g:v7)(c:Nat):List Int:=CU g.cells.length (IG g c)
def O9(g:v7)(c:Nat):List (List Int):=((Ke g c).filter λb=>decide ((c:Int)<b)).map λb=>[(c:Int),b]
def H8(i:Nat):List Int:=CU i λ_=>true
def OT(g:v7)(f:Int)(i:Nat):List (List Int):=
 if f=0 then(List.range i).map λ(c:Nat)=>[(c:Int)]else if f=5 then(List.range i).map (ZF g)else if f=6 then(List.range i).flatMap (O9 g)else[]
def ZG(g:v7)(f:Int):List (List Int):=
 if f=1\/f=2 then Vc g f 49 else if f=3 then(if g.sh=1 then jd g else Vc g f 49)else if f=4 then(List.range g.cells.length).map (Ke g)else if f=7 then[H8 g.cells.length]else OT g f g.cells.length
def XE(g:v7)(f:Int):Fs:=if GT g.sh g.w g.h g.wC g.cells then(if f<0\/7<f then .wJ [Br [],.int .i64 1]else .wJ [Br (ZG g f),.int .i64 0])else .wJ [Br [],.int .i64 130]
def mB{g:v7}(G:yO g){f:Nat}(hf:f<=7):ZG g (f:Int)=E9 g.sh g.w g.h (AZ g.sh g.w g.cells) f:=by
 obtain⟨hs,-⟩:=If G.hG;have hrow:∀c:Nat,(Dg g c).2=(Ai g (c:Int)).tdiv g.w:=λc=>rfl
 have hsq:g.sh=1->∀c:Nat,(Dg g c).1=(Ai g (c:Int)).tmod g.w:=λh c=>by
  unfold Dg DR;rw[sg zo]
 have hhx:g.sh=2->∀c:Nat,(Dg g c).1=Km g (c:Int):=λh c=>by
  unfold Dg DR Km;rw[sn h]
 have hl1:Vc g 1 49=CO (AZ g.sh g.w g.cells) λs=>some s.2:=ZD λc hc=>by
  unfold JC;rw[sn rfl,hrow]
 have hl2:Vc g 2 49=CO (AZ g.sh g.w g.cells) λs=>some s.1:=ZD λc hc=>by
  unfold JC;rcases hs with h|h
  ·rw[sg zd,sn h,hsq h]
  ·rw[sg zd,sg zo,sn rfl,hhx h]
 have hl3:g.sh=2->Vc g 3 49=CO (AZ g.sh g.w g.cells) λs=>some (s.1+s.2):=λh=>ZD λc hc=>by
  unfold JC;rw[sg zd,sg zo,sg zd,hrow,hhx h]
 have xn:=ZC g;have hS:=B9 g;have hn:∀c:Nat,c<g.cells.length->((Ek g.sh (AZ g.sh g.w g.cells))[c]?.getD [])=Ke g c:=λc hc=>by
  rw[<-xn,sF,vU hc];rfl
 unfold ZG E9 OT;rcases(by omega:f=0\/f=1\/f=2\/f=3\/f=4\/f=5\/f=6\/f=7)with rfl|rfl|rfl|rfl|rfl|rfl|rfl|rfl
 ·simp_all [TR,uP]
 ·simp (decide:=true) only[tD,sY];exact hl1
 ·simp (decide:=true) only[tD,sY];exact hl2
 ·simp (decide:=true) only[tD,sY];rcases hs with h|h
  ·rw[sn h,sg zo];unfold jd;rw[dgS_S h]
  ·rw[sg zo,sn h];exact hl3 h
 ·simp (decide:=true) only[tD,sY];exact xn
 ·simp (decide:=true) only[tD,sY];rw[hS];refine tG λc hc=>?_
  have hc':=tF.1 hc;unfold ZF;refine EC λb hb=>?_
  unfold IG;rw[Dz hc'];have e1:(Ke g c).contains (b:Int)=Yf g c b:=by
   unfold Ke;rw[sP,t9,OJ];exact⟨λq=>q.2,λq=>⟨hb,q⟩⟩
  have e2:Yf g c b=(Fk g.sh).any λd=>decide ((AZ g.sh g.w g.cells)[b]?=some (I8 (Dg g c) d)):=by
   unfold Yf;rw[RZ,Dz hb];unfold YX;simp only[Option.some.injEq]
  rw[e1,e2];simp only[td];congr 1;rw[sP];simp only[si];omega
 ·simp (decide:=true) only[tD,sY];rw[hS,List.flatMap_def,List.flatMap_def];congr 1;refine tG λc hc=>?_
  rw[hn c (tF.1 hc)];rfl
 ·simp (decide:=true) only[tD,sY];rw[hS];rfl
def Md{e lo n i:Nat}{H:AB}{tl ta:v8}(h:C8 e lo H tl)(ha:C8 e lo H ta)(hd:∀a b x y,tl= .own a x->ta= .own b y->a≠b)(hf:AO H n)(hi:n<=i):C8 e lo (wB (AU H ta) i .tok) tl:=by
 rcases h with rfl|rfl|⟨id,rfl,h1,h2⟩
 ·exact .inl rfl
 ·exact .inr (.inl rfl)
 ·refine .inr (.inr ⟨id,rfl,h1,?_⟩);have s5:=hf.lt h2;rw[AA _ _ _ _ zo];rcases ha with rfl|rfl|⟨b,rfl,-,-⟩
  ·exact h2
  ·exact h2
  ·simp only[AU];rw[AA _ _ _ _ (hd _ _ _ _ rfl rfl).symm];exact h2
def QY(g:v7)(c:Nat):(Ke g c).length<=g.cells.length:=Cw ..
def XG(g:v7)(c:Nat):(O9 g c).length<=g.cells.length:=by
 unfold O9;rw[ry];exact sX (tN ..) (QY g c)
def Ve(g:v7)(f:Int)(h:g.cells.length<=256):∀i,(OT g f i).length<=256*i:=by
 intro i;unfold OT;split
 ·simp;omega
 ·split
  ·simp;omega
  ·split
   ·induction i with
    |zero=>simp
    |succ i ih=>
     rw[uc,vm,sH];have:=XG g i;simp only[uU,List.flatMap_nil,sR];omega
   ·simp
def PA(i:Nat):H8 (i+1)=H8 i++[(i:Int)]:=by unfold H8;rw[EO,sn rfl]
def Ob:Bg:=AF 79 (s1 DS (λg=>Aq g.wC) Ll) (AF 124 (s2 A3 dI (λl _=>Aq l) λl x=>.bool (l.contains x)) (AF 127 (s2 DS dI (λg _=>yO g) λg f=>Br (Vc g f 49)) (AF 128 (s1 DS yO λg=>Br (jd g)) wD)))
def eU:AH prog Ob:=(((AH.wD.add (q1 p128)).add (q2 λg f h=>p127 g f h)).add (q2 p124)).add (q1 p79)
structure VFm where
 i:Nat
 E:List Fs
 tl:v8
 ta:v8
 H:AB
 n:Nat
def Yg(tl ta:v8):Prop:=∀a b x y,tl= .own a x->ta= .own b y->a≠b
def Yg.symm{tl ta:v8}(h:Yg tl ta):Yg ta tl:=λa b x y h1 h2=>(h b a y x h2 h1).symm
def Yg.fresh{e lo n i:Nat}{H:AB}{tl:v8}(h:C8 e lo H tl)(hf:AO H n)(hi:n<=i)(s:Nat):Yg tl (.own i s):=λa b x y h1 h2=>by
 injection h2 with h2 _
 subst h2;rcases h with rfl|rfl|⟨id,rfl,-,h3⟩
 ·cases h1
 ·cases h1
 ·injection h1 with h1 _
  have:=hf.lt h3;omega
structure IFm(g:v7)(f:Int)(v:VFm):Prop where
 hi:v.i<=g.cells.length
 hn:3<=v.n
 fr:AO v.H v.n
 h0:AD v.H 0=some (.box (AE g.sh g.w g.h g.wC g.cells))
 tok:C8 1 1 v.H v.tl
 toka:C8 1 1 v.H v.ta
 ap:Yg v.tl v.ta
 es:v.tl.esz=1\/v.E=[]
 esa:v.ta.esz=1\/v.i=0
 hE:zn v.E ((OT g f v.i).map Aj)
def ZH(g:v7)(c j:Nat):List (List Int):=(((Ke g c).take j).filter λb=>decide ((c:Int)<b)).map λb=>[(c:Int),b]
def eV(g:v7)(c j:Nat):(ZH g c j).length<=j:=by
 unfold ZH;rw[ry];refine sX (tN ..) ?_;rw[sU];omega
def ZI(g:v7)(c:Nat){j:Nat}(h:j<(Ke g c).length):ZH g c (j+1)=if(c:Int)<(Ke g c)[j]then ZH g c j++[[(c:Int),(Ke g c)[j]]]else ZH g c j:=by
 unfold ZH;rw[sG,rz h];simp only[Option.toList,uh,tE,uV,su,si];split<;>simp
structure IPr(g:v7)(c ia:Nat)(v:VRg):Prop where
 hj:v.i<=(Ke g c).length
 hn:ia<v.n
 fr:AO v.H v.n
 h0:AD v.H 0=some (.box (AE g.sh g.w g.h g.wC g.cells))
 tok:C8 1 1 v.H v.tl
 toka:C8 1 1 v.H (.own ia 1)
 ap:Yg v.tl (.own ia 1)
 es:v.tl.esz=1\/v.E=[]
 hE:zn v.E ((OT g 6 c++ZH g c v.i).map Aj)
def p80(g:v7)(f:Int)(hh:Aq g.wC):Av prog 80 [CM g,.int .i64 f] (XE g f):=by
 refine .mk ⟨BM 0 ..,zt,zt⟩ (by unfold XE;split;(·split<;>exact⟨BC 0 _,zt,zt⟩);(·exact⟨BC 0 _,zt,zt⟩)) (c80.a (AI eU (AJ ?_)));have f1:DS.ok (.agg (AE g.sh g.w g.h g.wC g.cells))=True:=EA g;have f2:DS.dec (.agg (AE g.sh g.w g.h g.wC g.cells))=g:=DC g;simp only[AE]at f1 f2;cases hgo:GT g.sh g.w g.h g.wC g.cells with
 |false=>
  have hv:XE g f= .wJ [Br [],.int .i64 130]:=by unfold XE;rw[hgo];rfl
  have hc:Ll g= .wJ [Br [],.int .i64 130]:=by unfold Ll;rw[hgo];rfl
  rw[hv];simp only[eZ,seval,se,eY,c80,AE,Ob,s1,f1,f2,r9 hh,hc,AF];exact Wk.wJ (.cons (Wk.sl (.inr rfl)) (.cons (Wk.refl _) .nil))
 |true=>
 have hG:Au g.sh g.w g.h g.wC=some g.cells:=th hgo;have G:yO g:=⟨hG,hh⟩;obtain⟨hr1,hr2,hr3⟩:=Ba hG;obtain⟨ar,har⟩:∃ar,ar=(List.range g.cells.length).map (Ke g):=⟨_,rfl⟩;have hc:Ll g= .wJ [Br ar,.int .i64 0]:=by unfold Ll;rw[hgo,har,ZC];rfl
 have harl:ar.length=g.cells.length:=by rw[har];simp
 have harg:∀c,c<g.cells.length->ar[c]?=some (Ke g c):=λc hc=>by rw[har,sF,vU hc];rfl
 by_cases hf:f<0\/7<f
 ·have hv:XE g f= .wJ [Br [],.int .i64 1]:=by unfold XE;rw[hgo,sn rfl,sn hf]
  have hb:(decide (f<0)||decide (7<f))=true:=by simpa using hf
  rw[hv];simp only[eZ,seval,sa,eY,c80,AE,Ob,s1,f1,f2,r9 hh,hc,hb,AF];exact Wk.wJ (.cons (Wk.sl (.inr rfl)) (.cons (Wk.refl _) .nil))
 have hv:XE g f= .wJ [Br (ZG g f),.int .i64 0]:=by unfold XE;rw[hgo,sn rfl,sg hf]
 have hb:(decide (f<0)||decide (7<f))=false:=by
  rw[uF];intro q;exact hf (by simpa using q)
 rw[hv];simp only[eZ,seval,sa,eY,c80,AE,Ob,s1,f1,f2,r9 hh,hc,hb,AF];refine AQ (λv:VFm=>⟨[(1,true,.int .i64 f),(2,true,.ptr 0 0),(6,true,Br ar),(8,true,.sl v.tl v.E),(9,true,.sl v.ta ((H8 v.i).map eI)),(10,true,.int .i64 v.i)],v.H,v.n⟩) (IFm g f) (λv=>g.cells.length-v.i)
  ⟨0,[],.nil,.nil,wB Ak 0 (.box (AE g.sh g.w g.h g.wC g.cells)),3⟩ rfl ⟨sk _,sj _,AO.nil.wB (m:=3) (sk 3) (show 0<3 by decide),rfl,.inl rfl,.inl rfl,(λa b x y h=>by cases h),.inr rfl,.inr rfl,by
   have:OT g f 0=[]:=by
    unfold OT;repeat (split; ·rfl)
    rfl
   show zn [] ((OT g f 0).map Aj);rw[this];exact .nil⟩ ?_
 rintro⟨i,E,tl,ta,H,n⟩ hI;have hi:=hI.hi;have hn:=hI.hn;have l9:=hI.fr;have h0:=hI.h0;have xN:=hI.tok;have yi:=hI.toka;have yC:=hI.ap;have s7:=hI.es;have hesa:=hI.esa;have hE:=hI.hE;simp only at hi hn l9 h0 xN yi yC s7 hesa hE;have wj:=h0;simp only[AE]at wj;have hEl:E.length<=256*i:=by
  have:=hE.len;rw[ry]at this;rw[this];exact Ve g f hr2 i
 by_cases e9:i<g.cells.length;case neg=>
  obtain rfl:i=g.cells.length:=zo
  unfold ZG;by_cases q12:f=1\/f=2
  ·rw[sn q12];rcases q12 with rfl|rfl
   ·simp only[eZ,seval,ry,wj,Ag e9,Ob,s2,f1,f2,Ay,An,r9 G,AF];exact Wk.wJ (.cons (Wk.refl _) (.cons (Wk.refl _) .nil))
   ·simp only[eZ,seval,ry,wj,Ag e9,Ob,s2,f1,f2,Ay,An,r9 G,AF];exact Wk.wJ (.cons (Wk.refl _) (.cons (Wk.refl _) .nil))
  rw[sg q12];have w1:(f=1)=False:=sb λq=>q12 (.inl q)
  have w2:(f=2)=False:=sb λq=>q12 (.inr q)
  by_cases q3:f=3
  ·rw[sn q3];by_cases qs:g.sh=1
   ·rw[sn qs];subst q3;simp only[eZ,seval,ry,wj,Ag e9,Ob,s1,f1,f2,r9 G,r9 qs,AF];exact Wk.wJ (.cons (Wk.refl _) (.cons (Wk.refl _) .nil))
   ·rw[sg qs];subst q3;simp only[eZ,seval,ry,wj,Ag e9,Ob,s2,f1,f2,Ay,An,r9 G,sb qs,AF];exact Wk.wJ (.cons (Wk.refl _) (.cons (Wk.refl _) .nil))
  rw[sg q3];by_cases q4:f=4
  ·rw[sn q4,<-har];subst q4;simp only[eZ,seval,ry,wj,Ag e9];exact Wk.wJ (.cons (Wk.refl _) (.cons (Wk.refl _) .nil))
  rw[sg q4];by_cases q7:f=7
  ·rw[sn q7];subst q7;simp only[eZ,seval,ry,wj,Ag e9];refine Wk.wJ (.cons (Wk.yY (.inl rfl) (.cons (Wk.sl (hesa.imp id λq=>by rw[q];rfl)) .nil)) (.cons (Wk.refl _) .nil))
  rw[sg q7];simp only[eZ,seval,ry,wj,Ag e9,w1,w2,sb q3,sb q4,sb q7];exact Wk.wJ (.cons (Wk.yY s7 hE) (.cons (Wk.refl _) .nil))
 have e:=AK (k:=i) zo;have wu:(H8 i).length<=i:=Cw ..;have q1:BB H 1 ta=True:=r9 yi.app;have q2:((H8 i).length<=35184372088831)=True:=r9 zo;have q3:Al ((H8 i).length+1) 8=True:=r9 (Ae zo zd);have hH2f:AO (wB (AU H ta) (n+3) .tok) (n+5):=(Ab yi l9).wB zo zo;have hH20:AD (wB (AU H ta) (n+3) .tok) 0=some (.box (AE g.sh g.w g.h g.wC g.cells)):=by grind [AA,Ac]
 have hH2l:C8 1 1 (wB (AU H ta) (n+3) .tok) tl:=Md xN yi yC l9 zo;have hH2a:C8 1 1 (wB (AU H ta) (n+3) .tok) (.own (n+3) 1):=.inr (.inr ⟨n+3,rfl,zo,AC ..⟩);have hH2p:Yg tl (.own (n+3) 1):=Yg.fresh xN l9 zo 1;have hAs:=PA i;have r2:(E.length<=35184372088831)=True:=r9 zo;have r3:Al (E.length+1) 24=True:=r9 (Ae zo zd);by_cases z0':f=0
 ·subst z0';have hfm:OT g 0 (i+1)=OT g 0 i++[[(i:Int)]]:=by
   unfold OT;rw[sn rfl,sn rfl,uc,su];rfl
  have a1:BB (wB (AU H ta) (n+3) .tok) 1 tl=True:=r9 hH2l.app;simp only[eZ,seval,ry,wj,AN e9,q1,q2,q3,Bq l9,Bq (Ab yi l9),a1,r2,r3,e];refine .mk ⟨i+1,E++[.sl (.exact 1) [.int .i64 i]],.own (n+9) 1,.own (n+3) 1,wB (AU (wB (AU H ta) (n+3) .tok) tl) (n+9) .tok,n+11⟩ (by simp only[hAs,su];rfl) ⟨e9,zp,(Ab hH2l hH2f).wB (m:=n+11) zo zo,?_,.inr (.inr ⟨n+9,rfl,zo,AC ..⟩),Md hH2a hH2l hH2p.symm hH2f zo,(Yg.fresh hH2a hH2f zo 1).symm,.inl rfl,.inl rfl,?_⟩ zp
  ·simp only[];rw[AA _ _ _ _ zo,Ac hH2l (.inl zo)];exact hH20
  ·simp only[hfm,su,sS,t6];exact hE.app (.cons (Wk.sl (.inl rfl)) .nil)
 have z0:(f=0)=False:=sb z0';by_cases z5':f=5
 ·subst z5';have hfm:OT g 5 (i+1)=OT g 5 i++[ZF g i]:=by
   unfold OT;rw[sg zd,sn rfl,sg zd,sn rfl,uc,su];rfl
  simp only[eZ,seval,ry,wj,AN e9,q1,q2,q3,Bq l9];refine AQ (λv:VRi=>⟨[(1,true,.int .i64 5),(2,true,.ptr 0 0),(6,true,Br ar),(8,true,.sl tl E),(9,true,.sl (.own (n+3) 1) ((H8 i).map eI++[.int .i64 i])),(10,true,.int .i64 i),(11,true,.sl v.tc ((CU v.j (IG g i)).map eI)),(12,true,.int .i64 v.j)],v.H,v.n⟩)
   (IFil g.cells.length (IG g i) (wB (AU H ta) (n+3) .tok) (n+5)) (λv=>g.cells.length-v.j) ⟨0,.nil,wB (AU H ta) (n+3) .tok,n+5⟩ rfl ⟨sk _,sj _,hH2f,λid s5=>rfl,.inl rfl,.inr rfl⟩ ?_
  rintro⟨j,tc,H1,n1⟩ ⟨hj,to,wW,hk,htc,hec⟩;simp only at hj to wW hk htc hec;have wh:AD H1 0=some (.box (AE g.sh g.w g.h g.wC g.cells)):=by rw[hk 0 zo];exact hH20
  have yz:=wh;simp only[AE]at yz;by_cases s6:j<g.cells.length
  ·have ej:=AK (k:=j) zo;have hs:=EO j (IG g i);have xW:=harg i e9;have hia:i<ar.length:=zo
   have hfn:Aq (Ke g i)=True:=r9 (show(Ke g i).length<_ by have:=QY g i;omega);have hb:(decide ((j:Int)=(i:Int))||(Ke g i).contains (j:Int))=IG g i j:=rfl;cases hbb:IG g i j with
   |false=>
    rw[hbb,sg zd]at hs;rw[hbb]at hb;simp only[eZ,seval,eY,yz,AN s6,AN hia,xW,Ob,s2,Ah,Ad,Ay,An,hfn,hb,ej,AF];exact .mk ⟨j+1,tc,H1,n1⟩ (by simp only[hs]) ⟨s6,to,wW,hk,htc,by simp only[hs];exact hec⟩ zp
   |true=>
    rw[hbb,sn rfl]at hs;rw[hbb]at hb;have hlen:=Cw j (IG g i);have u1:BB H1 1 tc=True:=r9 htc.app;have u2:((CU j (IG g i)).length<=35184372088831)=True:=r9 zo;have u3:Al ((CU j (IG g i)).length+1) 8=True:=r9 (Ae zo zd);simp only[eZ,seval,eY,yz,AN s6,AN hia,xW,Ob,s2,Ah,Ad,Ay,An,hfn,hb,ej,u1,u2,u3,Bq wW,AF];refine .mk ⟨j+1,.own (n1+3) 1,wB (AU H1 tc) (n1+3) .tok,n1+5⟩ ?_ ⟨s6,zp,(Ab htc wW).wB (m:=n1+5) zo zo,λid s5=>?_,.inr (.inr ⟨n1+3,rfl,zo,AC ..⟩),.inl rfl⟩ zp
    ·simp only[hs,su];rfl
    ·grind [AA,Ac]
  obtain rfl:j=g.cells.length:=zo
  have up:∀{t:v8},C8 1 1 (wB (AU H ta) (n+3) .tok) t->C8 1 1 H1 t:=λh=>by
   rcases h with rfl|rfl|⟨id,rfl,h1,h2⟩
   ·exact .inl rfl
   ·exact .inr (.inl rfl)
   ·exact .inr (.inr ⟨id,rfl,h1,by rw[hk id (hH2f.lt h2)];exact h2⟩)
  have me:=up hH2l;have wp:=up hH2a;have a1:BB H1 1 tl=True:=r9 me.app;simp only[eZ,seval,ry,yz,Ag s6,e,a1,r2,r3,Bq wW];refine .mk ⟨i+1,E++[.sl tc ((CU g.cells.length (IG g i)).map eI)],.own (n1+3) 1,.own (n+3) 1,wB (AU H1 tl) (n1+3) .tok,n1+5⟩ (by simp only[hAs,su];rfl) ⟨e9,zp,(Ab me wW).wB (m:=n1+5) zo zo,?_,.inr (.inr ⟨n1+3,rfl,zo,AC ..⟩),Md wp me hH2p.symm wW zo,(Yg.fresh wp wW zo 1).symm,.inl rfl,.inl rfl,?_⟩ zp
  ·grind [AA,Ac]
  ·simp only[hfm,su,sS,t6];exact hE.app (.cons (Wk.sl (hec.imp id λq=>by rw[q];rfl)) .nil)
 have z5:(f=5)=False:=sb z5';by_cases z6':f=6
 ·subst z6';have hfm:OT g 6 (i+1)=OT g 6 i++O9 g i:=by
   unfold OT;rw[sg zd,sg zd,sn rfl,sg zd,sg zd,sn rfl,uc,vm];simp
  simp only[eZ,seval,ry,wj,AN e9,q1,q2,q3,Bq l9];refine AQ (λv:VRg=>⟨[(1,true,.int .i64 6),(2,true,.ptr 0 0),(6,true,Br ar),(8,true,.sl v.tl v.E),(9,true,.sl (.own (n+3) 1) ((H8 i).map eI++[.int .i64 i])),(10,true,.int .i64 i),(13,true,.int .i64 v.i)],v.H,v.n⟩)
   (IPr g i (n+3)) (λv=>(Ke g i).length-v.i) ⟨0,E,tl,wB (AU H ta) (n+3) .tok,n+5⟩ rfl ⟨sk _,zp,hH2f,hH20,hH2l,hH2a,hH2p,s7,by
    show zn E ((OT g 6 i++ZH g i 0).map Aj);have:ZH g i 0=[]:=rfl;rw[this,sR];exact hE⟩ ?_
  rintro⟨j,E1,t1,H1,n1⟩ hJ;have hj:=hJ.hj;have to:=hJ.hn;have wW:=hJ.fr;have wh:=hJ.h0;have me:=hJ.tok;have wp:=hJ.toka;have hp1:=hJ.ap;have he1:=hJ.es;have hE1:=hJ.hE;simp only at hj to wW wh me wp hp1 he1 hE1;have yz:=wh;simp only[AE]at yz;have xW:=harg i e9;have hia:i<ar.length:=zo
  have hnl:=QY g i;by_cases s6:j<(Ke g i).length
  ·have ej:=AK (k:=j) zo;have yT:=rz s6;have wX:=ZI g i s6;generalize (Ke g i)[j]=x at yT wX;by_cases hx:(i:Int)<x
   ·rw[sn hx]at wX;have hEl1:E1.length<=65536:=by
     have:=hE1.len;rw[ry,sH]at this;have a:=Ve g 6 hr2 i;have b:=eV g i j;omega
    have a1:BB H1 1 t1=True:=r9 me.app;have u2:(E1.length<=35184372088831)=True:=r9 zo;have u3:Al (E1.length+1) 24=True:=r9 (Ae zo zd);simp only[eZ,seval,eY,AN s6,yT,AN hia,xW,r9 hx,ej,a1,u2,u3,Bq wW];refine .mk ⟨j+1,E1++[.sl (.exact 1) [.int .i64 i,.int .i64 x]],.own (n1+11) 1,wB (AU H1 t1) (n1+11) .tok,n1+13⟩ rfl ⟨s6,zp,(Ab me wW).wB (m:=n1+13) zo zo,?_,.inr (.inr ⟨n1+11,rfl,zo,AC ..⟩),Md wp me hp1.symm wW zo,(Yg.fresh wp wW zo 1).symm,.inl rfl,?_⟩ zp
    ·grind [AA,Ac]
    ·simp only[wX,<-te,su,sS,t6];rw[su]at hE1;exact hE1.app (.cons (Wk.sl (.inl rfl)) .nil)
   ·rw[sg hx]at wX;simp only[eZ,seval,eY,AN s6,yT,AN hia,xW,sb hx,ej];exact .mk ⟨j+1,E1,t1,H1,n1⟩ rfl ⟨s6,to,wW,wh,me,wp,hp1,he1,by simp only[wX];exact hE1⟩ zp
  obtain rfl:j=(Ke g i).length:=zo
  simp only[eZ,seval,eY,Ag s6,AN hia,xW,e];refine .mk ⟨i+1,E1,t1,.own (n+3) 1,H1,n1⟩ (by simp only[hAs,su];rfl) ⟨e9,zp,wW,wh,me,wp,hp1,he1,.inl rfl,?_⟩ zp;have l5:ZH g i (Ke g i).length=O9 g i:=by unfold ZH O9;rw[sD]
  simp only[hfm,<-l5];exact hE1
 have z6:(f=6)=False:=sb z6';have hfm:OT g f (i+1)=OT g f i:=by
  unfold OT;rw[sg z0',sg z5',sg z6',sg z0',sg z5',sg z6']
 simp only[eZ,seval,ry,wj,AN e9,q1,q2,q3,Bq l9,z0,z5,z6,e];exact .mk ⟨i+1,E,tl,.own (n+3) 1,wB (AU H ta) (n+3) .tok,n+5⟩ (by simp only[hAs,su];rfl) ⟨e9,zp,hH2f,hH20,hH2l,hH2a,hH2p,s7,.inl rfl,by simp only[hfm];exact hE⟩ zp
section
variable {cells:List Int}
theorem Vf:∀{l:List xz},DO cells l=0->∀r∈l,LK cells r=0
 |[],_,r,h=>by cases h
 |a::s,h0,r,h=>by
  unfold DO at h0;split at h0
  ·rename_i ha;rcases tg.1 h with rfl|h
   ·exact ha
   ·exact Vf h0 r h
  ·rename_i ha;exact absurd h0 ha
theorem ZJ{x:xj}(h:Dt x=0)(hc:Au x.sh x.w x.h x.wC=some cells):DO cells x.wK=0:=by
 unfold Dt at h;split at h
 ·cases h
 ·split at h
  ·rename_i e he;exact absurd h (GX he)
  ·grind
theorem fmV_S{g:v7}(G:yO g){f:Nat}(hf:f<=7):XE g (f:Int)= .wJ [Br (E9 g.sh g.w g.h (AZ g.sh g.w g.cells) f),.int .i64 0]:=by
 have hgo:GT g.sh g.w g.h g.wC g.cells=true:=sK G.hG;unfold XE;rw[hgo,sn rfl,sg zo,mB G hf]
theorem ZK{g:v7}(G:yO g):Ll g= .wJ [Br (Ek g.sh (AZ g.sh g.w g.cells)),.int .i64 0]:=by
 have hgo:GT g.sh g.w g.h g.wC g.cells=true:=sK G.hG;unfold Ll;rw[hgo,sn rfl]
theorem Vi{x:xj}(h:Dt x=0)(hc:Au x.sh x.w x.h x.wC=some cells){r:xz}(hr:r∈x.wK):EB cells r.ls= .wJ [Br (r.ls.map (Bo cells)),.int .i64 0]:=by
 have h1:=Vf (ZJ h hc) r hr;unfold LK at h1;unfold EB;split at h1
 ·cases h1
 ·rename_i q;rw[sn (by simpa using q)]
end
abbrev XH:zx:=⟨KW,⟨0,0,0,[],[]⟩,[],[]⟩
def Cx(d:xj):Fs:=match EU d with
 | .error e=>.wJ [BA XH,.int .i64 e]
 | .ok k=>.wJ [BA k,.int .i64 0]
abbrev zKn:List Fs:=[.str [],z0,z0,z0,z0,zs,zs,zs,zs,zs,z0,z0,z0,zs,zs,zs,zs]
def ZL{d:xj}{g:v7}{nb:List (List Int)}{ls:List (List (List Int))}{a b c d' e f h i j:Fs}(ha:Wk a (Aj d.wC))(hb:Wk b (He d.wE))(hc:Wk c (Gz d.wK))(hd:Wk d' (Eh d.wG))(he:Wk e (DZ d.wF))(hf:Wk f (Aj g.wC))(hh:Wk h (Aj g.cells))(hi:Wk i (Br nb))(hj:Wk j (Jo ls)):
  Wk (.agg [.str d.nm,.int .i64 d.yN,.int .i64 d.sh,.int .i64 d.w,.int .i64 d.h,a,b,c,d',e,.int .i64 g.sh,.int .i64 g.w,.int .i64 g.h,f,h,i,j]) (BA ⟨d,g,nb,ls⟩):=
 Wk.agg (.cons (Wk.refl _) (.cons (Wk.refl _) (.cons (Wk.refl _) (.cons (Wk.refl _) (.cons (Wk.refl _) (.cons ha (.cons hb (.cons hc (.cons hd (.cons he (.cons (Wk.refl _) (.cons (Wk.refl _) (.cons (Wk.refl _) (.cons hf (.cons hh (.cons hi (.cons hj .nil)))))))))))))))))
def QZ(e:Int):Wk (.wJ [.agg zKn,.int .i64 e]) (.wJ [BA XH,.int .i64 e]):=
 Wk.wJ (.cons (ZL (d:=KW) (g:=⟨0,0,0,[],[]⟩) (Wk.sl (.inr rfl)) (Wk.sl (.inr rfl)) (Wk.sl (.inr rfl)) (Wk.sl (.inr rfl)) (Wk.sl (.inr rfl)) (Wk.sl (.inr rfl)) (Wk.sl (.inr rfl)) (Wk.sl (.inr rfl)) (Wk.sl (.inr rfl))) (.cons (Wk.refl _) .nil))
def mC:Bg:=AF 76 (s1 dD QU Cd) (AF 77 (s1 dD zy λd=>.int .i64 (Dt d)) (AF 78 dm (AF 79 (s1 DS (λg=>Aq g.wC) Ll) (AF 80 (s2 DS dI (λg _=>Aq g.wC) XE) (AF 81 (s2 DS OF (λg l=>Au g.sh g.w g.h g.wC=some g.cells/\Aq g.wC/\B7 l) λg l=>EB g.cells l) wD)))))
def mD:AH prog mC:=(((((AH.wD.add (q2 λg l h=>p81 g l h.1 h.2.1 h.2.2)).add (q2 λg f h=>p80 g f h)).add (q1 p79)).add qMk).add (q1 λd h=>p77 d h)).add (q1 λd h=>p76 d h.1 h.2)
theorem ZM(a:List Fs)(H:AB):mC 76 a H=s1 dD QU Cd a H:=rfl
theorem je(a:List Fs)(H:AB):mC 77 a H=s1 dD zy (λd=>.int .i64 (Dt d)) a H:=rfl
theorem Tbd_m(sh w h:Int)(x:Fs)(H:AB):mC 78 [.int .i64 sh,.int .i64 w,.int .i64 h,x] H=(A3.ok x/\Aq (A3.dec x),Bf sh w h (A3.dec x)):=rfl
theorem Tbd_n(a:List Fs)(H:AB):mC 79 a H=s1 DS (λg=>Aq g.wC) Ll a H:=rfl
theorem Tbd_f(a:List Fs)(H:AB):mC 80 a H=s2 DS dI (λg _=>Aq g.wC) XE a H:=rfl
theorem Tbd_g(a:List Fs)(H:AB):mC 81 a H=s2 DS OF (λg l=>Au g.sh g.w g.h g.wC=some g.cells/\Aq g.wC/\B7 l) (λg l=>EB g.cells l) a H:=rfl
abbrev XI(x:xj)(cells:List Int)(v:Fs):List Fs:=[.str x.nm,.int .i64 x.yN,.int .i64 x.sh,.int .i64 x.w,.int .i64 x.h,Aj x.wC,He x.wE,Gz x.wK,Eh x.wG,DZ x.wF,.int .i64 x.sh,.int .i64 x.w,.int .i64 x.h,Aj x.wC,Aj cells,Br (Ek x.sh (AZ x.sh x.w cells)),v]
structure IBd(x:xj)(cells:List Int)(m:Nat)(L:Nat->List (List (List Int)))(v:VRg):Prop where
 hi:v.i<=m
 hn:15<=v.n
 fr:AO v.H v.n
 h1:AD v.H 1=some (.box zKn)
 h8:AD v.H 8=some (.box (AL x))
 h13:AD v.H 13=some (.box (XI x cells (.sl v.tl v.E)))
 tok:C8 1 14 v.H v.tl
 es:v.tl.esz=1\/v.E=[]
 hE:zn v.E ((L v.i).map Br)
def p45(d:xj)(hd:QU d):Av prog 45 [B6 d] (Cx d):=by
 refine .mk ⟨At 0 d,zt⟩ (by unfold Cx;split<;>exact⟨Am 0 _,zt,zt⟩) (c45.a (AI mD (AJ ?_)));have e1:dD.ok (.agg (AL d))=True:=BT d;have e2:dD.dec (.agg (AL d))=d:=Ax d;simp only[AL]at e1 e2;unfold Cx EU;cases hr:CL d with
 |error e=>
  have hv:Cd d= .wJ [B6 KW,.int .i64 e]:=by unfold Cd;rw[hr]
  have he:(e=0)=False:=sb (GX hr);simp only[eZ,seval,se,eY,BO,c45,AL,ZM,s1,e1,e2,r9 hd,hv,he];exact QZ e
 |ok x=>
 have hv:Cd d= .wJ [B6 x,.int .i64 0]:=by unfold Cd;rw[hr]
 have hfx:=Iw hd.1 hr;have x1:dD.ok (.agg (AL x))=True:=BT x;have x2:dD.dec (.agg (AL x))=x:=Ax x;simp only[AL]at x1 x2;simp only[];by_cases hc:Dt x=0;case neg=>
  rw[sn hc];simp only[eZ,seval,sa,se,eY,BO,c45,AL,ZM,je,s1,e1,e2,x1,x2,r9 hd,r9 hfx,hv,sb hc];exact QZ _
 rw[sg (λz=>z hc)];obtain⟨cells,hg⟩:=Rs hc;rw[hg];simp only[];have hm:Bf x.sh x.w x.h x.wC= .wJ [Ej x.sh x.w x.h x.wC cells,.int .i64 0]:=by unfold Bf;rw[hg]
 have G:yO (BD x cells):=⟨hg,hfx.ho⟩;have g1:DS.ok (.agg [.int .i64 x.sh,.int .i64 x.w,.int .i64 x.h,Aj x.wC,Aj cells])=True:=EA (BD x cells);have g2:DS.dec (.agg [.int .i64 x.sh,.int .i64 x.w,.int .i64 x.h,Aj x.wC,Aj cells])=BD x cells:=DC (BD x cells);have hho:Aq (BD x cells).wC=True:=r9 hfx.ho;have xn:Ll (BD x cells)= .wJ [Br (Ek x.sh (AZ x.sh x.w cells)),.int .i64 0]:=ZK G;simp only[eZ,seval,sa,eY,c45,AL,ZM,je,Tbd_m,Tbd_n,s1,e1,e2,x1,x2,g1,g2,Ah,Ad,r9 hd,r9 hfx,r9 hfx.ho,hho,hv,hc,hm,xn];refine AQ (λv:VRg=>⟨[(2,true,.ptr 1 0),(4,true,.ptr 8 0),(6,true,.ptr 13 0),(7,true,.int .i64 v.i)],v.H,v.n⟩) (IBd x cells 8 λi=>(List.range i).map λf=>E9 x.sh x.w x.h (AZ x.sh x.w cells) f) (λv=>8-v.i)
  ⟨0,[],.nil,_,15⟩ rfl ?_ ?_
 ·refine⟨sk _,sj _,?_,rfl,rfl,rfl,.inl rfl,.inr rfl,.nil⟩;simp only[];repeat' (first|exact AO.nil.wB (m:=15) (sk _) zd|refine AO.wB ?_ (sj _) zd)
 rintro⟨i,E,tl,H,n⟩ hI;have hi:=hI.hi;have hn:=hI.hn;have l9:=hI.fr;have h1:=hI.h1;have h8:=hI.h8;have h13:=hI.h13;have xN:=hI.tok;have s7:=hI.es;have hE:=hI.hE;simp only at hi hn l9 h1 h8 h13 xN s7 hE;have h8':=h8;simp only[AL]at h8';by_cases e9:i<8
 ·have e:=AK (k:=i) zo;have hq:((i:Int)<8)=True:=r9 zo;have hfm:XE (BD x cells) (i:Int)= .wJ [Br (E9 x.sh x.w x.h (AZ x.sh x.w cells) i),.int .i64 0]:=fmV_S G zo;have hEl:E.length=i:=by
   have:=hE.len;rw[ry,ry,uE]at this;exact this
  have q1:BB H 1 tl=True:=r9 xN.app;have q2:(E.length<=35184372088831)=True:=r9 zo;have q3:Al (E.length+1) 24=True:=r9 (Ae zo zd);have hk13:=Ac xN (i:=13) (.inr ⟨_,h13⟩);rw[h13]at hk13;have y1:∀k,(13=n+k)=False:=λk=>sb zo
  have y2:(n=9)=False:=sb zo;have y3:(9=n)=False:=sb zo;simp only[eZ,seval,eY,h13,hq,Tbd_f,s2,g1,g2,Ay,An,hho,hfm,e,q1,q2,q3,Bq l9,hk13,y2];refine .mk ⟨i+1,E++[Br (E9 x.sh x.w x.h (AZ x.sh x.w cells) i)],.own (n+4) 1,wB (wB (AU H tl) (n+4) .tok) 13 (.box (XI x cells (.sl (.own (n+4) 1) (E++[Br (E9 x.sh x.w x.h (AZ x.sh x.w cells) i)])))),n+7⟩ rfl ⟨e9,zp,((Ab xN l9).wB (m:=n+7) zo zo).wB (sj _) (show 13<n+7 by omega),?_,?_,AC ..,.inr (.inr ⟨n+4,rfl,zo,?_⟩),.inl rfl,?_⟩ zp
  ·grind [AA,Ac]
  ·grind [AA,Ac]
  ·simp only[];rw[AA _ _ _ _ zo,AC]
  ·simp only[uc,su,sS,t6]at hE⊢;exact hE.app (.cons (Wk.refl _) .nil)
 obtain rfl:i=8:=zo
 have hq:(((8:Nat):Int)<8)=False:=sb zd;simp only[eZ,seval,hq];refine AQ (λv:VRg=>⟨[(2,true,.ptr 1 0),(4,true,.ptr 8 0),(6,true,.ptr 13 0),(10,true,.int .i64 v.i)],v.H,v.n⟩) (IBd x cells x.wK.length λi=>((List.range 8).map λf=>E9 x.sh x.w x.h (AZ x.sh x.w cells) f)++(x.wK.take i).map λr=>r.ls.map (Bo cells)) (λv=>x.wK.length-v.i)
  ⟨0,E,tl,H,n⟩ rfl ⟨sk _,hn,l9,h1,h8,h13,xN,s7,by
   simp only[uo,t6,sR];exact hE⟩ ?_
 clear hE s7 xN h13 h8' h8 h1 l9 hn hI hq e9 hi;rintro⟨i,E,tl,H,n⟩ hI;have hi:=hI.hi;have hn:=hI.hn;have l9:=hI.fr;have h1:=hI.h1;have h8:=hI.h8;have h13:=hI.h13;have xN:=hI.tok;have s7:=hI.es;have hE:=hI.hE;simp only at hi hn l9 h1 h8 h13 xN s7 hE;have h8':=h8;simp only[AL]at h8';have hrl:x.wK.length<=4:=by simp_all [Dt,KV,sf,si]<;>omega
 by_cases e9:i<x.wK.length
 ·have e:=AK (k:=i) zo;have hgr:=rz e9;have xJ:x.wK[i]∈x.wK:=sC e9;have hrg:=Vi hc hg xJ;have hfl:B7 x.wK[i].ls=True:=r9 (hfx.rgs _ xJ);have l7:x.wK.take (i+1)=x.wK.take i++[x.wK[i]]:=by rw[sG,hgr];rfl
  generalize x.wK[i]=r at hgr hrg hfl l7;have hgc:(Au (BD x cells).sh (BD x cells).w (BD x cells).h (BD x cells).wC=some (BD x cells).cells)=True:=r9 hg;have hgd:(Au (BD x cells).sh (BD x cells).w (BD x cells).h (BD x cells).wC=some cells)=True:=r9 hg;have hgx:(BD x cells).cells=cells:=rfl;have hEl:E.length=8+i:=by
   have:=hE.len;rw[ry,sH,ry,ry,uE,sU]at this;omega
  have q1:BB H 1 tl=True:=r9 xN.app;have q2:(E.length<=35184372088831)=True:=r9 zo;have q3:Al (E.length+1) 24=True:=r9 (Ae zo zd);have hk13:=Ac xN (i:=13) (.inr ⟨_,h13⟩);rw[h13]at hk13;have y1:∀k,(13=n+k)=False:=λk=>sb zo
  have y2:(n=9)=False:=sb zo;have y3:(9=n)=False:=sb zo;simp only[eZ,seval,eY,h8',h13,AN e9,hgr,Tbd_g,s2,g1,g2,Db,Cv,hho,hgd,hgx,hfl,hrg,e,q1,q2,q3,Bq l9,hk13,y2];refine .mk ⟨i+1,E++[Br (r.ls.map (Bo cells))],.own (n+4) 1,wB (wB (AU H tl) (n+4) .tok) 13 (.box (XI x cells (.sl (.own (n+4) 1) (E++[Br (r.ls.map (Bo cells))])))),n+7⟩ rfl ⟨e9,zp,((Ab xN l9).wB (m:=n+7) zo zo).wB (sj _) (show 13<n+7 by omega),?_,?_,AC ..,.inr (.inr ⟨n+4,rfl,zo,?_⟩),.inl rfl,?_⟩ zp
  ·grind [AA,Ac]
  ·grind [AA,Ac]
  ·simp only[];rw[AA _ _ _ _ zo,AC]
  ·simp only[l7,su,sS,t6]at hE⊢;rw[<-te];exact hE.app (.cons (Wk.refl _) .nil)
 obtain rfl:i=x.wK.length:=zo
 rw[sD]at hE;simp only[eZ,seval,BO,ry,h8',h13,h1,Ag e9];exact Wk.wJ (.cons (ZL (d:=x) (g:=BD x cells) (Wk.refl _) (Wk.refl _) (Wk.refl _) (Wk.refl _) (Wk.refl _) (Wk.refl _) (Wk.refl _) (Wk.refl _) (Wk.yY s7 hE)) (.cons (Wk.refl _) .nil))
def PB{d:xj}{e:Int}(h:EU d= .error e):¬e=0:=by
 unfold EU at h;split at h
 ·rename_i e' he;cases h;exact GX he
 ·grind
def T8c:Bg:=AF 45 (s1 dD QU Cx) (AF 75 (s2 CQ CQ (λa _=>FewKr a) λa b=>.bool (decide (a=b))) wD)
def mE:AH prog T8c:=(AH.wD.add (q2 λa b h=>p75 a b h)).add (q1 λd h=>p45 d h)
def p44(k:zx)(h1:QU k.d)(h2:FewKr k):Av prog 44 [BA k] (.int .i64 (BE k)):=by
 refine .mk ⟨Am 0 k,zt⟩ zt (c44.a (AI mE (AJ ?_)));have e1:dD.ok (.agg (AL k.d))=True:=BT k.d;have e2:dD.dec (.agg (AL k.d))=k.d:=Ax k.d;have u1:CQ.ok (.agg (AG k))=True:=Ce k;have u2:CQ.dec (.agg (AG k))=k:=Bx k;simp only[AL]at e1 e2;simp only[AG,AE,AL,sJ,sI]at u1 u2;unfold BE JL;cases hb:EU k.d with
 |error e=>
  have hv:Cx k.d= .wJ [BA XH,.int .i64 e]:=by unfold Cx;rw[hb]
  have he:(e=0)=False:=sb (PB hb);simp only[eZ,seval,sa,se,eY,c44,AG,AE,AL,T8c,s1,s2,e1,e2,u1,u2,r9 h1,r9 h2,hv,he,AF]
 |ok x=>
 have hv:Cx k.d= .wJ [BA x,.int .i64 0]:=by unfold Cx;rw[hb]
 have v1:CQ.ok (.agg (AG x))=True:=Ce x;have v2:CQ.dec (.agg (AG x))=x:=Bx x;simp only[AG,AE,AL,sJ,sI]at v1 v2;simp only[];by_cases hx:k=x
 ·simp only[eZ,seval,sa,eY,c44,AG,AE,AL,T8c,s1,s2,e1,e2,u1,u2,v1,v2,r9 h1,r9 h2,hv,BU hx,AF]
 ·simp only[eZ,seval,sa,se,eY,c44,AG,AE,AL,T8c,s1,s2,e1,e2,u1,u2,v1,v2,r9 h1,r9 h2,hv,A5 hx,AF]
def Vj(k:zx):Bool:=decide ((16:Int)<(k.g.cells.length:Int))||decide ((256:Int)<(k.g.wC.length:Int))||decide ((20:Int)<(k.nb.length:Int))||decide ((12:Int)<(k.ls.length:Int))||decide ((6:Int)<(k.d.wE.length:Int))||decide ((6:Int)<(k.d.wK.length:Int))||decide ((6:Int)<(k.d.wG.length:Int))||decide ((10:Int)<(k.d.wF.length:Int))||decide ((256:Int)<(k.d.wC.length:Int))
def Qa(k:zx):Bool:=!Vj k&&(k.ls.all λl=>decide (l.length<=40))&&k.d.wK.all λr=>decide (r.ls.length<=20)
def p6(k:zx):Av prog 6 [BA k] (.bool (Qa k)):=by
 refine .mk ⟨Am 0 k,zt⟩ zt (c6.a (AI AH.wD (AJ ?_)));have hb:(decide ((16:Int)<(k.g.cells.length:Int))||decide ((256:Int)<(k.g.wC.length:Int))||decide ((20:Int)<(k.nb.length:Int))||decide ((12:Int)<(k.ls.length:Int))||decide ((6:Int)<(k.d.wE.length:Int))||decide ((6:Int)<(k.d.wK.length:Int))||decide ((6:Int)<(k.d.wG.length:Int))||decide ((10:Int)<(k.d.wF.length:Int))||decide ((256:Int)<(k.d.wC.length:Int)))=Vj k:=rfl;cases hm:Vj k with
 |true=>
  rw[hm]at hb;have hR:Qa k=false:=by unfold Qa;rw[hm];rfl
  rw[hR];simp only[eZ,seval,ry,c6,AG,AE,AL,hb]
 |false=>
 rw[hm]at hb;have hbd:=hb;simp only[tY,ti]at hbd;have xu:k.ls.length<=12:=zo
 have hrs:k.d.wK.length<=6:=zo
 have hk:Qa k=((k.ls.all λl=>decide (l.length<=40))&&k.d.wK.all λr=>decide (r.ls.length<=20)):=by unfold Qa;rw[hm];rfl
 rw[hk];simp only[eZ,seval,ry,c6,AG,AE,AL,hb];refine AQ (λi:Nat=>⟨[(1,true,.ptr 0 0),(3,true,.int .i64 i)],wB Ak 0 (.box (AG k)),2⟩) (λi=>i<=k.ls.length/\(k.ls.all λl=>decide (l.length<=40))=((k.ls.drop i).all λl=>decide (l.length<=40))) (λi=>k.ls.length-i) 0 rfl ⟨sk _,rfl⟩ ?_;rintro i ⟨hi,he⟩;by_cases e9:i<k.ls.length
 ·have hg:=rz e9;have e:=AK (k:=i) zo;rw[sO e9,uR]at he;generalize k.ls[i]=l at hg he;by_cases hq:l.length<=40
  ·have hq':((40:Int)<(l.length:Int))=False:=sb zo;rw[sK hq,tS]at he;simp only[eZ,seval,eY,AG,AE,AL,AN e9,hg,hq',e];exact .mk (i+1) rfl ⟨e9,he⟩ zo
  ·have hq':((40:Int)<(l.length:Int))=True:=r9 zo;rw[sA hq,uk]at he;rw[he,uk];simp only[eZ,seval,eY,AG,AE,AL,AN e9,hg,hq']
 obtain rfl:i=k.ls.length:=zo
 rw[t5,List.all_nil]at he;rw[he,tS];simp only[eZ,seval,ry,AG,AE,AL,Ag e9];refine AQ (λi:Nat=>⟨[(1,true,.ptr 0 0),(4,true,.int .i64 i)],wB Ak 0 (.box (AG k)),2⟩) (λi=>i<=k.d.wK.length/\(k.d.wK.all λr=>decide (r.ls.length<=20))=((k.d.wK.drop i).all λr=>decide (r.ls.length<=20))) (λi=>k.d.wK.length-i) 0 rfl ⟨sk _,rfl⟩ ?_;rintro i ⟨hi,he⟩;by_cases e9:i<k.d.wK.length
 ·have hg:=rz e9;have e:=AK (k:=i) zo;rw[sO e9,uR]at he;generalize k.d.wK[i]=l at hg he;by_cases hq:l.ls.length<=20
  ·have hq':((20:Int)<(l.ls.length:Int))=False:=sb zo;rw[sK hq,tS]at he;simp only[eZ,seval,eY,AG,AE,AL,AN e9,hg,hq',e];exact .mk (i+1) rfl ⟨e9,he⟩ zo
  ·have hq':((20:Int)<(l.ls.length:Int))=True:=r9 zo;rw[sA hq,uk]at he;rw[he];simp only[eZ,seval,eY,AG,AE,AL,AN e9,hg,hq']
 obtain rfl:i=k.d.wK.length:=zo
 rw[t5,List.all_nil]at he;rw[he];simp only[eZ,seval,ry,AG,AE,AL,Ag e9]
structure VSp where
 i:Nat
 H:AB
 n:Nat
def M3(g:v7)(G:yO g){l' q:Nat}{J:Nat->AB->Nat->Prop}(hJ:∀i H n,J i H n->AD H q=some (.box (AE g.sh g.w g.h g.wC g.cells)))
  (hy:∀i H n,i<g.cells.length->J i H n->∀R:Bool->AB->Nat->Prop,(∀H' n',J (i+1) H' n'->R true H' n')->CY prog l' [.int .i64 i,.agg [.int .i64 (Dg g i).1,.int .i64 (Dg g i).2]] H n R) {H:AB} {n:Nat} (h0:J 0 H n):
  AX prog 248 [.fn (.yield l') [] [],.ptr q 0] H n λo H' n'=>o= .ret (.wJ [])/\J g.cells.length H' n':=by
 obtain⟨hr1,hr2,hr3⟩:=Ba G.hG;refine c248.a (AI AH.wD (AJ ?_));have hq:=hJ 0 H n h0;simp only[AE]at hq;simp only[eE,eN,seval,ry,c248,hq];refine AQ (λv:VSp=>⟨[(0,true,.fn (.yield l') [] []),(1,true,.ptr q 0),(8,true,Aj g.cells),(9,true,.int .i64 g.cells.length),(10,true,.int .i64 v.i)],v.H,v.n⟩) (λv=>v.i<=g.cells.length/\J v.i v.H v.n) (λv=>g.cells.length-v.i)
  ⟨0,H,n⟩ rfl ⟨sk _,h0⟩ ?_
 rintro⟨i,H1,m⟩ ⟨hi,hj⟩;simp only at hi hj;by_cases e9:i<g.cells.length
 ·have hq1:=hJ i H1 m hj;simp only[AE]at hq1;have gi:JO g (i:Int):=⟨zo,by rw[sm];exact e9⟩;obtain⟨k,hk,-,hg,hp,w1,w2,x1,x2,y1,y2,ey,hs⟩:=G.at gi;obtain rfl:k=i:=zo
  have e:=AK (k:=k) zo;have hw:(g.w=0)=False:=sb zo;have r1:IntKind.wrap .i64 ((Ai g (k:Int)).tdiv g.w)=(Ai g (k:Int)).tdiv g.w:=A4 zo zo;have r2:IntKind.wrap .i64 (((Ai g (k:Int)).tdiv g.w).tdiv 2)=((Ai g (k:Int)).tdiv g.w).tdiv 2:=A4 zo zo;have r3:IntKind.wrap .i64 ((Ai g (k:Int)).tmod g.w-((Ai g (k:Int)).tdiv g.w).tdiv 2)=(Ai g (k:Int)).tmod g.w-((Ai g (k:Int)).tdiv g.w).tdiv 2:=A4 zo zo;rcases hs with h1|h2
  ·have yS:Dg g k=((Ai g (k:Int)).tmod g.w,(Ai g (k:Int)).tdiv g.w):=by unfold Dg DR;rw[sg zo]
   have hz:(g.sh=2)=False:=sb zo;have hyk:=hy k H1 m e9 hj;rw[yS]at hyk;simp only[eZ,seval,eY,AN e9,hg,hq1,hw,r1,hz];refine hyk _ λH' n' hj'=>?_
   simp only[eZ,seval,sa,Ov,e];exact .mk ⟨k+1,H',n'⟩ rfl ⟨e9,hj'⟩ zp
  ·have yS:Dg g k=((Ai g (k:Int)).tmod g.w-((Ai g (k:Int)).tdiv g.w).tdiv 2,(Ai g (k:Int)).tdiv g.w):=by unfold Dg DR;rw[sn h2]
   have hz:(g.sh=2)=True:=r9 h2;have hyk:=hy k H1 m e9 hj;rw[yS]at hyk;simp only[eZ,seval,eY,AN e9,hg,hq1,hw,r1,r2,r3,hz];refine hyk _ λH' n' hj'=>?_
   simp only[eZ,seval,sa,Ov,e];exact .mk ⟨k+1,H',n'⟩ rfl ⟨e9,hj'⟩ zp
 obtain rfl:i=g.cells.length:=zo
 simp only[eZ,seval,Ag e9];exact hj
def Kn(vals:List Int)(k a b:Int):Bool:=decide (k=1)&&decide (a=b)||decide (k=4)&&decide (BG vals b<=BG vals a)
def M4(vals:List Int)(a b:Int):Int:=max (BG vals a-BG vals b) (BG vals b-BG vals a)
def mF(vals:List Int)(k n:Int)(ls l:List Int):Bool:=
 if k=2 then !l.contains (-1)&&decide (Fa ls l=0)
 else if k=3 then !l.contains (-1)&&decide (M4 vals (l[0]?.getD 0) (l[1]?.getD 0)<n)
 else if k=6 then decide (n<(Fa ls l:Int))||decide ((l.length:Int)-n<(IB ls l:Int))
 else false
def Ko(vals:List Int)(k n:Int)(ls l:List Int):Bool:=BX (Kn vals k) l||mF vals k n ls l
theorem GY{bad:Int->Int->Bool}(h:∀a b,bad a b=false):∀l,BX bad l=false
 |[]=>rfl
 |a::r=>by
  unfold BX;rw[GY h r,Bool.or_false];simp [h]
def Ln{p q:Int->Int->Bool}(h:∀a b,p a b=q a b)(l:List Int):BX p l=BX q l:=by
 have:p=q:=by funext a b;exact h a b
 rw[this]
def eW{l:List Int}(h:∀s∈l,-1<=s):decide (I9 l=0)= !l.contains (-1):=by
 rw[sP,si,tJ,vP,ti];unfold I9;rw[tZ,vF];constructor
 ·intro q hm;exact q _ hm zw
 ·grind
def XJ{vals:List Int}{k n:Int}{ls l:List Int}(h:∀s∈l,-1<=s)(h3:k=3->l.length=2):Ko vals k n ls l=CD vals k n ls l:=by
 unfold Ko CD mF;by_cases k1:k=1
 ·subst k1;rw[sg zd,sg zd,sg zd,Bool.or_false,sn rfl];exact Ln (λa b=>by simp [Kn]) l
 by_cases k2:k=2
 ·subst k2;rw[GY (λa b=>by simp [Kn]),sn rfl,sg zd,sn rfl,ub,eW h,Bool.and_comm]
 by_cases k3:k=3
 ·subst k3;rw[GY (λa b=>by simp [Kn]),sg zd,sn rfl,sg zd,sg zd,sn rfl,ub];obtain⟨a,b,rfl⟩:∃a b,l=[a,b]:=by
   have:=h3 rfl
   match l,this with
   |[a,b],_=>exact⟨a,b,rfl⟩
  have ha:=h a zw;have hb:=h b zw;rw[sP];unfold BX BX BX M4 VE;simp only[vP,tg,ve,vZ,vS,List.any_nil,Bool.or_false,sf,tJ,ti,si,u9,ut,sw];omega
 by_cases k4:k=4
 ·subst k4;rw[sg zd,sg zd,sg zd,Bool.or_false,sg zd,sg zd,sg zd,sn rfl];exact Ln (λa b=>by simp [Kn]) l
 rw[GY (λa b=>by simp [Kn,k1,k4]),sg k2,sg k3,sg k1,sg k2,sg k3,sg k4,ub]
section
abbrev Oc(s:BF):Fs:=.agg [.int .i64 s.1,.int .i64 s.2]
def H9:List BF->Nat->List (Fs×Fs×Nat)
 |[],_=>[]
 |s::r,i=>(Oc s,.int .i64 (i:Int),i)::H9 r (i+1)
theorem Qb:∀(l:List BF) (i:Nat),EG (.arr 2 .i64) (H9 l i)=True
 |[],_=>rfl
 |s::r,i=>by rw[H9,EG,Qb r (i+1)];simp [KT.is,Oi]
def mG(s t:BF):ID (Oc s) (Oc t)=decide (s=t):=by
 obtain⟨a,b⟩:=s;obtain⟨c,d⟩:=t;rw[sP];simp [ID,xT,Prod.mk.injEq]
def Tu(x:BF)(r:List BF)(s:BF):En (x::r) s=if x=s then some 0 else(En r s).map (· +1):=by
 unfold En;rw[vD];by_cases h:x=s
 ·simp [h]
 ·simp only[h,wc,sN,sY];cases List.findIdx? (λx=>decide (x=s)) r<;>simp
theorem Vk:∀(l:List BF) (s:BF) (i:Nat),Bm (Oc s) (H9 l i)=(En l s).map λn=>.int .i64 (n+(i:Int))
 |[],s,i=>rfl
 |x::r,s,i=>by
  rw[H9,Bm,Tu,Vk r s (i+1),mG];by_cases h:x=s
  ·subst h;simp
  ·have:¬s=x:=λq=>h q.symm
   simp only[h,this,wc,sN,sY];cases En r s with
   |none=>rfl
   |some n=>simp only[td];congr 2;omega
def M5(l:List BF)(s:BF):Bm (Oc s) (H9 l 0)=(En l s).map λn=>.int .i64 n:=by
 rw[Vk];congr 1;funext n;simp
theorem ZN:∀(l:List BF) (s:BF) (i:Nat),H9 (l++[s]) i=H9 l i++[(Oc s,.int .i64 ((i+l.length:Nat):Int),i+l.length)]
 |[],s,i=>rfl
 |x::r,s,i=>by
  rw[sJ,H9,ZN r s (i+1),H9,sJ,sM,show i+1+r.length=i+(r.length+1)by omega]
def mH{l:List BF}{s:BF}(h:s∉l):EQ (Oc s) (.int .i64 (l.length:Int)) l.length (H9 l 0)=H9 (l++[s]) 0:=by
 have h':=OK.2 h;rw[KX (by rw[M5,h'];rfl),ZN];simp
def M6{g:v7}{i:Nat}(h:i<g.cells.length):(AZ g.sh g.w g.cells).take (i+1)=(AZ g.sh g.w g.cells).take i++[Dg g i]:=by
 rw[sG,Dz h];rfl
def XK{g:v7}{i:Nat}(hd:(AZ g.sh g.w g.cells).Nodup)(h:i<g.cells.length):Dg g i∉(AZ g.sh g.w g.cells).take i:=by
 have e:=M6 h;have:((AZ g.sh g.w g.cells).take i++[Dg g i]).Nodup:=by rw[<-e];exact hd.sublist (List.take_sublist ..)
 rw[uD]at this;exact λhm=>this.2.2 _ hm _ zw rfl
def mI:x9->x9
 | .arr e l=>.frz e l
 |x=>x
def Qd(id:Nat)(H:AB):AB:=λi=>if i=id then(H i).map mI else H i
def XM(ids:List Nat)(H:AB):AB:=ids.foldr Qd H
variable {H:AB}
theorem ZO{id e:Nat}{l:List Fs}(h:AD H id=some (.arr e l)):Qd id H=wB H id (.frz e l):=by
 funext i;unfold Qd wB;by_cases q:i=id
 ·subst q;have h':H i=some (.arr e l):=h;rw[sn rfl,sn rfl,h'];rfl
 ·rw[sg q,sg (λe=>q e.symm)]
theorem XN{id:Nat}(h:∀e l,AD H id≠some (.arr e l)):Qd id H=H:=by
 funext i;unfold Qd;split
 ·rename_i q;subst q;have h':∀e l,H i≠some (.arr e l):=h;cases hh:H i with
  |none=>rfl
  |some ob=>cases ob<;>first|rfl|(exact absurd hh (h' _ _))
 ·rfl
theorem M7:∀(ids:List Nat) (H:AB) (i:Nat),AD (XM ids H) i=if i∈ids then(AD H i).map mI else AD H i
 |[],H,i=>by simp [XM]
 |id::r,H,i=>by
  have ih:=M7 r H i;show Qd id (XM r H) i=_;unfold Qd;have ih':XM r H i=if i∈r then(AD H i).map mI else AD H i:=ih
  rw[ih'];by_cases q:i=id
  ·subst q;rw[sn rfl,sn (tu ..)];split
   ·cases AD H i with
    |none=>rfl
    |some ob=>cases ob<;>rfl
   ·rfl
  ·simp_all
theorem AX.sealN{P:Program}{f:FuncId}{args:List Fs}{n:Nat}:∀(k:Nat) {R R':xw->AB->Nat->Prop},AX P f args H n R->
  (∀o H' n',R o H' n'->∃ids:List Nat,ids.length<=k/\R' o (XM ids H') n')->AX P f args H n R'
 |0,R,R',h,hr=>h.mono λo H' n' q=>by
  obtain⟨ids,h1,h2⟩:=hr _ _ _ q;have:ids=[]:=tv zo;subst this;exact h2
 |k+1,R,R',h,hr=>by
  refine AX.seal (R:=λo H' n'=>∃id,R' o (Qd id H') n'\/R' o H' n') (AX.sealN k h (R':=λo H' n'=>∃id,R' o (Qd id H') n'\/R' o H' n') λo H' n' q=>?_) λo H' n' q=>?_
  ·obtain⟨ids,h1,h2⟩:=hr _ _ _ q;cases ids with
   |nil=>exact⟨[],sk _,0,.inr h2⟩
   |cons id r=>exact⟨r,by simp at h1;omega,id,.inl h2⟩
  ·grind [ZO,XN]
theorem wL.conv{g:q8}{f:Nat->Option Value}{e:Nat}:∀{l m:List Fs} {o:Nat},l.length=m.length->(∀(k:Nat) a b,l[k]?=some a->m[k]?=some b->∀x,AR g a x->AR g b x)->wL g e f o l->wL g e f o m
 |[],[],_,_,_,h=>h
 |a::l,b::m,o,hl,hh,⟨⟨v,h1,h2,h3⟩,h4⟩=>
  ⟨⟨v,hh 0 a b rfl rfl v h1,h2,h3⟩,wL.conv (by simpa using hl) (λk a b h1 h2=>hh (k+1) a b (by simpa using h1) (by simpa using h2)) h4⟩
end
section
theorem ZP:((2:Nat):Int)=2:=rfl
variable {H:AB} {lv:Fs} {g:v7} {n i lo id:Nat} {α:Type}
theorem M8(hf:AO H n):AX prog 225 [CM g] H n λo H' n'=>o= .ret (.fn (.func 248) [] [.ptr n 0])/\H'=wB H n (.box (AE g.sh g.w g.h g.wC g.cells))/\n'=n+2:=by
 refine c225.a (AI AH.wD (AJ ?_));simp only[eE,eN,seval,c225,AE,OZ hf]
def Gn:List BF:=[(1,0),(-1,0),(0,1),(0,-1),(1,-1),(-1,1)]
def DE(sh:Int):Nat:=if sh=1 then 4 else 6
theorem Tv(sh:Int):Fk sh=Gn.take (DE sh):=by
 unfold Fk DE Gn;split<;>rfl
abbrev Rw:List Fs:=[.int .i64 1,.int .i64 0,.int .i64 (-1),.int .i64 0,.int .i64 0,.int .i64 1,.int .i64 0,.int .i64 (-1),.int .i64 1,.int .i64 (-1),.int .i64 (-1),.int .i64 1]
abbrev PC:List Fs:=Gn.map Oc
abbrev clG(q:Nat):Fs:=.fn (.func 248) [] [.ptr q 0]
theorem XO{ob:x9}(h:AD H i=some ob):wB H i ob=H:=by
 funext j;unfold wB;by_cases e:i=j
 ·subst e;rw[sn rfl];exact h.symm
 ·rw[sg e]
theorem Rk.keep{enc:α->Fs}{e:Nat}{H':AB}{qs:List α}(h:Rk enc e lo H lv qs)(hk:∀id e' l,lo<=id->AD H id=some (.arr e' l)->AD H' id=some (.arr e' l)):Rk enc e lo H' lv qs:=by
 rcases h with h|⟨h1,id,rest,h2,h3,h4⟩
 ·exact .inl h
 ·exact .inr ⟨h1,id,rest,h2,h3,hk id _ _ h3 h4⟩
abbrev eNa(q:Nat):List (Nat×Bool×Fs):=[(1,true,.ptr 0 0),(2,true,.ptr 1 0),(3,true,.int .i64 0),(4,true,.ptr 10 0),(5,true,.ptr 12 0),(6,true,.ptr 15 0),(30,true,clG q)]
structure NbA(g:v7)(l':Nat)(i:Nat)(H:AB)(m:Nat):Prop where
 fr:AO H m
 lm:20<=m
 h0:AD H 0=some (.box (AE g.sh g.w g.h g.wC g.cells))
 h1:AD H 1=some (.box [.sl .nil []])
 h10:AD H 10=some (.box Rw)
 h12:AD H 12=some (.box [.int .i64 (DE g.sh:Nat)])
 h14:AD H 14=some (.map (H9 ((AZ g.sh g.w g.cells).take i) 0) i)
 h15:AD H 15=some (.box [.mp 14])
 hq:AD H 17=some (.box (AE g.sh g.w g.h g.wC g.cells))
 hL:AD H 19=some (.lp ⟨l',.ready,none,85,eNa 17, #[31,32],Mo,Mp⟩)
theorem y_nbA{l':Nat}(hd:(AZ g.sh g.w g.cells).Nodup)(hi:i<g.cells.length){m:Nat}(F:NbA g l' i H m){R:Bool->AB->Nat->Prop}(hR:∀H' m',NbA g l' (i+1) H' m'->R true H' m'):
  CY prog l' [.int .i64 i,Oc (Dg g i)] H m R:=by
 obtain⟨fr,lm,h0,h1,h10,h12,h14,h15,hq,hL⟩:=F;refine qn hL rfl (AI AH.wD (AJ ?_));simp only[eE,eN,seval,RG,Gv,uI,uT,ug,vn,OZ fr,AW];have y1:(m=19)=False:=sb zo;have y2:(m=15)=False:=sb zo;have y3:(m=14)=False:=sb zo;have y4:(14=m)=False:=sb zo;have y5:(15=m)=False:=sb zo;have y6:(19=m)=False:=sb zo;refine⟨_,(AA _ _ _ _ zo).trans hL,rfl,AI AH.wD (AJ ?_)⟩;have hn:=XK hd hi;have hf:Bm (Oc (Dg g i)) (H9 ((AZ g.sh g.w g.cells).take i) 0)=none:=by rw[M5,OK.2 hn];rfl
 have hs:=mH hn;have hlen:((AZ g.sh g.w g.cells).take i).length=i:=by rw[sU,B9];omega
 rw[hlen]at hs;have hkt:(KT.arr 2 IntKind.i64).is (Oc (Dg g i))=True:=r9 ⟨rfl,rfl,zt⟩;simp only[eE,eN,seval,xE,Option.isSome_none,RF,h15,h14,y2,y3,y6,Qb,hkt,hf,hs];refine⟨⟨l',.busy,none,85,eNa 17, #[31,32],Mo,Mp⟩,by simp only[AT];simp,hR _ _ ⟨?_,?_,?_,?_,?_,?_,?_,?_,?_,?_⟩⟩
 ·intro j hj;have hj':m+2<=j:=hj;simp only[AT];repeat rw[sg zo]
  exact fr j zo
 ·simp only[];omega
 all_goals simp only[]
 ·repeat rw[AA _ _ _ _ zo]
  exact h0
 ·repeat rw[AA _ _ _ _ zo]
  exact h1
 ·repeat rw[AA _ _ _ _ zo]
  exact h10
 ·repeat rw[AA _ _ _ _ zo]
  exact h12
 ·rw[AA _ _ _ _ zo,AC,<-M6 hi]
 ·repeat rw[AA _ _ _ _ zo]
  exact h15
 ·repeat rw[AA _ _ _ _ zo]
  exact hq
 ·rw[AC]
abbrev eNb(q:Nat):List (Nat×Bool×Fs):=[(2,true,.ptr 1 0),(3,true,.int .i64 0),(4,true,.ptr 10 0),(5,true,.ptr 12 0),(6,true,.ptr 15 0),(41,true,clG q)]
structure NbB(g:v7)(l' q id:Nat)(c:Nat)(i:Nat)(H:AB)(m:Nat):Prop where
 fr:AO H m
 lq:id<q
 l20:20<=id
 lm:q+2<m
 h1:AD H 1=some (.box [.ref id 1 0 g.cells.length g.cells.length])
 h10:AD H 10=some (.box Rw)\/AD H 10=some (.arr 2 PC)
 h12:AD H 12=some (.box [.int .i64 (DE g.sh:Nat)])
 h14:AD H 14=some (.map (H9 (AZ g.sh g.w g.cells) 0) c)
 h15:AD H 15=some (.box [.mp 14])
 hq:AD H q=some (.box (AE g.sh g.w g.h g.wC g.cells))
 hL:AD H (q+2)=some (.lp ⟨l',.ready,none,85,eNb q, #[42,43],KP,KQ⟩)
 hE:∃E,AD H id=some (.arr 1 E)/\E.length=g.cells.length/\(∀k,i<=k->k<g.cells.length->E[k]?=some (.sl .nil []))/\∀k,k<i->∃a,E[k]?=some a/\Rk eI 1 (id+1) H a (Hl g.sh (AZ g.sh g.w g.cells) (Dg g k))
def Tw(sh:Int)(S:List BF)(s:BF)(j:Nat):List Int:=(Gn.take j).filterMap λd=>En S (I8 s d)
theorem mJ(sh:Int)(S:List BF)(s:BF):Tw sh S s (DE sh)=Im sh S s:=by unfold Tw Im;rw[Tv]
theorem ed(sh:Int)(S:List BF)(s:BF){j:Nat}{d:BF}(h:Gn[j]?=some d):Tw sh S s (j+1)=Tw sh S s j++(En S (I8 s d)).toList:=by
 unfold Tw;rw[sG,h,List.filterMap_append];congr 1
theorem mK(sh:Int)(S:List BF)(s:BF)(j:Nat):(Tw sh S s j).length<=j:=by
 unfold Tw;refine sX (List.length_filterMap_le ..) ?_;rw[sU];omega
theorem mL{sh:Int}(h:AD H 10=some (.box Rw)\/AD H 10=some (.arr 2 PC)):(JS H 6 2 0 (DE sh:Nat) (.ptr 10 0)).1=True/\(JS H 6 2 0 (DE sh:Nat) (.ptr 10 0)).2=(wB H 10 (.arr 2 PC),.ref 10 2 0 (DE sh) 6):=by
 have hm:DE sh=4\/DE sh=6:=by unfold DE;split<;>simp
 rcases h with h|h
 ·rcases hm with e|e<;>rw[e]<;>(simp [JS,h,grp];rfl)
 ·rcases hm with e|e<;>rw[e]<;>simp [JS,h,Gn,XO h]
theorem ZQ{l:List α}{x:α}(h:l[i]?=some x):l.set i x=l:=uM λk=>by
 rw[tC];split
 ·grind
 ·rfl
structure VNb where
 j:Nat
 lv:Fs
 H:AB
 n:Nat
theorem XP{enc:α->Fs}{e:Nat}{qs:List α}(h:Rk enc e lo H lv qs):lv.cells=[lv]/\nT lv=True:=by
 rcases h with⟨rfl,-⟩|⟨-,id,rest,rfl,-⟩<;>exact⟨rfl,r9 zt⟩
theorem y_nbB{l' q c:Nat}(G:yO g)(hd:(AZ g.sh g.w g.cells).Nodup)(hi:i<g.cells.length){m:Nat}(F:NbB g l' q id c i H m){R:Bool->AB->Nat->Prop}(hR:∀H' m',NbB g l' q id c (i+1) H' m'->R true H' m'):
  CY prog l' [.int .i64 i,Oc (Dg g i)] H m R:=by
 obtain⟨fr,lq,l20,lm,h1,h10,h12,h14,h15,hq,hL,E,hE,hEl,hE1,hE2⟩:=F;refine qo hL rfl (AI AH.wD (AJ ?_));simp only[eE,eN,seval,RI,Gv,uI,uT,ug,vn,OZ fr,AW];refine⟨_,(AA _ _ _ _ zo).trans hL,rfl,AI AH.wD (AJ ?_)⟩;have hlen:=B9 g;obtain⟨hr1,hr2,hr3⟩:=Ba G.hG;generalize hlp:x9.lp ⟨l',.busy,none,85,eNb q, #[42,43],KP,KQ⟩=lpO;generalize hS:AZ g.sh g.w g.cells=S at hd h14 hE2 hR hlen;generalize hs:Dg g i=s at hR;have y1:∀k,(12=m+k)=False:=λk=>sb zo
 obtain⟨s1,s2⟩:=mL (H:=wB (wB H m (.box [.int .i64 s.1,.int .i64 s.2])) (q+2) lpO) (sh:=g.sh) (by
  rw[AA _ _ _ _ zo,AA _ _ _ _ zo];exact h10)
 have z1:(m=12)=False:=sb zo;have z2:(q+2=12)=False:=sb zo;simp only[eE,eN,seval,xE,RH,h12,z1,z2,s1,s2];have hH10:∀x ob,wB (wB (wB H m (.box [.int .i64 s.1,.int .i64 s.2])) (q+2) lpO) 10 ob x=AD (wB (wB (wB H m (.box [.int .i64 s.1,.int .i64 s.2])) (q+2) lpO) 10 ob) x:=λ_ _=>rfl
 have mk:DE g.sh<=6:=by unfold DE;split<;>omega
 have hsr: -16<=s.1/\s.1<=16/\ -16<=s.2/\s.2<=16:=by
  have gi:JO g (i:Int):=⟨zo,by rw[sm];exact hi⟩;obtain⟨k,hk,-,hg,hp,w1,w2,x1,x2,y1',y2',ey,yg⟩:=G.at gi;obtain rfl:k=i:=zo
  subst hs;unfold Dg DR;split<;>simp only[]<;>omega
 generalize hHb:wB (wB (wB H m (.box [.int .i64 s.1,.int .i64 s.2])) (q+2) lpO) 10 (.arr 2 PC)=Hb;have b10:AD Hb 10=some (.arr 2 PC):=by subst hHb;exact AC ..
 have bm:AD Hb m=some (.box [.int .i64 s.1,.int .i64 s.2]):=by grind [AA,AC]
 have bL:AD Hb (q+2)=some lpO:=by
  subst hHb;rw[AA _ _ _ _ zo,AC]
 have bo:∀x,x≠m->x≠q+2->x≠10->AD Hb x=AD H x:=λx n1 n2 n3=>by
  subst hHb;rw[AA _ _ _ _ (Ne.symm n3),AA _ _ _ _ (Ne.symm n2),AA _ _ _ _ (Ne.symm n1)]
 have bf:AO Hb (m+2):=λx hx=>by rw[bo x zo zo zo];exact fr x zo
 clear hHb hH10 s1 s2 h10;refine AQ (λv:VNb=>⟨[(2,true,.ptr 1 0),(6,true,.ptr 15 0),(9,true,.int .i64 i),(10,true,.ptr m 0),(45,true,.ref 10 2 0 (DE g.sh) 6),(46,true,.int .i64 (DE g.sh:Nat)),(47,true,.int .i64 v.j)],v.H,v.n⟩)
  (λv=>v.j<=DE g.sh/\m+2<=v.n/\AO v.H v.n/\(∀x,x≠id->x<m+2->AD v.H x=AD Hb x)/\AD v.H id=some (.arr 1 (E.set i v.lv))/\Rk eI 1 (m+2) v.H v.lv (Tw g.sh S s v.j)) (λv=>DE g.sh-v.j)
  ⟨0,.sl .nil [],Hb,m+2⟩ rfl ⟨sk _,sj _,bf,λ_ _ _=>rfl,?_,.inl ⟨rfl,rfl⟩⟩ ?_
 ·grind [ZQ]
 rintro⟨j,lv,H2,n2⟩ ⟨hj,yq,wn,so,hid2,wv⟩;simp only at hj yq wn so hid2 wv;have c1:AD H2 1=some (.box [.ref id 1 0 g.cells.length g.cells.length]):=by rw[so 1 zo zo,bo 1 zo zo zo];exact h1
 have c14:AD H2 14=some (.map (H9 S 0) c):=by rw[so 14 zo zo,bo 14 zo zo zo];exact h14
 have c15:AD H2 15=some (.box [.mp 14]):=by rw[so 15 zo zo,bo 15 zo zo zo];exact h15
 have rq:AD H2 10=some (.arr 2 PC):=by rw[so 10 zo zo];exact b10
 have cm:AD H2 m=some (.box [.int .i64 s.1,.int .i64 s.2]):=by rw[so m zo zo];exact bm
 have wi:=XP wv;have yp:(E.set i lv)[i]?=some lv:=by rw[List.getElem?_set_self zo]
 have xo:i<(E.set i lv).length:=by rw[tz];omega
 have hel:(E.set i lv).length=g.cells.length:=by rw[tz];omega
 have v1:∀k,(n2+k=m)=False:=λk=>sb zo
 have v2:∀k,(n2+k=1)=False:=λk=>sb zo
 have v3:∀k,(n2+k=14)=False:=λk=>sb zo
 have v4:∀k,(n2+k=15)=False:=λk=>sb zo
 have v5:∀k,(n2+k=10)=False:=λk=>sb zo
 have v6:∀k,(n2+k=id)=False:=λk=>sb zo
 have hfl:=mK g.sh S s j;by_cases e9:j<DE g.sh;case neg=>
  obtain rfl:j=DE g.sh:=zo
  rw[mJ]at wv hfl;have hfs:=VD g.sh hd s;have cL:AD H2 (q+2)=some lpO:=by rw[so (q+2) zo zo];exact bL
  have fin:∀H3,(∀x,x<m->x≠id->AD H3 x=AD H2 x)->AD H3 id=some (.arr 1 (E.set i lv))->AO H3 n2->Rk eI 1 (id+1) H3 lv (Hl g.sh S s)->
    ∃x,AD H3 (q+2)=some (.lp x)/\R true (wB H3 (q+2) (.lp {x with st:=.ready,xQ:=none})) n2:=by
   intro H3 k1 k2 k3 k4;refine⟨⟨l',.busy,none,85,eNb q, #[42,43],KP,KQ⟩,?_,hR _ _ ⟨k3.wB (sj _) zo,lq,l20,zo,?_,.inr ?_,?_,?_,?_,?_,AC ..,E.set i lv,?_,hel,λk h1 h2=>?_,λk h1=>?_⟩⟩
   ·rw[k1 (q+2) zo zo,cL,hlp]
   ·grind [AA]
   ·grind [AA]
   ·grind [AA]
   ·grind [AA]
   ·grind [AA]
   ·grind [AA]
   ·rw[AA _ _ _ _ zo];exact k2
   ·rw[List.getElem?_set_ne zo];exact hE1 k zo h2
   ·by_cases e:k=i
    ·subst e;refine⟨lv,yp,?_⟩;rw[hS,hs];exact k4.keep λx e' l hx ho=>by
      rw[AA _ _ _ _ (λe=>by subst e;rw[k1 (q+2) zo zo,cL,<-hlp]at ho;cases ho)];exact ho
    ·obtain⟨a,ha,hla⟩:=hE2 k zo;refine⟨a,by rw[List.getElem?_set_ne (λe'=>e e'.symm)];exact ha,?_⟩;rw[hS];rcases hla with h|⟨z1,z,rest,z2,z3,z4⟩
     ·exact .inl h
     ·have zm:=fr.lt z4;refine .inr ⟨z1,z,rest,z2,z3,?_⟩;have zq:z≠q+2:=λe=>by subst e;rw[hL]at z4;cases z4
      rw[AA _ _ _ _ (Ne.symm zq),k1 z zo zo,so z zo zo,bo z zo zq (λe=>zo)];exact z4
  simp only[eZ,seval,eY,Ag e9,c1,hid2,hel,AN hi,hi,yp,wi.1];rcases wv with⟨rfl,hq0⟩|⟨s8,z,rest,rfl,hz,hz2⟩
  ·refine QP.mono ?_;rintro o H3 n3 ⟨rfl,rfl,rfl⟩;simp only[eE,eN,BL];refine fin _ (λ_ _ _=>rfl) hid2 wn (.inl ⟨rfl,?_⟩);rw[<-hfs,hq0,List.mergeSort_nil]
  ·refine(RU hz2 zw zo).mono ?_;rintro o H3 n3 ⟨rfl,rfl,rfl⟩;rw[vJ,List.drop_left];simp only[eE,eN,BL];have yk:(Hl g.sh S s).length=(Im g.sh S s).length:=by rw[<-hfs,Ep]
   refine fin _ (λx h1 h2=>AA _ _ _ _ zo) (by rw[AA _ _ _ _ zo];exact hid2) (wn.wB (sj _) (wn.lt hz2)) (.inr ⟨?_,z,rest,by rw[yk],zo,by rw[AC,hfs]⟩);intro e;rw[e]at yk;exact s8 (tv yk.symm)
 have hj6:j<Gn.length:=by
  have:Gn.length=6:=rfl
  omega
 obtain⟨d,hgd⟩:∃d,Gn[j]?=some d:=⟨_,rz hj6⟩;have hdr: -1<=d.1/\d.1<=1/\ -1<=d.2/\d.2<=1:=by
  have hm:=sZ hgd;simp only[Gn,tg,ve,vZ]at hm;rcases hm with rfl|rfl|rfl|rfl|rfl|rfl<;>decide
 have w1:IntKind.wrap .i64 (s.1+d.1)=s.1+d.1:=A4 zo zo;have w2:IntKind.wrap .i64 (s.2+d.2)=s.2+d.2:=A4 zo zo;have e:=AK (k:=j) zo;have hfind:Bm (.agg [.int .i64 (s.1+d.1),.int .i64 (s.2+d.2)]) (H9 S 0)=(En S (I8 s d)).map λn=>.int .i64 n:=M5 S (I8 s d)
 have hkt:(KT.arr 2 IntKind.i64).is (.agg [.int .i64 (s.1+d.1),.int .i64 (s.2+d.2)])=True:=r9 ⟨rfl,rfl,zt⟩;have hsu:=ed g.sh S s hgd;cases hix:En S (I8 s d)with
 |none=>
  rw[hix]at hfind hsu;rw[Option.toList_none,sR]at hsu;simp only[eZ,seval,xE,eY,AN e9,rq,hj6,hgd,Bq wn,c15,cm,v1,v3,v4,w1,w2,c14,hkt,Qb,hfind,C5,e,AW,ZP];refine .mk ⟨j+1,lv,wB H2 (n2+2) (.box [.int .i64 d.1,.int .i64 d.2]),n2+4⟩ rfl ⟨e9,zp,wn.wB (m:=n2+4) zo zo,λx h1 h2=>?_,?_,?_⟩ zp
  ·simp only[];rw[AA _ _ _ _ zo];exact so x h1 h2
  ·simp only[];rw[AA _ _ _ _ zo];exact hid2
  ·simp only[hsu];exact wv.keep λx e' l hx ho=>by rw[AA _ _ _ _ (λe=>by subst e;rw[wn _ zo]at ho;cases ho)];exact ho
 |some b=>
 rw[hix]at hfind hsu;rw[Option.toList_some]at hsu;have hbl:(id<n2+4)=True:=r9 zo;simp only[eZ,eX,seval,xE,eY,AN e9,rq,hj6,hgd,Bq wn,c15,cm,v1,v2,v3,v4,v6,w1,w2,c14,hkt,Qb,hfind,C5,AW,ZP,c1,hid2,AN hi,xo,yp,wi.1,hbl];have hlv2:Rk eI 1 (m+2) (wB H2 (n2+2) (.box [.int .i64 d.1,.int .i64 d.2])) lv (Tw g.sh S s j):=wv.keep λx e' l hx ho=>by rw[AA _ _ _ _ (λe=>by subst e;rw[wn _ zo]at ho;cases ho)];exact ho
 have hid3:AD (wB H2 (n2+2) (.box [.int .i64 d.1,.int .i64 d.2])) id=some (.arr 1 (E.set i lv)):=by rw[AA _ _ _ _ zo];exact hid2
 have hf3:AO (wB H2 (n2+2) (.box [.int .i64 d.1,.int .i64 d.2])) (n2+4):=wn.wB zo zo;have hk3:∀x,x≠id->x<m+2->AD (wB H2 (n2+2) (.box [.int .i64 d.1,.int .i64 d.2])) x=AD Hb x:=λx h1 h2=>by rw[AA _ _ _ _ zo];exact so x h1 h2
 generalize wB H2 (n2+2) (.box [.int .i64 d.1,.int .i64 d.2])=H3 at hlv2 hid3 hf3 hk3;refine RV (enc:=eI) (lo:=m+2) (qs:=Tw g.sh S s j) (z0:=0) hlv2 rfl zd rfl rfl (Ae zo zd) (hf3 _ zo) zo zo ?_;intro z rest hz hzm;have hzl:z<n2+13:=by
  rcases hzm with rfl|⟨Z,h⟩
  ·omega
  ·have:=hf3.lt h;omega
 have u1:(z=id)=False:=sb zo;simp only[eZ,seval,eY,KN,LR,hid3,u1,AN hi,hi,yp,hel,List.set_set,e];refine .mk ⟨j+1,.ref z 1 0 (Tw g.sh S s j++[b]).length ((Tw g.sh S s j++[b]).length+rest.length),wB (wB H3 z (.arr 1 (((Tw g.sh S s j++[b])++rest).map eI))) id (.arr 1 (E.set i (.ref z 1 0 (Tw g.sh S s j++[b]).length ((Tw g.sh S s j++[b]).length+rest.length)))),n2+15⟩ rfl ⟨e9,zp,?_,λx h1 h2=>?_,?_,?_⟩ zp
 ·exact(hf3.wB (m:=n2+15) zo zo).wB (sj _) (show id<n2+15 by omega)
 ·simp only[];rw[AA _ _ _ _ zo,AA _ _ _ _ zo];exact hk3 x h1 h2
 ·simp only[];rw[AC]
 ·simp only[hsu];exact .inr ⟨zw,z,rest,rfl,hz,by rw[AA _ _ _ _ zo,AC]⟩
def NbR(g:v7):xw->AB->Nat->Prop:=λo H _=>
 (GT g.sh g.w g.h g.wC g.cells=false/\o= .ret (.wJ [.sl .nil [],.int .i64 130]))\/
 (GT g.sh g.w g.h g.wC g.cells=true/\∃id E,o= .ret (.wJ [.ref id 1 0 g.cells.length g.cells.length,.int .i64 0])/\AD H id=some (.arr 1 E)/\E.length=g.cells.length/\
  ∀k,k<g.cells.length->∃a,E[k]?=some a/\Rk eI 1 (id+1) H a (Hl g.sh (AZ g.sh g.w g.cells) (Dg g k)))
def Tnb:Bg:=AF 224 (s1 DS (λg=>Aq g.wC/\Aq g.cells) Jh) wD
theorem mM:AH prog Tnb:=AH.wD.add (q1 λg h=>p224 g.sh g.w g.h g.wC g.cells h.1 h.2)
theorem t_nb(g:v7)(hh:Aq g.wC)(hc:Aq g.cells):AX prog 156 [CM g] Ak 0 (NbR g):=by
 refine a156 (AI mM (AJ ?_));have f1:DS.ok (.agg (AE g.sh g.w g.h g.wC g.cells))=True:=EA g;have f2:DS.dec (.agg (AE g.sh g.w g.h g.wC g.cells))=g:=DC g;simp only[AE]at f1 f2;cases hgo:GT g.sh g.w g.h g.wC g.cells with
 |false=>
  have hck:Jh g= .int .i64 130:=by unfold Jh;rw[hgo];rfl
  simp only[eZ,seval,se,BO,iU,AE,Tnb,s1,f1,f2,r9 hh,r9 hc,hck,AF];exact .inl ⟨hgo,rfl⟩
 |true=>
 have hck:Jh g= .int .i64 0:=by unfold Jh;rw[hgo];rfl
 have hG:Au g.sh g.w g.h g.wC=some g.cells:=th hgo;have G:yO g:=⟨hG,hh⟩;obtain⟨hr1,hr2,hr3⟩:=Ba hG;have hw:1<=g.w:=by
  unfold Au at hG;split at hG
  ·rename_i q;exact q.2.1
  ·cases hG
 have hd:(AZ g.sh g.w g.cells).Nodup:=MM hw hr1 λp hp=>(hr3 p hp).1
 have h4:g.sh=1->(4:Int)=((DE g.sh:Nat):Int):=λe=>by unfold DE;rw[sn e];rfl
 have h6:g.sh≠1->(6:Int)=((DE g.sh:Nat):Int):=λe=>by unfold DE;rw[sg e];rfl
 rcases Classical.em (g.sh=1)with wr|wr
 case' inl=>
  simp only[eZ,seval,sa,xE,iU,AE,Tnb,s1,f1,f2,r9 hh,r9 hc,hck,BU wr,AW,AF];rw[h4 wr]
 case' inr=>
  simp only[eZ,seval,sa,xE,iU,AE,Tnb,s1,f1,f2,r9 hh,r9 hc,hck,A5 wr,AW,AF];rw[h6 wr]
 all_goals
  generalize hH0:wB _ 15 (x9.box [Fs.mp 14])=H0;have a0:AD H0 0=some (.box (AE g.sh g.w g.h g.wC g.cells)):=by rw[<-hH0];rfl
  have a1:AD H0 1=some (.box [.sl .nil []]):=by rw[<-hH0];rfl
  have iO:AD H0 10=some (.box Rw):=by rw[<-hH0];rfl
  have a12:AD H0 12=some (.box [.int .i64 (DE g.sh:Nat)]):=by rw[<-hH0];rfl
  have a14:AD H0 14=some (.map [] 0):=by rw[<-hH0];rfl
  have a15:AD H0 15=some (.box [.mp 14]):=by rw[<-hH0];rfl
  have af:AO H0 17:=by
   rw[<-hH0];repeat' (first|exact AO.nil|refine AO.wB ?_ (sj _) zd)
  clear hH0;refine(M8 af).mono ?_;rintro o H1 n1 ⟨rfl,rfl,rfl⟩;simp only[eE,eN,seval,BL,GE];intro l';refine(M3 g G (J:=NbA g l') (λi H n F=>F.hq) (λi H n hi F R hR=>y_nbA hd hi F hR) ?_).mono ?_
  ·refine⟨?_,zd,?_,?_,?_,?_,?_,?_,?_,?_⟩
   ·exact(af.wB (m:=20) zd zd).wB (sj _) zd
   all_goals first|(rw[AA _ _ _ _ zd,AA _ _ _ _ zd];assumption)|(rw[AA _ _ _ _ zd,AC])|(rw[AC])
  rintro o H2 n2 ⟨rfl,F⟩;have Ffr:=F.fr;have Flm:=F.lm;have F0:=F.h0;have F1:=F.h1;have F10:=F.h10;have F12:=F.h12;have F14:=F.h14;have F15:=F.h15;have FL:=F.hL;rw[tL (by rw[B9];exact sj _)]at F14;simp only[AE]at F0;have u1:(n2=1)=False:=sb zo;have u2:∀k,(n2+k=1)=False:=λk=>sb zo
  have u3:∀k,(n2+k=0)=False:=λk=>sb zo
  have u4:∀k,(n2+k=19)=False:=λk=>sb zo
  have w1:Al g.cells.length 24=True:=r9 (Ae zo zd);have w2:((g.cells.length:Int)<=35184372088832)=True:=r9 zo;have u5:(n2=16)=False:=sb zo;simp only[eE,eN,seval,eY,GD,FL,F0,Bq Ffr,F1,u2,u3,u5,w1,w2];generalize hH3:wB _ 1 (x9.box [Fs.ref (n2+3) 1 0 g.cells.length g.cells.length])=H3;have d0:AD H3 0=some (.box (AE g.sh g.w g.h g.wC g.cells)):=by
   rw[<-hH3];repeat rw[AA _ _ _ _ zo]
   exact F0
  have d1:AD H3 1=some (.box [.ref (n2+3) 1 0 g.cells.length g.cells.length]):=by rw[<-hH3,AC]
  have d10:AD H3 10=some (.box Rw):=by
   rw[<-hH3];repeat rw[AA _ _ _ _ zo]
   exact F10
  have d12:AD H3 12=some (.box [.int .i64 (DE g.sh:Nat)]):=by
   rw[<-hH3];repeat rw[AA _ _ _ _ zo]
   exact F12
  have d14:AD H3 14=some (.map (H9 (AZ g.sh g.w g.cells) 0) g.cells.length):=by
   rw[<-hH3];repeat rw[AA _ _ _ _ zo]
   exact F14
  have d15:AD H3 15=some (.box [.mp 14]):=by
   rw[<-hH3];repeat rw[AA _ _ _ _ zo]
   exact F15
  have dE:AD H3 (n2+3)=some (.arr 1 (List.replicate g.cells.length (.sl .nil []))):=by rw[<-hH3,AA _ _ _ _ zo,AC]
  have df:AO H3 (n2+5):=by
   rw[<-hH3];exact(((Ffr.wB (m:=n2+5) zo zo).wB (m:=n2+5) (sj _) zo).wB (sj _) zo)
  clear hH3;refine(M8 df).mono ?_;rintro o H4 n4 ⟨rfl,rfl,rfl⟩;simp only[eE,eN,seval,BL,GE];intro l2;refine(M3 g G (J:=NbB g l2 (n2+5) (n2+3) g.cells.length) (λi H n F=>F.hq) (λi H n hi F R hR=>y_nbB G hd hi F hR) ?_).mono ?_
  ·refine⟨(df.wB (m:=n2+8) zo zo).wB (m:=n2+8) (sj _) zo,zo,zo,zo,?_,.inl ?_,?_,?_,?_,?_,AC ..,List.replicate g.cells.length (.sl .nil []),?_,tK,λk _ hk=>?_,λk hk=>absurd hk (tH _)⟩
   ·repeat rw[AA _ _ _ _ zo]
    exact d1
   ·repeat rw[AA _ _ _ _ zo]
    exact d10
   ·repeat rw[AA _ _ _ _ zo]
    exact d12
   ·repeat rw[AA _ _ _ _ zo]
    exact d14
   ·repeat rw[AA _ _ _ _ zo]
    exact d15
   ·rw[AA _ _ _ _ zo,AC]
   ·repeat rw[AA _ _ _ _ zo]
    exact dE
   ·rw[List.getElem?_replicate,sn hk]
  rintro o H5 n5 ⟨rfl,K⟩;obtain⟨kfr,klq,kl2,klm,k1,k10,k12,k14,k15,kq,kL,E,kE,kEl,-,kE2⟩:=K;have e1:(n2+5+2=1)=False:=sb zo;have e2:(n2+7=1)=False:=sb zo;simp only[eE,eN,seval,BO,GD,kL,k1,e1];refine .inr ⟨hgo,n2+3,E,rfl,?_,kEl,λk hk=>?_⟩
  ·repeat rw[AA _ _ _ _ zo]
   exact kE
  ·obtain⟨a,ha,hla⟩:=kE2 k hk;refine⟨a,ha,hla.keep λx e' l hx ho=>?_⟩;have x1:x≠n2+7:=λe=>by subst e;rw[kL]at ho;cases ho
   rw[AA _ _ _ _ zo,AA _ _ _ _ (Ne.symm x1)];exact ho
def Rx:Fs->Option Nat
 | .ref i _ _ _ _=>some i
 |_=>none
theorem eg{cap:Nat}{E rest:List Fs}(ho:AD H id=some (.frz 1 (E++rest)))(hc:E.length<=cap){g:q8}{w:World}{x:Value}(hR:x7 g H n w)(hv:AR g (.ref id 1 0 E.length cap) x):AR g (.sl (.none 1) E) x:=by
 obtain⟨L,h1,h2,rfl⟩:=hv;obtain⟨L',j1,j2,j3⟩:=hR.obj id _ ho;rw[h1]at j1;cases j1;refine .inr ⟨zt,L.wR,0,cap,⟨none,zw,.inl rfl⟩,hc,?_,zt⟩;have:=wL.take E.length _ _ j3;rw[vJ]at this;exact this
theorem ZR{cap:Nat}{E rest:List Fs}{xs:List (List Int)}(ho:AD H id=some (.frz 1 (E++rest)))(hc:E.length<=cap)(hl:E.length=xs.length)(he:∀(k:Nat) a x,E[k]?=some a->xs[k]?=some x->LF 1 a H (x.map eI)){g:q8}{w:World}{y:Value}(hR:x7 g H n w)(hv:AR g (.ref id 1 0 E.length cap) y):AR g (Br xs) y:=by
 have h1:=eg ho hc hR hv;rcases h1 with⟨q1,rfl,q3⟩|⟨-,b,o,cap,hv,hc,wX,-⟩
 ·refine .inl ⟨?_,rfl,zt⟩;have:xs=[]:=tv (by rw[<-hl,q1];rfl);rw[this];rfl
 ·refine .inr ⟨zt,b,o,cap,?_,by rw[ry,<-hl];exact hc,?_,zt⟩
  ·grind
  ·refine wL.conv (by rw[ry];exact hl) (λk a b ha hb x hx=>?_) wX;rw[sF,tt]at hb;obtain⟨z,hz,rfl⟩:=hb;exact LQ (he k a z ha hz) hR hx
theorem Rk.seal{qs:List Int}{ids:List Nat}(h:Rk eI 1 lo H lv qs)(hi:∀z,Rx lv=some z->z∈ids):LF 1 lv (XM ids H) (qs.map eI):=by
 rcases h with⟨rfl,rfl⟩|⟨s8,z,rest,rfl,-,h4⟩
 ·exact .inl ⟨rfl,_,rfl,.inl rfl⟩
 ·refine .inr ⟨by simpa using s8,z,_,rest.map eI,by rw[ry],?_,zw⟩;rw[M7,sn (hi z rfl),h4,su];rfl
def NbS(g:v7):xw->AB->Nat->Prop:=λo H _=>
 (GT g.sh g.w g.h g.wC g.cells=false/\o= .ret (.wJ [.sl .nil [],.int .i64 130]))\/
 (GT g.sh g.w g.h g.wC g.cells=true/\∃id E,o= .ret (.wJ [.ref id 1 0 g.cells.length g.cells.length,.int .i64 0])/\AD H id=some (.frz 1 E)/\E.length=g.cells.length/\
  ∀k,k<g.cells.length->∃a,E[k]?=some a/\LF 1 a H ((Hl g.sh (AZ g.sh g.w g.cells) (Dg g k)).map eI))
theorem p156(g:v7)(hh:Aq g.wC)(hc:Aq g.cells):Av prog 156 [CM g] (Ll g):=by
 refine⟨⟨BM 0 ..,zt⟩,by unfold Ll;split<;>exact⟨BC 0 _,zt,zt⟩,AX.out (AX.sealN (g.cells.length+1) (t_nb g hh hc) (R':=NbS g) ?_) ?_⟩
 ·rintro o H n (h|⟨hg,id,E,ho,hE,hl,hk⟩)
  ·exact⟨[],sk _,.inl h⟩
  ·refine⟨id::E.filterMap Rx,?_,.inr ⟨hg,id,E,ho,?_,hl,λk hk'=>?_⟩⟩
   ·grind
   ·rw[M7,sn (tu ..),hE];rfl
   ·obtain⟨a,ha,hla⟩:=hk k hk';exact⟨a,ha,hla.seal λz hz=>tM _ (List.mem_filterMap.2 ⟨a,sZ ha,hz⟩)⟩
 ·rintro o H n (⟨hg,rfl⟩|⟨hg,id,E,rfl,hE,hl,hk⟩)
  ·refine⟨_,⟨_,rfl,?_⟩,λg w e hR he=>he⟩;unfold Ll;rw[hg];exact Wk.wJ (.cons (Wk.sl (.inr rfl)) (.cons (Wk.refl _) .nil))
  ·refine⟨.ret (Ll g),⟨_,rfl,Wk.refl _⟩,λgh w e hR he=>?_⟩;cases e with
   |panicked c=>exact he.elim
   |outgrown=>exact he.elim
   |returned x=>
    have hv:Ll g= .wJ [Br (Ek g.sh (AZ g.sh g.w g.cells)),.int .i64 0]:=by unfold Ll;rw[hg];rfl
    rw[hv];obtain⟨vs,rfl,y,r,e1,k1,k2⟩:=he;refine⟨vs,rfl,y,r,e1,?_,k2⟩;rw[<-hl]at k1;refine ZR (rest:=[]) (by rw[sR];exact hE) (sj _) (by rw[hl,Ek,ry,B9]) (λk a z ha hz=>?_) hR k1;have hkl:k<g.cells.length:=by rw[<-hl];exact(t8.1 ha).1
    obtain⟨a',ha',hla⟩:=hk k hkl;rw[ha]at ha';obtain rfl:=Option.some.inj ha';rw[Ek,sF,Dz hkl,td]at hz;rw[<-Option.some.inj hz];exact hla
end
end Go.AM
