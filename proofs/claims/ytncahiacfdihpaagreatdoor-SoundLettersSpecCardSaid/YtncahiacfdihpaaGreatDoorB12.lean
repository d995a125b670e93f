/-
  Parts of the proof. Conditions: none.
-/
import Derived.Test.YtncahiacfdihpaaGreatDoorB11
set_option maxRecDepth 20000
set_option linter.all false
namespace Go.AM
open Go.Lib Go.Proofs Go.Proofs.Tryz
structure GrV(g:Zs):Prop where
 hG:Ai g.sh g.w g.h g.holes=some g.cells
 ho:few g.holes
def Ac(g:Zs)(c:Int):Int:=g.cells.getD c.toNat 0
def inG(g:Zs)(c:Int):Prop:=0<=c/\c.toNat<g.cells.length
def GrV.at{g:Zs}(G:GrV g){c:Int}(h:inG g c):∃k:Nat,c=(k:Int)/\k<g.cells.length/\g.cells[k]?=some (Ac g c)/\0<=Ac g c/\1<=g.w/\g.w<=16/\0<=(Ac g c).tmod g.w/\(Ac g c).tmod g.w<16/\0<=(Ac g c).tdiv g.w/\(Ac g c).tdiv g.w<16/\((Ac g c).tdiv g.w).tdiv 2=(Ac g c).tdiv g.w/2/\(g.sh=1\/g.sh=2):=by
 obtain⟨h0,h1⟩:=h;obtain⟨hs,w1,w2,k1,k2,-,-,-,hc⟩:=Fe G.hG;obtain⟨-,-,hr⟩:=Ay G.hG;have hg:=W2 h1;have hp:g.cells[c.toNat]?=some (Ac g c):=by unfold Ac;rw[Yf,hg];rfl
 have hm:Ac g c∈g.cells:=XB hp;have u0:=hm;rw[hc]at u0;have hm3:=(Y6.mp u0).1;have hq:0<=Ac g c/\Ac g c<g.w*g.h:=by grind [Br]
 refine⟨c.toNat,zo,h1,hp,hq.1,w1,w2,Int.tmod_nonneg _ hq.1,by have:=Int.tmod_lt_of_pos (Ac g c) (b:=g.w) zo;omega,Int.tdiv_nonneg hq.1 zo,?_,Int.tdiv_eq_ediv_of_nonneg (Int.tdiv_nonneg hq.1 zo),hs⟩;rw[Int.tdiv_eq_ediv_of_nonneg hq.1];have:=Int.ediv_lt_of_lt_mul (by omega:0<g.w) (by rw[Int.mul_comm];exact hq.2);omega
def p169(g:Zs)(c:Int)(G:GrV g)(h:inG g c):Pur prog 169 [Bz g,.int .i64 c] (.int .i64 ((Ac g c).tmod g.w)):=by
 obtain⟨k,rfl,hk,hg,hp,w1,w2,x1,x2,y1,y2,ey,hs⟩:=G.at h;have hw:(g.w=0)=False:=W4 zo;have j7:((k:Int)<(g.cells.length:Int))=True:=W1 zo;refine .mk ⟨Ap 0 ..,trivial,trivial⟩ trivial (c169.a (AF AI.tnil (AG ?_)));simp only[eE,eN,seval,eY,c169,AD,hg,j7,hw]
def p170(g:Zs)(c:Int)(G:GrV g)(h:inG g c):Pur prog 170 [Bz g,.int .i64 c] (.int .i64 ((Ac g c).tdiv g.w)):=by
 obtain⟨k,rfl,hk,hg,hp,w1,w2,x1,x2,y1,y2,ey,hs⟩:=G.at h;have hw:(g.w=0)=False:=W4 zo;have j7:((k:Int)<(g.cells.length:Int))=True:=W1 zo;have e1:IntKind.wrap .i64 ((Ac g k).tdiv g.w)=(Ac g k).tdiv g.w:=Aq zo zo;refine .mk ⟨Ap 0 ..,trivial,trivial⟩ trivial (c170.a (AF AI.tnil (AG ?_)));simp only[eE,eN,seval,eY,c170,AD,hg,j7,hw,e1]
def fCol(g:Zs)(c:Int):Fs:=.int .i64 ((Ac g c).tmod g.w)
def fRow(g:Zs)(c:Int):Fs:=.int .i64 ((Ac g c).tdiv g.w)
def axA(g:Zs)(c:Int):Int:=(Ac g c).tmod g.w-((Ac g c).tdiv g.w).tdiv 2
def fAx(g:Zs)(c:Int):Fs:=.int .i64 (axA g c)
def Th6c:Tab:=tadd 169 (s2 dGd dI (λg c=>GrV g/\inG g c) fCol) (tadd 170 (s2 dGd dI (λg c=>GrV g/\inG g c) fRow) tnil)
def LL:AI prog Th6c:=(AI.tnil.add (q2 λg c h=>p170 g c h.1 h.2)).add (q2 λg c h=>p169 g c h.1 h.2)
def p171(g:Zs)(c:Int)(G:GrV g)(h:inG g c):Pur prog 171 [Bz g,.int .i64 c] (fAx g c):=by
 obtain⟨k,-,hk,hg,hp,w1,w2,x1,x2,y1,y2,ey,hs⟩:=G.at h;have f1:dGd.ok (.agg (AD g.sh g.w g.h g.holes g.cells))=True:=DO g;have f2:dGd.dec (.agg (AD g.sh g.w g.h g.holes g.cells))=g:=CE g;simp only[AD]at f1 f2;unfold fAx axA;have hG:(GrV g)=True:=W1 G;have hI:(inG g c)=True:=W1 h;refine .mk ⟨Ap 0 ..,trivial,trivial⟩ trivial (c171.a (AF LL (AG ?_)));have a0:=Rh y1;have e1:IntKind.wrap .i64 ((Ac g c).tdiv g.w-((Ac g c).tdiv g.w).tmod 2)=(Ac g c).tdiv g.w-((Ac g c).tdiv g.w).tmod 2:=by
  have:=Int.tmod_nonneg 2 y1;have:=Int.tmod_lt_of_pos ((Ac g c).tdiv g.w) (b:=2) zd;exact Aq zo zo
 have e2:IntKind.wrap .i64 (((Ac g c).tdiv g.w).tdiv 2)=((Ac g c).tdiv g.w).tdiv 2:=Aq zo zo;have e3:IntKind.wrap .i64 ((Ac g c).tmod g.w-((Ac g c).tdiv g.w).tdiv 2)=(Ac g c).tmod g.w-((Ac g c).tdiv g.w).tdiv 2:=Aq zo zo;simp only[eE,eN,seval,c171,AD,Th6c,s2,f1,f2,Aw,Ag,fCol,fRow,hG,hI,a0,e1,e2,e3,tadd]
def Th6a:Tab:=tadd 171 (s2 dGd dI (λg c=>GrV g/\inG g c) fAx) Th6c
def O6:AI prog Th6a:=LL.add (q2 λg c h=>p171 g c h.1 h.2)
theorem O7(a:List Fs)(H:AC):Th6a 171 a H=s2 dGd dI (λg c=>GrV g/\inG g c) fAx a H:=rfl
theorem O8(a:List Fs)(H:AC):Th6a 169 a H=s2 dGd dI (λg c=>GrV g/\inG g c) fCol a H:=rfl
theorem MY(a:List Fs)(H:AC):Th6a 170 a H=s2 dGd dI (λg c=>GrV g/\inG g c) fRow a H:=rfl
def p126(g:Zs)(a b:Int)(G:GrV g)(ha:inG g a)(hb:inG g b):Pur prog 126 [Bz g,.int .i64 a,.int .i64 b] (.bool (besR g.sh (C7 g.sh g.w (Ac g a)) (C7 g.sh g.w (Ac g b)))):=by
 obtain⟨k,-,-,-,-,w1,w2,x1,x2,y1,y2,ey,hs⟩:=G.at ha;obtain⟨k',-,-,-,-,-,-,u1,u2,v1,v2,ev,-⟩:=G.at hb;have f1:dGd.ok (.agg (AD g.sh g.w g.h g.holes g.cells))=True:=DO g;have f2:dGd.dec (.agg (AD g.sh g.w g.h g.holes g.cells))=g:=CE g;simp only[AD]at f1 f2;have hG:(GrV g)=True:=W1 G;have hI:(inG g a)=True:=W1 ha;have hJ:(inG g b)=True:=W1 hb;have e1:IntKind.wrap .i64 ((Ac g b).tmod g.w-(Ac g a).tmod g.w)=(Ac g b).tmod g.w-(Ac g a).tmod g.w:=Aq zo zo;have e2:IntKind.wrap .i64 ((Ac g b).tdiv g.w-(Ac g a).tdiv g.w)=(Ac g b).tdiv g.w-(Ac g a).tdiv g.w:=Aq zo zo;have e3:IntKind.wrap .i64 (axA g b-axA g a)=axA g b-axA g a:=by
  unfold axA;exact Aq zo zo
 refine .mk ⟨Ap 0 ..,trivial,trivial,trivial⟩ trivial (c126.a (AF O6 (AG ?_)));rcases hs with h1|h2
 ·have q:besR g.sh (C7 g.sh g.w (Ac g a)) (C7 g.sh g.w (Ac g b))=(decide ((Ac g b).tdiv g.w-(Ac g a).tdiv g.w=0)&&(decide ((Ac g b).tmod g.w-(Ac g a).tmod g.w=1)||decide ((Ac g b).tmod g.w-(Ac g a).tmod g.w= -1))||decide ((Ac g b).tmod g.w-(Ac g a).tmod g.w=0)&&(decide ((Ac g b).tdiv g.w-(Ac g a).tdiv g.w=1)||decide ((Ac g b).tdiv g.w-(Ac g a).tdiv g.w= -1))):=by
   unfold besR C7;simp only[Wg h1,W7 (by omega:¬g.sh=2)]
  have hq:(g.sh=1)=True:=W1 h1;rw[q];simp only[eZ,seval,c126,AD,O8,MY,s2,f1,f2,Aw,Ag,fCol,fRow,hG,hI,hJ,e1,e2,hq]
 ·have q:besR g.sh (C7 g.sh g.w (Ac g a)) (C7 g.sh g.w (Ac g b))=(decide (axA g b-axA g a=1)&&decide ((Ac g b).tdiv g.w-(Ac g a).tdiv g.w=0)||decide (axA g b-axA g a= -1)&&decide ((Ac g b).tdiv g.w-(Ac g a).tdiv g.w=0)||decide (axA g b-axA g a=0)&&decide ((Ac g b).tdiv g.w-(Ac g a).tdiv g.w=1)||decide (axA g b-axA g a=0)&&decide ((Ac g b).tdiv g.w-(Ac g a).tdiv g.w= -1)||decide (axA g b-axA g a=1)&&decide ((Ac g b).tdiv g.w-(Ac g a).tdiv g.w= -1)||decide (axA g b-axA g a= -1)&&decide ((Ac g b).tdiv g.w-(Ac g a).tdiv g.w=1)):=by
   unfold besR C7 axA;simp only[W7 (by omega:¬g.sh=1),Wg h2]
  have hq:(g.sh=1)=False:=W4 zo;rw[q];simp only[eZ,seval,c126,AD,O8,MY,O7,s2,f1,f2,Aw,Ag,fCol,fRow,fAx,hG,hI,hJ,e1,e2,e3,hq]
def Hv(g:Zs)(f c:Int):Int:=if f=1 then(Ac g c).tdiv g.w else if g.sh=1 then(Ac g c).tmod g.w else if f=2 then axA g c else axA g c+(Ac g c).tdiv g.w
def p172(g:Zs)(f c:Int)(G:GrV g)(h:inG g c):Pur prog 172 [Bz g,.int .i64 f,.int .i64 c] (.int .i64 (Hv g f c)):=by
 obtain⟨k,-,-,-,-,w1,w2,x1,x2,y1,y2,ey,hs⟩:=G.at h;have f1:dGd.ok (.agg (AD g.sh g.w g.h g.holes g.cells))=True:=DO g;have f2:dGd.dec (.agg (AD g.sh g.w g.h g.holes g.cells))=g:=CE g;simp only[AD]at f1 f2;have hG:(GrV g)=True:=W1 G;have hI:(inG g c)=True:=W1 h;have e1:IntKind.wrap .i64 (axA g c+(Ac g c).tdiv g.w)=axA g c+(Ac g c).tdiv g.w:=by
  unfold axA;exact Aq zo zo
 refine .mk ⟨Ap 0 ..,trivial,trivial,trivial⟩ trivial (c172.a (AF O6 (AG ?_)));unfold Hv;by_cases q1:f=1
 ·rw[Wg q1];simp only[eZ,seval,c172,AD,MY,s2,f1,f2,Aw,Ag,fRow,hG,hI,W1 q1]
 rw[W7 q1];by_cases q2:g.sh=1
 ·rw[Wg q2];simp only[eZ,seval,c172,AD,O8,s2,f1,f2,Aw,Ag,fCol,hG,hI,W4 q1,W1 q2]
 rw[W7 q2];by_cases q3:f=2
 ·rw[Wg q3];simp only[eZ,seval,c172,AD,O7,s2,f1,f2,Aw,Ag,fAx,hG,hI,W4 q1,W4 q2,W1 q3]
 rw[W7 q3];simp only[eZ,seval,c172,AD,MY,O7,s2,f1,f2,Aw,Ag,fRow,fAx,hG,hI,W4 q1,W4 q2,W4 q3,e1]
def spC(g:Zs)(c:Nat):Spot:=C7 g.sh g.w (Ac g (c:Int))
def DF{g:Zs}{c:Nat}(h:c<g.cells.length):(AT g.sh g.w g.cells)[c]?=some (spC g c):=by
 unfold AT spC Ac;rw[Wq,W2 h,Wf,Yf,W2 h];rfl
def BH(g:Zs):(AT g.sh g.w g.cells).length=g.cells.length:=W0 ..
def nbB(g:Zs)(a b:Nat):Bool:=besR g.sh (spC g a) (spC g b)
def nbL(g:Zs)(a:Nat):List Int:=idxP g.cells.length (nbB g a)
def Uv(g:Zs):(List.range g.cells.length).map (nbL g)=nbsS g.sh (AT g.sh g.w g.cells):=by
 unfold nbsS;refine YR λi=>?_
 rw[Wq,Wq];by_cases h:i<g.cells.length
 ·rw[DF h,Z6 h];simp only[Xf];rw[Uf,BH];unfold nbL;congr 1;refine Cc λb hb=>?_
  rw[DF hb];exact MR ..
 ·simp_all [BH]
def nbV(g:Zs):Fs:=if grOK g.sh g.w g.h g.holes g.cells then .tup [eLl (nbsS g.sh (AT g.sh g.w g.cells)),.int .i64 0]else .tup [eLl [],.int .i64 130]
structure IFil(m:Nat)(P:Nat->Bool)(H0:AC)(n0:Nat)(v:VRi):Prop where
 hj:v.j<=m
 hn:n0<=v.n
 fr:AQ v.H v.n
 hk:∀id,id<n0->hget v.H id=hget H0 id
 tok:tkG 1 n0 v.H v.tc
 es:v.tc.esz=1\/idxP v.j P=[]
structure INb(g:Zs)(m:Nat)(L:Nat->List (List Int))(v:VRg):Prop where
 hi:v.i<=m
 hn:3<=v.n
 fr:AQ v.H v.n
 h0:hget v.H 0=some (.box (AD g.sh g.w g.h g.holes g.cells))
 tok:tkG 1 1 v.H v.tl
 es:v.tl.esz=1\/v.E=[]
 hE:Wks v.E ((L v.i).map eIs)
def fBes(g:Zs)(a b:Int):Fs:=.bool (besR g.sh (C7 g.sh g.w (Ac g a)) (C7 g.sh g.w (Ac g b)))
def Thn:Tab:=tadd 126 (s3 dGd dI dI (λg a b=>GrV g/\inG g a/\inG g b) fBes) Trr
def Thn_ok:AI prog Thn:=O0.add (q3 λg a b h=>p126 g a b h.1 h.2.1 h.2.2)
theorem Thn_b(a:List Fs)(H:AC):Thn 126 a H=s3 dGd dI dI (λg a b=>GrV g/\inG g a/\inG g b) fBes a H:=rfl
theorem Thn_c(a:List Fs)(H:AC):Thn 125 a H=s1 dGd (λg=>few g.holes) chkV a H:=rfl
def p88(g:Zs)(hh:few g.holes):Pur prog 88 [Bz g] (nbV g):=by
 refine .mk ⟨Ap 0 ..,trivial⟩ (by unfold nbV;split<;>exact⟨Ak 0 _,trivial,trivial⟩) (c88.a (AF Thn_ok (AG ?_)));have f1:dGd.ok (.agg (AD g.sh g.w g.h g.holes g.cells))=True:=DO g;have f2:dGd.dec (.agg (AD g.sh g.w g.h g.holes g.cells))=g:=CE g;simp only[AD]at f1 f2;cases hgo:grOK g.sh g.w g.h g.holes g.cells with
 |false=>
  have hv:nbV g= .tup [eLl [],.int .i64 130]:=by unfold nbV;rw[hgo];rfl
  have hc:chkV g= .int .i64 130:=by unfold chkV;rw[hgo];rfl
  rw[hv];simp only[eZ,seval,W6,c88,AD,Thn_c,s1,f1,f2,W1 hh,hc];exact Wk.tup (.cons (Wk.sl (.inr rfl)) (.cons (Wk.refl _) .nil))
 |true=>
 have hc:chkV g= .int .i64 0:=by unfold chkV;rw[hgo];rfl
 have hG:Ai g.sh g.w g.h g.holes=some g.cells:=Xa hgo;have G:GrV g:=⟨hG,hh⟩;obtain⟨hr1,hr2,hr3⟩:=Ay hG;have hv:nbV g= .tup [eLl ((List.range g.cells.length).map (nbL g)),.int .i64 0]:=by unfold nbV;rw[hgo,Uv];rfl
 rw[hv];simp only[eZ,seval,W3,c88,AD,Thn_c,s1,f1,f2,W1 hh,hc];refine AL (λv:VRg=>⟨[(1,true,.ptr 0 0),(4,true,.sl v.tl v.E),(5,true,.int .i64 v.i)],v.H,v.n⟩) (INb g g.cells.length λi=>(List.range i).map (nbL g)) (λv=>g.cells.length-v.i)
  ⟨0,[],.nil,hset hnil 0 (.box (AD g.sh g.w g.h g.holes g.cells)),3⟩ rfl ⟨We _,W8 _,AQ.nil.hset (m:=3) (We 3) (show 0<3 by decide),rfl,.inl rfl,.inr rfl,.nil⟩ ?_
 rintro⟨i,E,tl,H,n⟩ hI;have hi:=hI.hi;have hn:=hI.hn;have c6:=hI.fr;have h0:=hI.h0;have c7:=hI.tok;have d7:=hI.es;have hE:=hI.hE;simp only at hi hn c6 h0 c7 d7 hE;have o6:=h0;simp only[AD]at o6;by_cases c5:i<g.cells.length;case neg=>
  obtain rfl:i=g.cells.length:=zo
  simp only[eZ,seval,W0,o6,lt_F c5];exact Wk.tup (.cons (Wk.slx d7 hE) (.cons (Wk.refl _) .nil))
 have e:=AE (k:=i) zo;have gi:inG g (i:Int):=⟨zo,by rw[Wf];exact c5⟩;simp only[eZ,seval,W0,o6,lt_T c5];refine AL (λv:VRi=>⟨[(1,true,.ptr 0 0),(4,true,.sl tl E),(5,true,.int .i64 i),(6,true,.sl v.tc ((idxP v.j (nbB g i)).map eI)),(7,true,.int .i64 v.j)],v.H,v.n⟩)
  (IFil g.cells.length (nbB g i) H n) (λv=>g.cells.length-v.j) ⟨0,.nil,H,n⟩ rfl ⟨We _,W8 _,c6,λid d6=>rfl,.inl rfl,.inr rfl⟩ ?_
 rintro⟨j,tc,H1,n1⟩ ⟨hj,j8,hf1,hk,htc,hec⟩;simp only at hj j8 hf1 hk htc hec;have k9:hget H1 0=some (.box (AD g.sh g.w g.h g.holes g.cells)):=by rw[hk 0 zo];exact h0
 have h01':=k9;simp only[AD]at h01';by_cases hlj:j<g.cells.length
 ·have ej:=AE (k:=j) zo;have gj:inG g (j:Int):=⟨zo,by rw[Wf];exact hlj⟩;have hs:=Cm j (nbB g i);have hb:besR g.sh (C7 g.sh g.w (Ac g (i:Int))) (C7 g.sh g.w (Ac g (j:Int)))=nbB g i j:=rfl;cases hbb:nbB g i j with
  |false=>
   rw[hbb,W7 zd]at hs;rw[hbb]at hb;simp only[eZ,seval,W0,h01',lt_T hlj,Thn_b,s3,f1,f2,Aw,Ag,fBes,W1 G,W1 gi,W1 gj,hb,ej];exact .mk ⟨j+1,tc,H1,n1⟩ (by simp only[hs]) ⟨hlj,j8,hf1,hk,htc,by simp only[hs];exact hec⟩ zp
  |true=>
   rw[hbb,Wg rfl]at hs;rw[hbb]at hb;have hlen:=Bt j (nbB g i);have q1:A5 H1 1 tc=True:=W1 htc.app;have q2:((idxP j (nbB g i)).length<=35184372088831)=True:=W1 zo;have q3:Aj ((idxP j (nbB g i)).length+1) 8=True:=W1 (AX zo zd);simp only[eZ,seval,W0,h01',lt_T hlj,Thn_b,s3,f1,f2,Aw,Ag,fBes,W1 G,W1 gi,W1 gj,hb,ej,q1,q2,q3,fr1 hf1];refine .mk ⟨j+1,.own (n1+3) 1,hset (AO H1 tc) (n1+3) .tok,n1+5⟩ ?_ ⟨hlj,zp,(AU htc hf1).hset (m:=n1+5) zo zo,λid d6=>?_,.inr (.inr ⟨n1+3,rfl,zo,AB ..⟩),.inl rfl⟩ zp
   ·simp only[hs,Wh];rfl
   ·grind [AA,AV]
 obtain rfl:j=g.cells.length:=zo
 have hEl:E.length=i:=by
  have:=hE.len;simp only[W0,Yb]at this;exact this
 have i7:tkG 1 1 H1 tl:=by
  rcases c7 with rfl|rfl|⟨id,rfl,h1,h2⟩
  ·exact .inl rfl
  ·exact .inr (.inl rfl)
  ·exact .inr (.inr ⟨id,rfl,h1,by rw[hk id (c6.lt h2)];exact h2⟩)
 have q1:A5 H1 1 tl=True:=W1 i7.app;have q2:(E.length<=35184372088831)=True:=W1 zo;have q3:Aj (E.length+1) 24=True:=W1 (AX zo zd);simp only[eZ,seval,W0,h01',lt_F hlj,e,q1,q2,q3,fr1 hf1];refine .mk ⟨i+1,E++[.sl tc ((nbL g i).map eI)],.own (n1+3) 1,hset (AO H1 tl) (n1+3) .tok,n1+5⟩ rfl ⟨c5,zp,(AU i7 hf1).hset (m:=n1+5) zo zo,?_,.inr (.inr ⟨n1+3,rfl,zo,AB ..⟩),.inl rfl,?_⟩ zp
 ·grind [AA,AV]
 ·simp only[XI,Wh,Wu,X5];simp only[Yo]at hE⊢;exact hE.app (.cons (Wk.sl (hec.imp id λq=>by unfold nbL;rw[q];rfl)) .nil)
def lnB(g:Zs)(f n:Int)(c:Nat):Bool:=decide (Hv g f (c:Int)=n)
def lnL(g:Zs)(f n:Int):List Int:=idxP g.cells.length (lnB g f n)
def lnT(g:Zs)(f:Int)(i:Nat):List (List Int):=((List.range i).map λ(k:Nat)=>lnL g f (-16+(k:Int))).filter λl=>!l.isEmpty
def Uw{g:Zs}{f:Int}{fn:Spot->Option Int}(h:∀c,c<g.cells.length->fn (spC g c)=some (Hv g f (c:Int))):lnT g f 49=Bg (AT g.sh g.w g.cells) fn:=by
 unfold lnT Bg Ji;rw[Yo];congr 1;refine Xk λk _=>?_
 unfold lnL B0;simp only[Function.comp];rw[BH];refine Cc λc hc=>?_
 rw[DF hc,YZ,h c hc];unfold lnB;rw[Wt];simp only[W9,Option.some.injEq];omega
def Ux(g:Zs)(f:Int)(i:Nat):(lnT g f i).length<=i:=by
 refine Xb (Xu ..) ?_;rw[W0,Yb];exact W8 _
def SD(g:Zs)(f:Int)(i:Nat):lnT g f (i+1)=lnT g f i++if(lnL g f (-16+(i:Int))).isEmpty then[]else[lnL g f (-16+(i:Int))]:=by
 unfold lnT;rw[XI,Wh,XW];congr 1;simp only[Wu,X5,XH,YE];cases (lnL g f (-16+(i:Int))).isEmpty<;>rfl
def fLn(g:Zs)(f c:Int):Fs:=.int .i64 (Hv g f c)
def Thl:Tab:=tadd 172 (s3 dGd dI dI (λg f c=>GrV g/\inG g c) fLn) Trr
def Thl_ok:AI prog Thl:=O0.add (q3 λg f c h=>p172 g f c h.1 h.2)
structure ILn(g:Zs)(m:Nat)(L:Nat->List (List Int))(v:VRg):Prop where
 hi:v.i<=m
 hn:2<=v.n
 fr:AQ v.H v.n
 h0:hget v.H 0=some (.box (AD g.sh g.w g.h g.holes g.cells))
 tok:tkG 1 1 v.H v.tl
 es:v.tl.esz=1\/v.E=[]
 hE:Wks v.E ((L v.i).map eIs)
def p127(g:Zs)(f:Int)(G:GrV g):Pur prog 127 [Bz g,.int .i64 f] (eLl (lnT g f 49)):=by
 refine .mk ⟨Ap 0 ..,trivial,trivial⟩ (Ak 0 _) (c127.a (AF Thl_ok (AG ?_)));have f1:dGd.ok (.agg (AD g.sh g.w g.h g.holes g.cells))=True:=DO g;have f2:dGd.dec (.agg (AD g.sh g.w g.h g.holes g.cells))=g:=CE g;simp only[AD]at f1 f2;obtain⟨hr1,hr2,hr3⟩:=Ay G.hG;simp only[eE,eN,seval,c127,AD];refine AL (λv:VRg=>⟨[(1,true,.int .i64 f),(2,true,.ptr 0 0),(5,true,.sl v.tl v.E),(6,true,.int .i64 (-16+(v.i:Int)))],v.H,v.n⟩) (ILn g 49 (lnT g f)) (λv=>49-v.i)
  ⟨0,[],.nil,hset hnil 0 (.box (AD g.sh g.w g.h g.holes g.cells)),2⟩ rfl ⟨We _,W8 _,AQ.nil.hset (m:=2) (We 2) (show 0<2 by decide),rfl,.inl rfl,.inr rfl,.nil⟩ ?_
 rintro⟨i,E,tl,H,n⟩ hI;have hi:=hI.hi;have hn:=hI.hn;have c6:=hI.fr;have h0:=hI.h0;have c7:=hI.tok;have d7:=hI.es;have hE:=hI.hE;simp only at hi hn c6 h0 c7 d7 hE;by_cases c5:i<49;case neg=>
  obtain rfl:i=49:=zo
  have hq:(-16+((49:Nat):Int)<=32)=False:=W4 zo;simp only[eZ,seval,hq];exact Wk.slx d7 hE
 have hq:(-16+(i:Int)<=32)=True:=W1 zo;have e:IntKind.wrap .i64 (-16+(i:Int)+1)= -16+((i+1:Nat):Int):=by rw[Aq zo zo];omega
 simp only[eZ,seval,hq];refine AL (λv:VRi=>⟨[(1,true,.int .i64 f),(2,true,.ptr 0 0),(5,true,.sl tl E),(6,true,.int .i64 (-16+(i:Int))),(7,true,.sl v.tc ((idxP v.j (lnB g f (-16+(i:Int)))).map eI)),(8,true,.int .i64 v.j)],v.H,v.n⟩)
  (IFil g.cells.length (lnB g f (-16+(i:Int))) H n) (λv=>g.cells.length-v.j) ⟨0,.nil,H,n⟩ rfl ⟨We _,W8 _,c6,λid d6=>rfl,.inl rfl,.inr rfl⟩ ?_
 rintro⟨j,tc,H1,n1⟩ ⟨hj,j8,hf1,hk,htc,hec⟩;simp only at hj j8 hf1 hk htc hec;have k9:hget H1 0=some (.box (AD g.sh g.w g.h g.holes g.cells)):=by rw[hk 0 zo];exact h0
 have h01':=k9;simp only[AD]at h01';by_cases hlj:j<g.cells.length
 ·have ej:=AE (k:=j) zo;have gj:inG g (j:Int):=⟨zo,by rw[Wf];exact hlj⟩;have hs:=Cm j (lnB g f (-16+(i:Int)));cases hbb:lnB g f (-16+(i:Int)) j with
  |false=>
   rw[hbb,W7 zd]at hs;have hb:(Hv g f (j:Int)= -16+(i:Int))=False:=W4 (YO hbb);simp only[eZ,seval,W0,h01',lt_T hlj,Thl,s3,f1,f2,Aw,Ag,fLn,W1 G,W1 gj,hb,ej,tadd];exact .mk ⟨j+1,tc,H1,n1⟩ (by simp only[hs]) ⟨hlj,j8,hf1,hk,htc,by simp only[hs];exact hec⟩ zp
  |true=>
   rw[hbb,Wg rfl]at hs;have hb:(Hv g f (j:Int)= -16+(i:Int))=True:=W1 (Xa hbb);have hlen:=Bt j (lnB g f (-16+(i:Int)));have q1:A5 H1 1 tc=True:=W1 htc.app;have q2:((idxP j (lnB g f (-16+(i:Int)))).length<=35184372088831)=True:=W1 zo;have q3:Aj ((idxP j (lnB g f (-16+(i:Int)))).length+1) 8=True:=W1 (AX zo zd);simp only[eZ,seval,W0,h01',lt_T hlj,Thl,s3,f1,f2,Aw,Ag,fLn,W1 G,W1 gj,hb,ej,q1,q2,q3,fr1 hf1,tadd];refine .mk ⟨j+1,.own (n1+3) 1,hset (AO H1 tc) (n1+3) .tok,n1+5⟩ ?_ ⟨hlj,zp,(AU htc hf1).hset (m:=n1+5) zo zo,λid d6=>?_,.inr (.inr ⟨n1+3,rfl,zo,AB ..⟩),.inl rfl⟩ zp
   ·simp only[hs,Wh];rfl
   ·grind [AA,AV]
 obtain rfl:j=g.cells.length:=zo
 have hEl:E.length<=i:=by
  have:=hE.len;simp only[W0]at this;have:=Ux g f i;omega
 have i7:tkG 1 1 H1 tl:=by
  rcases c7 with rfl|rfl|⟨id,rfl,h1,h2⟩
  ·exact .inl rfl
  ·exact .inr (.inl rfl)
  ·exact .inr (.inr ⟨id,rfl,h1,by rw[hk id (c6.lt h2)];exact h2⟩)
 have hsu:=SD g f i;have hLl:lnL g f (-16+(i:Int))=idxP g.cells.length (lnB g f (-16+(i:Int))):=rfl;rw[hLl]at hsu;by_cases hz:(idxP g.cells.length (lnB g f (-16+(i:Int)))).length=0
 ·have hq0:((0:Int)<((idxP g.cells.length (lnB g f (-16+(i:Int)))).length:Int))=False:=W4 zo;rw[XD.1 hz]at hsu;simp only[List.isEmpty_nil,Xi,X2]at hsu;simp only[eZ,seval,W0,h01',lt_F hlj,e,hq0];exact .mk ⟨i+1,E,tl,H1,n1⟩ rfl ⟨c5,zp,hf1,k9,i7,d7,by simp only[hsu];exact hE⟩ zp
 have hq0:((0:Int)<((idxP g.cells.length (lnB g f (-16+(i:Int)))).length:Int))=True:=W1 zo;have hem:(idxP g.cells.length (lnB g f (-16+(i:Int)))).isEmpty=false:=by
  rw[List.isEmpty_eq_false_iff];intro q;rw[q]at hz;exact hz rfl
 rw[hem]at hsu;simp only[Ws,X4]at hsu;have q1:A5 H1 1 tl=True:=W1 i7.app;have q2:(E.length<=35184372088831)=True:=W1 zo;have q3:Aj (E.length+1) 24=True:=W1 (AX zo zd);simp only[eZ,seval,W0,h01',lt_F hlj,e,hq0,q1,q2,q3,fr1 hf1];refine .mk ⟨i+1,E++[.sl tc ((idxP g.cells.length (lnB g f (-16+(i:Int)))).map eI)],.own (n1+3) 1,hset (AO H1 tl) (n1+3) .tok,n1+5⟩ rfl ⟨c5,zp,(AU i7 hf1).hset (m:=n1+5) zo zo,?_,.inr (.inr ⟨n1+3,rfl,zo,AB ..⟩),.inl rfl,?_⟩ zp
 ·grind [AA,AV]
 ·simp only[hsu,Wh,Wu,X5];exact hE.app (.cons (Wk.sl (hec.imp id λq=>by rw[q];rfl)) .nil)
def dgB(g:Zs)(k c:Nat):Bool:=decide ((k:Int)=0)&&decide ((Ac g (c:Int)).tmod g.w=(Ac g (c:Int)).tdiv g.w)||decide ((k:Int)=1)&&decide ((Ac g (c:Int)).tmod g.w=g.w-1-(Ac g (c:Int)).tdiv g.w)
def dgA(g:Zs)(k:Nat):List Int:=idxP g.cells.length (dgB g k)
def dgS(g:Zs):List (List Int):=(if(dgA g 0).isEmpty then[]else[dgA g 0])++(if(dgA g 1).isEmpty||decide (dgA g 0=dgA g 1)then[]else[dgA g 1])
def dgS_S{g:Zs}(h:g.sh=1):dgS g=K5 g.w (AT g.sh g.w g.cells):=by
 have hsp:∀c:Nat,spC g c=((Ac g (c:Int)).tmod g.w,(Ac g (c:Int)).tdiv g.w):=λc=>by
  unfold spC C7;rw[W7 zo]
 have h0:dgA g 0=B0 (AT g.sh g.w g.cells) (λs=>if s.1=s.2 then some 0 else none) 0:=by
  unfold dgA B0;rw[BH];refine Cc λc hc=>?_
  rw[DF hc,hsp,YZ];unfold dgB;by_cases q:(Ac g (c:Int)).tmod g.w=(Ac g (c:Int)).tdiv g.w<;>simp [q]
 have h1:dgA g 1=B0 (AT g.sh g.w g.cells) (λs=>if s.1+s.2=g.w-1 then some 0 else none) 0:=by
  unfold dgA B0;rw[BH];refine Cc λc hc=>?_
  rw[DF hc,hsp,YZ];unfold dgB;by_cases q:(Ac g (c:Int)).tmod g.w=g.w-1-(Ac g (c:Int)).tdiv g.w
  ·simp_all
  ·grind
 unfold dgS K5;rw[h0,h1]
def Thd:Tab:=tadd 130 (s2 dIs dIs (λa _=>few a) λa b=>.bool (decide (a=b))) Th6c
def Thd_ok:AI prog Thd:=LL.add (q2 p130)
theorem Thd_s(a:List Fs)(H:AC):Thd 130 a H=s2 dIs dIs (λa _=>few a) (λa b=>.bool (decide (a=b))) a H:=rfl
theorem Thd_c(a:List Fs)(H:AC):Thd 169 a H=s2 dGd dI (λg c=>GrV g/\inG g c) fCol a H:=rfl
theorem Thd_r(a:List Fs)(H:AC):Thd 170 a H=s2 dGd dI (λg c=>GrV g/\inG g c) fRow a H:=rfl
structure IDg(g:Zs)(v:VRg):Prop where
 hi:v.i<=2
 hn:2<=v.n
 fr:AQ v.H v.n
 h0:hget v.H 0=some (.box (AD g.sh g.w g.h g.holes g.cells))
 tok:tkG 1 1 v.H v.tl
 es:v.tl.esz=1\/v.E=[]
 ne:¬g.w=g.h->v.i=0
 e0:v.i=0->v.E=[]
 e1:v.i=1->(dgA g 0=[]/\v.E=[])\/(dgA g 0≠[]/\∃t,t.esz=1/\v.E=[.sl t ((dgA g 0).map eI)])
 e2:v.i=2->Wks v.E ((dgS g).map eIs)
def dgV(g:Zs):List (List Int):=if g.w=g.h then dgS g else[]
def p128(g:Zs)(G:GrV g):Pur prog 128 [Bz g] (eLl (dgV g)):=by
 refine .mk ⟨Ap 0 ..,trivial⟩ (Ak 0 _) (c128.a (AF Thd_ok (AG ?_)));have f1:dGd.ok (.agg (AD g.sh g.w g.h g.holes g.cells))=True:=DO g;have f2:dGd.dec (.agg (AD g.sh g.w g.h g.holes g.cells))=g:=CE g;simp only[AD]at f1 f2;obtain⟨hr1,hr2,hr3⟩:=Ay G.hG;simp only[eE,eN,seval,c128,AD];refine AL (λv:VRg=>⟨[(1,true,.ptr 0 0),(3,true,.sl v.tl v.E),(4,true,.int .i64 v.i)],v.H,v.n⟩) (IDg g) (λv=>2-v.i)
  ⟨0,[],.nil,hset hnil 0 (.box (AD g.sh g.w g.h g.holes g.cells)),2⟩ rfl ⟨We _,W8 _,AQ.nil.hset (m:=2) (We 2) (show 0<2 by decide),rfl,.inl rfl,.inr rfl,λ_=>rfl,λ_=>rfl,(λq=>by cases q),(λq=>by cases q)⟩ ?_
 rintro⟨i,E,tl,H,n⟩ hI;have hi:=hI.hi;have hn:=hI.hn;have c6:=hI.fr;have h0:=hI.h0;have c7:=hI.tok;have d7:=hI.es;have d8:=hI.ne;have hE0:=hI.e0;have hE1:=hI.e1;have hE2:=hI.e2;simp only at hi hn c6 h0 c7 d7 d8 hE0 hE1 hE2;have o6:=h0;simp only[AD]at o6;by_cases hwh:g.w=g.h;case neg=>
  have hi0:=d8 hwh;subst hi0;have hE:=hE0 rfl;subst hE;have hv:dgV g=[]:=by unfold dgV;rw[W7 hwh]
  have hq:(((0:Nat):Int)<2)=True:=W1 zd;rw[hv];simp only[eZ,seval,c0,o6,W4 hwh];exact Wk.sl d7
 have hv:dgV g=dgS g:=by unfold dgV;rw[Wg hwh]
 rw[hv];by_cases c5:i<2;case neg=>
  obtain rfl:i=2:=zo
  have hq:(((2:Nat):Int)<2)=False:=W4 zd;simp only[eZ,seval,o6,hq];exact Wk.slx d7 (hE2 rfl)
 have hq:((i:Int)<2)=True:=W1 zo;have e:=AE (k:=i) zo;simp only[eZ,seval,o6,hq,W1 hwh];refine AL (λv:VRi=>⟨[(1,true,.ptr 0 0),(3,true,.sl tl E),(4,true,.int .i64 i),(5,true,.sl v.tc ((idxP v.j (dgB g i)).map eI)),(6,true,.int .i64 v.j)],v.H,v.n⟩)
  (IFil g.cells.length (dgB g i) H n) (λv=>g.cells.length-v.j) ⟨0,.nil,H,n⟩ rfl ⟨We _,W8 _,c6,λid d6=>rfl,.inl rfl,.inr rfl⟩ ?_
 rintro⟨j,tc,H1,n1⟩ ⟨hj,j8,hf1,hk,htc,hec⟩;simp only at hj j8 hf1 hk htc hec;have k9:hget H1 0=some (.box (AD g.sh g.w g.h g.holes g.cells)):=by rw[hk 0 zo];exact h0
 have h01':=k9;simp only[AD]at h01';by_cases hlj:j<g.cells.length
 ·have ej:=AE (k:=j) zo;have gj:inG g (j:Int):=⟨zo,by rw[Wf];exact hlj⟩;obtain⟨-,-,-,-,-,w1,w2,x1,x2,y1,y2,ey,-⟩:=G.at gj;have r1:IntKind.wrap .i64 (g.w-1)=g.w-1:=Aq zo zo;have r2:IntKind.wrap .i64 (g.w-1-(Ac g (j:Int)).tdiv g.w)=g.w-1-(Ac g (j:Int)).tdiv g.w:=Aq zo zo;have hs:=Cm j (dgB g i);have hb:(decide ((i:Int)=0)&&decide ((Ac g (j:Int)).tmod g.w=(Ac g (j:Int)).tdiv g.w)||decide ((i:Int)=1)&&decide ((Ac g (j:Int)).tmod g.w=g.w-1-(Ac g (j:Int)).tdiv g.w))=dgB g i j:=rfl;cases hbb:dgB g i j with
  |false=>
   rw[hbb,W7 zd]at hs;rw[hbb]at hb;simp only[eZ,seval,W0,h01',lt_T hlj,Thd_c,Thd_r,s2,f1,f2,Aw,Ag,fCol,fRow,W1 G,W1 gj,r1,r2,hb,ej];exact .mk ⟨j+1,tc,H1,n1⟩ (by simp only[hs]) ⟨hlj,j8,hf1,hk,htc,by simp only[hs];exact hec⟩ zp
  |true=>
   rw[hbb,Wg rfl]at hs;rw[hbb]at hb;have hlen:=Bt j (dgB g i);have q1:A5 H1 1 tc=True:=W1 htc.app;have q2:((idxP j (dgB g i)).length<=35184372088831)=True:=W1 zo;have q3:Aj ((idxP j (dgB g i)).length+1) 8=True:=W1 (AX zo zd);simp only[eZ,seval,W0,h01',lt_T hlj,Thd_c,Thd_r,s2,f1,f2,Aw,Ag,fCol,fRow,W1 G,W1 gj,r1,r2,hb,ej,q1,q2,q3,fr1 hf1];refine .mk ⟨j+1,.own (n1+3) 1,hset (AO H1 tc) (n1+3) .tok,n1+5⟩ ?_ ⟨hlj,zp,(AU htc hf1).hset (m:=n1+5) zo zo,λid d6=>?_,.inr (.inr ⟨n1+3,rfl,zo,AB ..⟩),.inl rfl⟩ zp
   ·simp only[hs,Wh];rfl
   ·grind [AA,AV]
 obtain rfl:j=g.cells.length:=zo
 have i7:tkG 1 1 H1 tl:=by
  rcases c7 with rfl|rfl|⟨id,rfl,h1,h2⟩
  ·exact .inl rfl
  ·exact .inr (.inl rfl)
  ·exact .inr (.inr ⟨id,rfl,h1,by rw[hk id (c6.lt h2)];exact h2⟩)
 have hA:dgA g i=idxP g.cells.length (dgB g i):=rfl;have hAl:=Bt g.cells.length (dgB g i);rw[<-hA]at hec hAl⊢;have hi01:i=0\/i=1:=zo
 have q1:A5 H1 1 tl=True:=W1 i7.app;by_cases hz:(dgA g i).length=0
 ·have hz0:((0:Int)<((dgA g i).length:Int))=False:=W4 zo;have hzn:=XD.1 hz;simp only[eZ,seval,eY,h01',lt_F hlj,e,hz0];refine .mk ⟨i+1,E,tl,H1,n1⟩ rfl ⟨c5,zp,hf1,k9,i7,d7,λq=>absurd hwh q,(λq=>by cases q),λq=>?_,λq=>?_⟩ zp
  ·have q':i+1=1:=q;obtain rfl:i=0:=zo
   exact .inl ⟨hzn,hE0 rfl⟩
  ·have q':i+1=2:=q;obtain rfl:i=1:=zo
   simp only[];unfold dgS;rw[hzn];simp only[List.isEmpty_nil,YV,Xi,X2];rcases hE1 rfl with⟨a1,rfl⟩|⟨a1,t,a2,rfl⟩
   ·rw[a1];exact .nil
   ·rw[W7 (by simp [a1])];exact .cons (Wk.sl (.inl a2)) .nil
 have hz0:((0:Int)<((dgA g i).length:Int))=True:=W1 zo;have hane:dgA g i≠[]:=λq=>by rw[q]at hz;exact hz rfl
 have het:tc.esz=1:=hec.resolve_right hane;have hap:∀E':List Fs,((E'.length:Int)=0)=True\/True:=λ_=>.inr trivial
 rcases hi01 with rfl|rfl
 ·have hE:=hE0 rfl;subst hE;have q3:Aj ([]:List Fs).length.succ 24=True:=W1 (AX zd zd);have q4:Aj 1 24=True:=W1 (AX zd zd);have z1:((([]:List Fs).length:Int)=0)=True:=W1 rfl;simp only[eZ,seval,W3,eY,h01',lt_F hlj,hz0,q1,q4,fr1 hf1];refine .mk ⟨1,[.sl tc ((dgA g 0).map eI)],.own (n1+3) 1,hset (AO H1 tl) (n1+3) .tok,n1+5⟩ rfl ⟨(by show 1<=2;decide),zp,(AU i7 hf1).hset (m:=n1+5) zo zo,?_,.inr (.inr ⟨n1+3,rfl,zo,AB ..⟩),.inl rfl,λq=>absurd hwh q,(λq=>by cases q),λq=>.inr ⟨hane,tc,het,rfl⟩,(λq=>by cases q)⟩ zp;simp only[];rw[AA _ _ _ _ zo,AV i7 (.inl zo)];exact k9
 ·rcases hE1 rfl with⟨a1,rfl⟩|⟨a1,t,a2,rfl⟩
  ·have q4:Aj 1 24=True:=W1 (AX zd zd);simp only[eZ,seval,W3,eY,h01',lt_F hlj,hz0,q1,q4,fr1 hf1];refine .mk ⟨2,[.sl tc ((dgA g 1).map eI)],.own (n1+3) 1,hset (AO H1 tl) (n1+3) .tok,n1+5⟩ rfl ⟨(by show 2<=2;decide),zp,(AU i7 hf1).hset (m:=n1+5) zo zo,?_,.inr (.inr ⟨n1+3,rfl,zo,AB ..⟩),.inl rfl,λq=>absurd hwh q,(λq=>by cases q),(λq=>by cases q),λq=>?_⟩ zp
   ·grind [AA,AV]
   ·simp only[];unfold dgS;rw[a1];simp only[List.isEmpty_nil,Xi,X1];rw[W7 (by simp [hane,Ne.symm hane])];exact .cons (Wk.sl (.inl het)) .nil
  ·have hts:tl.esz=1:=d7.resolve_right zw;have o1:dIs.ok (.sl t ((dgA g 0).map eI))=True:=W1 ⟨.inl a2,by rw[As]⟩;have o2:dIs.dec (.sl t ((dgA g 0).map eI))=dgA g 0:=As _;have o3:dIs.ok (.sl tc ((dgA g 1).map eI))=True:=W1 ⟨.inl het,by rw[As]⟩;have o4:dIs.dec (.sl tc ((dgA g 1).map eI))=dgA g 1:=As _;have hA0:=Bt g.cells.length (dgB g 0);have o5:few (dgA g 0)=True:=W1 (show(dgA g 0).length<_ by unfold dgA;omega);by_cases hsame:dgA g 0=dgA g 1
   ·simp only[eZ,seval,W3,eY,h01',lt_F hlj,hz0,W1 hts,Thd_s,s2,o1,o2,o3,o4,o5,BB hsame];refine .mk ⟨2,[.sl t ((dgA g 0).map eI)],tl,H1,n1⟩ rfl ⟨(by show 2<=2;decide),zp,hf1,k9,i7,d7,λq=>absurd hwh q,(λq=>by cases q),(λq=>by cases q),λq=>?_⟩ zp;simp only[];unfold dgS;rw[W7 (by simp [a1]),Wg (by simp [hsame])];exact .cons (Wk.sl (.inl a2)) .nil
   ·have q4:Aj 2 24=True:=W1 (AX zd zd);simp only[eZ,seval,W6,eY,h01',lt_F hlj,hz0,W1 hts,Thd_s,s2,o1,o2,o3,o4,o5,Ax hsame,q1,q4,fr1 hf1];refine .mk ⟨2,[.sl t ((dgA g 0).map eI),.sl tc ((dgA g 1).map eI)],.own (n1+3) 1,hset (AO H1 tl) (n1+3) .tok,n1+5⟩ rfl ⟨(by show 2<=2;decide),zp,(AU i7 hf1).hset (m:=n1+5) zo zo,?_,.inr (.inr ⟨n1+3,rfl,zo,AB ..⟩),.inl rfl,λq=>absurd hwh q,(λq=>by cases q),(λq=>by cases q),λq=>?_⟩ zp
    ·grind [AA,AV]
    ·simp only[];unfold dgS;rw[W7 (by simp [a1]),W7 (by simp [hane,hsame])];exact .cons (Wk.sl (.inl a2)) (.cons (Wk.sl (.inl het)) .nil)
def Gu(g:Zs)(c b:Nat):Bool:=decide ((b:Int)=(c:Int))||(nbL g c).contains (b:Int)
def Uy(g:Zs)(c:Nat):List Int:=idxP g.cells.length (Gu g c)
def Ni(g:Zs)(c:Nat):List (List Int):=((nbL g c).filter λb=>decide ((c:Int)<b)).map λb=>[(c:Int),b]
def allL(i:Nat):List Int:=idxP i λ_=>true
def fmL(g:Zs)(f:Int)(i:Nat):List (List Int):=
 if f=0 then(List.range i).map λ(c:Nat)=>[(c:Int)]else if f=5 then(List.range i).map (Uy g)else if f=6 then(List.range i).flatMap (Ni g)else[]
def famR(g:Zs)(f:Int):List (List Int):=
 if f=1\/f=2 then lnT g f 49 else if f=3 then(if g.sh=1 then dgV g else lnT g f 49)else if f=4 then(List.range g.cells.length).map (nbL g)else if f=7 then[allL g.cells.length]else fmL g f g.cells.length
def fmV(g:Zs)(f:Int):Fs:=if grOK g.sh g.w g.h g.holes g.cells then(if f<0\/7<f then .tup [eLl [],.int .i64 1]else .tup [eLl (famR g f),.int .i64 0])else .tup [eLl [],.int .i64 130]
def famR_S{g:Zs}(G:GrV g){f:Nat}(hf:f<=7):famR g (f:Int)=famS g.sh g.w g.h (AT g.sh g.w g.cells) f:=by
 obtain⟨hs,-⟩:=Fe G.hG;have hrow:∀c:Nat,(spC g c).2=(Ac g (c:Int)).tdiv g.w:=λc=>rfl
 have hsq:g.sh=1->∀c:Nat,(spC g c).1=(Ac g (c:Int)).tmod g.w:=λh c=>by
  unfold spC C7;rw[W7 zo]
 have hhx:g.sh=2->∀c:Nat,(spC g c).1=axA g (c:Int):=λh c=>by
  unfold spC C7 axA;rw[Wg h]
 have hl1:lnT g 1 49=Bg (AT g.sh g.w g.cells) λs=>some s.2:=Uw λc hc=>by
  unfold Hv;rw[Wg rfl,hrow]
 have hl2:lnT g 2 49=Bg (AT g.sh g.w g.cells) λs=>some s.1:=Uw λc hc=>by
  unfold Hv;rcases hs with h|h
  ·rw[W7 zd,Wg h,hsq h]
  ·rw[W7 zd,W7 zo,Wg rfl,hhx h]
 have hl3:g.sh=2->lnT g 3 49=Bg (AT g.sh g.w g.cells) λs=>some (s.1+s.2):=λh=>Uw λc hc=>by
  unfold Hv;rw[W7 zd,W7 zo,W7 zd,hrow,hhx h]
 have q9:=Uv g;have hS:=BH g;have hn:∀c:Nat,c<g.cells.length->((nbsS g.sh (AT g.sh g.w g.cells))[c]?.getD [])=nbL g c:=λc hc=>by
  rw[<-q9,Wq,Z6 hc];rfl
 unfold famR famS fmL;rcases(by omega:f=0\/f=1\/f=2\/f=3\/f=4\/f=5\/f=6\/f=7)with rfl|rfl|rfl|rfl|rfl|rfl|rfl|rfl
 ·simp_all [NP,Yo]
 ·simp (decide:=true) only[Xi,X4];exact hl1
 ·simp (decide:=true) only[Xi,X4];exact hl2
 ·simp (decide:=true) only[Xi,X4];rcases hs with h|h
  ·rw[Wg h,W7 zo];unfold dgV;rw[dgS_S h]
  ·rw[W7 zo,Wg h];exact hl3 h
 ·simp (decide:=true) only[Xi,X4];exact q9
 ·simp (decide:=true) only[Xi,X4];rw[hS];refine Xk λc hc=>?_
  have hc':=Xj.1 hc;unfold Uy;refine Cc λb hb=>?_
  unfold Gu;rw[DF hc'];have e1:(nbL g c).contains (b:Int)=nbB g c b:=by
   unfold nbL;rw[Wt,X6,Jh];exact⟨λq=>q.2,λq=>⟨hb,q⟩⟩
  have e2:nbB g c b=(EJ g.sh).any λd=>decide ((AT g.sh g.w g.cells)[b]?=some (addP (spC g c) d)):=by
   unfold nbB;rw[MR,DF hb];unfold besS;simp only[Option.some.injEq]
  rw[e1,e2];simp only[Xf];congr 1;rw[Wt];simp only[W9];omega
 ·simp (decide:=true) only[Xi,X4];rw[hS,List.flatMap_def,List.flatMap_def];congr 1;refine Xk λc hc=>?_
  rw[hn c (Xj.1 hc)];rfl
 ·simp (decide:=true) only[Xi,X4];rw[hS];rfl
def I7{e lo n i:Nat}{H:AC}{tl ta:Zu}(h:tkG e lo H tl)(ha:tkG e lo H ta)(hd:∀a b x y,tl= .own a x->ta= .own b y->a≠b)(hf:AQ H n)(hi:n<=i):tkG e lo (hset (AO H ta) i .tok) tl:=by
 rcases h with rfl|rfl|⟨id,rfl,h1,h2⟩
 ·exact .inl rfl
 ·exact .inr (.inl rfl)
 ·refine .inr (.inr ⟨id,rfl,h1,?_⟩);have d6:=hf.lt h2;rw[AA _ _ _ _ zo];rcases ha with rfl|rfl|⟨b,rfl,-,-⟩
  ·exact h2
  ·exact h2
  ·simp only[AO];rw[AA _ _ _ _ (hd _ _ _ _ rfl rfl).symm];exact h2
def LM(g:Zs)(c:Nat):(nbL g c).length<=g.cells.length:=Bt ..
def O9(g:Zs)(c:Nat):(Ni g c).length<=g.cells.length:=by
 unfold Ni;rw[W0];exact Xb (Xu ..) (LM g c)
def PA(g:Zs)(f:Int)(h:g.cells.length<=256):∀i,(fmL g f i).length<=256*i:=by
 intro i;unfold fmL;split
 ·simp;omega
 ·split
  ·simp;omega
  ·split
   ·induction i with
    |zero=>simp
    |succ i ih=>
     rw[XI,Yx,Wr];have:=O9 g i;simp only[YF,List.flatMap_nil,X2];omega
   ·simp
def Jv(i:Nat):allL (i+1)=allL i++[(i:Int)]:=by unfold allL;rw[Cm,Wg rfl]
def Thfm:Tab:=tadd 88 (s1 dGd (λg=>few g.holes) nbV) (tadd 124 (s2 dIs dI (λl _=>few l) λl x=>.bool (l.contains x)) (tadd 127 (s2 dGd dI (λg _=>GrV g) λg f=>eLl (lnT g f 49)) (tadd 128 (s1 dGd GrV λg=>eLl (dgV g)) tnil)))
def Uz:AI prog Thfm:=(((AI.tnil.add (q1 p128)).add (q2 λg f h=>p127 g f h)).add (q2 p124)).add (q1 p88)
structure VFm where
 i:Nat
 E:List Fs
 tl:Zu
 ta:Zu
 H:AC
 n:Nat
def apT(tl ta:Zu):Prop:=∀a b x y,tl= .own a x->ta= .own b y->a≠b
def apT.symm{tl ta:Zu}(h:apT tl ta):apT ta tl:=λa b x y h1 h2=>(h b a y x h2 h1).symm
def apT.fresh{e lo n i:Nat}{H:AC}{tl:Zu}(h:tkG e lo H tl)(hf:AQ H n)(hi:n<=i)(s:Nat):apT tl (.own i s):=λa b x y h1 h2=>by
 injection h2 with h2 _
 subst h2;rcases h with rfl|rfl|⟨id,rfl,-,h3⟩
 ·cases h1
 ·cases h1
 ·injection h1 with h1 _
  have:=hf.lt h3;omega
structure IFm(g:Zs)(f:Int)(v:VFm):Prop where
 hi:v.i<=g.cells.length
 hn:3<=v.n
 fr:AQ v.H v.n
 h0:hget v.H 0=some (.box (AD g.sh g.w g.h g.holes g.cells))
 tok:tkG 1 1 v.H v.tl
 toka:tkG 1 1 v.H v.ta
 ap:apT v.tl v.ta
 es:v.tl.esz=1\/v.E=[]
 esa:v.ta.esz=1\/v.i=0
 hE:Wks v.E ((fmL g f v.i).map eIs)
def prT(g:Zs)(c j:Nat):List (List Int):=(((nbL g c).take j).filter λb=>decide ((c:Int)<b)).map λb=>[(c:Int),b]
def U0(g:Zs)(c j:Nat):(prT g c j).length<=j:=by
 unfold prT;rw[W0];refine Xb (Xu ..) ?_;rw[Wx];omega
def SE(g:Zs)(c:Nat){j:Nat}(h:j<(nbL g c).length):prT g c (j+1)=if(c:Int)<(nbL g c)[j]then prT g c j++[[(c:Int),(nbL g c)[j]]]else prT g c j:=by
 unfold prT;rw[Wl,W2 h];simp only[Option.toList,XW,XH,YE,Wh,W9];split<;>simp
structure IPr(g:Zs)(c ia:Nat)(v:VRg):Prop where
 hj:v.i<=(nbL g c).length
 hn:ia<v.n
 fr:AQ v.H v.n
 h0:hget v.H 0=some (.box (AD g.sh g.w g.h g.holes g.cells))
 tok:tkG 1 1 v.H v.tl
 toka:tkG 1 1 v.H (.own ia 1)
 ap:apT v.tl (.own ia 1)
 es:v.tl.esz=1\/v.E=[]
 hE:Wks v.E ((fmL g 6 c++prT g c v.i).map eIs)
def p89(g:Zs)(f:Int)(hh:few g.holes):Pur prog 89 [Bz g,.int .i64 f] (fmV g f):=by
 refine .mk ⟨Ap 0 ..,trivial,trivial⟩ (by unfold fmV;split;(·split<;>exact⟨Ak 0 _,trivial,trivial⟩);(·exact⟨Ak 0 _,trivial,trivial⟩)) (c89.a (AF Uz (AG ?_)));have f1:dGd.ok (.agg (AD g.sh g.w g.h g.holes g.cells))=True:=DO g;have f2:dGd.dec (.agg (AD g.sh g.w g.h g.holes g.cells))=g:=CE g;simp only[AD]at f1 f2;cases hgo:grOK g.sh g.w g.h g.holes g.cells with
 |false=>
  have hv:fmV g f= .tup [eLl [],.int .i64 130]:=by unfold fmV;rw[hgo];rfl
  have hc:nbV g= .tup [eLl [],.int .i64 130]:=by unfold nbV;rw[hgo];rfl
  rw[hv];simp only[eZ,seval,W6,eY,c89,AD,Thfm,s1,f1,f2,W1 hh,hc,tadd];exact Wk.tup (.cons (Wk.sl (.inr rfl)) (.cons (Wk.refl _) .nil))
 |true=>
 have hG:Ai g.sh g.w g.h g.holes=some g.cells:=Xa hgo;have G:GrV g:=⟨hG,hh⟩;obtain⟨hr1,hr2,hr3⟩:=Ay hG;obtain⟨ar,har⟩:∃ar,ar=(List.range g.cells.length).map (nbL g):=⟨_,rfl⟩;have hc:nbV g= .tup [eLl ar,.int .i64 0]:=by unfold nbV;rw[hgo,har,Uv];rfl
 have harl:ar.length=g.cells.length:=by rw[har];simp
 have harg:∀c,c<g.cells.length->ar[c]?=some (nbL g c):=λc hc=>by rw[har,Wq,Z6 hc];rfl
 by_cases hf:f<0\/7<f
 ·have hv:fmV g f= .tup [eLl [],.int .i64 1]:=by unfold fmV;rw[hgo,Wg rfl,Wg hf]
  have hb:(decide (f<0)||decide (7<f))=true:=by simpa using hf
  rw[hv];simp only[eZ,seval,W3,eY,c89,AD,Thfm,s1,f1,f2,W1 hh,hc,hb,tadd];exact Wk.tup (.cons (Wk.sl (.inr rfl)) (.cons (Wk.refl _) .nil))
 have hv:fmV g f= .tup [eLl (famR g f),.int .i64 0]:=by unfold fmV;rw[hgo,Wg rfl,W7 hf]
 have hb:(decide (f<0)||decide (7<f))=false:=by
  rw[Yn];intro q;exact hf (by simpa using q)
 rw[hv];simp only[eZ,seval,W3,eY,c89,AD,Thfm,s1,f1,f2,W1 hh,hc,hb,tadd];refine AL (λv:VFm=>⟨[(1,true,.int .i64 f),(2,true,.ptr 0 0),(6,true,eLl ar),(8,true,.sl v.tl v.E),(9,true,.sl v.ta ((allL v.i).map eI)),(10,true,.int .i64 v.i)],v.H,v.n⟩) (IFm g f) (λv=>g.cells.length-v.i)
  ⟨0,[],.nil,.nil,hset hnil 0 (.box (AD g.sh g.w g.h g.holes g.cells)),3⟩ rfl ⟨We _,W8 _,AQ.nil.hset (m:=3) (We 3) (show 0<3 by decide),rfl,.inl rfl,.inl rfl,(λa b x y h=>by cases h),.inr rfl,.inr rfl,by
   have:fmL g f 0=[]:=by
    unfold fmL;repeat (split; ·rfl)
    rfl
   show Wks [] ((fmL g f 0).map eIs);rw[this];exact .nil⟩ ?_
 rintro⟨i,E,tl,ta,H,n⟩ hI;have hi:=hI.hi;have hn:=hI.hn;have c6:=hI.fr;have h0:=hI.h0;have htl:=hI.tok;have u9:=hI.toka;have hap:=hI.ap;have d7:=hI.es;have hesa:=hI.esa;have hE:=hI.hE;simp only at hi hn c6 h0 htl u9 hap d7 hesa hE;have o6:=h0;simp only[AD]at o6;have hEl:E.length<=256*i:=by
  have:=hE.len;rw[W0]at this;rw[this];exact PA g f hr2 i
 by_cases c5:i<g.cells.length;case neg=>
  obtain rfl:i=g.cells.length:=zo
  unfold famR;by_cases q12:f=1\/f=2
  ·rw[Wg q12];rcases q12 with rfl|rfl
   ·simp only[eZ,seval,W0,o6,lt_F c5,Thfm,s2,f1,f2,Aw,Ag,W1 G,tadd];exact Wk.tup (.cons (Wk.refl _) (.cons (Wk.refl _) .nil))
   ·simp only[eZ,seval,W0,o6,lt_F c5,Thfm,s2,f1,f2,Aw,Ag,W1 G,tadd];exact Wk.tup (.cons (Wk.refl _) (.cons (Wk.refl _) .nil))
  rw[W7 q12];have w1:(f=1)=False:=W4 λq=>q12 (.inl q)
  have w2:(f=2)=False:=W4 λq=>q12 (.inr q)
  by_cases q3:f=3
  ·rw[Wg q3];by_cases qs:g.sh=1
   ·rw[Wg qs];subst q3;simp only[eZ,seval,W0,o6,lt_F c5,Thfm,s1,f1,f2,W1 G,W1 qs,tadd];exact Wk.tup (.cons (Wk.refl _) (.cons (Wk.refl _) .nil))
   ·rw[W7 qs];subst q3;simp only[eZ,seval,W0,o6,lt_F c5,Thfm,s2,f1,f2,Aw,Ag,W1 G,W4 qs,tadd];exact Wk.tup (.cons (Wk.refl _) (.cons (Wk.refl _) .nil))
  rw[W7 q3];by_cases q4:f=4
  ·rw[Wg q4,<-har];subst q4;simp only[eZ,seval,W0,o6,lt_F c5];exact Wk.tup (.cons (Wk.refl _) (.cons (Wk.refl _) .nil))
  rw[W7 q4];by_cases q7:f=7
  ·rw[Wg q7];subst q7;simp only[eZ,seval,W0,o6,lt_F c5];refine Wk.tup (.cons (Wk.slx (.inl rfl) (.cons (Wk.sl (hesa.imp id λq=>by rw[q];rfl)) .nil)) (.cons (Wk.refl _) .nil))
  rw[W7 q7];simp only[eZ,seval,W0,o6,lt_F c5,w1,w2,W4 q3,W4 q4,W4 q7];exact Wk.tup (.cons (Wk.slx d7 hE) (.cons (Wk.refl _) .nil))
 have e:=AE (k:=i) zo;have l6:(allL i).length<=i:=Bt ..;have q1:A5 H 1 ta=True:=W1 u9.app;have q2:((allL i).length<=35184372088831)=True:=W1 zo;have q3:Aj ((allL i).length+1) 8=True:=W1 (AX zo zd);have hH2f:AQ (hset (AO H ta) (n+3) .tok) (n+5):=(AU u9 c6).hset zo zo;have hH20:hget (hset (AO H ta) (n+3) .tok) 0=some (.box (AD g.sh g.w g.h g.holes g.cells)):=by grind [AA,AV]
 have hH2l:tkG 1 1 (hset (AO H ta) (n+3) .tok) tl:=I7 htl u9 hap c6 zo;have hH2a:tkG 1 1 (hset (AO H ta) (n+3) .tok) (.own (n+3) 1):=.inr (.inr ⟨n+3,rfl,zo,AB ..⟩);have hH2p:apT tl (.own (n+3) 1):=apT.fresh htl c6 zo 1;have hAs:=Jv i;have r2:(E.length<=35184372088831)=True:=W1 zo;have r3:Aj (E.length+1) 24=True:=W1 (AX zo zd);by_cases z0':f=0
 ·subst z0';have hfm:fmL g 0 (i+1)=fmL g 0 i++[[(i:Int)]]:=by
   unfold fmL;rw[Wg rfl,Wg rfl,XI,Wh];rfl
  have a1:A5 (hset (AO H ta) (n+3) .tok) 1 tl=True:=W1 hH2l.app;simp only[eZ,seval,W0,o6,lt_T c5,q1,q2,q3,fr1 c6,fr1 (AU u9 c6),a1,r2,r3,e];refine .mk ⟨i+1,E++[.sl (.exact 1) [.int .i64 i]],.own (n+9) 1,.own (n+3) 1,hset (AO (hset (AO H ta) (n+3) .tok) tl) (n+9) .tok,n+11⟩ (by simp only[hAs,Wh];rfl) ⟨c5,zp,(AU hH2l hH2f).hset (m:=n+11) zo zo,?_,.inr (.inr ⟨n+9,rfl,zo,AB ..⟩),I7 hH2a hH2l hH2p.symm hH2f zo,(apT.fresh hH2a hH2f zo 1).symm,.inl rfl,.inl rfl,?_⟩ zp
  ·simp only[];rw[AA _ _ _ _ zo,AV hH2l (.inl zo)];exact hH20
  ·simp only[hfm,Wh,Wu,X5];exact hE.app (.cons (Wk.sl (.inl rfl)) .nil)
 have z0:(f=0)=False:=W4 z0';by_cases z5':f=5
 ·subst z5';have hfm:fmL g 5 (i+1)=fmL g 5 i++[Uy g i]:=by
   unfold fmL;rw[W7 zd,Wg rfl,W7 zd,Wg rfl,XI,Wh];rfl
  simp only[eZ,seval,W0,o6,lt_T c5,q1,q2,q3,fr1 c6];refine AL (λv:VRi=>⟨[(1,true,.int .i64 5),(2,true,.ptr 0 0),(6,true,eLl ar),(8,true,.sl tl E),(9,true,.sl (.own (n+3) 1) ((allL i).map eI++[.int .i64 i])),(10,true,.int .i64 i),(11,true,.sl v.tc ((idxP v.j (Gu g i)).map eI)),(12,true,.int .i64 v.j)],v.H,v.n⟩)
   (IFil g.cells.length (Gu g i) (hset (AO H ta) (n+3) .tok) (n+5)) (λv=>g.cells.length-v.j) ⟨0,.nil,hset (AO H ta) (n+3) .tok,n+5⟩ rfl ⟨We _,W8 _,hH2f,λid d6=>rfl,.inl rfl,.inr rfl⟩ ?_
  rintro⟨j,tc,H1,n1⟩ ⟨hj,j8,hf1,hk,htc,hec⟩;simp only at hj j8 hf1 hk htc hec;have k9:hget H1 0=some (.box (AD g.sh g.w g.h g.holes g.cells)):=by rw[hk 0 zo];exact hH20
  have h01':=k9;simp only[AD]at h01';by_cases hlj:j<g.cells.length
  ·have ej:=AE (k:=j) zo;have hs:=Cm j (Gu g i);have hga:=harg i c5;have hia:i<ar.length:=zo
   have hfn:few (nbL g i)=True:=W1 (show(nbL g i).length<_ by have:=LM g i;omega);have hb:(decide ((j:Int)=(i:Int))||(nbL g i).contains (j:Int))=Gu g i j:=rfl;cases hbb:Gu g i j with
   |false=>
    rw[hbb,W7 zd]at hs;rw[hbb]at hb;simp only[eZ,seval,eY,h01',lt_T hlj,lt_T hia,hga,Thfm,s2,Ad,AY,Aw,Ag,hfn,hb,ej,tadd];exact .mk ⟨j+1,tc,H1,n1⟩ (by simp only[hs]) ⟨hlj,j8,hf1,hk,htc,by simp only[hs];exact hec⟩ zp
   |true=>
    rw[hbb,Wg rfl]at hs;rw[hbb]at hb;have hlen:=Bt j (Gu g i);have u1:A5 H1 1 tc=True:=W1 htc.app;have u2:((idxP j (Gu g i)).length<=35184372088831)=True:=W1 zo;have u3:Aj ((idxP j (Gu g i)).length+1) 8=True:=W1 (AX zo zd);simp only[eZ,seval,eY,h01',lt_T hlj,lt_T hia,hga,Thfm,s2,Ad,AY,Aw,Ag,hfn,hb,ej,u1,u2,u3,fr1 hf1,tadd];refine .mk ⟨j+1,.own (n1+3) 1,hset (AO H1 tc) (n1+3) .tok,n1+5⟩ ?_ ⟨hlj,zp,(AU htc hf1).hset (m:=n1+5) zo zo,λid d6=>?_,.inr (.inr ⟨n1+3,rfl,zo,AB ..⟩),.inl rfl⟩ zp
    ·simp only[hs,Wh];rfl
    ·grind [AA,AV]
  obtain rfl:j=g.cells.length:=zo
  have up:∀{t:Zu},tkG 1 1 (hset (AO H ta) (n+3) .tok) t->tkG 1 1 H1 t:=λh=>by
   rcases h with rfl|rfl|⟨id,rfl,h1,h2⟩
   ·exact .inl rfl
   ·exact .inr (.inl rfl)
   ·exact .inr (.inr ⟨id,rfl,h1,by rw[hk id (hH2f.lt h2)];exact h2⟩)
  have i7:=up hH2l;have l0:=up hH2a;have a1:A5 H1 1 tl=True:=W1 i7.app;simp only[eZ,seval,W0,h01',lt_F hlj,e,a1,r2,r3,fr1 hf1];refine .mk ⟨i+1,E++[.sl tc ((idxP g.cells.length (Gu g i)).map eI)],.own (n1+3) 1,.own (n+3) 1,hset (AO H1 tl) (n1+3) .tok,n1+5⟩ (by simp only[hAs,Wh];rfl) ⟨c5,zp,(AU i7 hf1).hset (m:=n1+5) zo zo,?_,.inr (.inr ⟨n1+3,rfl,zo,AB ..⟩),I7 l0 i7 hH2p.symm hf1 zo,(apT.fresh l0 hf1 zo 1).symm,.inl rfl,.inl rfl,?_⟩ zp
  ·grind [AA,AV]
  ·simp only[hfm,Wh,Wu,X5];exact hE.app (.cons (Wk.sl (hec.imp id λq=>by rw[q];rfl)) .nil)
 have z5:(f=5)=False:=W4 z5';by_cases z6':f=6
 ·subst z6';have hfm:fmL g 6 (i+1)=fmL g 6 i++Ni g i:=by
   unfold fmL;rw[W7 zd,W7 zd,Wg rfl,W7 zd,W7 zd,Wg rfl,XI,Yx];simp
  simp only[eZ,seval,W0,o6,lt_T c5,q1,q2,q3,fr1 c6];refine AL (λv:VRg=>⟨[(1,true,.int .i64 6),(2,true,.ptr 0 0),(6,true,eLl ar),(8,true,.sl v.tl v.E),(9,true,.sl (.own (n+3) 1) ((allL i).map eI++[.int .i64 i])),(10,true,.int .i64 i),(13,true,.int .i64 v.i)],v.H,v.n⟩)
   (IPr g i (n+3)) (λv=>(nbL g i).length-v.i) ⟨0,E,tl,hset (AO H ta) (n+3) .tok,n+5⟩ rfl ⟨We _,zp,hH2f,hH20,hH2l,hH2a,hH2p,d7,by
    show Wks E ((fmL g 6 i++prT g i 0).map eIs);have:prT g i 0=[]:=rfl;rw[this,X2];exact hE⟩ ?_
  rintro⟨j,E1,t1,H1,n1⟩ hJ;have hj:=hJ.hj;have j8:=hJ.hn;have hf1:=hJ.fr;have k9:=hJ.h0;have i7:=hJ.tok;have l0:=hJ.toka;have hp1:=hJ.ap;have he1:=hJ.es;have hE1:=hJ.hE;simp only at hj j8 hf1 k9 i7 l0 hp1 he1 hE1;have h01':=k9;simp only[AD]at h01';have hga:=harg i c5;have hia:i<ar.length:=zo
  have hnl:=LM g i;by_cases hlj:j<(nbL g i).length
  ·have ej:=AE (k:=j) zo;have hgj:=W2 hlj;have hst:=SE g i hlj;generalize (nbL g i)[j]=x at hgj hst;by_cases hx:(i:Int)<x
   ·rw[Wg hx]at hst;have hEl1:E1.length<=65536:=by
     have:=hE1.len;rw[W0,Wr]at this;have a:=PA g 6 hr2 i;have b:=U0 g i j;omega
    have a1:A5 H1 1 t1=True:=W1 i7.app;have u2:(E1.length<=35184372088831)=True:=W1 zo;have u3:Aj (E1.length+1) 24=True:=W1 (AX zo zd);simp only[eZ,seval,eY,lt_T hlj,hgj,lt_T hia,hga,W1 hx,ej,a1,u2,u3,fr1 hf1];refine .mk ⟨j+1,E1++[.sl (.exact 1) [.int .i64 i,.int .i64 x]],.own (n1+11) 1,hset (AO H1 t1) (n1+11) .tok,n1+13⟩ rfl ⟨hlj,zp,(AU i7 hf1).hset (m:=n1+13) zo zo,?_,.inr (.inr ⟨n1+11,rfl,zo,AB ..⟩),I7 l0 i7 hp1.symm hf1 zo,(apT.fresh l0 hf1 zo 1).symm,.inl rfl,?_⟩ zp
    ·grind [AA,AV]
    ·simp only[hst,<-X8,Wh,Wu,X5];rw[Wh]at hE1;exact hE1.app (.cons (Wk.sl (.inl rfl)) .nil)
   ·rw[W7 hx]at hst;simp only[eZ,seval,eY,lt_T hlj,hgj,lt_T hia,hga,W4 hx,ej];exact .mk ⟨j+1,E1,t1,H1,n1⟩ rfl ⟨hlj,j8,hf1,k9,i7,l0,hp1,he1,by simp only[hst];exact hE1⟩ zp
  obtain rfl:j=(nbL g i).length:=zo
  simp only[eZ,seval,eY,lt_F hlj,lt_T hia,hga,e];refine .mk ⟨i+1,E1,t1,.own (n+3) 1,H1,n1⟩ (by simp only[hAs,Wh];rfl) ⟨c5,zp,hf1,k9,i7,l0,hp1,he1,.inl rfl,?_⟩ zp;have c8:prT g i (nbL g i).length=Ni g i:=by unfold prT Ni;rw[Wj]
  simp only[hfm,<-c8];exact hE1
 have z6:(f=6)=False:=W4 z6';have hfm:fmL g f (i+1)=fmL g f i:=by
  unfold fmL;rw[W7 z0',W7 z5',W7 z6',W7 z0',W7 z5',W7 z6']
 simp only[eZ,seval,W0,o6,lt_T c5,q1,q2,q3,fr1 c6,z0,z5,z6,e];exact .mk ⟨i+1,E,tl,.own (n+3) 1,hset (AO H ta) (n+3) .tok,n+5⟩ (by simp only[hAs,Wh];rfl) ⟨c5,zp,hH2f,hH20,hH2l,hH2a,hH2p,d7,.inl rfl,by simp only[hfm];exact hE⟩ zp
section
variable {cells:List Int}
theorem PB:∀{l:List Zl},C5 cells l=0->∀r∈l,regE cells r=0
 |[],_,r,h=>by cases h
 |a::s,h0,r,h=>by
  unfold C5 at h0;split at h0
  ·rename_i ha;rcases X7.1 h with rfl|h
   ·exact ha
   ·exact PB h0 r h
  ·rename_i ha;exact absurd h0 ha
theorem SF{x:Zo}(h:chkD x=0)(hc:Ai x.sh x.w x.h x.holes=some cells):C5 cells x.regs=0:=by
 unfold chkD at h;split at h
 ·cases h
 ·split at h
  ·rename_i e he;exact absurd h (EP he)
  ·grind
theorem fmV_S{g:Zs}(G:GrV g){f:Nat}(hf:f<=7):fmV g (f:Int)= .tup [eLl (famS g.sh g.w g.h (AT g.sh g.w g.cells) f),.int .i64 0]:=by
 have hgo:grOK g.sh g.w g.h g.holes g.cells=true:=Wv G.hG;unfold fmV;rw[hgo,Wg rfl,W7 zo,famR_S G hf]
theorem U1{g:Zs}(G:GrV g):nbV g= .tup [eLl (nbsS g.sh (AT g.sh g.w g.cells)),.int .i64 0]:=by
 have hgo:grOK g.sh g.w g.h g.holes g.cells=true:=Wv G.hG;unfold nbV;rw[hgo,Wg rfl]
theorem PC{x:Zo}(h:chkD x=0)(hc:Ai x.sh x.w x.h x.holes=some cells){r:Zl}(hr:r∈x.regs):rgsV cells r.ls= .tup [eLl (r.ls.map (BO cells)),.int .i64 0]:=by
 have h1:=PB (SF h hc) r hr;unfold regE at h1;unfold rgsV;split at h1
 ·cases h1
 ·rename_i q;rw[Wg (by simpa using q)]
end
abbrev knd0:Zm:=⟨dcl0,⟨0,0,0,[],[]⟩,[],[]⟩
def B4(d:Zo):Fs:=match DS d with
 | .error e=>.tup [Bh knd0,.int .i64 e]
 | .ok k=>.tup [Bh k,.int .i64 0]
abbrev zKn:List Fs:=[.str [],z0,z0,z0,z0,zs,zs,zs,zs,zs,z0,z0,z0,zs,zs,zs,zs]
def U2{d:Zo}{g:Zs}{nb:List (List Int)}{ls:List (List (List Int))}{a b c d' e f h i j:Fs}(ha:Wk a (eIs d.holes))(hb:Wk b (eSys d.syms))(hc:Wk c (eRgs d.regs))(hd:Wk d' (eCls d.clus))(he:Wk e (eRus d.ruls))(hf:Wk f (eIs g.holes))(hh:Wk h (eIs g.cells))(hi:Wk i (eLl nb))(hj:Wk j (eLLs ls)):
  Wk (.agg [.str d.nm,.int .i64 d.ver,.int .i64 d.sh,.int .i64 d.w,.int .i64 d.h,a,b,c,d',e,.int .i64 g.sh,.int .i64 g.w,.int .i64 g.h,f,h,i,j]) (Bh ⟨d,g,nb,ls⟩):=
 Wk.agg (.cons (Wk.refl _) (.cons (Wk.refl _) (.cons (Wk.refl _) (.cons (Wk.refl _) (.cons (Wk.refl _) (.cons ha (.cons hb (.cons hc (.cons hd (.cons he (.cons (Wk.refl _) (.cons (Wk.refl _) (.cons (Wk.refl _) (.cons hf (.cons hh (.cons hi (.cons hj .nil)))))))))))))))))
def MZ(e:Int):Wk (.tup [.agg zKn,.int .i64 e]) (.tup [Bh knd0,.int .i64 e]):=
 Wk.tup (.cons (U2 (d:=dcl0) (g:=⟨0,0,0,[],[]⟩) (Wk.sl (.inr rfl)) (Wk.sl (.inr rfl)) (Wk.sl (.inr rfl)) (Wk.sl (.inr rfl)) (Wk.sl (.inr rfl)) (Wk.sl (.inr rfl)) (Wk.sl (.inr rfl)) (Wk.sl (.inr rfl)) (Wk.sl (.inr rfl))) (.cons (Wk.refl _) .nil))
def Tbd:Tab:=tadd 85 (s1 dD FewR CA) (tadd 86 (s1 dD Zh λd=>.int .i64 (chkD d)) (tadd 87 sMk (tadd 88 (s1 dGd (λg=>few g.holes) nbV) (tadd 89 (s2 dGd dI (λg _=>few g.holes) fmV) (tadd 90 (s2 dGd dLl (λg l=>Ai g.sh g.w g.h g.holes=some g.cells/\few g.holes/\Bp l) λg l=>rgsV g.cells l) tnil)))))
def Tbd_ok:AI prog Tbd:=(((((AI.tnil.add (q2 λg l h=>p90 g l h.1 h.2.1 h.2.2)).add (q2 λg f h=>p89 g f h)).add (q1 p88)).add qMk).add (q1 λd h=>p86 d h)).add (q1 λd h=>p85 d h.1 h.2)
theorem U3(a:List Fs)(H:AC):Tbd 85 a H=s1 dD FewR CA a H:=rfl
theorem Tbd_c(a:List Fs)(H:AC):Tbd 86 a H=s1 dD Zh (λd=>.int .i64 (chkD d)) a H:=rfl
theorem Tbd_m(sh w h:Int)(x:Fs)(H:AC):Tbd 87 [.int .i64 sh,.int .i64 w,.int .i64 h,x] H=(dIs.ok x/\few (dIs.dec x),BJ sh w h (dIs.dec x)):=rfl
theorem Tbd_n(a:List Fs)(H:AC):Tbd 88 a H=s1 dGd (λg=>few g.holes) nbV a H:=rfl
theorem Tbd_f(a:List Fs)(H:AC):Tbd 89 a H=s2 dGd dI (λg _=>few g.holes) fmV a H:=rfl
theorem Tbd_g(a:List Fs)(H:AC):Tbd 90 a H=s2 dGd dLl (λg l=>Ai g.sh g.w g.h g.holes=some g.cells/\few g.holes/\Bp l) (λg l=>rgsV g.cells l) a H:=rfl
abbrev cKb(x:Zo)(cells:List Int)(v:Fs):List Fs:=[.str x.nm,.int .i64 x.ver,.int .i64 x.sh,.int .i64 x.w,.int .i64 x.h,eIs x.holes,eSys x.syms,eRgs x.regs,eCls x.clus,eRus x.ruls,.int .i64 x.sh,.int .i64 x.w,.int .i64 x.h,eIs x.holes,eIs cells,eLl (nbsS x.sh (AT x.sh x.w cells)),v]
structure IBd(x:Zo)(cells:List Int)(m:Nat)(L:Nat->List (List (List Int)))(v:VRg):Prop where
 hi:v.i<=m
 hn:15<=v.n
 fr:AQ v.H v.n
 h1:hget v.H 1=some (.box zKn)
 h8:hget v.H 8=some (.box (AH x))
 h13:hget v.H 13=some (.box (cKb x cells (.sl v.tl v.E)))
 tok:tkG 1 14 v.H v.tl
 es:v.tl.esz=1\/v.E=[]
 hE:Wks v.E ((L v.i).map eLl)
def p52(d:Zo)(hd:FewR d):Pur prog 52 [encD d] (B4 d):=by
 refine .mk ⟨Ab 0 d,trivial⟩ (by unfold B4;split<;>exact⟨Ah 0 _,trivial,trivial⟩) (c52.a (AF Tbd_ok (AG ?_)));have e1:dD.ok (.agg (AH d))=True:=A8 d;have e2:dD.dec (.agg (AH d))=d:=Al d;simp only[AH]at e1 e2;unfold B4 DS;cases hr:resD d with
 |error e=>
  have hv:CA d= .tup [encD dcl0,.int .i64 e]:=by unfold CA;rw[hr]
  have he:(e=0)=False:=W4 (EP hr);simp only[eZ,seval,W6,eY,BG,c52,AH,U3,s1,e1,e2,W1 hd,hv,he];exact MZ e
 |ok x=>
 have hv:CA d= .tup [encD x,.int .i64 0]:=by unfold CA;rw[hr]
 have hfx:=Fq hd.1 hr;have x1:dD.ok (.agg (AH x))=True:=A8 x;have x2:dD.dec (.agg (AH x))=x:=Al x;simp only[AH]at x1 x2;simp only[];by_cases hc:chkD x=0;case neg=>
  rw[Wg hc];simp only[eZ,seval,W3,W6,eY,BG,c52,AH,U3,Tbd_c,s1,e1,e2,x1,x2,W1 hd,W1 hfx,hv,W4 hc];exact MZ _
 rw[W7 (λz=>z hc)];obtain⟨cells,hg⟩:=MX hc;rw[hg];simp only[];have hm:BJ x.sh x.w x.h x.holes= .tup [encG x.sh x.w x.h x.holes cells,.int .i64 0]:=by unfold BJ;rw[hg]
 have G:GrV (At x cells):=⟨hg,hfx.ho⟩;have g1:dGd.ok (.agg [.int .i64 x.sh,.int .i64 x.w,.int .i64 x.h,eIs x.holes,eIs cells])=True:=DO (At x cells);have g2:dGd.dec (.agg [.int .i64 x.sh,.int .i64 x.w,.int .i64 x.h,eIs x.holes,eIs cells])=At x cells:=CE (At x cells);have hho:few (At x cells).holes=True:=W1 hfx.ho;have q9:nbV (At x cells)= .tup [eLl (nbsS x.sh (AT x.sh x.w cells)),.int .i64 0]:=U1 G;simp only[eZ,seval,W3,eY,c52,AH,U3,Tbd_c,Tbd_m,Tbd_n,s1,e1,e2,x1,x2,g1,g2,Ad,AY,W1 hd,W1 hfx,W1 hfx.ho,hho,hv,hc,hm,q9];refine AL (λv:VRg=>⟨[(2,true,.ptr 1 0),(4,true,.ptr 8 0),(6,true,.ptr 13 0),(7,true,.int .i64 v.i)],v.H,v.n⟩) (IBd x cells 8 λi=>(List.range i).map λf=>famS x.sh x.w x.h (AT x.sh x.w cells) f) (λv=>8-v.i)
  ⟨0,[],.nil,_,15⟩ rfl ?_ ?_
 ·refine⟨We _,W8 _,?_,rfl,rfl,rfl,.inl rfl,.inr rfl,.nil⟩;simp only[];repeat' (first|exact AQ.nil.hset (m:=15) (We _) zd|refine AQ.hset ?_ (W8 _) zd)
 rintro⟨i,E,tl,H,n⟩ hI;have hi:=hI.hi;have hn:=hI.hn;have c6:=hI.fr;have h1:=hI.h1;have h8:=hI.h8;have h13:=hI.h13;have htl:=hI.tok;have d7:=hI.es;have hE:=hI.hE;simp only at hi hn c6 h1 h8 h13 htl d7 hE;have h8':=h8;simp only[AH]at h8';by_cases c5:i<8
 ·have e:=AE (k:=i) zo;have hq:((i:Int)<8)=True:=W1 zo;have hfm:fmV (At x cells) (i:Int)= .tup [eLl (famS x.sh x.w x.h (AT x.sh x.w cells) i),.int .i64 0]:=fmV_S G zo;have hEl:E.length=i:=by
   have:=hE.len;rw[W0,W0,Yb]at this;exact this
  have q1:A5 H 1 tl=True:=W1 htl.app;have q2:(E.length<=35184372088831)=True:=W1 zo;have q3:Aj (E.length+1) 24=True:=W1 (AX zo zd);have hk13:=AV htl (i:=13) (.inr ⟨_,h13⟩);rw[h13]at hk13;have y1:∀k,(13=n+k)=False:=λk=>W4 zo
  have y2:(n=9)=False:=W4 zo;have y3:(9=n)=False:=W4 zo;simp only[eZ,seval,eY,h13,hq,Tbd_f,s2,g1,g2,Aw,Ag,hho,hfm,e,q1,q2,q3,fr1 c6,hk13,y2];refine .mk ⟨i+1,E++[eLl (famS x.sh x.w x.h (AT x.sh x.w cells) i)],.own (n+4) 1,hset (hset (AO H tl) (n+4) .tok) 13 (.box (cKb x cells (.sl (.own (n+4) 1) (E++[eLl (famS x.sh x.w x.h (AT x.sh x.w cells) i)])))),n+7⟩ rfl ⟨c5,zp,((AU htl c6).hset (m:=n+7) zo zo).hset (W8 _) (show 13<n+7 by omega),?_,?_,AB ..,.inr (.inr ⟨n+4,rfl,zo,?_⟩),.inl rfl,?_⟩ zp
  ·grind [AA,AV]
  ·grind [AA,AV]
  ·simp only[];rw[AA _ _ _ _ zo,AB]
  ·simp only[XI,Wh,Wu,X5]at hE⊢;exact hE.app (.cons (Wk.refl _) .nil)
 obtain rfl:i=8:=zo
 have hq:(((8:Nat):Int)<8)=False:=W4 zd;simp only[eZ,seval,hq];refine AL (λv:VRg=>⟨[(2,true,.ptr 1 0),(4,true,.ptr 8 0),(6,true,.ptr 13 0),(10,true,.int .i64 v.i)],v.H,v.n⟩) (IBd x cells x.regs.length λi=>((List.range 8).map λf=>famS x.sh x.w x.h (AT x.sh x.w cells) f)++(x.regs.take i).map λr=>r.ls.map (BO cells)) (λv=>x.regs.length-v.i)
  ⟨0,E,tl,H,n⟩ rfl ⟨We _,hn,c6,h1,h8,h13,htl,d7,by
   simp only[XT,X5,X2];exact hE⟩ ?_
 clear hE d7 htl h13 h8' h8 h1 c6 hn hI hq c5 hi;rintro⟨i,E,tl,H,n⟩ hI;have hi:=hI.hi;have hn:=hI.hn;have c6:=hI.fr;have h1:=hI.h1;have h8:=hI.h8;have h13:=hI.h13;have htl:=hI.tok;have d7:=hI.es;have hE:=hI.hE;simp only at hi hn c6 h1 h8 h13 htl d7 hE;have h8':=h8;simp only[AH]at h8';have hrl:x.regs.length<=4:=by simp_all [chkD,limD,W5,W9]<;>omega
 by_cases c5:i<x.regs.length
 ·have e:=AE (k:=i) zo;have hgr:=W2 c5;have hmem:x.regs[i]∈x.regs:=Wn c5;have hrg:=PC hc hg hmem;have hfl:Bp x.regs[i].ls=True:=W1 (hfx.rgs _ hmem);have c7:x.regs.take (i+1)=x.regs.take i++[x.regs[i]]:=by rw[Wl,hgr];rfl
  generalize x.regs[i]=r at hgr hrg hfl c7;have hgc:(Ai (At x cells).sh (At x cells).w (At x cells).h (At x cells).holes=some (At x cells).cells)=True:=W1 hg;have hgd:(Ai (At x cells).sh (At x cells).w (At x cells).h (At x cells).holes=some cells)=True:=W1 hg;have hgx:(At x cells).cells=cells:=rfl;have hEl:E.length=8+i:=by
   have:=hE.len;rw[W0,Wr,W0,W0,Yb,Wx]at this;omega
  have q1:A5 H 1 tl=True:=W1 htl.app;have q2:(E.length<=35184372088831)=True:=W1 zo;have q3:Aj (E.length+1) 24=True:=W1 (AX zo zd);have hk13:=AV htl (i:=13) (.inr ⟨_,h13⟩);rw[h13]at hk13;have y1:∀k,(13=n+k)=False:=λk=>W4 zo
  have y2:(n=9)=False:=W4 zo;have y3:(9=n)=False:=W4 zo;simp only[eZ,seval,eY,h8',h13,lt_T c5,hgr,Tbd_g,s2,g1,g2,CH,Bd,hho,hgd,hgx,hfl,hrg,e,q1,q2,q3,fr1 c6,hk13,y2];refine .mk ⟨i+1,E++[eLl (r.ls.map (BO cells))],.own (n+4) 1,hset (hset (AO H tl) (n+4) .tok) 13 (.box (cKb x cells (.sl (.own (n+4) 1) (E++[eLl (r.ls.map (BO cells))])))),n+7⟩ rfl ⟨c5,zp,((AU htl c6).hset (m:=n+7) zo zo).hset (W8 _) (show 13<n+7 by omega),?_,?_,AB ..,.inr (.inr ⟨n+4,rfl,zo,?_⟩),.inl rfl,?_⟩ zp
  ·grind [AA,AV]
  ·grind [AA,AV]
  ·simp only[];rw[AA _ _ _ _ zo,AB]
  ·simp only[c7,Wh,Wu,X5]at hE⊢;rw[<-X8];exact hE.app (.cons (Wk.refl _) .nil)
 obtain rfl:i=x.regs.length:=zo
 rw[Wj]at hE;simp only[eZ,seval,BG,W0,h8',h13,h1,lt_F c5];exact Wk.tup (.cons (U2 (d:=x) (g:=At x cells) (Wk.refl _) (Wk.refl _) (Wk.refl _) (Wk.refl _) (Wk.refl _) (Wk.refl _) (Wk.refl _) (Wk.refl _) (Wk.slx d7 hE)) (.cons (Wk.refl _) .nil))
def Jw{d:Zo}{e:Int}(h:DS d= .error e):¬e=0:=by
 unfold DS at h;split at h
 ·rename_i e' he;cases h;exact EP he
 ·grind
def T8c:Tab:=tadd 52 (s1 dD FewR B4) (tadd 53 (s2 dKn dKn (λa _=>FewKr a) λa b=>.bool (decide (a=b))) tnil)
def T8c_ok:AI prog T8c:=(AI.tnil.add (q2 λa b h=>p53 a b h)).add (q1 λd h=>p52 d h)
def p22(k:Zm)(h1:FewR k.d)(h2:FewKr k):Pur prog 22 [Bh k] (.int .i64 (BF k)):=by
 refine .mk ⟨Ah 0 k,trivial⟩ trivial (c22.a (AF T8c_ok (AG ?_)));have e1:dD.ok (.agg (AH k.d))=True:=A8 k.d;have e2:dD.dec (.agg (AH k.d))=k.d:=Al k.d;have u1:dKn.ok (.agg (AJ k))=True:=DE k;have u2:dKn.dec (.agg (AJ k))=k:=CC k;simp only[AH]at e1 e2;simp only[AJ,AD,AH,X3,X1]at u1 u2;unfold BF Gt;cases hb:DS k.d with
 |error e=>
  have hv:B4 k.d= .tup [Bh knd0,.int .i64 e]:=by unfold B4;rw[hb]
  have he:(e=0)=False:=W4 (Jw hb);simp only[eZ,seval,W3,W6,eY,c22,AJ,AD,AH,T8c,s1,s2,e1,e2,u1,u2,W1 h1,W1 h2,hv,he,tadd]
 |ok x=>
 have hv:B4 k.d= .tup [Bh x,.int .i64 0]:=by unfold B4;rw[hb]
 have v1:dKn.ok (.agg (AJ x))=True:=DE x;have v2:dKn.dec (.agg (AJ x))=x:=CC x;simp only[AJ,AD,AH,X3,X1]at v1 v2;simp only[];by_cases hx:k=x
 ·simp only[eZ,seval,W3,eY,c22,AJ,AD,AH,T8c,s1,s2,e1,e2,u1,u2,v1,v2,W1 h1,W1 h2,hv,BB hx,tadd]
 ·simp only[eZ,seval,W3,W6,eY,c22,AJ,AD,AH,T8c,s1,s2,e1,e2,u1,u2,v1,v2,W1 h1,W1 h2,hv,Ax hx,tadd]
structure VSp where
 i:Nat
 H:AC
 n:Nat
def I8(g:Zs)(G:GrV g){l' q:Nat}{J:Nat->AC->Nat->Prop}(hJ:∀i H n,J i H n->hget H q=some (.box (AD g.sh g.w g.h g.holes g.cells)))
  (hy:∀i H n,i<g.cells.length->J i H n->∀R:Bool->AC->Nat->Prop,(∀H' n',J (i+1) H' n'->R true H' n')->Bw prog l' [.int .i64 i,.agg [.int .i64 (spC g i).1,.int .i64 (spC g i).2]] H n R) {H:AC} {n:Nat} (h0:J 0 H n):
  AP prog 251 [.fn (.yield l') [] [],.ptr q 0] H n λo H' n'=>o= .ret (.tup [])/\J g.cells.length H' n':=by
 obtain⟨hr1,hr2,hr3⟩:=Ay G.hG;refine c251.a (AF AI.tnil (AG ?_));have hq:=hJ 0 H n h0;simp only[AD]at hq;simp only[eE,eN,seval,W0,c251,hq];refine AL (λv:VSp=>⟨[(0,true,.fn (.yield l') [] []),(1,true,.ptr q 0),(8,true,eIs g.cells),(9,true,.int .i64 g.cells.length),(10,true,.int .i64 v.i)],v.H,v.n⟩) (λv=>v.i<=g.cells.length/\J v.i v.H v.n) (λv=>g.cells.length-v.i)
  ⟨0,H,n⟩ rfl ⟨We _,h0⟩ ?_
 rintro⟨i,H1,m⟩ ⟨hi,hj⟩;simp only at hi hj;by_cases c5:i<g.cells.length
 ·have hq1:=hJ i H1 m hj;simp only[AD]at hq1;have gi:inG g (i:Int):=⟨zo,by rw[Wf];exact c5⟩;obtain⟨k,hk,-,hg,hp,w1,w2,x1,x2,y1,y2,ey,hs⟩:=G.at gi;obtain rfl:k=i:=zo
  have e:=AE (k:=k) zo;have hw:(g.w=0)=False:=W4 zo;have r1:IntKind.wrap .i64 ((Ac g (k:Int)).tdiv g.w)=(Ac g (k:Int)).tdiv g.w:=Aq zo zo;have r2:IntKind.wrap .i64 (((Ac g (k:Int)).tdiv g.w).tdiv 2)=((Ac g (k:Int)).tdiv g.w).tdiv 2:=Aq zo zo;have r3:IntKind.wrap .i64 ((Ac g (k:Int)).tmod g.w-((Ac g (k:Int)).tdiv g.w).tdiv 2)=(Ac g (k:Int)).tmod g.w-((Ac g (k:Int)).tdiv g.w).tdiv 2:=Aq zo zo;rcases hs with h1|h2
  ·have hsp:spC g k=((Ac g (k:Int)).tmod g.w,(Ac g (k:Int)).tdiv g.w):=by unfold spC C7;rw[W7 zo]
   have hz:(g.sh=2)=False:=W4 zo;have hyk:=hy k H1 m c5 hj;rw[hsp]at hyk;simp only[eZ,seval,eY,lt_T c5,hg,hq1,hw,r1,hz];refine hyk _ λH' n' hj'=>?_
   simp only[eZ,seval,W3,yldK,e];exact .mk ⟨k+1,H',n'⟩ rfl ⟨c5,hj'⟩ zp
  ·have hsp:spC g k=((Ac g (k:Int)).tmod g.w-((Ac g (k:Int)).tdiv g.w).tdiv 2,(Ac g (k:Int)).tdiv g.w):=by unfold spC C7;rw[Wg h2]
   have hz:(g.sh=2)=True:=W1 h2;have hyk:=hy k H1 m c5 hj;rw[hsp]at hyk;simp only[eZ,seval,eY,lt_T c5,hg,hq1,hw,r1,r2,r3,hz];refine hyk _ λH' n' hj'=>?_
   simp only[eZ,seval,W3,yldK,e];exact .mk ⟨k+1,H',n'⟩ rfl ⟨c5,hj'⟩ zp
 obtain rfl:i=g.cells.length:=zo
 simp only[eZ,seval,lt_F c5];exact hj
def badR(vals:List Int)(k a b:Int):Bool:=decide (k=1)&&decide (a=b)||decide (k=4)&&decide (at0 vals b<=at0 vals a)
def Jx(vals:List Int)(a b:Int):Int:=max (at0 vals a-at0 vals b) (at0 vals b-at0 vals a)
def endR(vals:List Int)(k n:Int)(ls l:List Int):Bool:=
 if k=2 then !l.contains (-1)&&decide (cOwn ls l=0)
 else if k=3 then !l.contains (-1)&&decide (Jx vals (l[0]?.getD 0) (l[1]?.getD 0)<n)
 else if k=6 then decide (n<(cOwn ls l:Int))||decide ((l.length:Int)-n<(cOth ls l:Int))
 else false
def IG(vals:List Int)(k n:Int)(ls l:List Int):Bool:=A9 (badR vals k) l||endR vals k n ls l
theorem Dv{bad:Int->Int->Bool}(h:∀a b,bad a b=false):∀l,A9 bad l=false
 |[]=>rfl
 |a::r=>by
  unfold A9;rw[Dv h r,Bool.or_false];simp [h]
def Gv{p q:Int->Int->Bool}(h:∀a b,p a b=q a b)(l:List Int):A9 p l=A9 q l:=by
 have:p=q:=by funext a b;exact h a b
 rw[this]
def U4{l:List Int}(h:∀s∈l,-1<=s):decide (cNon l=0)= !l.contains (-1):=by
 rw[Wt,W9,XQ,Z0,XN];unfold cNon;rw[XD,YP];constructor
 ·intro q hm;exact q _ hm zw
 ·grind
def PD{vals:List Int}{k n:Int}{ls l:List Int}(h:∀s∈l,-1<=s)(h3:k=3->l.length=2):IG vals k n ls l=Bu vals k n ls l:=by
 unfold IG Bu endR;by_cases k1:k=1
 ·subst k1;rw[W7 zd,W7 zd,W7 zd,Bool.or_false,Wg rfl];exact Gv (λa b=>by simp [badR]) l
 by_cases k2:k=2
 ·subst k2;rw[Dv (λa b=>by simp [badR]),Wg rfl,W7 zd,Wg rfl,XG,U4 h,Bool.and_comm]
 by_cases k3:k=3
 ·subst k3;rw[Dv (λa b=>by simp [badR]),W7 zd,Wg rfl,W7 zd,W7 zd,Wg rfl,XG];obtain⟨a,b,rfl⟩:∃a b,l=[a,b]:=by
   have:=h3 rfl
   match l,this with
   |[a,b],_=>exact⟨a,b,rfl⟩
  have ha:=h a zw;have hb:=h b zw;rw[Wt];unfold A9 A9 A9 Jx absI;simp only[Z0,X7,Yr,or_false,Z3,List.any_nil,Bool.or_false,W5,XQ,XN,W9,XE,Y0,Wm];omega
 by_cases k4:k=4
 ·subst k4;rw[W7 zd,W7 zd,W7 zd,Bool.or_false,W7 zd,W7 zd,W7 zd,Wg rfl];exact Gv (λa b=>by simp [badR]) l
 rw[Dv (λa b=>by simp [badR,k1,k4]),W7 k2,W7 k3,W7 k1,W7 k2,W7 k3,W7 k4,XG]
section
abbrev eSp(s:Spot):Fs:=.agg [.int .i64 s.1,.int .i64 s.2]
def spEs:List Spot->Nat->List (Fs×Fs×Nat)
 |[],_=>[]
 |s::r,i=>(eSp s,.int .i64 (i:Int),i)::spEs r (i+1)
theorem Ma:∀(l:List Spot) (i:Nat),Dn (.arr 2 .i64) (spEs l i)=True
 |[],_=>rfl
 |s::r,i=>by rw[spEs,Dn,Ma r (i+1)];simp [KT.is,isIs]
def ceq_sp(s t:Spot):ceq (eSp s) (eSp t)=decide (s=t):=by
 obtain⟨a,b⟩:=s;obtain⟨c,d⟩:=t;rw[Wt];simp [ceq,ceqs,Prod.mk.injEq]
def Nj(x:Spot)(r:List Spot)(s:Spot):EN (x::r) s=if x=s then some 0 else(EN r s).map (· +1):=by
 unfold EN;rw[List.findIdx?_cons];by_cases h:x=s
 ·simp [h]
 ·simp only[h,Z8,Ws,X4];cases List.findIdx? (λx=>decide (x=s)) r<;>simp
theorem PE:∀(l:List Spot) (s:Spot) (i:Nat),BN (eSp s) (spEs l i)=(EN l s).map λn=>.int .i64 (n+(i:Int))
 |[],s,i=>rfl
 |x::r,s,i=>by
  rw[spEs,BN,Nj,PE r s (i+1),ceq_sp];by_cases h:x=s
  ·subst h;simp
  ·have:¬s=x:=λq=>h q.symm
   simp only[h,this,Z8,Ws,X4];cases EN r s with
   |none=>rfl
   |some n=>simp only[Xf];congr 2;omega
def I9(l:List Spot)(s:Spot):BN (eSp s) (spEs l 0)=(EN l s).map λn=>.int .i64 n:=by
 rw[PE];congr 1;funext n;simp
theorem T5:∀(l:List Spot) (s:Spot) (i:Nat),spEs (l++[s]) i=spEs l i++[(eSp s,.int .i64 ((i+l.length:Nat):Int),i+l.length)]
 |[],s,i=>rfl
 |x::r,s,i=>by
  rw[X3,spEs,T5 r s (i+1),spEs,X3,Ww,show i+1+r.length=i+(r.length+1)by omega]
def sp_set{l:List Spot}{s:Spot}(h:s∉l):mset (eSp s) (.int .i64 (l.length:Int)) l.length (spEs l 0)=spEs (l++[s]) 0:=by
 have h':=Iz.2 h;rw[Gm (by rw[I9,h'];rfl),T5];simp
def IH{g:Zs}{i:Nat}(h:i<g.cells.length):(AT g.sh g.w g.cells).take (i+1)=(AT g.sh g.w g.cells).take i++[spC g i]:=by
 rw[Wl,DF h];rfl
def PF{g:Zs}{i:Nat}(hd:(AT g.sh g.w g.cells).Nodup)(h:i<g.cells.length):spC g i∉(AT g.sh g.w g.cells).take i:=by
 have e:=IH h;have:((AT g.sh g.w g.cells).take i++[spC g i]).Nodup:=by rw[<-e];exact hd.sublist (List.take_sublist ..)
 rw[Y1]at this;exact λhm=>this.2.2 _ hm _ zw rfl
def frzO:Zk->Zk
 | .arr e l=>.frz e l
 |x=>x
def frz1(id:Nat)(H:AC):AC:=λi=>if i=id then(H i).map frzO else H i
def frzs(ids:List Nat)(H:AC):AC:=ids.foldr frz1 H
variable {H:AC}
theorem SG{id e:Nat}{l:List Fs}(h:hget H id=some (.arr e l)):frz1 id H=hset H id (.frz e l):=by
 funext i;unfold frz1 hset;by_cases q:i=id
 ·subst q;have h':H i=some (.arr e l):=h;rw[Wg rfl,Wg rfl,h'];rfl
 ·rw[W7 q,W7 (λe=>q e.symm)]
theorem PG{id:Nat}(h:∀e l,hget H id≠some (.arr e l)):frz1 id H=H:=by
 funext i;unfold frz1;split
 ·rename_i q;subst q;have h':∀e l,H i≠some (.arr e l):=h;cases hh:H i with
  |none=>rfl
  |some ob=>cases ob<;>first|rfl|(exact absurd hh (h' _ _))
 ·rfl
theorem JA:∀(ids:List Nat) (H:AC) (i:Nat),hget (frzs ids H) i=if i∈ids then(hget H i).map frzO else hget H i
 |[],H,i=>by simp [frzs]
 |id::r,H,i=>by
  have ih:=JA r H i;show frz1 id (frzs r H) i=_;unfold frz1;have ih':frzs r H i=if i∈r then(hget H i).map frzO else hget H i:=ih
  rw[ih'];by_cases q:i=id
  ·subst q;rw[Wg rfl,Wg (Xe ..)];split
   ·cases hget H i with
    |none=>rfl
    |some ob=>cases ob<;>rfl
   ·rfl
  ·simp_all
theorem AP.sealN{P:Program}{f:FuncId}{args:List Fs}{n:Nat}:∀(k:Nat) {R R':Zr->AC->Nat->Prop},AP P f args H n R->
  (∀o H' n',R o H' n'->∃ids:List Nat,ids.length<=k/\R' o (frzs ids H') n')->AP P f args H n R'
 |0,R,R',h,hr=>h.mono λo H' n' q=>by
  obtain⟨ids,h1,h2⟩:=hr _ _ _ q;have:ids=[]:=Xg zo;subst this;exact h2
 |k+1,R,R',h,hr=>by
  refine AP.seal (R:=λo H' n'=>∃id,R' o (frz1 id H') n'\/R' o H' n') (AP.sealN k h (R':=λo H' n'=>∃id,R' o (frz1 id H') n'\/R' o H' n') λo H' n' q=>?_) λo H' n' q=>?_
  ·obtain⟨ids,h1,h2⟩:=hr _ _ _ q;cases ids with
   |nil=>exact⟨[],We _,0,.inr h2⟩
   |cons id r=>exact⟨r,by simp at h1;omega,id,.inl h2⟩
  ·grind [SG,PG]
theorem Stab.conv{g:Zb}{f:Nat->Option Value}{e:Nat}:∀{l m:List Fs} {o:Nat},l.length=m.length->(∀(k:Nat) a b,l[k]?=some a->m[k]?=some b->∀x,VRel g a x->VRel g b x)->Stab g e f o l->Stab g e f o m
 |[],[],_,_,_,h=>h
 |a::l,b::m,o,hl,hh,⟨⟨v,h1,h2,h3⟩,h4⟩=>
  ⟨⟨v,hh 0 a b rfl rfl v h1,h2,h3⟩,Stab.conv (by simpa using hl) (λk a b h1 h2=>hh (k+1) a b (by simpa using h1) (by simpa using h2)) h4⟩
end
section
theorem c2n:((2:Nat):Int)=2:=rfl
variable {H:AC} {lv:Fs} {g:Zs} {n i lo id:Nat} {α:Type}
theorem JB(hf:AQ H n):AP prog 220 [Bz g] H n λo H' n'=>o= .ret (.fn (.func 251) [] [.ptr n 0])/\H'=hset H n (.box (AD g.sh g.w g.h g.holes g.cells))/\n'=n+2:=by
 refine c220.a (AF AI.tnil (AG ?_));simp only[eE,eN,seval,c220,AD,fr0 hf]
def E4:List Spot:=[(1,0),(-1,0),(0,1),(0,-1),(1,-1),(-1,1)]
def Cp(sh:Int):Nat:=if sh=1 then 4 else 6
theorem Nk(sh:Int):EJ sh=E4.take (Cp sh):=by
 unfold EJ Cp E4;split<;>rfl
abbrev PH:List Fs:=[.int .i64 1,.int .i64 0,.int .i64 (-1),.int .i64 0,.int .i64 0,.int .i64 1,.int .i64 0,.int .i64 (-1),.int .i64 1,.int .i64 (-1),.int .i64 (-1),.int .i64 1]
abbrev Nl:List Fs:=E4.map eSp
abbrev clG(q:Nat):Fs:=.fn (.func 251) [] [.ptr q 0]
theorem PI{ob:Zk}(h:hget H i=some ob):hset H i ob=H:=by
 funext j;unfold hset;by_cases e:i=j
 ·subst e;rw[Wg rfl];exact h.symm
 ·rw[W7 e]
theorem LvG.keep{enc:α->Fs}{e:Nat}{H':AC}{qs:List α}(h:LvG enc e lo H lv qs)(hk:∀id e' l,lo<=id->hget H id=some (.arr e' l)->hget H' id=some (.arr e' l)):LvG enc e lo H' lv qs:=by
 rcases h with h|⟨h1,id,rest,h2,h3,h4⟩
 ·exact .inl h
 ·exact .inr ⟨h1,id,rest,h2,h3,hk id _ _ h3 h4⟩
abbrev eNa(q:Nat):List (Nat×Bool×Fs):=[(1,true,.ptr 0 0),(2,true,.ptr 1 0),(3,true,.int .i64 0),(4,true,.ptr 10 0),(5,true,.ptr 12 0),(6,true,.ptr 15 0),(30,true,clG q)]
structure NbA(g:Zs)(l':Nat)(i:Nat)(H:AC)(m:Nat):Prop where
 fr:AQ H m
 lm:20<=m
 h0:hget H 0=some (.box (AD g.sh g.w g.h g.holes g.cells))
 h1:hget H 1=some (.box [.sl .nil []])
 h10:hget H 10=some (.box PH)
 h12:hget H 12=some (.box [.int .i64 (Cp g.sh:Nat)])
 h14:hget H 14=some (.map (spEs ((AT g.sh g.w g.cells).take i) 0) i)
 h15:hget H 15=some (.box [.mp 14])
 hq:hget H 17=some (.box (AD g.sh g.w g.h g.holes g.cells))
 hL:hget H 19=some (.lp ⟨l',.ready,none,85,eNa 17, #[31,32],Jd,Je⟩)
theorem y_nbA{l':Nat}(hd:(AT g.sh g.w g.cells).Nodup)(hi:i<g.cells.length){m:Nat}(F:NbA g l' i H m){R:Bool->AC->Nat->Prop}(hR:∀H' m',NbA g l' (i+1) H' m'->R true H' m'):
  Bw prog l' [.int .i64 i,eSp (spC g i)] H m R:=by
 obtain⟨fr,lm,h0,h1,h10,h12,h14,h15,hq,hL⟩:=F;refine y148_0 hL rfl (AF AI.tnil (AG ?_));simp only[eE,eN,seval,MB,renv,Yj,Ym,XM,Yz,fr0 fr,AN];have y1:(m=19)=False:=W4 zo;have y2:(m=15)=False:=W4 zo;have y3:(m=14)=False:=W4 zo;have y4:(14=m)=False:=W4 zo;have y5:(15=m)=False:=W4 zo;have y6:(19=m)=False:=W4 zo;refine⟨_,(AA _ _ _ _ zo).trans hL,rfl,AF AI.tnil (AG ?_)⟩;have hn:=PF hd hi;have hf:BN (eSp (spC g i)) (spEs ((AT g.sh g.w g.cells).take i) 0)=none:=by rw[I9,Iz.2 hn];rfl
 have hs:=sp_set hn;have hlen:((AT g.sh g.w g.cells).take i).length=i:=by rw[Wx,BH];omega
 rw[hlen]at hs;have hkt:(KT.arr 2 IntKind.i64).is (eSp (spC g i))=True:=W1 ⟨rfl,rfl,trivial⟩;simp only[eE,eN,seval,xE,Option.isSome_none,MA,h15,h14,y2,y3,y6,Ma,hkt,hf,hs];refine⟨⟨l',.busy,none,85,eNa 17, #[31,32],Jd,Je⟩,by simp only[AK];simp,hR _ _ ⟨?_,?_,?_,?_,?_,?_,?_,?_,?_,?_⟩⟩
 ·intro j hj;have hj':m+2<=j:=hj;simp only[AK];repeat rw[W7 zo]
  exact fr j zo
 ·simp only[];omega
 all_goals simp only[]
 ·repeat rw[AA _ _ _ _ zo]
  exact h0
 ·repeat rw[AA _ _ _ _ zo]
  exact h1
 ·repeat rw[AA _ _ _ _ zo]
  exact h10
 ·repeat rw[AA _ _ _ _ zo]
  exact h12
 ·rw[AA _ _ _ _ zo,AB,<-IH hi]
 ·repeat rw[AA _ _ _ _ zo]
  exact h15
 ·repeat rw[AA _ _ _ _ zo]
  exact hq
 ·rw[AB]
abbrev eNb(q:Nat):List (Nat×Bool×Fs):=[(2,true,.ptr 1 0),(3,true,.int .i64 0),(4,true,.ptr 10 0),(5,true,.ptr 12 0),(6,true,.ptr 15 0),(41,true,clG q)]
structure NbB(g:Zs)(l' q id:Nat)(c:Nat)(i:Nat)(H:AC)(m:Nat):Prop where
 fr:AQ H m
 lq:id<q
 l20:20<=id
 lm:q+2<m
 h1:hget H 1=some (.box [.ref id 1 0 g.cells.length g.cells.length])
 h10:hget H 10=some (.box PH)\/hget H 10=some (.arr 2 Nl)
 h12:hget H 12=some (.box [.int .i64 (Cp g.sh:Nat)])
 h14:hget H 14=some (.map (spEs (AT g.sh g.w g.cells) 0) c)
 h15:hget H 15=some (.box [.mp 14])
 hq:hget H q=some (.box (AD g.sh g.w g.h g.holes g.cells))
 hL:hget H (q+2)=some (.lp ⟨l',.ready,none,85,eNb q, #[42,43],HZ,Hc⟩)
 hE:∃E,hget H id=some (.arr 1 E)/\E.length=g.cells.length/\(∀k,i<=k->k<g.cells.length->E[k]?=some (.sl .nil []))/\∀k,k<i->∃a,E[k]?=some a/\LvG eI 1 (id+1) H a (nbS g.sh (AT g.sh g.w g.cells) (spC g k))
def fdT(sh:Int)(S:List Spot)(s:Spot)(j:Nat):List Int:=(E4.take j).filterMap λd=>EN S (addP s d)
theorem fd_end(sh:Int)(S:List Spot)(s:Spot):fdT sh S s (Cp sh)=GQ sh S s:=by unfold fdT GQ;rw[Nk]
theorem U5(sh:Int)(S:List Spot)(s:Spot){j:Nat}{d:Spot}(h:E4[j]?=some d):fdT sh S s (j+1)=fdT sh S s j++(EN S (addP s d)).toList:=by
 unfold fdT;rw[Wl,h,List.filterMap_append];congr 1
theorem fd_len(sh:Int)(S:List Spot)(s:Spot)(j:Nat):(fdT sh S s j).length<=j:=by
 unfold fdT;refine Xb (List.length_filterMap_le ..) ?_;rw[Wx];omega
theorem slx_st{sh:Int}(h:hget H 10=some (.box PH)\/hget H 10=some (.arr 2 Nl)):(slxE H 6 2 0 (Cp sh:Nat) (.ptr 10 0)).1=True/\(slxE H 6 2 0 (Cp sh:Nat) (.ptr 10 0)).2=(hset H 10 (.arr 2 Nl),.ref 10 2 0 (Cp sh) 6):=by
 have hm:Cp sh=4\/Cp sh=6:=by unfold Cp;split<;>simp
 rcases h with h|h
 ·rcases hm with e|e<;>rw[e]<;>(simp [slxE,h,grp];rfl)
 ·rcases hm with e|e<;>rw[e]<;>simp [slxE,h,E4,PI h]
theorem SH{l:List α}{x:α}(h:l[i]?=some x):l.set i x=l:=YR λk=>by
 rw[List.getElem?_set];split
 ·grind
 ·rfl
structure VNb where
 j:Nat
 lv:Fs
 H:AC
 n:Nat
theorem PJ{enc:α->Fs}{e:Nat}{qs:List α}(h:LvG enc e lo H lv qs):lv.cells=[lv]/\nT lv=True:=by
 rcases h with⟨rfl,-⟩|⟨-,id,rest,rfl,-⟩<;>exact⟨rfl,W1 trivial⟩
theorem y_nbB{l' q c:Nat}(G:GrV g)(hd:(AT g.sh g.w g.cells).Nodup)(hi:i<g.cells.length){m:Nat}(F:NbB g l' q id c i H m){R:Bool->AC->Nat->Prop}(hR:∀H' m',NbB g l' q id c (i+1) H' m'->R true H' m'):
  Bw prog l' [.int .i64 i,eSp (spC g i)] H m R:=by
 obtain⟨fr,lq,l20,lm,h1,h10,h12,h14,h15,hq,hL,E,hE,hEl,hE1,hE2⟩:=F;refine y148_1 hL rfl (AF AI.tnil (AG ?_));simp only[eE,eN,seval,MD,renv,Yj,Ym,XM,Yz,fr0 fr,AN];refine⟨_,(AA _ _ _ _ zo).trans hL,rfl,AF AI.tnil (AG ?_)⟩;have hlen:=BH g;obtain⟨hr1,hr2,hr3⟩:=Ay G.hG;generalize hlp:Zk.lp ⟨l',.busy,none,85,eNb q, #[42,43],HZ,Hc⟩=lpO;generalize hS:AT g.sh g.w g.cells=S at hd h14 hE2 hR hlen;generalize hs:spC g i=s at hR;have y1:∀k,(12=m+k)=False:=λk=>W4 zo
 obtain⟨s1,s2⟩:=slx_st (H:=hset (hset H m (.box [.int .i64 s.1,.int .i64 s.2])) (q+2) lpO) (sh:=g.sh) (by
  rw[AA _ _ _ _ zo,AA _ _ _ _ zo];exact h10)
 have z1:(m=12)=False:=W4 zo;have z2:(q+2=12)=False:=W4 zo;simp only[eE,eN,seval,xE,MC,h12,z1,z2,s1,s2];have hH10:∀x ob,hset (hset (hset H m (.box [.int .i64 s.1,.int .i64 s.2])) (q+2) lpO) 10 ob x=hget (hset (hset (hset H m (.box [.int .i64 s.1,.int .i64 s.2])) (q+2) lpO) 10 ob) x:=λ_ _=>rfl
 have mk:Cp g.sh<=6:=by unfold Cp;split<;>omega
 have hsr: -16<=s.1/\s.1<=16/\ -16<=s.2/\s.2<=16:=by
  have gi:inG g (i:Int):=⟨zo,by rw[Wf];exact hi⟩;obtain⟨k,hk,-,hg,hp,w1,w2,x1,x2,y1',y2',ey,t9⟩:=G.at gi;obtain rfl:k=i:=zo
  subst hs;unfold spC C7;split<;>simp only[]<;>omega
 generalize hHb:hset (hset (hset H m (.box [.int .i64 s.1,.int .i64 s.2])) (q+2) lpO) 10 (.arr 2 Nl)=Hb;have b10:hget Hb 10=some (.arr 2 Nl):=by subst hHb;exact AB ..
 have bm:hget Hb m=some (.box [.int .i64 s.1,.int .i64 s.2]):=by grind [AA,AB]
 have bL:hget Hb (q+2)=some lpO:=by
  subst hHb;rw[AA _ _ _ _ zo,AB]
 have bo:∀x,x≠m->x≠q+2->x≠10->hget Hb x=hget H x:=λx n1 n2 n3=>by
  subst hHb;rw[AA _ _ _ _ (Ne.symm n3),AA _ _ _ _ (Ne.symm n2),AA _ _ _ _ (Ne.symm n1)]
 have bf:AQ Hb (m+2):=λx hx=>by rw[bo x zo zo zo];exact fr x zo
 clear hHb hH10 s1 s2 h10;refine AL (λv:VNb=>⟨[(2,true,.ptr 1 0),(6,true,.ptr 15 0),(9,true,.int .i64 i),(10,true,.ptr m 0),(45,true,.ref 10 2 0 (Cp g.sh) 6),(46,true,.int .i64 (Cp g.sh:Nat)),(47,true,.int .i64 v.j)],v.H,v.n⟩)
  (λv=>v.j<=Cp g.sh/\m+2<=v.n/\AQ v.H v.n/\(∀x,x≠id->x<m+2->hget v.H x=hget Hb x)/\hget v.H id=some (.arr 1 (E.set i v.lv))/\LvG eI 1 (m+2) v.H v.lv (fdT g.sh S s v.j)) (λv=>Cp g.sh-v.j)
  ⟨0,.sl .nil [],Hb,m+2⟩ rfl ⟨We _,W8 _,bf,λ_ _ _=>rfl,?_,.inl ⟨rfl,rfl⟩⟩ ?_
 ·grind [SH]
 rintro⟨j,lv,H2,n2⟩ ⟨hj,hn2,l9,j7,hid2,l5⟩;simp only at hj hn2 l9 j7 hid2 l5;have c1:hget H2 1=some (.box [.ref id 1 0 g.cells.length g.cells.length]):=by rw[j7 1 zo zo,bo 1 zo zo zo];exact h1
 have c14:hget H2 14=some (.map (spEs S 0) c):=by rw[j7 14 zo zo,bo 14 zo zo zo];exact h14
 have c15:hget H2 15=some (.box [.mp 14]):=by rw[j7 15 zo zo,bo 15 zo zo zo];exact h15
 have c10:hget H2 10=some (.arr 2 Nl):=by rw[j7 10 zo zo];exact b10
 have cm:hget H2 m=some (.box [.int .i64 s.1,.int .i64 s.2]):=by rw[j7 m zo zo];exact bm
 have m5:=PJ l5;have x6:(E.set i lv)[i]?=some lv:=by rw[List.getElem?_set_self zo]
 have t6:i<(E.set i lv).length:=by rw[YD];omega
 have hel:(E.set i lv).length=g.cells.length:=by rw[YD];omega
 have v1:∀k,(n2+k=m)=False:=λk=>W4 zo
 have v2:∀k,(n2+k=1)=False:=λk=>W4 zo
 have v3:∀k,(n2+k=14)=False:=λk=>W4 zo
 have v4:∀k,(n2+k=15)=False:=λk=>W4 zo
 have v5:∀k,(n2+k=10)=False:=λk=>W4 zo
 have v6:∀k,(n2+k=id)=False:=λk=>W4 zo
 have hfl:=fd_len g.sh S s j;by_cases c5:j<Cp g.sh;case neg=>
  obtain rfl:j=Cp g.sh:=zo
  rw[fd_end]at l5 hfl;have hfs:=Ol g.sh hd s;have cL:hget H2 (q+2)=some lpO:=by rw[j7 (q+2) zo zo];exact bL
  have fin:∀H3,(∀x,x<m->x≠id->hget H3 x=hget H2 x)->hget H3 id=some (.arr 1 (E.set i lv))->AQ H3 n2->LvG eI 1 (id+1) H3 lv (nbS g.sh S s)->
    ∃x,hget H3 (q+2)=some (.lp x)/\R true (hset H3 (q+2) (.lp {x with st:=.ready,pend:=none})) n2:=by
   intro H3 k1 k2 k3 k4;refine⟨⟨l',.busy,none,85,eNb q, #[42,43],HZ,Hc⟩,?_,hR _ _ ⟨k3.hset (W8 _) zo,lq,l20,zo,?_,.inr ?_,?_,?_,?_,?_,AB ..,E.set i lv,?_,hel,λk h1 h2=>?_,λk h1=>?_⟩⟩
   ·rw[k1 (q+2) zo zo,cL,hlp]
   ·grind [AA]
   ·grind [AA]
   ·grind [AA]
   ·grind [AA]
   ·grind [AA]
   ·grind [AA]
   ·rw[AA _ _ _ _ zo];exact k2
   ·rw[List.getElem?_set_ne zo];exact hE1 k zo h2
   ·by_cases e:k=i
    ·subst e;refine⟨lv,x6,?_⟩;rw[hS,hs];exact k4.keep λx e' l hx ho=>by
      rw[AA _ _ _ _ (λe=>by subst e;rw[k1 (q+2) zo zo,cL,<-hlp]at ho;cases ho)];exact ho
    ·obtain⟨a,ha,hla⟩:=hE2 k zo;refine⟨a,by rw[List.getElem?_set_ne (λe'=>e e'.symm)];exact ha,?_⟩;rw[hS];rcases hla with h|⟨z1,z,rest,z2,z3,z4⟩
     ·exact .inl h
     ·have zm:=fr.lt z4;refine .inr ⟨z1,z,rest,z2,z3,?_⟩;have zq:z≠q+2:=λe=>by subst e;rw[hL]at z4;cases z4
      rw[AA _ _ _ _ (Ne.symm zq),k1 z zo zo,j7 z zo zo,bo z zo zq (λe=>zo)];exact z4
  simp only[eZ,seval,eY,lt_F c5,c1,hid2,hel,lt_T hi,hi,x6,m5.1];rcases l5 with⟨rfl,hq0⟩|⟨d8,z,rest,rfl,hz,hz2⟩
  ·refine LI.mono ?_;rintro o H3 n3 ⟨rfl,rfl,rfl⟩;simp only[eE,eN,retK];refine fin _ (λ_ _ _=>rfl) hid2 l9 (.inl ⟨rfl,?_⟩);rw[<-hfs,hq0,List.mergeSort_nil]
  ·refine(NN hz2 zw zo).mono ?_;rintro o H3 n3 ⟨rfl,rfl,rfl⟩;rw[YT,List.drop_left];simp only[eE,eN,retK];have hsl:(nbS g.sh S s).length=(GQ g.sh S s).length:=by rw[<-hfs,DC]
   refine fin _ (λx h1 h2=>AA _ _ _ _ zo) (by rw[AA _ _ _ _ zo];exact hid2) (l9.hset (W8 _) (l9.lt hz2)) (.inr ⟨?_,z,rest,by rw[hsl],zo,by rw[AB,hfs]⟩);intro e;rw[e]at hsl;exact d8 (Xg hsl.symm)
 have hj6:j<E4.length:=by
  have:E4.length=6:=rfl
  omega
 obtain⟨d,hgd⟩:∃d,E4[j]?=some d:=⟨_,W2 hj6⟩;have hdr: -1<=d.1/\d.1<=1/\ -1<=d.2/\d.2<=1:=by
  have hm:=XB hgd;simp only[E4,X7,Yr,or_false]at hm;rcases hm with rfl|rfl|rfl|rfl|rfl|rfl<;>decide
 have w1:IntKind.wrap .i64 (s.1+d.1)=s.1+d.1:=Aq zo zo;have w2:IntKind.wrap .i64 (s.2+d.2)=s.2+d.2:=Aq zo zo;have e:=AE (k:=j) zo;have hfind:BN (.agg [.int .i64 (s.1+d.1),.int .i64 (s.2+d.2)]) (spEs S 0)=(EN S (addP s d)).map λn=>.int .i64 n:=I9 S (addP s d)
 have hkt:(KT.arr 2 IntKind.i64).is (.agg [.int .i64 (s.1+d.1),.int .i64 (s.2+d.2)])=True:=W1 ⟨rfl,rfl,trivial⟩;have hsu:=U5 g.sh S s hgd;cases hix:EN S (addP s d)with
 |none=>
  rw[hix]at hfind hsu;rw[Option.toList_none,X2]at hsu;simp only[eZ,seval,xE,eY,lt_T c5,c10,hj6,hgd,fr1 l9,c15,cm,v1,v3,v4,w1,w2,c14,hkt,Ma,hfind,CW,e,AN,c2n];refine .mk ⟨j+1,lv,hset H2 (n2+2) (.box [.int .i64 d.1,.int .i64 d.2]),n2+4⟩ rfl ⟨c5,zp,l9.hset (m:=n2+4) zo zo,λx h1 h2=>?_,?_,?_⟩ zp
  ·simp only[];rw[AA _ _ _ _ zo];exact j7 x h1 h2
  ·simp only[];rw[AA _ _ _ _ zo];exact hid2
  ·simp only[hsu];exact l5.keep λx e' l hx ho=>by rw[AA _ _ _ _ (λe=>by subst e;rw[l9 _ zo]at ho;cases ho)];exact ho
 |some b=>
 rw[hix]at hfind hsu;rw[Option.toList_some]at hsu;have hbl:(id<n2+4)=True:=W1 zo;simp only[eZ,eX,seval,xE,eY,lt_T c5,c10,hj6,hgd,fr1 l9,c15,cm,v1,v2,v3,v4,v6,w1,w2,c14,hkt,Ma,hfind,CW,AN,c2n,c1,hid2,lt_T hi,t6,x6,m5.1,hbl];have hlv2:LvG eI 1 (m+2) (hset H2 (n2+2) (.box [.int .i64 d.1,.int .i64 d.2])) lv (fdT g.sh S s j):=l5.keep λx e' l hx ho=>by rw[AA _ _ _ _ (λe=>by subst e;rw[l9 _ zo]at ho;cases ho)];exact ho
 have hid3:hget (hset H2 (n2+2) (.box [.int .i64 d.1,.int .i64 d.2])) id=some (.arr 1 (E.set i lv)):=by rw[AA _ _ _ _ zo];exact hid2
 have hf3:AQ (hset H2 (n2+2) (.box [.int .i64 d.1,.int .i64 d.2])) (n2+4):=l9.hset zo zo;have hk3:∀x,x≠id->x<m+2->hget (hset H2 (n2+2) (.box [.int .i64 d.1,.int .i64 d.2])) x=hget Hb x:=λx h1 h2=>by rw[AA _ _ _ _ zo];exact j7 x h1 h2
 generalize hset H2 (n2+2) (.box [.int .i64 d.1,.int .i64 d.2])=H3 at hlv2 hid3 hf3 hk3;refine ML (enc:=eI) (lo:=m+2) (qs:=fdT g.sh S s j) (z0:=0) hlv2 rfl zd rfl rfl (AX zo zd) (hf3 _ zo) zo zo ?_;intro z rest hz hzm;have hzl:z<n2+13:=by
  rcases hzm with rfl|⟨Z,h⟩
  ·omega
  ·have:=hf3.lt h;omega
 have u1:(z=id)=False:=W4 zo;simp only[eZ,seval,eY,HV,Iw,hid3,u1,lt_T hi,hi,x6,hel,List.set_set,e];refine .mk ⟨j+1,.ref z 1 0 (fdT g.sh S s j++[b]).length ((fdT g.sh S s j++[b]).length+rest.length),hset (hset H3 z (.arr 1 (((fdT g.sh S s j++[b])++rest).map eI))) id (.arr 1 (E.set i (.ref z 1 0 (fdT g.sh S s j++[b]).length ((fdT g.sh S s j++[b]).length+rest.length)))),n2+15⟩ rfl ⟨c5,zp,?_,λx h1 h2=>?_,?_,?_⟩ zp
 ·exact(hf3.hset (m:=n2+15) zo zo).hset (W8 _) (show id<n2+15 by omega)
 ·simp only[];rw[AA _ _ _ _ zo,AA _ _ _ _ zo];exact hk3 x h1 h2
 ·simp only[];rw[AB]
 ·simp only[hsu];exact .inr ⟨zw,z,rest,rfl,hz,by rw[AA _ _ _ _ zo,AB]⟩
def NbR(g:Zs):Zr->AC->Nat->Prop:=λo H _=>
 (grOK g.sh g.w g.h g.holes g.cells=false/\o= .ret (.tup [.sl .nil [],.int .i64 130]))\/
 (grOK g.sh g.w g.h g.holes g.cells=true/\∃id E,o= .ret (.tup [.ref id 1 0 g.cells.length g.cells.length,.int .i64 0])/\hget H id=some (.arr 1 E)/\E.length=g.cells.length/\
  ∀k,k<g.cells.length->∃a,E[k]?=some a/\LvG eI 1 (id+1) H a (nbS g.sh (AT g.sh g.w g.cells) (spC g k)))
def Tnb:Tab:=tadd 219 (s1 dGd (λg=>few g.holes/\few g.cells) chkV) tnil
theorem Tnb_ok:AI prog Tnb:=AI.tnil.add (q1 λg h=>p219 g.sh g.w g.h g.holes g.cells h.1 h.2)
theorem t_nb(g:Zs)(hh:few g.holes)(hc:few g.cells):AP prog 148 [Bz g] hnil 0 (NbR g):=by
 refine a148 (AF Tnb_ok (AG ?_));have f1:dGd.ok (.agg (AD g.sh g.w g.h g.holes g.cells))=True:=DO g;have f2:dGd.dec (.agg (AD g.sh g.w g.h g.holes g.cells))=g:=CE g;simp only[AD]at f1 f2;cases hgo:grOK g.sh g.w g.h g.holes g.cells with
 |false=>
  have hck:chkV g= .int .i64 130:=by unfold chkV;rw[hgo];rfl
  simp only[eZ,seval,W6,BG,c148,AD,Tnb,s1,f1,f2,W1 hh,W1 hc,hck,tadd];exact .inl ⟨hgo,rfl⟩
 |true=>
 have hck:chkV g= .int .i64 0:=by unfold chkV;rw[hgo];rfl
 have hG:Ai g.sh g.w g.h g.holes=some g.cells:=Xa hgo;have G:GrV g:=⟨hG,hh⟩;obtain⟨hr1,hr2,hr3⟩:=Ay hG;have hw:1<=g.w:=by
  unfold Ai at hG;split at hG
  ·rename_i q;exact q.2.1
  ·cases hG
 have hd:(AT g.sh g.w g.cells).Nodup:=Hs hw hr1 λp hp=>(hr3 p hp).1
 have h4:g.sh=1->(4:Int)=((Cp g.sh:Nat):Int):=λe=>by unfold Cp;rw[Wg e];rfl
 have h6:g.sh≠1->(6:Int)=((Cp g.sh:Nat):Int):=λe=>by unfold Cp;rw[W7 e];rfl
 rcases Classical.em (g.sh=1)with l7|l7
 case' inl=>
  simp only[eZ,seval,W3,xE,c148,AD,Tnb,s1,f1,f2,W1 hh,W1 hc,hck,BB l7,AN,tadd];rw[h4 l7]
 case' inr=>
  simp only[eZ,seval,W3,xE,c148,AD,Tnb,s1,f1,f2,W1 hh,W1 hc,hck,Ax l7,AN,tadd];rw[h6 l7]
 all_goals
  generalize hH0:hset _ 15 (Zk.box [Fs.mp 14])=H0;have a0:hget H0 0=some (.box (AD g.sh g.w g.h g.holes g.cells)):=by rw[<-hH0];rfl
  have a1:hget H0 1=some (.box [.sl .nil []]):=by rw[<-hH0];rfl
  have a10:hget H0 10=some (.box PH):=by rw[<-hH0];rfl
  have a12:hget H0 12=some (.box [.int .i64 (Cp g.sh:Nat)]):=by rw[<-hH0];rfl
  have a14:hget H0 14=some (.map [] 0):=by rw[<-hH0];rfl
  have a15:hget H0 15=some (.box [.mp 14]):=by rw[<-hH0];rfl
  have af:AQ H0 17:=by
   rw[<-hH0];repeat' (first|exact AQ.nil|refine AQ.hset ?_ (W8 _) zd)
  clear hH0;refine(JB af).mono ?_;rintro o H1 n1 ⟨rfl,rfl,rfl⟩;simp only[eE,eN,seval,retK,FE];intro l';refine(I8 g G (J:=NbA g l') (λi H n F=>F.hq) (λi H n hi F R hR=>y_nbA hd hi F hR) ?_).mono ?_
  ·refine⟨?_,zd,?_,?_,?_,?_,?_,?_,?_,?_⟩
   ·exact(af.hset (m:=20) zd zd).hset (W8 _) zd
   all_goals first|(rw[AA _ _ _ _ zd,AA _ _ _ _ zd];assumption)|(rw[AA _ _ _ _ zd,AB])|(rw[AB])
  rintro o H2 n2 ⟨rfl,F⟩;have Ffr:=F.fr;have Flm:=F.lm;have F0:=F.h0;have F1:=F.h1;have F10:=F.h10;have F12:=F.h12;have F14:=F.h14;have F15:=F.h15;have FL:=F.hL;rw[Xp (by rw[BH];exact W8 _)]at F14;simp only[AD]at F0;have u1:(n2=1)=False:=W4 zo;have u2:∀k,(n2+k=1)=False:=λk=>W4 zo
  have u3:∀k,(n2+k=0)=False:=λk=>W4 zo
  have u4:∀k,(n2+k=19)=False:=λk=>W4 zo
  have w1:Aj g.cells.length 24=True:=W1 (AX zo zd);have w2:((g.cells.length:Int)<=35184372088832)=True:=W1 zo;have u5:(n2=16)=False:=W4 zo;simp only[eE,eN,seval,eY,FD,FL,F0,fr1 Ffr,F1,u2,u3,u5,w1,w2];generalize hH3:hset _ 1 (Zk.box [Fs.ref (n2+3) 1 0 g.cells.length g.cells.length])=H3;have d0:hget H3 0=some (.box (AD g.sh g.w g.h g.holes g.cells)):=by
   rw[<-hH3];repeat rw[AA _ _ _ _ zo]
   exact F0
  have d1:hget H3 1=some (.box [.ref (n2+3) 1 0 g.cells.length g.cells.length]):=by rw[<-hH3,AB]
  have d10:hget H3 10=some (.box PH):=by
   rw[<-hH3];repeat rw[AA _ _ _ _ zo]
   exact F10
  have d12:hget H3 12=some (.box [.int .i64 (Cp g.sh:Nat)]):=by
   rw[<-hH3];repeat rw[AA _ _ _ _ zo]
   exact F12
  have d14:hget H3 14=some (.map (spEs (AT g.sh g.w g.cells) 0) g.cells.length):=by
   rw[<-hH3];repeat rw[AA _ _ _ _ zo]
   exact F14
  have d15:hget H3 15=some (.box [.mp 14]):=by
   rw[<-hH3];repeat rw[AA _ _ _ _ zo]
   exact F15
  have dE:hget H3 (n2+3)=some (.arr 1 (List.replicate g.cells.length (.sl .nil []))):=by rw[<-hH3,AA _ _ _ _ zo,AB]
  have df:AQ H3 (n2+5):=by
   rw[<-hH3];exact(((Ffr.hset (m:=n2+5) zo zo).hset (m:=n2+5) (W8 _) zo).hset (W8 _) zo)
  clear hH3;refine(JB df).mono ?_;rintro o H4 n4 ⟨rfl,rfl,rfl⟩;simp only[eE,eN,seval,retK,FE];intro l2;refine(I8 g G (J:=NbB g l2 (n2+5) (n2+3) g.cells.length) (λi H n F=>F.hq) (λi H n hi F R hR=>y_nbB G hd hi F hR) ?_).mono ?_
  ·refine⟨(df.hset (m:=n2+8) zo zo).hset (m:=n2+8) (W8 _) zo,zo,zo,zo,?_,.inl ?_,?_,?_,?_,?_,AB ..,List.replicate g.cells.length (.sl .nil []),?_,Y7,λk _ hk=>?_,λk hk=>absurd hk (Xl _)⟩
   ·repeat rw[AA _ _ _ _ zo]
    exact d1
   ·repeat rw[AA _ _ _ _ zo]
    exact d10
   ·repeat rw[AA _ _ _ _ zo]
    exact d12
   ·repeat rw[AA _ _ _ _ zo]
    exact d14
   ·repeat rw[AA _ _ _ _ zo]
    exact d15
   ·rw[AA _ _ _ _ zo,AB]
   ·repeat rw[AA _ _ _ _ zo]
    exact dE
   ·rw[List.getElem?_replicate,Wg hk]
  rintro o H5 n5 ⟨rfl,K⟩;obtain⟨kfr,klq,kl2,klm,k1,k10,k12,k14,k15,kq,kL,E,kE,kEl,-,kE2⟩:=K;have e1:(n2+5+2=1)=False:=W4 zo;have e2:(n2+7=1)=False:=W4 zo;simp only[eE,eN,seval,BG,FD,kL,k1,e1];refine .inr ⟨hgo,n2+3,E,rfl,?_,kEl,λk hk=>?_⟩
  ·repeat rw[AA _ _ _ _ zo]
   exact kE
  ·obtain⟨a,ha,hla⟩:=kE2 k hk;refine⟨a,ha,hla.keep λx e' l hx ho=>?_⟩;have x1:x≠n2+7:=λe=>by subst e;rw[kL]at ho;cases ho
   rw[AA _ _ _ _ zo,AA _ _ _ _ (Ne.symm x1)];exact ho
def PL:Fs->Option Nat
 | .ref i _ _ _ _=>some i
 |_=>none
theorem U6{cap:Nat}{E rest:List Fs}(ho:hget H id=some (.frz 1 (E++rest)))(hc:E.length<=cap){g:Zb}{w:World}{x:Value}(hR:Zi g H n w)(hv:VRel g (.ref id 1 0 E.length cap) x):VRel g (.sl (.none 1) E) x:=by
 obtain⟨L,h1,h2,rfl⟩:=hv;obtain⟨L',j1,j2,j3⟩:=hR.obj id _ ho;rw[h1]at j1;cases j1;refine .inr ⟨trivial,L.blk,0,cap,⟨none,zw,.inl rfl⟩,hc,?_,trivial⟩;have:=Stab.take E.length _ _ j3;rw[YT]at this;exact this
theorem SI{cap:Nat}{E rest:List Fs}{xs:List (List Int)}(ho:hget H id=some (.frz 1 (E++rest)))(hc:E.length<=cap)(hl:E.length=xs.length)(he:∀(k:Nat) a x,E[k]?=some a->xs[k]?=some x->LF 1 a H (x.map eI)){g:Zb}{w:World}{y:Value}(hR:Zi g H n w)(hv:VRel g (.ref id 1 0 E.length cap) y):VRel g (eLl xs) y:=by
 have h1:=U6 ho hc hR hv;rcases h1 with⟨q1,rfl,q3⟩|⟨-,b,o,cap,hv,hc,hst,-⟩
 ·refine .inl ⟨?_,rfl,trivial⟩;have:xs=[]:=Xg (by rw[<-hl,q1];rfl);rw[this];rfl
 ·refine .inr ⟨trivial,b,o,cap,?_,by rw[W0,<-hl];exact hc,?_,trivial⟩
  ·grind
  ·refine Stab.conv (by rw[W0];exact hl) (λk a b ha hb x hx=>?_) hst;rw[Wq,XP]at hb;obtain⟨z,hz,rfl⟩:=hb;exact Iv (he k a z ha hz) hR hx
theorem LvG.seal{qs:List Int}{ids:List Nat}(h:LvG eI 1 lo H lv qs)(hi:∀z,PL lv=some z->z∈ids):LF 1 lv (frzs ids H) (qs.map eI):=by
 rcases h with⟨rfl,rfl⟩|⟨d8,z,rest,rfl,-,h4⟩
 ·exact .inl ⟨rfl,_,rfl,.inl rfl⟩
 ·refine .inr ⟨by simpa using d8,z,_,rest.map eI,by rw[W0],?_,zw⟩;rw[JA,Wg (hi z rfl),h4,Wh];rfl
def NbS(g:Zs):Zr->AC->Nat->Prop:=λo H _=>
 (grOK g.sh g.w g.h g.holes g.cells=false/\o= .ret (.tup [.sl .nil [],.int .i64 130]))\/
 (grOK g.sh g.w g.h g.holes g.cells=true/\∃id E,o= .ret (.tup [.ref id 1 0 g.cells.length g.cells.length,.int .i64 0])/\hget H id=some (.frz 1 E)/\E.length=g.cells.length/\
  ∀k,k<g.cells.length->∃a,E[k]?=some a/\LF 1 a H ((nbS g.sh (AT g.sh g.w g.cells) (spC g k)).map eI))
theorem p148(g:Zs)(hh:few g.holes)(hc:few g.cells):Pur prog 148 [Bz g] (nbV g):=by
 refine⟨⟨Ap 0 ..,trivial⟩,by unfold nbV;split<;>exact⟨Ak 0 _,trivial,trivial⟩,AP.out (AP.sealN (g.cells.length+1) (t_nb g hh hc) (R':=NbS g) ?_) ?_⟩
 ·rintro o H n (h|⟨hg,id,E,ho,hE,hl,hk⟩)
  ·exact⟨[],We _,.inl h⟩
  ·refine⟨id::E.filterMap PL,?_,.inr ⟨hg,id,E,ho,?_,hl,λk hk'=>?_⟩⟩
   ·grind
   ·rw[JA,Wg (Xe ..),hE];rfl
   ·obtain⟨a,ha,hla⟩:=hk k hk';exact⟨a,ha,hla.seal λz hz=>Xy _ (List.mem_filterMap.2 ⟨a,XB ha,hz⟩)⟩
 ·rintro o H n (⟨hg,rfl⟩|⟨hg,id,E,rfl,hE,hl,hk⟩)
  ·refine⟨_,⟨_,rfl,?_⟩,λg w e hR he=>he⟩;unfold nbV;rw[hg];exact Wk.tup (.cons (Wk.sl (.inr rfl)) (.cons (Wk.refl _) .nil))
  ·refine⟨.ret (nbV g),⟨_,rfl,Wk.refl _⟩,λgh w e hR he=>?_⟩;cases e with
   |panicked c=>exact he.elim
   |outgrown=>exact he.elim
   |returned x=>
    have hv:nbV g= .tup [eLl (nbsS g.sh (AT g.sh g.w g.cells)),.int .i64 0]:=by unfold nbV;rw[hg];rfl
    rw[hv];obtain⟨vs,rfl,y,r,e1,k1,k2⟩:=he;refine⟨vs,rfl,y,r,e1,?_,k2⟩;rw[<-hl]at k1;refine SI (rest:=[]) (by rw[X2];exact hE) (W8 _) (by rw[hl,nbsS,W0,BH]) (λk a z ha hz=>?_) hR k1;have hkl:k<g.cells.length:=by rw[<-hl];exact(Xx.1 ha).1
    obtain⟨a',ha',hla⟩:=hk k hkl;rw[ha]at ha';obtain rfl:=Option.some.inj ha';rw[nbsS,Wq,DF hkl,Xf]at hz;rw[<-Option.some.inj hz];exact hla
end
end Go.AM
