/-
  Parts of the proof. Conditions: none.
-/
import Derived.Test.YtabcmhkkohbdeaaGreatB3
import Derived.ControlIn
import Derived.RangeFuncRecord
import Derived.RangeFuncIn
set_option maxRecDepth 20000
set_option linter.all false
namespace Go.AM
section
variable {P:Program} {Qp:Fs->AB->Nat->Prop} {base:Nat} {kp:List Nat}
def HR(H H':AB):Prop:=H'=H\/∃id ob,AD H id=none/\H'=wB H id ob
def HA(H H':AB):Prop:=H'=H\/∃tok id,AD H id=none/\(∀i e,tok= .own i e->AD H i=some .tok)/\H'=wB (AU H tok) id .tok
def XOp.free:XOp->Prop
 | .xP .. | .tas .. =>True
 |_=>False
variable {H:AB} {l:List Fs} {b:Nat}
theorem Q1{x:XOp}(hx:x.free):(xE b x H l).2.1=H:=by
 cases x<;>first|exact hx.elim|skip
 ·rename_i kd q;rcases kd with _|_|_|kd<;>rcases l with _|⟨v,_|⟨v2,l⟩⟩<;>first|rfl|(cases v<;>rfl)
 ·rename_i t ok z;rcases ok with _|_<;>rcases l with _|⟨v,_|⟨v2,l⟩⟩<;>first|rfl|(cases v<;>rfl)
theorem Wc{x:XOp}{H':AB}(hx:x.free):(xE b x H l).1=(xE b x H' l).1/\(xE b x H l).2.2=(xE b x H' l).2.2:=by
 cases x<;>first|exact hx.elim|skip
 ·rename_i kd q;rcases kd with _|_|_|kd<;>rcases l with _|⟨v,_|⟨v2,l⟩⟩<;>first|exact⟨rfl,rfl⟩|(cases v<;>exact⟨rfl,rfl⟩)
 ·rename_i t ok z;rcases ok with _|_<;>rcases l with _|⟨v,_|⟨v2,l⟩⟩<;>first|exact⟨rfl,rfl⟩|(cases v<;>exact⟨rfl,rfl⟩)
theorem I0{kt:KT}{z:Fs}{ok:Bool}:(xE b (.look kt z ok) H l).2.1=H:=by
 rcases l with _|⟨v,_|⟨v2,_|⟨v3,l⟩⟩⟩<;>try rfl
 ·cases v<;>rfl
 ·cases v<;>try rfl
  simp only[xE];split<;>rfl
 ·cases v<;>rfl
theorem Eb{o:xq}{K:AS->Prop}{s:AS}(hc:o.k.cat≠5)(h:Af P Qp base o K s):
  ∃H' g v,K ({s with H:=H'}.put o.dst g v)/\(∀K2:AS->Prop,K2 ({s with H:=H'}.put o.dst g v)->Af P Qp base o K2 s)/\(o.guard=none->g=true)/\
   (o.k.cat=0\/o.k.cat=1\/o.k.cat=3->H'=s.H)/\(o.k.cat=2->HR s.H H')/\(o.k.cat=4->HA s.H H'):=by
 obtain⟨dst,guard,k⟩:=o;obtain⟨h0,h1⟩:=h;have hgn:guard=none->Bl s.env guard=true:=by rintro rfl;rfl
 have eff:∀{k:Io},(∀K2:AS->Prop,(Bl s.env guard=true->C2 s.env k.wH/\BS P Qp base ⟨dst,guard,k⟩ K2 s)/\(Bl s.env guard=false->K2 (s.put dst false (.wJ [])))->Af P Qp base ⟨dst,guard,k⟩ K2 s)->
   (Bl s.env guard=true->C2 s.env k.wH/\BS P Qp base ⟨dst,guard,k⟩ K s)/\(Bl s.env guard=false->K (s.put dst false (.wJ [])))->
   (C2 s.env k.wH->BS P Qp base ⟨dst,guard,k⟩ K s->∃H' v,K ({s with H:=H'}.put dst true v)/\(∀K2:AS->Prop,K2 ({s with H:=H'}.put dst true v)->BS P Qp base ⟨dst,guard,k⟩ K2 s)/\(k.cat=0\/k.cat=1\/k.cat=3->H'=s.H)/\(k.cat=2->HR s.H H')/\(k.cat=4->HA s.H H'))->
   ∃H' g v,K ({s with H:=H'}.put dst g v)/\(∀K2:AS->Prop,K2 ({s with H:=H'}.put dst g v)->Af P Qp base ⟨dst,guard,k⟩ K2 s)/\(guard=none->g=true)/\
    (k.cat=0\/k.cat=1\/k.cat=3->H'=s.H)/\(k.cat=2->HR s.H H')/\(k.cat=4->HA s.H H'):=by
  intro k wX hh he;by_cases hg:Bl s.env guard=true
  ·grind
  ·have hg:Bl s.env guard=false:=by simpa using hg
   exact⟨s.H,false,.wJ [],hh.2 hg,λK2 hk=>wX K2 ⟨λq=>(by rw[hg]at q;cases q),λ_=>hk⟩,λq=>(by have:=hgn q;rw[hg]at this;cases this),λ_=>rfl,λ_=>.inl rfl,λ_=>.inl rfl⟩
 cases k with
 |v k=>exact⟨s.H,_,_,h1.2,λK2 hk=>⟨h0,h1.1,hk⟩,hgn,λ_=>rfl,λ_=>.inl rfl,λ_=>.inl rfl⟩
 |pick c a b=>exact⟨s.H,_,_,h1.2,λK2 hk=>⟨h0,h1.1,hk⟩,hgn,λ_=>rfl,λ_=>.inl rfl,λ_=>.inl rfl⟩
 |call qt f args=>
  cases qt with
  |true=>obtain⟨r,h1,h2⟩:=h1;exact⟨s.H,_,_,h2,λK2 hk=>⟨h0,r,h1,hk⟩,hgn,λ_=>rfl,λ_=>.inl rfl,λ_=>.inl rfl⟩
  |false=>exact absurd rfl hc
 |xM x=>exact absurd rfl hc
 |slA nn x lo hi=>exact absurd rfl hc
 |ext x xs=>
  cases x<;>first
   |exact absurd rfl hc
   |(refine eff (λK2 q=>⟨h0,q⟩) h1 λq1 q2=>?_
     obtain⟨p1,p2⟩:=q2;rw[I0]at p2;exact⟨_,_,p2,λK2 hk=>⟨p1,by rw[I0];exact hk⟩,λ_=>rfl,by simp [Io.cat],by simp [Io.cat]⟩)
   |(refine eff (λK2 q=>⟨h0,q⟩) h1 λq1 q2=>?_
     rename_i rel;obtain⟨p1,p2⟩:=q2;rcases xs with _|⟨_,_⟩
     ·exact⟨_,_,p2,λK2 hk=>⟨p1,hk⟩,by simp [Io.cat],λ_=>.inr ⟨_,_,p1,rfl⟩,by simp [Io.cat]⟩
     ·exact p1.elim)
   |(refine eff (λK2 q=>⟨h0,q⟩) h1 λq1 q2=>?_
     obtain⟨⟨p0,p1⟩,p2⟩:=q2;exact⟨_,_,p2,λK2 hk=>⟨⟨p0,p1⟩,hk⟩,by simp [Io.cat],λ_=>.inr ⟨_,_,p0,rfl⟩,by simp [Io.cat]⟩)
   |(refine eff (λK2 q=>⟨h0,q⟩) h1 λq1 q2=>?_
     obtain⟨p1,p2⟩:=q2;rw[Q1 (by trivial)]at p2;exact⟨_,_,p2,λK2 hk=>⟨p1,by rw[Q1 (by trivial)];exact hk⟩,λ_=>rfl,by simp [Io.cat],by simp [Io.cat]⟩)
 |yM rel esz bytes zero x y str=>exact absurd rfl hc
 |nils nq x=>exact absurd rfl hc
 |mnx x=>exact absurd rfl hc
 |cpu f args=>
  refine eff (λK2 q=>⟨h0,q⟩) h1 λq1 q2=>?_
  simp only[BS]at q2⊢;generalize AY s.env f=fv at q2⊢;cases fv<;>(try simp only[]at q2)<;>first|exact q2.elim|skip
  rename_i ff first cap
  cases ff<;>(try simp only[]at q2)<;>first|exact q2.elim|skip
  obtain⟨r,p1,p2⟩:=q2;exact⟨s.H,r,p2,λK2 hk=>⟨r,p1,hk⟩,λ_=>rfl,λ_=>.inl rfl,λ_=>.inl rfl⟩
 |alloc rel cs=>
  refine eff (λK2 q=>⟨h0,q⟩) h1 λq1 q2=>?_
  exact⟨_,_,q2.2,λK2 hk=>⟨q2.1,hk⟩,by simp [Io.cat],λ_=>.inr ⟨_,_,q2.1,rfl⟩,by simp [Io.cat]⟩
 |box rel sz x=>
  refine eff (λK2 q=>⟨h0,q⟩) h1 λq1 q2=>?_
  exact⟨_,_,q2.2.2.2,λK2 hk=>⟨q2.1,q2.2.1,q2.2.2.1,hk⟩,by simp [Io.cat],λ_=>.inr ⟨_,_,q2.1,rfl⟩,by simp [Io.cat]⟩
 |mks rel esz bytes zero x=>
  refine eff (λK2 q=>⟨h0,q⟩) h1 λq1 q2=>?_
  obtain⟨p1,p2,p3,p4,p5,p6,p7⟩:=q2;exact⟨_,_,p7,λK2 hk=>⟨p1,p2,p3,p4,p5,p6,hk⟩,by simp [Io.cat],λ_=>.inr ⟨_,_,p1,rfl⟩,by simp [Io.cat]⟩
 |st sz a x=>
  refine eff (λK2 q=>⟨h0,q⟩) h1 λq1 q2=>?_
  obtain⟨p1,p2,p3⟩:=q2;simp only[BS,p1,p2,uf];generalize AY s.env a=av at p3⊢;cases av<;>(try simp only[]at p3)<;>first|exact p3.elim|skip
  ·split at p3
   ·grind [Io.cat]
   ·exact p3.elim
  ·split at p3
   ·grind [Io.cat]
   ·exact p3.elim
 |app rel esz bytes x y str=>
  refine eff (λK2 q=>⟨h0,q⟩) h1 λq1 q2=>?_
  simp only[BS]at q2⊢;generalize AY s.env x=av at q2⊢;generalize CF s.H (AY s.env) esz y str=bv at q2⊢;cases av<;>(try simp only[]at q2)<;>first|exact q2.elim|skip
  rename_i tok l;cases bv<;>(try simp only[]at q2)<;>first|exact q2.elim|skip
  simp only[]at q2⊢;obtain⟨p1,p2,p3,p4,p5,p6⟩:=q2;refine⟨_,_,p6,λK2 hk=>⟨p1,p2,p3,p4,p5,hk⟩,by simp [Io.cat],by simp [Io.cat],λ_=>.inr ⟨tok,_,p1,?_,rfl⟩⟩;rintro i e rfl;exact p2.2
def Gt(o:xq)(H H':AB)(n n':Nat)(ρ:zz->Fs):Prop:=match o.k with
 | .v k=>(Bd H ρ k).1->Bd H ρ k=Bd H' ρ k
 | .call true _ _=>H=H'/\n=n'
 | .ext (.look ..) _=>H=H'
 |_=>True
theorem D6{o:xq}{K K':AS->Prop}{s1 s:AS}(wV:o.k.cat=0\/o.k.cat=1\/o.k.cat=3)(hl:Fw o s1.env s.env)
  (hc:Bl s.env o.guard=true->C2 s.env o.k.wH->Gt o s1.H s.H s1.n s.n (AY s.env))
  (hK:∀g v v',(g=true->v=v')->(o.guard=none->g=true)->K (s1.put o.dst g v)->K' (s.put o.dst g v')):
  Af P Qp base o K s1->Af P Qp base o K' s:=by
 obtain⟨dst,guard,k⟩:=o;have hg:=Ea hl;have hgn:guard=none->Bl s1.env guard=true:=by rintro rfl;rfl
 simp only at hg hK;have rho:C2 s1.env k.wH->∀x∈k.wH,AY s1.env x=AY s.env x:=λh=>Ns hl (l:=k.wH) (λx hx=>hx) h
 have yr:C2 s1.env k.wH->C2 s.env k.wH:=Nr hl (l:=k.wH) (λx hx=>hx);cases k with
 |v k=>
  rintro⟨h0,h1,h2⟩;have e:Bl s1.env guard=true->Bd s1.H (AY s1.env) k=Bd s.H (AY s.env) k:=λq=>by
   have e1:=Py (H:=s1.H) k (rho (h1 q).1);rw[e1];exact hc (hg▸q) (yr (h1 q).1) (e1▸(h1 q).2)
  refine⟨DH hl h0,λq=>?_,?_⟩
  ·have q:Bl s1.env guard=true:=hg▸q;exact⟨yr (h1 q).1,e q▸(h1 q).2⟩
  ·grind
 |pick c a b=>
  rintro⟨h0,h1,h2⟩;have l1:=EZ hl (x:=c) (by simp [Io.wH]);have l2:=EZ hl (x:=a) (by simp [Io.wH]);have l3:=EZ hl (x:=b) (by simp [Io.wH]);have ec:Bl s1.env guard=true->AY s1.env c=AY s.env c:=λq=>l1.2 (h1 q).1
  have hsel:∀(t:Bool) (x y x' y':Fs),(t=true->x=x')->(t=false->y=y')->Lv t x y=Lv t x' y':=by
   intro t x y x' y' p1 p2;cases t with
   |true=>have:=p1 rfl;subst this;cases x<;>cases y<;>cases y'<;>rfl
   |false=>have:=p2 rfl;subst this;cases y<;>cases x<;>cases x'<;>rfl
  refine⟨DH hl h0,λq=>?_,?_⟩
  ·simp_all
  ·show K' (s.put dst (Bl s.env guard) _);rw[<-hg];refine hK _ _ _ (λq=>?_) hgn h2;rw[<-ec q];obtain⟨q1,q2,q3,q4⟩:=h1 q;exact hsel _ _ _ _ _ (λp=>l2.2 (q3 p)) (λp=>l3.2 (q4 p))
 |call qt f args=>
  cases qt with
  |false=>simp [Io.cat]at wV
  |true=>
   rintro⟨h0,r,h1,h2⟩;refine⟨DH hl h0,r,λq=>?_,?_⟩
   ·have q':Bl s1.env guard=true:=hg▸q;obtain⟨q1,q2,q3⟩:=h1 q';have q5:C2 s1.env (Io.call true f args).wH:=⟨q1,q2⟩;have rh:=rho q5;have e1:AY s1.env f=AY s.env f:=rh f (by simp [Io.wH]);have e2:args.map (AY s1.env)=args.map (AY s.env):=tG λx hx=>rh x (by simp [Io.wH,hx])
    obtain⟨c1,c2⟩:=hc q (yr q5);refine⟨(yr q5).1,(yr q5).2,?_⟩;rw[e1,e2,c1,c2]at q3;exact q3
   ·grind
 |ext x xs=>
  have free:x.free->Af P Qp base ⟨dst,guard,.ext x xs⟩ K s1->Af P Qp base ⟨dst,guard,.ext x xs⟩ K' s:=by
   rintro hx ⟨h0,h1,h2⟩;refine⟨DH hl h0,λq=>?_,λq=>?_⟩
   ·have q':Bl s1.env guard=true:=hg▸q;obtain⟨q1,q2,q3⟩:=h1 q';have e2:xs.map (AY s1.env)=xs.map (AY s.env):=tG λx hx=>rho q1 x hx
    refine⟨yr q1,?_,?_⟩
    ·show(xE base x s.H (xs.map (AY s.env))).1;rw[<-e2,<-(Wc (b:=base) (l:=xs.map (AY s1.env)) (H:=s1.H) (H':=s.H) hx).1];exact q2
    ·show K' ({s with H:=(xE base x s.H (xs.map (AY s.env))).2.1}.put dst true (xE base x s.H (xs.map (AY s.env))).2.2);have q3':K ({s1 with H:=(xE base x s1.H (xs.map (AY s1.env))).2.1}.put dst true (xE base x s1.H (xs.map (AY s1.env))).2.2):=q3;rw[Q1 hx]at q3'⊢;exact hK true _ _ (λ_=>by rw[<-e2];exact(Wc hx).2) (λ_=>rfl) q3'
   ·grind
  cases x<;>first|(simp [Io.cat]at wV;done)|exact free trivial|skip
  rintro⟨h0,h1,h2⟩;refine⟨DH hl h0,λq=>?_,λq=>?_⟩
  ·have q':Bl s1.env guard=true:=hg▸q;obtain⟨q1,q2,q3⟩:=h1 q';have e2:xs.map (AY s1.env)=xs.map (AY s.env):=tG λx hx=>rho q1 x hx
   have hH:s1.H=s.H:=hc q (yr q1);simp only[I0]at q3⊢;rw[e2,hH]at q2;refine⟨yr q1,q2,?_⟩;rename_i kt z ok;have q3':K (s1.put dst true (xE base (.look kt z ok) s1.H (xs.map (AY s1.env))).2.2):=q3;have:=hK true _ (xE base (.look kt z ok) s.H (xs.map (AY s.env))).2.2 (λ_=>by rw[e2,hH]) (λ_=>rfl) q3';show K' ({s with H:=(xE base (.look kt z ok) s.H (xs.map (AY s.env))).2.1}.put dst true (xE base (.look kt z ok) s.H (xs.map (AY s.env))).2.2);rw[I0];exact this
  ·grind
 |cpu f args=>
  rintro⟨h0,h1,h2⟩;refine⟨DH hl h0,λq=>?_,λq=>?_⟩
  ·have q':Bl s1.env guard=true:=hg▸q;obtain⟨q1,q3⟩:=h1 q';have e1:AY s1.env f=AY s.env f:=rho q1 f (by simp [Io.wH]);have e2:args.map (AY s1.env)=args.map (AY s.env):=tG λx hx=>rho q1 x (by simp [Io.wH,hx])
   refine⟨yr q1,?_⟩;simp only[BS]at q3⊢;rw[e1,e2]at q3;generalize AY s.env f=fv at q3⊢;cases fv<;>(try simp only[]at q3)<;>first|exact q3.elim|skip
   rename_i ff first cap
   cases ff<;>(try simp only[]at q3)<;>first|exact q3.elim|skip
   obtain⟨r,p1,p2⟩:=q3;exact⟨r,p1,hK true _ _ (λ_=>rfl) (λ_=>rfl) p2⟩
  ·grind
 |_=>simp [Io.cat]at wV
end
section
variable {P:Program} {Qp:Fs->AB->Nat->Prop} {base:Nat} {kp:List Nat}
theorem IV(s:AS)(H:AB)(n:Nat)(d:Option Nat)(g:Bool)(v:Fs):({s with H:=H,n:=n}:AS).put d g v={s.put d g v with H:=H,n:=n}:=by cases d<;>rfl
variable {H:AB} {ob:x9} {o:xq} {s:AS} {a:Fs} {ag:Bool} {id sz:Nat} {tok:v8}
theorem HB{dx dy:Option Nat}{gx gy:Bool}{vx vx' vy vy':Fs}(hd:∀d,dx=some d->dy≠some d)(hx:gx=true->vx=vx')(hy:gy=true->vy=vy')
  (kx:∀d,dx=some d->d∈kp->gx=true) (ky:∀d,dy=some d->d∈kp->gy=true):
  OX kp ((s.put dx gx vx).put dy gy vy) ((s.put dy gy vy').put dx gx vx'):=by
 refine⟨λt=>?_,by simp [Bw],by simp [EI]⟩;simp only[GH];by_cases h1:dy=some t
 ·have h2:dx≠some t:=λh=>hd t h h1
  rw[sn h1,sg h2,sn h1];exact⟨⟨rfl,hy⟩,λm=>by rw[hy (ky t h1 m)]⟩
 ·rw[sg h1];by_cases h2:dx=some t
  ·rw[sn h2,sn h2];exact⟨⟨rfl,hx⟩,λm=>by rw[hx (kx t h2 m)]⟩
  ·rw[sg h2,sg h2,sg h1];exact⟨Oo.rfl' _,λ_=>rfl⟩
def YD(H:AB):Fs->Prop
 | .ptr id _| .ap id _ _ _=>AD H id≠none
 |_=>True
theorem L5(h:YD H a)(hn:AD H id=none):A7 (wB H id ob) sz ag a=A7 H sz ag a:=by
 cases a<;>try rfl
 ·rename_i i off;have:id≠i:=by rintro rfl;exact h hn
  simp only[A7,AA _ _ _ _ this]
 ·rename_i i esz j off;have:id≠i:=by rintro rfl;exact h hn
  simp only[A7,AA _ _ _ _ this]
theorem Nt(h:(A7 H sz ag a).1):YD H a:=by
 cases a<;>simp only[YD]
 ·intro hn;simp [A7,hn]at h
 ·intro hn;simp [A7,hn]at h
theorem Sv{i:Nat}(hn:AD H id=none)(ht:∀j e,tok= .own j e->AD H j=some .tok)(ho:AD H i=some ob)(s8:ob≠ .tok):
  AD (wB (AU H tok) id .tok) i=some ob:=by
 have h1:id≠i:=by rintro rfl;rw[hn]at ho;cases ho
 rw[AA _ _ _ _ h1];cases tok<;>try exact ho
 rename_i j e;have h2:j≠i:=by rintro rfl;rw[ht _ _ rfl]at ho;cases ho;exact s8 rfl
 simp only[AU];rw[AA _ _ _ _ h2];exact ho
theorem KG{i:Nat}(ho:AD (wB (AU H tok) id .tok) i=some ob)(s8:ob≠ .tok)(hne2:ob≠ .dead):AD H i=some ob:=by
 by_cases h1:id=i
 ·simp_all [AC]
 ·rw[AA _ _ _ _ h1]at ho;cases tok<;>try exact ho
  rename_i j e;simp only[AU]at ho;by_cases h2:j=i
  ·simp_all [AC]
  ·rw[AA _ _ _ _ h2]at ho;exact ho
theorem YE(hn:AD H id=none)(ht:∀j e,tok= .own j e->AD H j=some .tok)(h:(A7 H sz ag a).1):
  A7 H sz ag a=A7 (wB (AU H tok) id .tok) sz ag a:=by
 cases a<;>try rfl
 ·grind [A7,Sv]
 ·grind [A7,Sv]
theorem Oq(h:(A7 (wB (AU H tok) id .tok) sz ag a).1):
  A7 (wB (AU H tok) id .tok) sz ag a=A7 H sz ag a:=by
 cases a<;>try rfl
 ·grind [A7,KG]
 ·grind [A7,KG]
theorem Sw(h:o.k.cat=0)(H H':AB)(n n':Nat)(ρ:zz->Fs):Gt o H H' n n' ρ:=by
 obtain⟨dst,guard,k⟩:=o;cases k with
 |v k=>cases k<;>first|(simp [Io.cat]at h;done)|exact λ_=>rfl
 |pick c a b=>trivial
 |call q f args=>cases q<;>simp [Io.cat]at h
 |ext x xs=>cases x<;>first|trivial|(simp [Io.cat]at h;done)
 |_=>trivial
theorem Sx(H:AB)(n:Nat)(ρ:zz->Fs):Gt o H H n n ρ:=by
 obtain⟨dst,guard,k⟩:=o;cases k with
 |v k=>exact λ_=>rfl
 |call q f args=>cases q<;>first|exact⟨rfl,rfl⟩|trivial
 |ext x xs=>cases x<;>first|trivial|exact(rfl:H=H)
 |_=>trivial
theorem Wd(h:o.k.cat=1):∃sz ag x,o.k= .v (.ld sz ag x):=by
 obtain⟨dst,guard,k⟩:=o;cases k with
 |v k=>cases k<;>first|exact⟨_,_,_,rfl⟩|(simp [Io.cat]at h;done)
 |call q f args=>cases q<;>simp [Io.cat]at h
 |ext x xs=>cases x<;>simp [Io.cat]at h
 |_=>simp [Io.cat]at h
def Pz(o:xq)(s:AS):Prop:=∀sz ag x,o.k= .v (.ld sz ag x)->(lk s.env x).1=true->YD s.H (AY s.env x)
def Ey(kp:List Nat)(o:xq):Prop:=o.guard=none\/∀d,o.dst=some d->d∉kp
theorem Ey.held(h:Ey kp o){g:Bool}(hg:o.guard=none->g=true):∀d,o.dst=some d->d∈kp->g=true:=λd hd hm=>h.elim hg λk=>absurd hm (k d hd)
structure Apart(x y:xq):Prop where
 xy:∀d,x.dst=some d->zz.t d∉y.k.wH/\(∀w,y.guard≠some (d,w))/\y.dst≠some d
 yx:∀d,y.dst=some d->zz.t d∉x.k.wH/\∀w,x.guard≠some (d,w)
theorem DU{d:Option Nat}{g:Bool}{v:Fs}(h:∀i,d=some i->zz.t i∉o.k.wH/\∀w,o.guard≠some (i,w)):Fw o (s.put d g v).env s.env:=by
 refine⟨λi hi=>?_,λi w hg=>?_⟩
 ·rw[GH,sg (λe=>(h i e).1 hi)];exact Oo.rfl' _
 ·rw[GH,sg (λe=>(h i e).2 w hg)];exact Oo.rfl' _
theorem Fw.symm{e e':List (Nat×Bool×Fs)}(h:Fw o e e'):Fw o e' e:=⟨λi hi=>(h.1 i hi).symm,λi w hw=>(h.2 i w hw).symm⟩
def Hu:Io->Nat
 | .alloc r _| .box r _ _| .mks r _ _ _ _| .ext (.mkm r) _| .ext (.bsm r ..) _=>r
 |_=>0
theorem P0{K K':AS->Prop}{s1:AS}(wV:o.k.cat=2)(hl:Fw o s1.env s.env)(hn:s1.n=s.n)(hdom:AD s1.H (base+Hu o.k)=none->AD s.H (base+Hu o.k)=none)
  (hK:∀g v v' (u:AB->AB),(g=true->v=v')->(o.guard=none->g=true)->((u=λH=>H)\/∃ob,u=λH=>wB H (base+Hu o.k) ob)->K ({s1 with H:=u s1.H}.put o.dst g v)->K' ({s with H:=u s.H}.put o.dst g v')):
  Af P Qp base o K s1->Af P Qp base o K' s:=by
 obtain⟨dst,guard,k⟩:=o;have hg:=Ea hl;have hgn:guard=none->Bl s1.env guard=true:=by rintro rfl;rfl
 simp only at hg hK;have rho:C2 s1.env k.wH->∀x∈k.wH,AY s1.env x=AY s.env x:=λh=>Ns hl (l:=k.wH) (λx hx=>hx) h
 have yr:C2 s1.env k.wH->C2 s.env k.wH:=Nr hl (l:=k.wH) (λx hx=>hx);have skip:Bl s1.env guard=false->K (s1.put dst false (.wJ []))->K' (s.put dst false (.wJ [])):=λq hk=>
  hK false (.wJ []) (.wJ []) (λH=>H) zw (λq'=>by have:=hgn q';rw[q]at this;cases this) (.inl rfl) hk
 cases k with
 |alloc rel cs=>
  rintro⟨h0,h1⟩;refine⟨DH hl h0,?_⟩;simp only[]at h1⊢;rw[<-hg];refine⟨λq=>?_,λq=>skip q (h1.2 q)⟩;obtain⟨q1,q2⟩:=h1.1 q;refine⟨yr q1,?_⟩;simp only[BS]at q2⊢;exact⟨hdom q2.1,hK true _ _ _ (λ_=>rfl) (λ_=>rfl) (.inr ⟨.box cs,rfl⟩) q2.2⟩
 |box rel sz x=>
  rintro⟨h0,h1⟩;refine⟨DH hl h0,?_⟩;simp only[]at h1⊢;rw[<-hg];refine⟨λq=>?_,λq=>skip q (h1.2 q)⟩;obtain⟨q1,q2⟩:=h1.1 q;have e1:AY s1.env x=AY s.env x:=rho q1 x (by simp [Io.wH]);refine⟨yr q1,?_⟩;simp only[BS]at q2⊢;rw[e1]at q2;exact⟨hdom q2.1,q2.2.1,q2.2.2.1,hK true _ _ _ (λ_=>rfl) (λ_=>rfl) (.inr ⟨.box _,rfl⟩) q2.2.2.2⟩
 |mks rel esz bytes zero x=>
  rintro⟨h0,h1⟩;refine⟨DH hl h0,?_⟩;simp only[]at h1⊢;rw[<-hg];refine⟨λq=>?_,λq=>skip q (h1.2 q)⟩;obtain⟨q1,q2⟩:=h1.1 q;have e1:AY s1.env x=AY s.env x:=rho q1 x (by simp [Io.wH]);refine⟨yr q1,?_⟩;simp only[BS]at q2⊢;rw[e1]at q2;obtain⟨p1,p2,p3,p4,p5,p6,p7⟩:=q2;exact⟨hdom p1,p2,p3,p4,p5,p6,hK true _ _ _ (λ_=>rfl) (λ_=>rfl) (.inr ⟨.arr _ _,rfl⟩) p7⟩
 |v k=>cases k<;>simp [Io.cat]at wV
 |call q f args=>cases q<;>simp [Io.cat]at wV
 |ext x xs=>
  cases x<;>first|(simp [Io.cat]at wV;done)|skip
  rotate_left
  ·rename_i rel esz nn zero is;rintro⟨h0,h1⟩;refine⟨DH hl h0,?_⟩;simp only[]at h1⊢;rw[<-hg];refine⟨λq=>?_,λq=>skip q (h1.2 q)⟩;obtain⟨q1,q2⟩:=h1.1 q;have e2:xs.map (AY s1.env)=xs.map (AY s.env):=tG λx hx=>rho q1 x hx
   refine⟨yr q1,?_⟩;simp only[BS]at q2⊢;rw[e2]at q2;obtain⟨⟨p1,p2⟩,p3⟩:=q2;exact⟨⟨hdom p1,p2⟩,hK true _ _ _ (λ_=>rfl) (λ_=>rfl) (.inr ⟨.arr _ _,rfl⟩) p3⟩
  rename_i rel;rintro⟨h0,h1⟩;refine⟨DH hl h0,?_⟩;simp only[]at h1⊢;rw[<-hg];refine⟨λq=>?_,λq=>skip q (h1.2 q)⟩;obtain⟨q1,q2⟩:=h1.1 q;refine⟨yr q1,?_⟩;simp only[BS]at q2⊢;rcases xs with _|⟨_,_⟩
  ·exact⟨hdom q2.1,hK true _ _ _ (λ_=>rfl) (λ_=>rfl) (.inr ⟨.map [] 0,rfl⟩) q2.2⟩
  ·exact q2.1.elim
 |_=>simp [Io.cat]at wV
theorem swap{x y:xq}{K:AS->Prop}(yC:Apart x y)(wV:FU x.k.cat y.k.cat=true)(kx:Ey kp x)(ky:Ey kp y)(hrel:x.k.cat=2->y.k.cat=2->Hu x.k≠Hu y.k)(hsafe:Pz y s)(hK:∀a b,OX kp a b->K a->K b)
  (h:Af P Qp base x (Af P Qp base y K) s):Af P Qp base y (Af P Qp base x K) s:=by
 have hxc5:x.k.cat≠5:=by intro e;rw[e]at wV;cases hy:y.k.cat<;>simp [FU,hy]at wV
 obtain⟨H',gx,vx,hy,hre,hgx,yA,hH2,hH4⟩:=Eb hxc5 h;have ndst:∀d,x.dst=some d->y.dst≠some d:=λd hd=>(yC.xy d hd).2.2
 have zf:∀{s:AS} {H:AB} {g:Bool} {v:Fs},Fw y ({s with H:=H}.put x.dst g v).env s.env:=λ{s H g v}=>DU (s:={s with H:=H}) (λi e=>⟨(yC.xy i e).1,(yC.xy i e).2.1⟩)
 have yQ:∀{s:AS} {H:AB} {n:Nat} {g:Bool} {v:Fs},Fw x s.env ({s with H:=H,n:=n}.put y.dst g v).env:=λ{s H n g v}=>(DU (s:={s with H:=H,n:=n}) (yC.yx)).symm
 by_cases hyv:y.k.cat=0\/y.k.cat=1\/y.k.cat=3
 ·
  refine D6 hyv zf (λhgy hoy=>?_) (λgy vy vy' hvy hgy hk=>?_) hy
  ·rw[Bw,EI];by_cases hxc:x.k.cat=0\/x.k.cat=1\/x.k.cat=3
   ·rw[yA hxc];exact Sx _ _ _
   ·rcases hyv with hy0|hy1|hy3
    ·exact Sw hy0 _ _ _ _ _
    ·obtain⟨sz,ag,ad,hyk⟩:=Wd hy1;have hsf:=hsafe sz ag ad hyk (by rw[hyk]at hoy;exact hoy.1);have hxc24:x.k.cat=2\/x.k.cat=4:=by
      rw[hy1]at wV;generalize x.k.cat=c at wV hxc hxc5
      match c with
      |0|1|3=>simp at hxc
      |2=>exact .inl rfl
      |4=>exact .inr rfl
      |5=>simp at hxc5
      |c+6=>simp [FU]at wV
     show Gt y H' s.H s.n s.n (AY s.env);unfold Gt;rw[hyk];show(A7 H' sz ag (AY s.env ad)).1->A7 H' sz ag (AY s.env ad)=A7 s.H sz ag (AY s.env ad);intro q;rcases hxc24 with e|e
     ·rcases hH2 e with rfl|⟨id,ob,p1,rfl⟩
      ·rfl
      ·exact L5 hsf p1
     ·rcases hH4 e with rfl|⟨tok,id,p1,p2,rfl⟩
      ·rfl
      ·exact Oq q
    ·simp_all [FU]
  ·
   have:=hre (λs'=>s'={s with H:=H'}.put x.dst gx vx) rfl;refine Ci (yQ (s:=s) (H:=s.H) (n:=s.n)) (by rw[Bw]) (by rw[EI]) (λH n g v v' hv _ hg he=>?_) this;have e1:({s.put y.dst gy vy' with H:=H,n:=n}:AS).put x.dst g v'=(({s with H:=H,n:=n}:AS).put y.dst gy vy').put x.dst g v':=by cases y.dst<;>rfl
   rw[e1];refine hK _ _ ?_ hk;rw[<-he];exact HB ndst hv hvy (kx.held hg) (ky.held hgy)
 ·
  have hxv:x.k.cat=0\/x.k.cat=1\/x.k.cat=3\/(x.k.cat=2/\y.k.cat=2):=by grind [FU]
  have fin:∀{H:AB} {n:Nat} {g g2:Bool} {v v' v2 v2':Fs},(g=true->v=v')->(y.guard=none->g=true)->(g2=true->v2=v2')->(x.guard=none->g2=true)->
    K ((({s with H:=H,n:=n}:AS).put x.dst g2 v2).put y.dst g v)->K ((({s with H:=H,n:=n}:AS).put y.dst g v').put x.dst g2 v2'):=λa1 a2 a3 a4 hk=>
   hK _ _ (HB ndst a3 a1 (kx.held a4) (ky.held a2)) hk
  rcases hxv with hx0|hx1|hx3|⟨hx2,hy2⟩
  ·have eH:=yA (.inl hx0);subst eH;refine Ci zf (by rw[Bw]) (by rw[EI]) (λH n g v v' hv _ hg hk=>?_) hy;have:=hre (λs'=>s'=s.put x.dst gx vx) rfl;refine D6 (.inl hx0) (yQ (s:=s) (H:=H) (n:=n)) (λ_ _=>Sw hx0 _ _ _ _ _) (λg2 v2 v2' hv2 hg2 he=>?_) this;refine fin hv hg hv2 hg2 ?_;rw[IV s,he];exact hk
  ·have eH:=yA (.inr (.inl hx1));subst eH;have hy24:y.k.cat=2\/y.k.cat=4:=by grind [FU]
   have hyc5:y.k.cat≠5:=by rcases hy24 with e|e<;>rw[e]<;>decide
   obtain⟨H2,gy,vy,hk,hreY,hgy,-,hR2,hR4⟩:=Eb hyc5 hy;rw[Bw]at hR2 hR4;obtain⟨sz,ag,ad,hxk⟩:=Wd hx1;refine Ci zf (by rw[Bw]) (by rw[EI]) (λH n g v v' hv _ hg he=>?_) (hreY (λs'=>s'=({s.put x.dst gx vx with H:=H2}:AS).put y.dst gy vy) rfl);have e1:H=H2:=by have:=congrArg AS.H he;rwa[Bw,Bw]at this
   subst e1;rw[<-he]at hk;have:=hre (λs'=>s'=s.put x.dst gx vx) rfl;refine D6 (.inr (.inl hx1)) (yQ (s:=s) (H:=H) (n:=n)) (λ_ _=>?_) (λg2 v2 v2' hv2 hg2 he2=>?_) this
   ·rw[Bw,EI];unfold Gt;rw[hxk];show(A7 s.H sz ag _).1->A7 s.H sz ag _=A7 H sz ag _;intro q;rcases hy24 with e|e
    ·rcases hR2 e with rfl|⟨id,ob,p1,rfl⟩
     ·rfl
     ·exact(L5 (Nt q) p1).symm
    ·rcases hR4 e with rfl|⟨tok,id,p1,p2,rfl⟩
     ·rfl
     ·exact YE p1 p2 q
   ·refine fin hv hg hv2 hg2 ?_;rw[IV s,he2];exact hk
  ·simp_all [FU]
  ·refine P0 hy2 zf (by rw[EI]) (λq=>?_) (λg v v' u hv hg hu hk=>?_) hy
   ·rw[Bw]at q;rcases hH2 hx2 with rfl|⟨id,ob,p1,rfl⟩
    ·exact q
    ·rw[AT]at q;split at q
     ·cases q
     ·exact q
   ·have:=hre (λs'=>s'={s with H:=H'}.put x.dst gx vx) rfl;refine P0 hx2 (yQ (s:=s) (H:=u s.H) (n:=s.n)) (by rw[EI]) (λq=>?_) (λg2 v2 v2' u2 hv2 hg2 hu2 he=>?_) this
    ·rw[Bw];rcases hu with rfl|⟨ob,rfl⟩
     ·exact q
     ·have:=hrel hx2 hy2;rw[AA _ _ _ _ zo];exact q
    ·rw[Bw];have e1:({({s with H:=u s.H}:AS).put y.dst g v' with H:=u2 (u s.H)}:AS).put x.dst g2 v2'=(({s with H:=u2 (u s.H),n:=s.n}:AS).put y.dst g v').put x.dst g2 v2':=by
      cases y.dst<;>rfl
     rw[e1];refine fin hv hg hv2 hg2 ?_;rw[Bw]at hk;have e2:H'=u2 s.H:=by have:=congrArg AS.H he;rw[Bw,Bw]at this;exact this.symm
     have e3:u H'=u2 (u s.H):=by
      rw[e2];rcases hu with rfl|⟨ob,rfl⟩<;>rcases hu2 with rfl|⟨ob2,rfl⟩<;>try rfl
      have:=hrel hx2 hy2;exact Xk _ _ _ _ _ zo
     rw[<-e3];have e4:({({s with H:=H'}:AS).put x.dst gx vx with H:=u H'}:AS)=({s with H:=u H',n:=s.n}:AS).put x.dst g2 v2:=by
      have e5:=congrArg AS.env he;have e6:(({s with H:=u2 s.H}:AS).put x.dst g2 v2).env=(({s with H:=u H',n:=s.n}:AS).put x.dst g2 v2).env:=by cases x.dst<;>rfl
      have e7:∀(a b:AS),a.env=b.env->a.H=b.H->a.n=b.n->a=b:=by rintro⟨⟩ ⟨⟩ h1 h2 h3;simp at h1 h2 h3;simp [h1,h2,h3]
      refine e7 _ _ ?_ ?_ ?_
      ·rw[<-e6,e5]
      ·rw[Bw]
      ·show(({s with H:=H'}:AS).put x.dst gx vx).n=_;rw[EI,EI]
     rw[<-e4];exact hk
end
section
variable {P:Program} {Qp:Fs->AB->Nat->Prop} {base:Nat} {kp:List Nat}
variable {H:AB}
theorem OX.put{a b:AS}{d:Option Nat}{n:Nat}{g:Bool}{v v':Fs}(h:OX kp a b)(hv:g=true->v=v')(hk:∀i,d=some i->i∈kp->g=true):
  OX kp (({a with H:=H,n:=n}:AS).put d g v) (({b with H:=H,n:=n}:AS).put d g v'):=by
 refine⟨λt=>?_,by rw[Bw,Bw],by rw[EI,EI]⟩;simp only[GH];by_cases h1:d=some t
 ·rw[sn h1,sn h1];exact⟨⟨rfl,hv⟩,λm=>by rw[hv (hk t h1 m)]⟩
 ·rw[sg h1,sg h1];exact h.1 t
theorem L6{K:AS->Prop}(hK:∀a b,OX kp a b->K a->K b):∀(L:List xq),(∀x∈L,Ey kp x)->∀a b,OX kp a b->D4 P Qp base L K a->D4 P Qp base L K b
 |[],_,a,b,h,hh=>hK a b h hh
 |x::L,hk,a,b,h,hh=>Ci (s1:=a) (s:=b) ⟨λi _=>(h.1 i).1,λi _ _=>(h.1 i).1⟩ h.2.1 h.2.2
   (λH n g v v' hv _ hg q=>L6 hK L (λy hy=>hk y (tM _ hy)) _ _ (h.put hv ((hk x (tu ..)).held hg)) q) hh
theorem K8{H':AB}(h:∀id,AD H id≠none->AD H' id≠none){a:Fs}(ha:YD H a):YD H' a:=by
 cases a<;>first|exact h _ ha|trivial
theorem GI{i id:Nat}{ob:x9}(h:AD H id≠none):AD (wB H i ob) id≠none:=by
 rw[AT];split
 ·simp
 ·exact h
theorem kD{y:xq}{B:List xq}{K:AS->Prop}(ky:Ey kp y)(hB:∀x∈B,Ey kp x)(hK:∀a b,OX kp a b->K a->K b):∀(A:List xq) (s:AS),
  (∀x∈A,Apart x y/\FU x.k.cat y.k.cat=true/\Ey kp x/\(x.k.cat=2->y.k.cat=2->Hu x.k≠Hu y.k))->Pz y s->
  D4 P Qp base (A++y::B) K s->Af P Qp base y (D4 P Qp base (A++B) K) s
 |[],_,_,_,h=>h
 |x::A,s,hA,hs,h=>by
  obtain⟨yC,wV,kx,hrel⟩:=hA x (tu ..);have hxc5:x.k.cat≠5:=by intro e;rw[e]at wV;cases hy:y.k.cat<;>simp [FU,hy]at wV
  obtain⟨H',gx,vx,h1,hre,-,yA,hH2,hH4⟩:=Eb hxc5 h;have wr:Pz y ({s with H:=H'}.put x.dst gx vx):=by
   intro sz ag ad e s9;have hy1:y.k.cat=1:=by rw[e];rfl
   have xh:lk ({s with H:=H'}.put x.dst gx vx).env ad=lk s.env ad:=by
    cases ad with
    |c v=>rfl
    |t i=>
     simp only[lk];rw[GH,sg (λq=>(yC.xy i q).1 (by rw[e];simp [Io.wH,xx.wH]))]
   have wv:AY ({s with H:=H'}.put x.dst gx vx).env ad=AY s.env ad:=by simp only[AY,xh]
   rw[wv,Bw];rw[xh]at s9;refine K8 (H:=s.H) (λid s5=>?_) (hs sz ag ad e s9);rw[hy1]at wV;have hxc:(x.k.cat=0\/x.k.cat=1\/x.k.cat=3)\/x.k.cat=2\/x.k.cat=4:=by grind [FU]
   rcases hxc with e|e|e
   ·rw[yA e];exact s5
   ·rcases hH2 e with rfl|⟨i,ob,p1,rfl⟩
    ·exact s5
    ·exact GI s5
   ·rcases hH4 e with rfl|⟨tok,i,p1,p2,rfl⟩
    ·exact s5
    ·refine GI ?_;cases tok<;>first|exact s5|exact GI s5
  have h2:=kD ky hB hK A _ (λz hz=>hA z (tM _ hz)) wr h1;have hAB:∀z∈A++B,Ey kp z:=λz hz=>(tP.1 hz).elim (λq=>(hA z (tM _ q)).2.2.1) (hB z)
  exact swap yC wV kx ky hrel hs (L6 hK (A++B) hAB) (hre _ h2)
end
def IW{x y:xq}(h:Nd x y=true):Apart x y:=by
 unfold Nd at h;rw[sf]at h;obtain⟨h1,h2⟩:=h;refine⟨λd hd=>?_,λd hd=>?_⟩
 ·grind
 ·grind
theorem EJ{P:Program}{N lo:Nat}{ops:Array Oper}{mkv imp:List Nat}:∀(L:List Oper) (i:Nat) (l:List xq),Ol P N lo ops mkv imp L i=some l->
  l.length=L.length/\∀(j:Nat) (o:Oper),L[j]?=some o->∃gd k,l[j]?=some ⟨o.dst,gd,k⟩/\Nc ops o.guard=some gd/\BJ P (mkv.contains (i+j)) (imp.contains (i+j)) (i+j) o.op=some k/\∀d,o.dst=some d->d<N/\lo<=d
 |[],i,l,h=>by
  simp only[Ol]at h;cases h;exact⟨rfl,λj o h=>by simp at h⟩
 |o::L,i,l,h=>by
  simp only[Ol]at h;split at h
  ·rename_i gd k l' h1 h2 h3;split at h
   ·rename_i hd;cases h;obtain⟨q1,q2⟩:=EJ L (i+1) l' h3;refine⟨by simp [q1],λj o' hj=>?_⟩;cases j with
    |zero=>grind
    |succ j=>grind
   ·cases h
  ·cases h
def HC{P:Program}{mkv imp:Bool}{i:Nat}{op:Op}{k:Io}(h:BJ P mkv imp i op=some k)(hc:k.cat=2):Hu k=i:=by
 have other:BJ P mkv imp i op=(CW P mkv op).map .v->False:=by
  intro e;rw[e]at h;cases h1:CW P mkv op with
  |none=>simp [h1]at h
  |some k'=>simp [h1]at h;subst h;cases k'<;>simp [Io.cat]at hc
 cases op;case alloc t=>
  simp only[BJ]at h;cases hz:Cf P t with
  |none=>simp [hz]at h
  |some z=>simp [hz]at h;subst h;rfl
 case box t x=>
  simp only[BJ]at h;split at h
  ·cases h;rfl
  ·cases h
 case pick c x y=>grind [BJ,Io.cat]
 case store t ad x=>grind [BJ,Io.cat]
 case slice t x lo hi mx=>grind [BJ,Io.cat]
 case panic x=>
  simp only[BJ]at h;cases hx:Az x with
  |none=>simp [hx]at h
  |some x'=>simp [hx]at h;subst h;simp [Io.cat]at hc
 case makeSlice t l c=>
  cases mkv with
  |true=>exact(other (by simp [BJ])).elim
  |false=>
   cases l<;>cases c<;>(try (simp [BJ]at h;done))
   ·simp only[BJ,sN,sY]at h;split at h
    ·split at h
     ·split at h
      ·cases h;rfl
      ·cases h
     ·cases h
    ·cases h
   ·rename_i l c;cases l<;>(try (simp [BJ]at h;done));rename_i kl nl;cases kl<;>(try (simp [BJ]at h;done));cases c<;>(try (simp [BJ]at h;done));rename_i kc nc;cases kc<;>(try (simp [BJ]at h;done));simp only[BJ,sN,sY]at h;split at h
    ·split at h
     ·split at h
      ·cases h;rfl
      ·cases h
     ·cases h
    ·cases h
 case call c=>
  obtain⟨callee,args,ts⟩:=c;cases callee;case invoke rv mt=>simp [BJ,CW]at h
  case value f=>
   simp only[BJ]at h;split at h
   ·cases mkv<;>cases imp<;>simp at h<;>subst h<;>simp [Io.cat]at hc
   ·cases h
  case builtin b=>
   cases b;case append=>grind [BJ,Io.cat]
   case len=>
    simp only[BJ]at h;split at h
    ·split at h
     ·cases hx:Az ‹Operand› with
      |none=>simp [hx]at h
      |some x'=>simp [hx]at h;subst h;simp [Io.cat]at hc
     ·cases h1:CW P mkv (.call {callee:=.builtin .len,args,argTypes:=ts})with
      |none=>simp [h1]at h
      |some k'=>simp [h1]at h;subst h;cases k'<;>simp [Io.cat]at hc
    ·cases h
   case copy=>grind [BJ,Io.cat]
   all_goals exact(other (by first|rfl|simp [BJ])).elim
 case buildSlice t len parts=>
  simp only[BJ]at h;split at h
  ·split at h
   ·split at h
    ·cases h;rfl
    ·cases h
   ·cases h
  ·cases h1:CW P mkv (.buildSlice t len parts)with
   |none=>simp [h1]at h
   |some k'=>simp [h1]at h;subst h;cases k'<;>simp [Io.cat]at hc
 case makeMap t r=>
  cases r with
  |some r=>simp [BJ,CW]at h
  |none=>
   simp only[BJ]at h;split at h
   ·cases h;rfl
   ·cases h
 case lookup t x ix ok=>
  simp only[BJ]at h;split at h
  ·split at h
   ·cases h;simp [Io.cat]at hc
   ·cases h
  ·cases h
 case mapUpdate t mm kk x=>
  simp only[BJ,Xs]at h;split at h
  ·simp only[tt]at h;obtain⟨_,_,rfl⟩:=h;simp [Io.cat]at hc
  ·cases h
 case insert t mm kk x=>
  simp only[BJ,Xs]at h;split at h
  ·simp only[tt]at h;obtain⟨_,_,rfl⟩:=h;simp [Io.cat]at hc
  ·cases h
 case range t x=>
  simp only[BJ]at h;split at h
  ·cases h;simp [Io.cat]at hc
  ·cases h;simp [Io.cat]at hc
  ·cases h
 case next x b=>
  cases b with
  |false=>
   simp only[BJ]at h;cases hx:Az x with
   |none=>simp [hx]at h
   |some x'=>simp [hx]at h;subst h;simp [Io.cat]at hc
  |true=>
   simp only[BJ]at h;cases hx:Az x with
   |none=>simp [hx]at h
   |some x'=>simp [hx]at h;subst h;simp [Io.cat]at hc
 case entry x=>
  simp only[BJ]at h;cases hx:Az x with
  |none=>simp [hx]at h
  |some x'=>simp [hx]at h;subst h;simp [Io.cat]at hc
 case convert sT dT x=>
  simp only[BJ]at h;split at h
  ·cases hx:Az x with
   |none=>simp [hx]at h
   |some x'=>simp [hx]at h;subst h;simp [Io.cat]at hc
  ·cases h1:CW P mkv (.convert sT dT x)with
   |none=>simp [h1]at h
   |some k'=>simp [h1]at h;subst h;cases k'<;>simp [Io.cat]at hc
 case binOp bo t X Y yt=>
  cases bo<;>cases Y<;>first
   |exact(other rfl).elim
   |(simp only[BJ]at h
     split at h
     ·simp only[tt]at h;obtain⟨_,_,rfl⟩:=h;simp [Io.cat]at hc
     ·split at h
      ·grind [Option.map_eq_some_iff,Io.cat]
      ·simp only[tt]at h;obtain⟨k',_,rfl⟩:=h;cases k'<;>simp [Io.cat]at hc
     done)
   |exact(other (by simp only[BJ])).elim
 case typeAssert x xt t ok=>
  simp only[BJ]at h;split at h
  ·cases h
  ·split at h
   ·cases h;simp [Io.cat]at hc
   ·cases h
 all_goals exact(other (by first|rfl|simp [BJ])).elim
theorem IX{base:Nat}{cx:Nat->Fs}{ρ ρ':zz->Fs}:∀(f:Nat) (k:Io),(∀a∈k.wH,ρ a=ρ' a)->Bp base cx ρ f k->Bp base cx ρ' f k
 |0,_,_,_=>trivial
 |1,.v (.ld _ _ a),h,q=>by simp only[Bp]at q⊢;rw[<-h a (by simp [Io.wH,xx.wH])];exact q
 |2,.st _ a _,h,q=>by simp only[Bp]at q⊢;rw[<-h a (by simp [Io.wH])];exact q
 |f+3,.v k,h,q=>by
  cases k with
  |ld sz ag a=>simp only[Bp]at q⊢;rw[<-h a (by simp [Io.wH,xx.wH])];exact q
  |_=>simp only[Bp]at q
 |f+3,.st _ a _,h,q=>by simp only[Bp]at q⊢;rw[<-h a (by simp [Io.wH])];exact q
 |f+3,.pick ..,_,q|f+3,.alloc ..,_,q|f+3,.box ..,_,q|f+3,.app ..,_,q|f+3,.mks ..,_,q|f+3,.call true ..,_,q|f+3,.xM ..,_,q|f+3,.slA ..,_,q|f+3,.ext ..,_,q|f+3,.yM ..,_,q|f+3,.nils ..,_,q|f+3,.cpu ..,_,q|f+3,.mnx ..,_,q=>by simp only[Bp]at q
 |f+3,.call false ..,_,q=>by simp only[Bp]at q⊢;exact q
 |2,.yM ..,_,q=>trivial
 |1,.pick ..,_,q|1,.alloc ..,_,q|1,.box ..,_,q|1,.app ..,_,q|1,.mks ..,_,q|1,.call ..,_,q|1,.xM ..,_,q|1,.st ..,_,q=>by simp only[Bp]at q
 |2,.v k,h,q=>by
  cases k with
  |ld sz ag a=>simp only[Bp]at q⊢;rw[<-h a (by simp [Io.wH,xx.wH])];exact q
  |_=>simp only[Bp]at q
 |2,.pick ..,_,q|2,.alloc ..,_,q|2,.box ..,_,q|2,.app ..,_,q|2,.mks ..,_,q|2,.call ..,_,q|2,.xM ..,_,q=>by simp only[Bp]at q
 |1,.v k,h,q=>by
  cases k with
  |ld sz ag a=>simp only[Bp]at q⊢;rw[<-h a (by simp [Io.wH,xx.wH])];exact q
  |_=>simp only[Bp]at q
def Sy{H:AB}{id sz:Nat}{ag:Bool}{ob:x9}{a:Fs}(h:¬ER id a):A7 (wB H id ob) sz ag a=A7 H sz ag a:=by
 cases a<;>try rfl
 ·rename_i i off;simp only[A7,AA _ _ _ _ (λe=>h (Eq.symm e))]
 ·rename_i i esz j off;simp only[A7,AA _ _ _ _ (λe=>h (Eq.symm e))]
def Nu{base id:Nat}{a b:Fs}(h1:JG base a)(h2:ER id a)(h3:G8 base b):¬ER id b:=by
 intro h4;have e1:base<=id:=by cases a<;>simp only[JG,ER]at h1 h2<;>omega
 have e2:id<base:=by cases b<;>simp only[G8,ER]at h3 h4<;>omega
 omega
section
variable {P:Program} {Qp:Fs->AB->Nat->Prop} {base:Nat} {cx:Nat->Fs} {kp:List Nat}
variable {o y:xq} {s:AS} {K:AS->Prop} {a:Fs} {ag:Bool} {sz f base m:Nat} {x:Nat×xq} {ax:zz}
theorem Nv{a x:zz}(hk:o.k= .st sz a x)(h:Af P Qp base o K s):
  ∃H' g v,K ({s with H:=H'}.put o.dst g v)/\(∀K2:AS->Prop,K2 ({s with H:=H'}.put o.dst g v)->Af P Qp base o K2 s)/\(o.guard=none->g=true)/\
   (H'=s.H\/(Bl s.env o.guard=true/\∃id ob,ER id (AY s.env a)/\H'=wB s.H id ob)):=by
 obtain⟨dst,guard,k⟩:=o;simp only at hk;subst hk;obtain⟨h0,h1⟩:=h;simp only at h1;by_cases hg:Bl s.env guard=true
 ·obtain⟨p0,p1,p2,p3⟩:=h1.1 hg;have fin:∀(H':AB) (id:Nat) (ob:x9),ER id (AY s.env a)->H'=wB s.H id ob->K ({s with H:=H'}.put dst true (.wJ []))->
    (∀K2:AS->Prop,K2 ({s with H:=H'}.put dst true (.wJ []))->BS P Qp base ⟨dst,guard,.st sz a x⟩ K2 s)->_:=λH' id ob q1 q2 q3 q4=>
   (⟨H',true,.wJ [],q3,λK2 hk=>⟨h0,λ_=>⟨p0,q4 K2 hk⟩,λq=>by rw[hg]at q;cases q⟩,λ_=>rfl,.inr ⟨hg,id,ob,q1,q2⟩⟩:
    ∃H' g v,K ({s with H:=H'}.put dst g v)/\(∀K2:AS->Prop,K2 ({s with H:=H'}.put dst g v)->Af P Qp base ⟨dst,guard,.st sz a x⟩ K2 s)/\(guard=none->g=true)/\
     (H'=s.H\/(Bl s.env guard=true/\∃id ob,ER id (AY s.env a)/\H'=wB s.H id ob)))
  generalize hav:AY s.env a=av at p3 fin;cases av<;>(try simp only[]at p3)<;>first|exact p3.elim|skip
  ·split at p3
   ·rename_i id off _ cs hh;refine fin _ id _ rfl rfl p3.2 λK2 hk=>⟨p1,p2,?_⟩
    simp only[hav,hh];exact⟨p3.1,hk⟩
   ·exact p3.elim
  ·split at p3
   ·rename_i id esz i off _ e l hh;obtain⟨r1,r2,r3,r5⟩:=p3;refine fin _ id _ rfl rfl r5 λK2 hk=>⟨p1,p2,?_⟩
    simp only[hav,hh];exact⟨r1,r2,r3,hk⟩
   ·exact p3.elim
 ·have hg:Bl s.env guard=false:=by simpa using hg
  exact⟨s.H,false,.wJ [],h1.2 hg,λK2 hk=>⟨h0,λq=>(by rw[hg]at q;cases q),λ_=>hk⟩,λq=>(by subst q;cases hg),.inl rfl⟩
theorem KH{d:Option Nat}{g:Bool}{v:Fs}{a:zz}(h:∀i,d=some i->a≠ .t i):AY (s.put d g v).env a=AY s.env a:=by
 cases a with
 |c v=>rfl
 |t i=>simp only[AY,lk];rw[GH,sg (λe=>h i e rfl)]
theorem bc{x:xq}{sz':Nat}{ay vy0:zz}(hxk:x.k= .v (.ld sz ag ax))(hyk:y.k= .st sz' ay vy0)(yC:Apart x y)(kx:Ey kp x)(ky:Ey kp y)
  (s8:Bl s.env x.guard=true->Bl s.env y.guard=true->∀id,ER id (AY s.env ay)->¬ER id (AY s.env ax)) (hK:∀a b,OX kp a b->K a->K b)
  (h:Af P Qp base x (Af P Qp base y K) s):Af P Qp base y (Af P Qp base x K) s:=by
 have hx1:x.k.cat=1:=by rw[hxk];rfl
 obtain⟨H',gx,vx,hy,hre,hgx,yA,-,-⟩:=Eb (by rw[hx1];decide) h;have eH:=yA (.inr (.inl hx1));subst eH;have ndst:∀d,x.dst=some d->y.dst≠some d:=λd hd=>(yC.xy d hd).2.2
 have zf:∀{s:AS} {H:AB} {g:Bool} {v:Fs},Fw y ({s with H:=H}.put x.dst g v).env s.env:=λ{s H g v}=>DU (s:={s with H:=H}) (λi e=>⟨(yC.xy i e).1,(yC.xy i e).2.1⟩)
 have yQ:∀{s:AS} {H:AB} {n:Nat} {g:Bool} {v:Fs},Fw x s.env ({s with H:=H,n:=n}.put y.dst g v).env:=λ{s H n g v}=>(DU (s:={s with H:=H,n:=n}) (yC.yx)).symm
 obtain⟨H2,gy,vy,hk,hreY,hgy,hS⟩:=Nv hyk hy;refine Ci zf (by rw[Bw]) (by rw[EI]) (λH n g v v' hv _ hg he=>?_) (hreY (λs'=>s'=({s.put x.dst gx vx with H:=H2}:AS).put y.dst gy vy) rfl);have e1:H=H2:=by have:=congrArg AS.H he;rwa[Bw,Bw]at this
 subst e1;rw[<-he]at hk;have:=hre (λs'=>s'=s.put x.dst gx vx) rfl;refine D6 (.inr (.inl hx1)) (yQ (s:=s) (H:=H) (n:=n)) (λq1 _=>?_) (λg2 v2 v2' hv2 hg2 he2=>?_) this
 ·rw[Bw,EI];have ex:AY (({s with H:=H,n:=n}:AS).put y.dst g v').env ax=AY s.env ax:=KH (s:={s with H:=H,n:=n}) (λi e=>λe'=>(yC.yx i e).1 (by rw[hxk,e'];simp [Io.wH,xx.wH]));rw[<-Ea (yQ (s:=s) (H:=H) (n:=n) (g:=g) (v:=v'))]at q1;unfold Gt;rw[hxk];show(A7 s.H sz ag _).1->A7 s.H sz ag _=A7 H sz ag _;intro _;rw[ex];rcases hS with e|⟨p1,id,ob,p2,p3⟩
  ·rw[e,Bw]
  ·rw[p3,Bw,Sy];have ey:AY (s.put x.dst gx vx).env ay=AY s.env ay:=KH (λi e=>λe'=>(yC.xy i e).1 (by rw[hyk,e'];simp [Io.wH]));rw[ey]at p2;have gy':Bl s.env y.guard=true:=by rw[<-Ea (zf (s:=s) (H:=s.H) (g:=gx) (v:=vx))];exact p1
   exact s8 q1 gy' _ p2
 ·refine hK _ _ (HB ndst hv2 hv (kx.held hg2) (ky.held hg)) ?_;rw[IV s,he2];exact hk
theorem be{x:xq}{sz':Nat}{ay vy0:zz}(hxk:x.k= .st sz' ax vy0)(hyk:y.k= .v (.ld sz ag ay))(yC:Apart x y)(kx:Ey kp x)(ky:Ey kp y)
  (s8:Bl s.env x.guard=true->Bl s.env y.guard=true->∀id,ER id (AY s.env ax)->¬ER id (AY s.env ay)) (hK:∀a b,OX kp a b->K a->K b)
  (h:Af P Qp base x (Af P Qp base y K) s):Af P Qp base y (Af P Qp base x K) s:=by
 have hy1:y.k.cat=1:=by rw[hyk];rfl
 obtain⟨H',gx,vx,hy,hre,hgx,hS⟩:=Nv hxk h;have ndst:∀d,x.dst=some d->y.dst≠some d:=λd hd=>(yC.xy d hd).2.2
 have zf:∀{s:AS} {H:AB} {g:Bool} {v:Fs},Fw y ({s with H:=H}.put x.dst g v).env s.env:=λ{s H g v}=>DU (s:={s with H:=H}) (λi e=>⟨(yC.xy i e).1,(yC.xy i e).2.1⟩)
 have yQ:∀{s:AS} {H:AB} {n:Nat} {g:Bool} {v:Fs},Fw x s.env ({s with H:=H,n:=n}.put y.dst g v).env:=λ{s H n g v}=>(DU (s:={s with H:=H,n:=n}) (yC.yx)).symm
 refine D6 (.inr (.inl hy1)) zf (λhgy hoy=>?_) (λgy vy vy' hvy hgy hk=>?_) hy
 ·rw[Bw,EI];unfold Gt;rw[hyk];show(A7 H' sz ag (AY s.env ay)).1->A7 H' sz ag (AY s.env ay)=A7 s.H sz ag (AY s.env ay);intro _;rcases hS with e|⟨p1,id,ob,p2,p3⟩
  ·rw[e]
  ·rw[p3,Sy];exact s8 p1 hgy _ p2
 ·have:=hre (λs'=>s'={s with H:=H'}.put x.dst gx vx) rfl;refine Ci (yQ (s:=s) (H:=s.H) (n:=s.n)) (by rw[Bw]) (by rw[EI]) (λH n g v v' hv _ hg he=>?_) this;have e1:({s.put y.dst gy vy' with H:=H,n:=n}:AS).put x.dst g v'=(({s with H:=H,n:=n}:AS).put y.dst gy vy').put x.dst g v':=by cases y.dst<;>rfl
  rw[e1];refine hK _ _ ?_ hk;rw[<-he];exact HB ndst hv hvy (kx.held hg) (ky.held hgy)
theorem Sz{H:AB}{n:Nat}{d:Option Nat}{g:Bool}{v:Fs}(h:∀i,d=some i->zz.t i∉o.k.wH/\∀w,o.guard≠some (i,w)):
  G9 base cx f o ({s with H:=H,n:=n}.put d g v)↔G9 base cx f o s:=by
 have hl:Fw o ({s with H:=H,n:=n}.put d g v).env s.env:=DU (s:={s with H:=H,n:=n}) h;have hg:=Ea hl;have ha:∀a∈o.k.wH,AY ({s with H:=H,n:=n}.put d g v).env a=AY s.env a:=λa hm=>KH (s:={s with H:=H,n:=n}) (λi e e'=>(h i e).1 (e'▸hm))
 unfold G9;rw[hg];exact⟨λq e=>IX f o.k ha (q e),λq e=>IX f o.k (λa hm=>(ha a hm).symm) (q e)⟩
theorem HT(h:WS x=true):x.1=1/\∃sz ag a,x.2.k= .v (.ld sz ag a):=by
 obtain⟨f,d,g,k⟩:=x;unfold WS at h;simp only[sf,vz]at h;refine⟨h.1,?_⟩;cases k with
 |v k=>cases k with
  |ld sz ag a=>exact⟨_,_,_,rfl⟩
  |_=>exact absurd h.2 zw
 |_=>exact absurd h.2 zw
theorem Ez(h:WT x=true):x.1=2/\∃sz a v,x.2.k= .st sz a v:=by
 obtain⟨f,d,g,k⟩:=x;unfold WT at h;simp only[sf,vz]at h;refine⟨h.1,?_⟩;cases k with
 |st sz a v=>exact⟨_,_,_,rfl⟩
 |_=>exact absurd h.2 zw
theorem D7(h:Sb x=true):∃m,x.1=m+3/\∃sz ag a,x.2.k= .v (.ld sz ag a):=by
 obtain⟨f,d,g,k⟩:=x;unfold Sb at h;simp only[sf,Nat.ble_eq]at h;refine⟨f-3,by simp only;omega,?_⟩;cases k with
 |v k=>cases k with
  |ld sz ag a=>exact⟨_,_,_,rfl⟩
  |_=>exact absurd h.2 zw
 |_=>exact absurd h.2 zw
theorem E4(h:WU x=true):∃m,x.1=m+3/\∃sz a v,x.2.k= .st sz a v:=by
 obtain⟨f,d,g,k⟩:=x;unfold WU at h;simp only[sf,Nat.ble_eq]at h;refine⟨f-3,by simp only;omega,?_⟩;cases k with
 |st sz a v=>exact⟨_,_,_,rfl⟩
 |_=>exact absurd h.2 zw
theorem S0{x y:Nat}(h:fw x y=true):(x≠y/\x<=1002/\y<=1002)\/(1003<=x/\x % 2=1/\y=x+1)\/(1003<=y/\y % 2=1/\x=y+1)\/(x≠y/\1003<=x/\x<=300002/\x % 2=1/\1003<=y/\y<=300002/\y % 2=1):=by
 unfold fw at h;simp only[sQ,sf,bne_iff_ne,Nat.ble_eq,vz]at h;omega
theorem bh{x y:Nat}(h:fw x y=true):fw y x=true:=by
 have:=S0 h;unfold fw;simp only[sQ,sf,bne_iff_ne,Nat.ble_eq,vz];omega
theorem KI(h:Qt x=true):∃m,x.1=m+3/\300000<=m/\m % 2=0/\∃f xs,x.2.k= .call false f xs:=by
 obtain⟨f,d,g,k⟩:=x;unfold Qt at h;simp only[sf,Nat.ble_eq,vz]at h;refine⟨f-3,by simp only;omega,zo,zo,?_⟩;cases k with
 |call q f xs=>cases q with
  |true=>exact absurd h.2 zw
  |false=>exact⟨_,_,rfl⟩
 |_=>exact absurd h.2 zw
theorem Uk{id:Nat}(h1:Pg base cx m a)(h2:ER id a):Rj base cx m id:=by
 cases a<;>simp only[Pg,ER]at h1 h2
 ·subst h2;exact h1
 ·subst h2;exact h1.2
theorem oU{m':Nat}{i:Nat}(k1:Rj base cx m i)(k2:Rj base cx m' i)(s8:fw (m+3) (m'+3)=true):False:=by
 have hk:=S0 s8;have pair:∀a:Nat,1000<=a->a % 2=0->Rj base cx a i->Rj base cx (a+1) i->False:=by
  intro a h0 h1 q1 q2;unfold Rj at q1 q2;by_cases hb:a<300000
  ·grind
  ·grind
 rcases hk with⟨h1,h2,h3⟩|⟨h1,h2,h3⟩|⟨h1,h2,h3⟩|⟨h1,h2,h3,h4,h5,h6,h7⟩
 ·unfold Rj at k1 k2;rw[sn zo]at k1 k2;omega
 ·grind
 ·grind
 ·unfold Rj at k1 k2;rw[sg zo,sn zo,sn zo]at k1 k2;omega
theorem S1{id m':Nat}{b:Fs}(h1:Pg base cx m a)(h2:ER id a)(h3:Pg base cx m' b)(s8:fw (m+3) (m'+3)=true):¬ER id b:=
 λh4=>oU (Uk h1 h2) (Uk h3 h4) s8
theorem JZ(h:bJ x=true):x.1=2/\∃sz ag a,x.2.k= .v (.ld sz ag a):=by
 obtain⟨f,d,g,k⟩:=x;unfold bJ at h;simp only[sf,vz]at h;refine⟨h.1,?_⟩;cases k with
 |v k=>cases k with
  |ld sz ag a=>exact⟨_,_,_,rfl⟩
  |_=>exact absurd h.2 zw
 |_=>exact absurd h.2 zw
theorem Nw(h:bK x=true):x.1=2/\∃rel esz bytes z a v str,x.2.k= .yM rel esz bytes z a v str:=by
 obtain⟨f,d,g,k⟩:=x;unfold bK at h;simp only[sf,vz]at h;refine⟨h.1,?_⟩;cases k with
 |yM rel esz bytes z a v str=>exact⟨_,_,_,_,_,_,_,rfl⟩
 |_=>exact absurd h.2 zw
theorem HU{k:Io}{H H':AB}(h:k.cat≠5):Fo cx f k H H':=by
 unfold Fo;split
 ·exact absurd rfl h
 ·exact absurd rfl h
 ·trivial
theorem oV{x:xq}(hxk:x.k= .v (.ld sz ag ax))(yC:Apart x y)(kx:Ey kp x)(ky:Ey kp y)
  (s8:Bl s.env x.guard=true->∀s',K s'->(A7 s.H sz ag (AY s.env ax)).1->A7 s.H sz ag (AY s.env ax)=A7 s'.H sz ag (AY s.env ax)) (hK:∀a b,OX kp a b->K a->K b)
  (h:Af P Qp base x (Af P Qp base y K) s):Af P Qp base y (Af P Qp base x K) s:=by
 have hx1:x.k.cat=1:=by rw[hxk];rfl
 obtain⟨H',gx,vx,hy,hre,hgx,yA,-,-⟩:=Eb (by rw[hx1];decide) h;have eH:=yA (.inr (.inl hx1));subst eH;have ndst:∀d,x.dst=some d->y.dst≠some d:=λd hd=>(yC.xy d hd).2.2
 have zf:∀{s:AS} {H:AB} {g:Bool} {v:Fs},Fw y ({s with H:=H}.put x.dst g v).env s.env:=λ{s H g v}=>DU (s:={s with H:=H}) (λi e=>⟨(yC.xy i e).1,(yC.xy i e).2.1⟩)
 have yQ:∀{s:AS} {H:AB} {n:Nat} {g:Bool} {v:Fs},Fw x s.env ({s with H:=H,n:=n}.put y.dst g v).env:=λ{s H n g v}=>(DU (s:={s with H:=H,n:=n}) (yC.yx)).symm
 refine Ci zf (by rw[Bw]) (by rw[EI]) (λH n g v v' hv _ hg hk=>?_) hy;have:=hre (λs'=>s'=s.put x.dst gx vx) rfl;refine D6 (.inr (.inl hx1)) (yQ (s:=s) (H:=H) (n:=n)) (λq1 _=>?_) (λg2 v2 v2' hv2 hg2 he2=>?_) this
 ·rw[Bw,EI];have ex:AY (({s with H:=H,n:=n}:AS).put y.dst g v').env ax=AY s.env ax:=KH (s:={s with H:=H,n:=n}) (λi e=>λe'=>(yC.yx i e).1 (by rw[hxk,e'];simp [Io.wH,xx.wH]));rw[<-Ea (yQ (s:=s) (H:=H) (n:=n) (g:=g) (v:=v'))]at q1;unfold Gt;rw[hxk];show(A7 s.H sz ag _).1->A7 s.H sz ag _=A7 H sz ag _;rw[ex];intro q;have:=s8 q1 _ hk q;rw[Bw]at this;exact this
 ·refine hK _ _ (HB ndst hv2 hv (kx.held hg2) (ky.held hg)) ?_;rw[IV s,he2];exact hk
theorem oW{x:xq}(hxk:x.k= .v (.ld sz ag ax))(yC:Apart x y)(kx:Ey kp x)(ky:Ey kp y)
  (s8:Bl s.env x.guard=true->∀id,ER id (AY s.env ax)->¬ER id a) (hK:∀a b,OX kp a b->K a->K b) (hkeep:∀s',K s'->IR a s.H s'.H)
  (h:Af P Qp base x (Af P Qp base y K) s):Af P Qp base y (Af P Qp base x K) s:=by
 have hx1:x.k.cat=1:=by rw[hxk];rfl
 obtain⟨H',gx,vx,hy,hre,hgx,yA,-,-⟩:=Eb (by rw[hx1];decide) h;have eH:=yA (.inr (.inl hx1));subst eH;have ndst:∀d,x.dst=some d->y.dst≠some d:=λd hd=>(yC.xy d hd).2.2
 have zf:∀{s:AS} {H:AB} {g:Bool} {v:Fs},Fw y ({s with H:=H}.put x.dst g v).env s.env:=λ{s H g v}=>DU (s:={s with H:=H}) (λi e=>⟨(yC.xy i e).1,(yC.xy i e).2.1⟩)
 have yQ:∀{s:AS} {H:AB} {n:Nat} {g:Bool} {v:Fs},Fw x s.env ({s with H:=H,n:=n}.put y.dst g v).env:=λ{s H n g v}=>(DU (s:={s with H:=H,n:=n}) (yC.yx)).symm
 refine Ci zf (by rw[Bw]) (by rw[EI]) (λH n g v v' hv _ hg hk=>?_) hy;have hkp:=hkeep _ hk;rw[Bw]at hkp;have:=hre (λs'=>s'=s.put x.dst gx vx) rfl;refine D6 (.inr (.inl hx1)) (yQ (s:=s) (H:=H) (n:=n)) (λq1 _=>?_) (λg2 v2 v2' hv2 hg2 he2=>?_) this
 ·rw[Bw,EI];have ex:AY (({s with H:=H,n:=n}:AS).put y.dst g v').env ax=AY s.env ax:=KH (s:={s with H:=H,n:=n}) (λi e=>λe'=>(yC.yx i e).1 (by rw[hxk,e'];simp [Io.wH,xx.wH]));rw[<-Ea (yQ (s:=s) (H:=H) (n:=n) (g:=g) (v:=v'))]at q1;unfold Gt;rw[hxk];show(A7 s.H sz ag _).1->A7 s.H sz ag _=A7 H sz ag _;rw[ex];intro q;have hn:=s8 q1;have hd:=Nt q;generalize AY s.env ax=av at q hn hd;cases av<;>try rfl
  ·rename_i i off;simp only[A7,hkp i (hn i rfl) hd]
  ·rename_i i esz j off;simp only[A7,hkp i (hn i rfl) hd]
 ·refine hK _ _ (HB ndst hv2 hv (kx.held hg2) (ky.held hg)) ?_;rw[IV s,he2];exact hk
theorem swapX{y:Nat×xq}(yC:Apart x.2 y.2)(wV:Sc x y=true)(kx:Ey kp x.2)(ky:Ey kp y.2)(hrel:x.2.k.cat=2->y.2.k.cat=2->Hu x.2.k≠Hu y.2.k)(hsafe:Pz y.2 s)(hK:∀a b,OX kp a b->K a->K b)
  (hc5:x.2.k.cat≠5)
  (h:Lx P Qp base cx x (Lx P Qp base cx y K) s):Lx P Qp base cx y (Lx P Qp base cx x K) s:=by
 obtain⟨fx,x⟩:=x;obtain⟨fy,y⟩:=y;obtain⟨sx,h⟩:=h;simp only at*;have hyx:∀i,y.dst=some i->zz.t i∉x.k.wH/\∀w,x.guard≠some (i,w):=λi e=>yC.yx i e
 have xH:∀i,x.dst=some i->zz.t i∉y.k.wH/\∀w,y.guard≠some (i,w):=λi e=>⟨(yC.xy i e).1,(yC.xy i e).2.1⟩
 have hx01:y.k.cat=5->x.k.cat=0\/x.k.cat=1:=by
  intro e;unfold Sc at wV;rw[sQ,sQ,sQ,sQ,sQ,sQ]at wV;simp only[sf]at wV;rcases wV with(((((q|q)|q)|q)|q)|q)|q
  ·grind [FU]
  ·obtain⟨-,_,_,_,e2⟩:=Ez q.2;rw[e2]at e;cases e
  ·obtain⟨-,_,_,_,e2⟩:=HT q.2;rw[e2]at e;cases e
  ·obtain⟨_,-,_,_,_,e2⟩:=E4 q.2;rw[e2]at e;cases e
  ·obtain⟨_,-,_,_,_,e2⟩:=D7 q.2;rw[e2]at e;cases e
  ·obtain⟨_,-,_,_,_,e2⟩:=D7 q.1.1;right;simp only at e2;rw[e2];rfl
  ·obtain⟨-,_,_,_,e2⟩:=JZ q.1;right;simp only at e2;rw[e2];rfl
 let Ky:AS->Prop:=λs2=>Fo cx fy y.k s.H s2.H/\K s2
 have hKy:∀a b,OX kp a b->Ky a->Ky b:=λa b e q=>⟨by rw[<-e.2.1];exact q.1,hK a b e q.2⟩
 obtain⟨sy,h'⟩:G9 base cx fy y s/\Af P Qp base x (Af P Qp base y Ky) s:=by
  obtain⟨H',g,v,k1,hre,-,yA,-,-⟩:=Eb hc5 h;refine⟨(Sz (H:=H') (n:=s.n) xH).1 k1.2.1,hre _ (Gc (λs2 k=>⟨?_,k.2⟩) k1.2.2)⟩;by_cases e:y.k.cat=5
  ·grind [Bw]
  ·exact HU e
 have fin:Af P Qp base y (Af P Qp base x Ky) s->Lx P Qp base cx (fy,y) (Lx P Qp base cx (fx,x) K) s:=λq=>
  ⟨sy,Ci (s:=s) ⟨λ_ _=>Oo.rfl' _,λ_ _ _=>Oo.rfl' _⟩ rfl rfl (λH n g v v' h1 h2 h3 h4=>by
   rw[<-h2 rfl];refine⟨?_,(Sz (H:=H) (n:=n) hyx).2 sx,Gc (λs' k=>⟨HU hc5,k.2⟩) h4⟩;by_cases e:y.k.cat=5
   ·obtain⟨H',g',v',k1,-,-,yA,-,-⟩:=Eb hc5 h4;have eH:=yA ((hx01 e).imp id .inl);have:=k1.1;rw[Bw,eH]at this;exact this
   ·exact HU e) q⟩
 unfold Sc at wV;rw[sQ,sQ,sQ,sQ,sQ,sQ]at wV;rcases wV with(((((wV|wV)|wV)|wV)|wV)|wV)|wV
 ·exact fin (swap yC wV kx ky hrel hsafe hKy h')
 ·rw[sf]at wV;obtain⟨e1,sz,ag,a,e2⟩:=HT wV.1;obtain⟨e3,sz',a',v',e4⟩:=Ez wV.2;simp only at e1 e2 e3 e4;unfold G9 at sx sy;rw[e1,e2]at sx;rw[e3,e4]at sy;exact fin (bc e2 e4 yC kx ky (λqx qy _ p=>Nu (sy qy) p (sx qx)) hKy h')
 ·rw[sf]at wV;obtain⟨e1,sz,a,v,e2⟩:=Ez wV.1;obtain⟨e3,sz',ag,a',e4⟩:=HT wV.2;simp only at e1 e2 e3 e4;unfold G9 at sx sy;rw[e1,e2]at sx;rw[e3,e4]at sy;exact fin (be e2 e4 yC kx ky (λqx qy _ p=>Nu (sx qx) p (sy qy)) hKy h')
 ·rw[sf,sf]at wV;obtain⟨m,e1,sz,ag,a,e2⟩:=D7 wV.1.2;obtain⟨m',e3,sz',a',v',e4⟩:=E4 wV.2;have s8:=wV.1.1;simp only at e1 e2 e3 e4 s8;rw[e1,e3]at s8;unfold G9 at sx sy;rw[e1,e2]at sx;rw[e3,e4]at sy;exact fin (bc e2 e4 yC kx ky (λqx qy _ p=>S1 (sy qy) p (sx qx) (bh s8)) hKy h')
 ·rw[sf,sf]at wV;obtain⟨m,e1,sz,a,v,e2⟩:=E4 wV.1.2;obtain⟨m',e3,sz',ag,a',e4⟩:=D7 wV.2;have s8:=wV.1.1;simp only at e1 e2 e3 e4 s8;rw[e1,e3]at s8;unfold G9 at sx sy;rw[e1,e2]at sx;rw[e3,e4]at sy;exact fin (be e2 e4 yC kx ky (λqx qy _ p=>S1 (sx qx) p (sy qy) s8) hKy h')
 ·rw[sf,sf]at wV;obtain⟨m,e1,sz,ag,a,e2⟩:=D7 wV.1.1;obtain⟨m',e3,hm1,yh,f,xs,e4⟩:=KI wV.1.2;have hmm:m=m'+1:=by simp_all
  subst hmm;simp only at e1 e2 e3 e4;unfold G9 at sx;rw[e1,e2]at sx;refine fin (oW (a:=cx ((m'-300000)/2)) e2 yC kx ky (λqx id p q=>?_) hKy (λs' k=>?_) h')
  ·have h1:Rj base cx (m'+1) id:=Uk (sx qx) p;unfold Rj at h1;rw[sg zo,sg zo,sg zo,show(m'+1-300000)/2=(m'-300000)/2 by omega]at h1;exact h1 q
  ·have:=k.1;rw[e3,e4]at this;exact this
 ·rw[sf]at wV;obtain⟨e1,sz,ag,a,e2⟩:=JZ wV.1;obtain⟨e3,rel,esz,bytes,z,a',v',str,e4⟩:=Nw wV.2;simp only at e1 e2 e3 e4;unfold G9 at sx;rw[e1,e2]at sx;refine fin (oV e2 yC kx ky (λqx s' k q=>?_) hKy h');have hp:fo (AY s.env a):=sx qx;have hk:=k.1;rw[e3,e4]at hk;have hk':Qn s.H s'.H:=hk;generalize AY s.env a=av at q hp;cases av<;>simp only[fo]at hp;rename_i i off;simp only[A7]at q⊢;split at q
  ·rename_i cs hh;rw[hk' i cs hh]
  ·exact q.elim
theorem YF{a b:AS}(h:OX kp a b)(hs:G9 base cx f o a)(hh:Af P Qp base o K a):G9 base cx f o b:=by
 have hl:Fw o a.env b.env:=⟨λi _=>(h.1 i).1,λi _ _=>(h.1 i).1⟩;intro hg;rw[<-Ea hl]at hg;have hs:=hs hg;have key:C2 a.env o.k.wH\/Bp base cx (AY b.env) f o.k:=by
  obtain⟨dst,guard,k⟩:=o;obtain⟨h0,h1⟩:=hh;cases k with
  |v k=>exact .inl (h1.1 hg).1
  |st sz a x=>exact .inl (h1.1 hg).1
  |call q g xs=>match f,q with
   |0,_=>exact .inr zt
   |1,_|2,_|f+3,true=>simp only[Bp]at hs
   |f+3,false=>exact .inr hs
  |yM rel esz bytes z x y str=>match f with
   |0=>exact .inr zt
   |2=>exact .inr zt
   |1|f+3=>simp only[Bp]at hs
  |_=>match f with
   |0=>exact .inr zt
   |1|2|f+3=>simp only[Bp]at hs
 rcases key with ok|q
 ·exact IX f o.k (λx hx=>(EZ hl hx).2 (KF ok x hx)) hs
 ·exact q
theorem P1(hK:∀a b,OX kp a b->K a->K b):∀(L:List (Nat×xq)),(∀x∈L,Ey kp x.2)->∀a b,OX kp a b->JT P Qp base cx L K a->JT P Qp base cx L K b
 |[],_,a,b,h,hh=>hK a b h hh
 |x::L,hk,a,b,h,hh=>⟨YF h hh.1 hh.2,Ci (s1:=a) (s:=b) ⟨λi _=>(h.1 i).1,λi _ _=>(h.1 i).1⟩ h.2.1 h.2.2
   (λH n g v v' hv _ hg q=>⟨by have:=q.1;rw[Bw,h.2.1]at this;rw[Bw];exact this,P1 hK L (λy hy=>hk y (tM _ hy)) _ _ (h.put hv ((hk x (tu ..)).held hg)) q.2⟩) hh.2⟩
theorem Ul{y:Nat×xq}{B:List (Nat×xq)}(ky:Ey kp y.2)(hB:∀x∈B,Ey kp x.2)(hK:∀a b,OX kp a b->K a->K b):∀(A:List (Nat×xq)) (s:AS),
  (∀x∈A,Apart x.2 y.2/\Sc x y=true/\Ey kp x.2/\(x.2.k.cat=2->y.2.k.cat=2->Hu x.2.k≠Hu y.2.k))->Pz y.2 s->
  JT P Qp base cx (A++y::B) K s->Lx P Qp base cx y (JT P Qp base cx (A++B) K) s
 |[],_,_,_,h=>h
 |x::A,s,hA,hs,h=>by
  obtain⟨yC,wV,kx,hrel⟩:=hA x (tu ..);have hxc5:x.2.k.cat≠5:=by
   intro e;unfold Sc at wV;rw[e]at wV;have h0:FU 5 y.2.k.cat=false:=by cases hy:y.2.k.cat<;>simp [FU]
   rw[h0,ub,sQ,sQ,sQ,sQ,sQ]at wV;simp only[sf]at wV;rcases wV with((((q|q)|q)|q)|q)|q
   ·obtain⟨-,sz,ag,a,e2⟩:=HT q.1;rw[e2]at e;cases e
   ·obtain⟨-,sz,a,v,e2⟩:=Ez q.1;rw[e2]at e;cases e
   ·obtain⟨m,-,sz,ag,a,e2⟩:=D7 q.1.2;rw[e2]at e;cases e
   ·obtain⟨m,-,sz,a,v,e2⟩:=E4 q.1.2;rw[e2]at e;cases e
   ·obtain⟨m,-,sz,ag,a,e2⟩:=D7 q.1.1;rw[e2]at e;cases e
   ·obtain⟨-,sz,ag,a,e2⟩:=JZ q.1;rw[e2]at e;cases e
  obtain⟨sx,hx⟩:=h;obtain⟨H',gx,vx,⟨-,h1⟩,hre,-,yA,hH2,hH4⟩:=Eb hxc5 hx;have wr:Pz y.2 ({s with H:=H'}.put x.2.dst gx vx):=by
   intro sz ag ad e s9;have hy1:y.2.k.cat=1:=by rw[e];rfl
   have xh:lk ({s with H:=H'}.put x.2.dst gx vx).env ad=lk s.env ad:=by
    cases ad with
    |c v=>rfl
    |t i=>
     simp only[lk];rw[GH,sg (λq=>(yC.xy i q).1 (by rw[e];simp [Io.wH,xx.wH]))]
   have wv:AY ({s with H:=H'}.put x.2.dst gx vx).env ad=AY s.env ad:=by simp only[AY,xh]
   rw[wv,Bw];rw[xh]at s9;have h0:=hs sz ag ad e s9;by_cases wX:∃sz a v,x.2.k= .st sz a v
   ·obtain⟨sz',a',v',ex⟩:=wX;obtain⟨H2,g2,v2,-,hre2,-,hS⟩:=Nv ex hx;have e5:=Nv ex (hre2 (λs'=>s'=({s with H:=H2}:AS).put x.2.dst g2 v2) rfl);obtain⟨H3,g3,v3,k3,-,-,hS3⟩:=Nv ex (hre (λs'=>s'=({s with H:=H'}:AS).put x.2.dst gx vx) rfl);have e6:H3=H':=by have:=congrArg AS.H k3;rwa[Bw,Bw]at this
    subst e6;refine K8 (H:=s.H) (λid s5=>?_) h0;rcases hS3 with e|⟨_,i,ob,_,e⟩
    ·rw[e];exact s5
    ·rw[e];exact GI s5
   ·have hcat':FU x.2.k.cat y.2.k.cat=true:=by
     unfold Sc at wV;rw[sQ,sQ,sQ,sQ,sQ,sQ]at wV;simp only[sf]at wV;rcases wV with(((((q|q)|q)|q)|q)|q)|q
     ·exact q
     ·obtain⟨-,sz',a',v',e2⟩:=Ez q.2;rw[e2]at e;cases e
     ·obtain⟨-,sz',a',v',e2⟩:=Ez q.1;exact absurd ⟨_,_,_,e2⟩ wX
     ·obtain⟨m,-,sz',a',v',e2⟩:=E4 q.2;rw[e2]at e;cases e
     ·obtain⟨m,-,sz',a',v',e2⟩:=E4 q.1.2;exact absurd ⟨_,_,_,e2⟩ wX
     ·obtain⟨m,-,-,-,f',xs',e2⟩:=KI q.1.2;rw[e2]at e;cases e
     ·obtain⟨-,rel,esz,bytes,z,a',v',str,e2⟩:=Nw q.2;rw[e2]at e;cases e
    refine K8 (H:=s.H) (λid s5=>?_) h0;rw[hy1]at hcat';have hxc:(x.2.k.cat=0\/x.2.k.cat=1\/x.2.k.cat=3)\/x.2.k.cat=2\/x.2.k.cat=4:=by grind [FU]
    rcases hxc with e|e|e
    ·rw[yA e];exact s5
    ·rcases hH2 e with rfl|⟨i,ob,p1,rfl⟩
     ·exact s5
     ·exact GI s5
    ·rcases hH4 e with rfl|⟨tok,i,p1,p2,rfl⟩
     ·exact s5
     ·refine GI ?_;cases tok<;>first|exact s5|exact GI s5
  have h2:=Ul ky hB hK A _ (λz hz=>hA z (tM _ hz)) wr h1;have hAB:∀z∈A++B,Ey kp z.2:=λz hz=>(tP.1 hz).elim (λq=>(hA z (tM _ q)).2.2.1) (hB z)
  exact swapX yC wV kx ky hrel hs (P1 hK (A++B) hAB) hxc5 ⟨sx,hre _ ⟨HU hxc5,h2⟩⟩
end
def DI(ops:Array Oper)(listed:Array Bool):List Nat:=(List.range ops.size).filter λi=>!listed.getD i true
def FW(l:List xq)(L:List Nat):List xq:=L.map (CX l)
def S2(l:List xq):FW l (List.range l.length)=l:=by
 apply List.ext_getElem
 ·simp [FW]
 ·intro i h1 h2;simp [FW,CX,h2]
def Ec(l:List xq):Bool:=l.any λo=>o.k.news
section
variable {P:Program} {r:Option Nat} {m N lo:Nat} {g0:q8} {H0:AB} {w0:World} {D:DP} {ops:Array Oper} {l:List xq} {mkv imp:List Nat}
variable {Qp:Fs->AB->Nat->Prop} {base:Nat} {kp:List Nat} {Qc:Exit->Act->World->Prop}
variable {K:AS->Prop} {listed:Array Bool} {i:Nat}
theorem Mk{Kc:Act->World->Prop}{s:AS}{a:Act}{w:World}(hl:Ol P N lo ops mkv imp ops.toList 0=some l)(hlo:D.lo<=lo)(hi:i<ops.size)(hstep:Af P Qp base (CX l i) K s)
  (hsim:Em m g0 H0 w0 N D s a w) (hb:m<=base) (xV:Ec l=true->base+ops.size<=s.n)
  (hK:∀s' a' w',K s'->Em m g0 H0 w0 N D s' a' w'->s.n<=s'.n->Kc a' w')
  (hQ:∀v H' n' chain a' w',Qp v H' n'->On m g0 H0 w0 D a'.defers a'.tmps v H' n' chain w'->Qc (.panic chain) a' w'):wpOpIn (FR r) 0 P ops Qc i Kc a w:=by
 obtain⟨h1,h2⟩:=EJ _ _ _ hl;have ho:ops[i]?=some ops[i]:=by simp [hi]
 obtain⟨gd,k,q1,q2,q3,q4⟩:=h2 i ops[i] (by simp [hi]);rw[tx]at q3;have e:CX l i=⟨ops[i].dst,gd,k⟩:=by simp [CX,q1]
 rw[e]at hstep;refine Nq ho q2 q3 hstep hsim hb (λhc=>?_) (λd e=>⟨(q4 d e).1,sX hlo (q4 d e).2⟩) hK hQ;have:Ec l=true:=by
  unfold Ec;rw[vf];refine⟨_,sZ q1,?_⟩;exact hc
 have:=xV this;omega
theorem P2(hl:Ol P N lo ops mkv imp ops.toList 0=some l)(hlo:D.lo<=lo)(hb:m<=base)
  (hQ:∀v H' n' chain a' w',Qp v H' n'->On m g0 H0 w0 D a'.defers a'.tmps v H' n' chain w'->Qc (.panic chain) a' w')
  (hK:∀s' a' w',K s'->Em m g0 H0 w0 N D s' a' w'->Qc .normal a' w'):
  ∀(L:List Nat) (s:AS) (a:Act) (w:World),(∀i∈L,i<ops.size)->D4 P Qp base (FW l L) K s->Em m g0 H0 w0 N D s a w->(Ec l=true->base+ops.size<=s.n)->
   wpOpsIn (FR r) 0 P ops Qc L a w
 |[],s,a,w,_,h,hs,_=>by simp only[wpOpsIn];exact hK s a w h hs
 |i::L,s,a,w,hi,h,hs,xV=>by
  rw[wpOpsIn_cons];refine Mk hl hlo (hi i (tu ..)) (K:=D4 P Qp base (FW l L) K) h hs hb xV (λs' a' w' hk hs' hn=>?_) hQ;exact P2 hl hlo hb hQ hK L s' a' w' (λj hj=>hi j (tM _ hj)) hk hs' (λq=>sX (xV q) hn)
def Ml(ops:Array Oper)(listed:Array Bool):Prop:=∀(j:Nat) (o:Oper),listed.getD j false=true->ops[j]?=some o->∀e∈o.after,Region.binds .any e=true->listed.getD e.on false=true
theorem KJ{α:Type}{f:α->Nat}{x:Nat}:∀(l:List α) (m:Nat),(l.foldl (λm e=>m|||f e) m).testBit x=true->m.testBit x=true\/∃e∈l,(f e).testBit x=true
 |[],m,h=>.inl h
 |a::l,m,h=>by
  rcases KJ l _ h with h|⟨e,he,h⟩
  ·grind
  ·exact .inr ⟨e,tM _ he,h⟩
theorem Um{acc:List Nat}{o:Oper}{x:Nat}(h:(JV acc o).testBit x=true):∃e∈o.after,Region.binds .any e=true/\(x=e.on\/(acc.getD e.on 0).testBit x=true):=by
 unfold JV at h;have e1:(λ(m:Nat) (e:Edge)=>m|||(1<<<e.on)|||acc.getD e.on 0)=λm e=>m|||((1<<<e.on)|||acc.getD e.on 0):=by
  funext m e;rw[Nat.or_assoc]
 rw[e1]at h;rcases KJ _ _ h with h|⟨e,he,h⟩
 ·simp at h
 ·simp only[tV,vQ]at he;refine⟨e,he.1,he.2,?_⟩;rw[Nat.testBit_or,sQ]at h;rcases h with h|h
  ·simp_all [Nat.one_shiftLeft,Nat.testBit_two_pow]
  ·exact .inr h
def Un(ops:List Oper)(ms:List Nat):Prop:=∀k x,(ms.getD k 0).testBit x=true->∃o,ops[k]?=some o/\∃e∈o.after,Region.binds .any e=true/\(x=e.on\/(e.on<k/\(ms.getD e.on 0).testBit x=true))
theorem S3:∀(r pre:List Oper) (acc:List Nat),acc.length=pre.length->Un (pre++r) acc->Un (pre++r) (IS r acc)
 |[],pre,acc,_,h=>h
 |o::r,pre,acc,hl,h=>by
  have e:pre++o::r=(pre++[o])++r:=zw
  rw[e]at h⊢;refine S3 r (pre++[o]) (acc++[JV acc o]) (by simp [hl]) ?_;intro k x hb;have old:∀j,j<acc.length->(acc++[JV acc o]).getD j 0=acc.getD j 0:=λj hj=>by
   simp [uK,tQ hj]
  by_cases hk:k<acc.length
  ·rw[old k hk]at hb;obtain⟨o',h1,e',h2,h3,h4⟩:=h k x hb;refine⟨o',h1,e',h2,h3,h4.imp id λ⟨a,b⟩=>⟨a,by rw[old _ zo];exact b⟩⟩
  ·by_cases so:k=acc.length
   ·subst so;have e2:(acc++[JV acc o]).getD acc.length 0=JV acc o:=by simp [uK]
    rw[e2]at hb;obtain⟨e',h2,h3,h4⟩:=Um hb;refine⟨o,by rw[hl];simp,e',h2,h3,h4.imp id λb=>?_⟩;have e9:e'.on<acc.length:=by
     apply Nat.lt_of_not_le;intro hge;rw[uK,uG hge]at b;simp at b
    exact⟨e9,by rw[old _ e9];exact b⟩
   ·exfalso;rw[uK,uG (by simp;omega)]at hb;simp at hb
theorem IY(hc:Ml ops listed):∀(k:Nat),(∀o,ops[k]?=some o->∀e∈o.after,Region.binds .any e=true->listed.getD e.on false=true)->∀x,((IS ops.toList []).getD k 0).testBit x=true->listed.getD x false=true:=by
 have hm:Un ops.toList (IS ops.toList []):=S3 ops.toList [] [] rfl (λk x h=>by simp at h);intro k;induction k using Nat.strongRecOn with
 |_ k ih=>
  intro hi x hb;obtain⟨o,h1,e,h2,h3,h4⟩:=hm k x hb;have ho:ops[k]?=some o:=by simpa using h1
  have hl:=hi o ho e h2 h3;rcases h4 with rfl|⟨e9,h4⟩
  ·exact hl
  ·exact ih e.on e9 (λo' ho'=>hc e.on o' hl ho') x h4
theorem B5:i∈DI ops listed↔i<ops.size/\listed.getD i true=false:=by
 simp [DI]
theorem Gd(listed:Array Bool):(DI ops listed).Pairwise (· < ·):=List.Pairwise.filter _ vo
theorem S4(hi:i<listed.size):DI ops (listed.setIfInBounds i true)=(DI ops listed).filter (· !=i):=by
 unfold DI;rw[List.filter_filter];apply List.filter_congr;intro j hj;by_cases h:i=j
 ·subst h;simp [hi]
 ·rw[getD_set_ne true h];simp [Ne.symm h]
theorem KK{A B:List Nat}(h:(A++i::B).Pairwise (· < ·)):(A++i::B).filter (· !=i)=A++B/\∀x∈A,x<i:=by
 rw[List.pairwise_append]at h;obtain⟨_,h2,h3⟩:=h;rw[uQ]at h2;refine⟨?_,λx hx=>h3 x hx i (tu ..)⟩;rw[uh,tE];simp only[bne_self_eq_false,sN,sY];congr 1
 ·apply uX.2;intro x hx;have:=h3 x hx i (tu ..);simp;omega
 ·apply uX.2;intro x hx;have:=h2.1 x hx;simp;omega
theorem Uo(hl:Ol P N lo ops mkv imp ops.toList 0=some l)(hlo:D.lo<=lo)(hd:UW ops l=true)(hkp:∀x∈l,Ey kp x)(hKr:∀a b,OX kp a b->K a->K b)(hb:m<=base)
  (hQ:∀v H' n' chain a' w',Qp v H' n'->On m g0 H0 w0 D a'.defers a'.tmps v H' n' chain w'->Qc (.panic chain) a' w')
  (hK:∀s' a' w',K s'->Em m g0 H0 w0 N D s' a' w'->Qc .normal a' w'):
  ∀(fuel:Nat) (listed:Array Bool) (s:AS) (a:Act) (w:World),(DI ops listed).length=fuel->listed.size=ops.size->Ml ops listed->D4 P Qp base (FW l (DI ops listed)) K s->Em m g0 H0 w0 N D s a w->
   (Ec l=true->base+ops.size<=s.n)->wpAnyIn (FR r) 0 P .any ops Qc fuel listed a w:=by
 obtain⟨hlen,zg⟩:=EJ _ _ _ hl;have hlen:l.length=ops.size:=by rw[hlen,tq]
 unfold UW WR at hd;rw[sf,sf]at hd;obtain⟨⟨hed,hld⟩,hd⟩:=hd;have xK:∀i,i<ops.size->CX l i∈l:=λi hi=>by
  have z9:i<l.length:=zo
  simp [CX,z9]
 have zh:∀listed:Array Bool,Region.ready .any ops listed=[]->listed.size=ops.size->DI ops listed=[]:=by
  intro listed hr xG;cases hrem:DI ops listed with
  |nil=>rfl
  |cons i B=>
   exfalso;have hi:i∈DI ops listed:=by rw[hrem];exact tu ..
   obtain⟨hi1,hi2⟩:=B5.1 hi;have:i∈Region.ready .any ops listed:=by
    refine mem_ready.2 ⟨hi2,ops[i],by simp [hi1],λe he hbd=>?_⟩;unfold Mj at hed;rw[sE]at hed;have h1:=hed i (tF.2 hi1);have ho:ops[i]?=some ops[i]:=by simp [hi1]
    rw[ho]at h1;simp only[sE,vQ]at h1;have h2:=h1 e he;rw[hbd]at h2;simp only[sa,ub,si]at h2;by_cases h3:listed.getD e.on false=true
    ·exact h3
    ·exfalso;have h4:e.on∈DI ops listed:=B5.2 ⟨zo,by
      have:e.on<listed.size:=zo
      simp [this]at h3⊢;exact h3⟩
     rw[hrem]at h4;have hs:=Gd (ops:=ops) listed;rw[hrem,uQ]at hs;rcases tg.1 h4 with h5|h5
     ·omega
     ·have:=hs.1 _ h5;omega
   rw[hr]at this;cases this
 intro fuel;induction fuel with
 |zero=>
  intro listed s a w hf xG hc h hs xV;have Ak:DI ops listed=[]:=tZ.1 hf;refine⟨?_,?_⟩
  ·cases hr:Region.ready .any ops listed with
   |nil=>rfl
   |cons i B=>
    have hi:i∈Region.ready .any ops listed:=by rw[hr];exact tu ..
    obtain⟨h1,o,h2,-⟩:=mem_ready.1 hi;have:i∈DI ops listed:=B5.2 ⟨(sW.1 h2).1,h1⟩;rw[Ak]at this;cases this
  ·rw[Ak]at h;exact hK s a w h hs
 |succ fuel ih=>
  intro listed s a w hf xG hc h hs xV;refine⟨λhr=>?_,λi hi=>?_⟩
  ·rw[zh listed hr xG]at hf;cases hf
  ·obtain⟨h1,o,h2,hedge⟩:=mem_ready.1 hi;have hi1:i<ops.size:=(sW.1 h2).1;have hir:i∈DI ops listed:=B5.2 ⟨hi1,h1⟩;obtain⟨A,B,hAB⟩:=List.append_of_mem hir;have hsort:=Gd (ops:=ops) listed;rw[hAB]at hsort;obtain⟨wW,e9⟩:=KK hsort;have wB:DI ops (listed.setIfInBounds i true)=A++B:=by rw[S4 zo,hAB,wW]
   have hanc:∀x,((IS ops.toList []).getD i 0).testBit x=true->listed.getD x false=true:=IY hc i (λo' ho'=>by rw[h2]at ho';cases ho';exact hedge);have hlti:i<l.length:=zo
   have l9:=kD (P:=P) (Qp:=Qp) (base:=base) (y:=CX l i) (B:=FW l B) (K:=K) (kp:=kp) (hkp _ (xK i hi1))
    (λx hx=>by
     obtain⟨j,hj,rfl⟩:=tn.1 hx;exact hkp _ (xK j (B5.1 (show j∈DI ops listed by rw[hAB];simp [hj])).1)) hKr (FW l A) s
    (λx hx=>by
     obtain⟨j,hj,rfl⟩:=tn.1 hx;have hji:=e9 j hj;obtain⟨hj1,hj2⟩:=B5.1 (show j∈DI ops listed by rw[hAB];simp [hj]);rw[sE]at hd;have hd1:=hd i (tF.2 hlti);rw[sE]at hd1;have hd2:=hd1 j (tF.2 hji);have hltj:j<l.length:=zo
     have e1:l[j]?=some (CX l j):=by simp [CX,hltj]
     have e2:l[i]?=some (CX l i):=by simp [CX,hlti]
     rw[e1,e2]at hd2;simp only[sQ,sf]at hd2;rcases hd2 with⟨d1,d2⟩|d3
     ·refine⟨IW d1,d2,hkp _ (xK j hj1),λc1 c2=>?_⟩;obtain⟨gd,k,q1,q2,q3,q4⟩:=zg i ops[i] (by simp [hi1]);obtain⟨gd',k',q1',q2',q3',q4'⟩:=zg j ops[j] (by simp [hj1]);have e3:CX l i=⟨ops[i].dst,gd,k⟩:=by simp [CX,q1]
      have e4:CX l j=⟨ops[j].dst,gd',k'⟩:=by simp [CX,q1']
      rw[e3]at c2⊢;rw[e4]at c1⊢;have r1:=HC q3 c2;have r2:=HC q3' c1;simp only[r1,r2];omega
     ·exfalso;have:=hanc j d3;have hjs:j<listed.size:=zo
      simp [hjs]at this hj2;rw[this]at hj2;cases hj2)
    (by
     intro sz ag ad e s9;have hld1:Qs (CX l i)=true:=(sE.1 hld) _ (xK i hi1);obtain⟨g,hR,hE,-⟩:=hs;cases ad with
     |c v=>
      unfold Qs at hld1;rw[e]at hld1;simp only[AY,lk];cases v<;>first|trivial|(simp at hld1;done)
     |t t=>
      simp only[lk,AY]at s9⊢;cases hg:BI s.env t with
      |none=>simp [hg]at s9
      |some gv=>
       obtain⟨gd,v⟩:=gv;simp only[hg]at s9⊢;obtain⟨x,-,p2,-⟩:=hE t gd v hg;have hv:=p2 s9;cases v<;>first|trivial|skip
       ·obtain⟨L,q1,-⟩:=hv;exact(hR.yJ _ _ q1).1
       ·obtain⟨L,q1,-⟩:=hv;exact(hR.yJ _ _ q1).1)
    (by
     have e:FW l A++CX l i::FW l B=FW l (DI ops listed):=by rw[hAB];simp [FW]
     rw[e];exact h)
   have e2:FW l A++FW l B=FW l (DI ops (listed.setIfInBounds i true)):=by rw[wB];simp [FW]
   rw[e2]at l9;refine Mk hl hlo hi1 l9 hs hb xV (λs' a' w' hk hs' hn=>?_) hQ;refine ih _ s' a' w' ?_ (by simp [xG]) ?_ hk hs' (λq=>sX (xV q) hn)
   ·rw[wB];rw[hAB]at hf;simp at hf⊢;omega
   ·intro j o' hj ho' e he hbd;by_cases hij:i=j
    ·subst hij;rw[h2]at ho';cases ho';exact getD_set_true (hedge e he hbd)
    ·rw[getD_set_ne false hij]at hj;exact getD_set_true (hc j o' hj ho' e he hbd)
def Gu(ord:List Nat)(listed:Array Bool):List Nat:=ord.filter λi=>!listed.getD i true
theorem L7{p:Nat->Nat->Bool}:∀{l:List Nat},J8 p l=true->l.Pairwise λj i=>p j i=true
 |[],_=>List.Pairwise.nil
 |j::r,h=>by
  simp only[J8,sf,sE]at h;exact uQ.2 ⟨h.1,L7 h.2⟩
theorem bj{ord:List Nat}(hi:i<listed.size):Gu ord (listed.setIfInBounds i true)=(Gu ord listed).filter (· !=i):=by
 unfold Gu;rw[List.filter_filter];apply List.filter_congr;intro j hj;by_cases h:i=j
 ·subst h;simp [hi]
 ·rw[getD_set_ne true h];simp [Ne.symm h]
theorem bk{R:Nat->Nat->Prop}(hR:∀x y,R x y->x≠y){A B:List Nat}(h:(A++i::B).Pairwise R):(A++i::B).filter (· !=i)=A++B/\∀x∈A,R x i:=by
 rw[List.pairwise_append]at h;obtain⟨_,h2,h3⟩:=h;rw[uQ]at h2;refine⟨?_,λx hx=>h3 x hx i (tu ..)⟩;rw[uh,tE];simp only[bne_self_eq_false,sN,sY];congr 1
 ·simp_all
 ·apply uX.2;intro x hx;have:=hR _ _ (h2.1 x hx);simpa using λe=>this e.symm
theorem L8{ops:Array Oper}{T:List Nat}:∀(S seen:List Nat),Nf ops seen (S++i::T)=true->∀o,ops[i]?=some o->∀e∈o.after,Region.binds .any e=true->e.on∈S\/e.on∈seen
 |[],seen,h,o,ho,e,he,hb=>by
  simp only[sI,Nf,sf,ho,sE,vQ]at h;have:=h.1 e he;rw[hb]at this;exact .inr (by simpa using this)
 |j::S,seen,h,o,ho,e,he,hb=>by
  simp only[sJ,Nf,sf]at h;rcases L8 S (j::seen) h.2 o ho e he hb with q|q
  ·exact .inl (by simp [q])
  ·grind
theorem S5{fz:List (Nat×Nat)}{cx:Nat->Fs}(hl:Ol P N lo ops mkv imp ops.toList 0=some l)(hlo:D.lo<=lo)(hd:Qu fz ops l=true)(hkp:∀x∈l,Ey kp x)(hKr:∀a b,OX kp a b->K a->K b)(hb:m<=base)
  (hQ:∀v H' n' chain a' w',Qp v H' n'->On m g0 H0 w0 D a'.defers a'.tmps v H' n' chain w'->Qc (.panic chain) a' w')
  (hK:∀s' a' w',K s'->Em m g0 H0 w0 N D s' a' w'->Qc .normal a' w'):
  ∀(fuel:Nat) (listed:Array Bool) (s:AS) (a:Act) (w:World),(DI ops listed).length=fuel->listed.size=ops.size->Ml ops listed->JT P Qp base cx (Ly fz l (DI ops listed)) K s->Em m g0 H0 w0 N D s a w->
   (Ec l=true->base+ops.size<=s.n)->wpAnyIn (FR r) 0 P .any ops Qc fuel listed a w:=by
 obtain⟨hlen,zg⟩:=EJ _ _ _ hl;have hlen:l.length=ops.size:=by rw[hlen,tq]
 unfold Qu Sd at hd;rw[sf,sf]at hd;obtain⟨⟨hed,hld⟩,hd⟩:=hd;have xK:∀i,i<ops.size->CX l i∈l:=λi hi=>by
  have z9:i<l.length:=zo
  simp [CX,z9]
 have zh:∀listed:Array Bool,Region.ready .any ops listed=[]->listed.size=ops.size->DI ops listed=[]:=by
  intro listed hr xG;cases hrem:DI ops listed with
  |nil=>rfl
  |cons i B=>
   exfalso;have hi:i∈DI ops listed:=by rw[hrem];exact tu ..
   obtain⟨hi1,hi2⟩:=B5.1 hi;have:i∈Region.ready .any ops listed:=by
    refine mem_ready.2 ⟨hi2,ops[i],by simp [hi1],λe he hbd=>?_⟩;unfold Mj at hed;rw[sE]at hed;have h1:=hed i (tF.2 hi1);have ho:ops[i]?=some ops[i]:=by simp [hi1]
    rw[ho]at h1;simp only[sE,vQ]at h1;have h2:=h1 e he;rw[hbd]at h2;simp only[sa,ub,si]at h2;by_cases h3:listed.getD e.on false=true
    ·exact h3
    ·exfalso;have h4:e.on∈DI ops listed:=B5.2 ⟨zo,by
      have:e.on<listed.size:=zo
      simp [this]at h3⊢;exact h3⟩
     rw[hrem]at h4;have hs:=Gd (ops:=ops) listed;rw[hrem,uQ]at hs;rcases tg.1 h4 with h5|h5
     ·omega
     ·have:=hs.1 _ h5;omega
   rw[hr]at this;cases this
 intro fuel;induction fuel with
 |zero=>
  intro listed s a w hf xG hc h hs xV;have Ak:DI ops listed=[]:=tZ.1 hf;refine⟨?_,?_⟩
  ·cases hr:Region.ready .any ops listed with
   |nil=>rfl
   |cons i B=>
    have hi:i∈Region.ready .any ops listed:=by rw[hr];exact tu ..
    obtain⟨h1,o,h2,-⟩:=mem_ready.1 hi;have:i∈DI ops listed:=B5.2 ⟨(sW.1 h2).1,h1⟩;rw[Ak]at this;cases this
  ·rw[Ak]at h;exact hK s a w h hs
 |succ fuel ih=>
  intro listed s a w hf xG hc h hs xV;refine⟨λhr=>?_,λi hi=>?_⟩
  ·rw[zh listed hr xG]at hf;cases hf
  ·obtain⟨h1,o,h2,hedge⟩:=mem_ready.1 hi;have hi1:i<ops.size:=(sW.1 h2).1;have hir:i∈DI ops listed:=B5.2 ⟨hi1,h1⟩;obtain⟨A,B,hAB⟩:=List.append_of_mem hir;have hsort:=Gd (ops:=ops) listed;rw[hAB]at hsort;obtain⟨wW,e9⟩:=KK hsort;have wB:DI ops (listed.setIfInBounds i true)=A++B:=by rw[S4 zo,hAB,wW]
   have hanc:∀x,((IS ops.toList []).getD i 0).testBit x=true->listed.getD x false=true:=IY hc i (λo' ho'=>by rw[h2]at ho';cases ho';exact hedge);have hlti:i<l.length:=zo
   have l9:=Ul (P:=P) (Qp:=Qp) (base:=base) (cx:=cx) (y:=(J7 fz (J6 l) (CX l i),CX l i)) (B:=Ly fz l B) (K:=K) (kp:=kp) (hkp _ (xK i hi1))
    (λx hx=>by
     obtain⟨j,hj,rfl⟩:=tn.1 hx;exact hkp _ (xK j (B5.1 (show j∈DI ops listed by rw[hAB];simp [hj])).1)) hKr (Ly fz l A) s
    (λx hx=>by
     obtain⟨j,hj,rfl⟩:=tn.1 hx;have hji:=e9 j hj;obtain⟨hj1,hj2⟩:=B5.1 (show j∈DI ops listed by rw[hAB];simp [hj]);rw[sE]at hd;have hd1:=hd i (tF.2 hlti);rw[sE]at hd1;have hd2:=hd1 j (tF.2 hji);have hltj:j<l.length:=zo
     have e1:l[j]?=some (CX l j):=by simp [CX,hltj]
     have e2:l[i]?=some (CX l i):=by simp [CX,hlti]
     rw[e1,e2]at hd2;simp only[sQ,sf]at hd2;rcases hd2 with⟨d1,d2⟩|d3
     ·refine⟨IW d1,d2,hkp _ (xK j hj1),λc1 c2=>?_⟩;obtain⟨gd,k,q1,q2,q3,q4⟩:=zg i ops[i] (by simp [hi1]);obtain⟨gd',k',q1',q2',q3',q4'⟩:=zg j ops[j] (by simp [hj1]);have e3:CX l i=⟨ops[i].dst,gd,k⟩:=by simp [CX,q1]
      have e4:CX l j=⟨ops[j].dst,gd',k'⟩:=by simp [CX,q1']
      rw[e3]at c2⊢;rw[e4]at c1⊢;have r1:=HC q3 c2;have r2:=HC q3' c1;simp only[r1,r2];omega
     ·exfalso;have:=hanc j d3;have hjs:j<listed.size:=zo
      simp [hjs]at this hj2;rw[this]at hj2;cases hj2)
    (by
     intro sz ag ad e s9;have hld1:Qs (CX l i)=true:=(sE.1 hld) _ (xK i hi1);obtain⟨g,hR,hE,-⟩:=hs;cases ad with
     |c v=>
      unfold Qs at hld1;rw[e]at hld1;simp only[AY,lk];cases v<;>first|trivial|(simp at hld1;done)
     |t t=>
      simp only[lk,AY]at s9⊢;cases hg:BI s.env t with
      |none=>simp [hg]at s9
      |some gv=>
       obtain⟨gd,v⟩:=gv;simp only[hg]at s9⊢;obtain⟨x,-,p2,-⟩:=hE t gd v hg;have hv:=p2 s9;cases v<;>first|trivial|skip
       ·obtain⟨L,q1,-⟩:=hv;exact(hR.yJ _ _ q1).1
       ·obtain⟨L,q1,-⟩:=hv;exact(hR.yJ _ _ q1).1)
    (by
     have e:Ly fz l A++(J7 fz (J6 l) (CX l i),CX l i)::Ly fz l B=Ly fz l (DI ops listed):=by rw[hAB];simp [Ly]
     rw[e];exact h)
   have e2:Ly fz l A++Ly fz l B=Ly fz l (DI ops (listed.setIfInBounds i true)):=by rw[wB];simp [Ly]
   rw[e2]at l9;refine Mk hl hlo hi1 l9.2 hs hb xV (λs' a' w' hk hs' hn=>?_) hQ;refine ih _ s' a' w' ?_ (by simp [xG]) ?_ hk.2 hs' (λq=>sX (xV q) hn)
   ·rw[wB];rw[hAB]at hf;simp at hf⊢;omega
   ·intro j o' hj ho' e he hbd;by_cases hij:i=j
    ·subst hij;rw[h2]at ho';cases ho';exact getD_set_true (hedge e he hbd)
    ·rw[getD_set_ne false hij]at hj;exact getD_set_true (hc j o' hj ho' e he hbd)
theorem S6{fz:List (Nat×Nat)}{ord:List Nat}{cx:Nat->Fs}(hl:Ol P N lo ops mkv imp ops.toList 0=some l)(hlo:D.lo<=lo)(hd:Ng fz ord ops l=true)(hkp:∀x∈l,Ey kp x)(hKr:∀a b,OX kp a b->K a->K b)(hb:m<=base)
  (hQ:∀v H' n' chain a' w',Qp v H' n'->On m g0 H0 w0 D a'.defers a'.tmps v H' n' chain w'->Qc (.panic chain) a' w')
  (hK:∀s' a' w',K s'->Em m g0 H0 w0 N D s' a' w'->Qc .normal a' w'):
  ∀(fuel:Nat) (listed:Array Bool) (s:AS) (a:Act) (w:World),(Gu ord listed).length=fuel->listed.size=ops.size->Ml ops listed->JT P Qp base cx (Ly fz l (Gu ord listed)) K s->Em m g0 H0 w0 N D s a w->
   (Ec l=true->base+ops.size<=s.n)->wpAnyIn (FR r) 0 P .any ops Qc fuel listed a w:=by
 obtain⟨hlen,zg⟩:=EJ _ _ _ hl;have hlen:l.length=ops.size:=by rw[hlen,tq]
 unfold Ng at hd;simp only[sf]at hd;obtain⟨⟨⟨⟨⟨-,ho1⟩,ho2⟩,hld⟩,hed⟩,hd⟩:=hd;have xJ:∀i,i∈ord↔i<ops.size:=λi=>⟨λh=>by simpa using(sE.1 ho1) i h,λh=>by simpa using(sE.1 ho2) i (tF.2 h)⟩
 have hpw:=L7 hd;have B5:∀{listed:Array Bool} {i:Nat},i∈Gu ord listed↔i<ops.size/\listed.getD i true=false:=λ{listed i}=>by simp [Gu,xJ]
 have xK:∀i,i<ops.size->CX l i∈l:=λi hi=>by
  have z9:i<l.length:=zo
  simp [CX,z9]
 have zh:∀listed:Array Bool,Region.ready .any ops listed=[]->listed.size=ops.size->Gu ord listed=[]:=by
  intro listed hr xG;cases hrem:Gu ord listed with
  |nil=>rfl
  |cons i B=>
   exfalso;have hi:i∈Gu ord listed:=by rw[hrem];exact tu ..
   obtain⟨hi1,hi2⟩:=B5.1 hi;have:i∈Region.ready .any ops listed:=by
    refine mem_ready.2 ⟨hi2,ops[i],by simp [hi1],λe he hbd=>?_⟩;obtain⟨S,T,hST,hS,-,-⟩:=List.filter_eq_cons_iff.1 hrem;have h1:=L8 S [] (by rw[hST]at hed;exact hed) ops[i] (by simp [hi1]) e he hbd;simp only[ve,vZ]at h1;have h2:listed.getD e.on true=true:=by simpa using hS _ h1
    have h3:e.on<listed.size:=by rw[xG];exact(xJ _).1 (by rw[hST];simp [h1])
    simp [h3]at h2⊢;exact h2
   rw[hr]at this;cases this
 intro fuel;induction fuel with
 |zero=>
  intro listed s a w hf xG hc h hs xV;have Ak:Gu ord listed=[]:=tZ.1 hf;refine⟨?_,?_⟩
  ·cases hr:Region.ready .any ops listed with
   |nil=>rfl
   |cons i B=>
    have hi:i∈Region.ready .any ops listed:=by rw[hr];exact tu ..
    obtain⟨h1,o,h2,-⟩:=mem_ready.1 hi;have:i∈Gu ord listed:=B5.2 ⟨(sW.1 h2).1,h1⟩;rw[Ak]at this;cases this
  ·rw[Ak]at h;exact hK s a w h hs
 |succ fuel ih=>
  intro listed s a w hf xG hc h hs xV;refine⟨λhr=>?_,λi hi=>?_⟩
  ·rw[zh listed hr xG]at hf;cases hf
  ·obtain⟨h1,o,h2,hedge⟩:=mem_ready.1 hi;have hi1:i<ops.size:=(sW.1 h2).1;have hir:i∈Gu ord listed:=B5.2 ⟨hi1,h1⟩;obtain⟨A,B,hAB⟩:=List.append_of_mem hir;have hsort:(Gu ord listed).Pairwise λj i=>WV fz l (IS ops.toList []) j i=true:=hpw.filter _
   rw[hAB]at hsort;obtain⟨wW,e9⟩:=bk (λx y h=>by unfold WV at h;rw[sf]at h;simpa using h.1) hsort;have wB:Gu ord (listed.setIfInBounds i true)=A++B:=by rw[bj zo,hAB,wW]
   have hanc:∀x,((IS ops.toList []).getD i 0).testBit x=true->listed.getD x false=true:=IY hc i (λo' ho'=>by rw[h2]at ho';cases ho';exact hedge);have hlti:i<l.length:=zo
   have l9:=Ul (P:=P) (Qp:=Qp) (base:=base) (cx:=cx) (y:=(J7 fz (J6 l) (CX l i),CX l i)) (B:=Ly fz l B) (K:=K) (kp:=kp) (hkp _ (xK i hi1))
    (λx hx=>by
     obtain⟨j,hj,rfl⟩:=tn.1 hx;exact hkp _ (xK j (B5.1 (show j∈Gu ord listed by rw[hAB];simp [hj])).1)) hKr (Ly fz l A) s
    (λx hx=>by
     obtain⟨j,hj,rfl⟩:=tn.1 hx;obtain⟨hj1,hj2⟩:=B5.1 (show j∈Gu ord listed by rw[hAB];simp [hj]);have hd2:=e9 j hj;have hltj:j<l.length:=zo
     have e1:l[j]?=some (CX l j):=by simp [CX,hltj]
     have e2:l[i]?=some (CX l i):=by simp [CX,hlti]
     unfold WV at hd2;rw[sf,e1,e2]at hd2;have hji:j≠i:=by simpa using hd2.1
     replace hd2:=hd2.2;simp only[sQ,sf]at hd2;rcases hd2 with⟨d1,d2⟩|d3
     ·refine⟨IW d1,d2,hkp _ (xK j hj1),λc1 c2=>?_⟩;obtain⟨gd,k,q1,q2,q3,q4⟩:=zg i ops[i] (by simp [hi1]);obtain⟨gd',k',q1',q2',q3',q4'⟩:=zg j ops[j] (by simp [hj1]);have e3:CX l i=⟨ops[i].dst,gd,k⟩:=by simp [CX,q1]
      have e4:CX l j=⟨ops[j].dst,gd',k'⟩:=by simp [CX,q1']
      rw[e3]at c2⊢;rw[e4]at c1⊢;have r1:=HC q3 c2;have r2:=HC q3' c1;simp only[r1,r2];omega
     ·exfalso;have:=hanc j d3;have hjs:j<listed.size:=zo
      simp [hjs]at this hj2;rw[this]at hj2;cases hj2)
    (by
     intro sz ag ad e s9;have hld1:Qs (CX l i)=true:=(sE.1 hld) _ (xK i hi1);obtain⟨g,hR,hE,-⟩:=hs;cases ad with
     |c v=>
      unfold Qs at hld1;rw[e]at hld1;simp only[AY,lk];cases v<;>first|trivial|(simp at hld1;done)
     |t t=>
      simp only[lk,AY]at s9⊢;cases hg:BI s.env t with
      |none=>simp [hg]at s9
      |some gv=>
       obtain⟨gd,v⟩:=gv;simp only[hg]at s9⊢;obtain⟨x,-,p2,-⟩:=hE t gd v hg;have hv:=p2 s9;cases v<;>first|trivial|skip
       ·obtain⟨L,q1,-⟩:=hv;exact(hR.yJ _ _ q1).1
       ·obtain⟨L,q1,-⟩:=hv;exact(hR.yJ _ _ q1).1)
    (by
     have e:Ly fz l A++(J7 fz (J6 l) (CX l i),CX l i)::Ly fz l B=Ly fz l (Gu ord listed):=by rw[hAB];simp [Ly]
     rw[e];exact h)
   have e2:Ly fz l A++Ly fz l B=Ly fz l (Gu ord (listed.setIfInBounds i true)):=by rw[wB];simp [Ly]
   rw[e2]at l9;refine Mk hl hlo hi1 l9.2 hs hb xV (λs' a' w' hk hs' hn=>?_) hQ;refine ih _ s' a' w' ?_ (by simp [xG]) ?_ hk.2 hs' (λq=>sX (xV q) hn)
   ·rw[wB];rw[hAB]at hf;simp at hf⊢;omega
   ·intro j o' hj ho' e he hbd;by_cases hij:i=j
    ·grind
    ·rw[getD_set_ne false hij]at hj;exact getD_set_true (hc j o' hj ho' e he hbd)
end
def QM(m:Nat)(g0:q8)(H0:AB)(w0:World)(N:Nat)(D:DP)(Q:x6->AS->Prop):Exit->Act->World->Prop
 | .normal,a,w=>∃s,Q .normal s/\Em m g0 H0 w0 N D s a w
 | .exit i,a,w=>∃s,Q (.exit i) s/\Em m g0 H0 w0 N D s a w
 | .ret,a,w=>∃s,Q .ret s/\Em m g0 H0 w0 N D s a w
 | .panic chain,a,w=>∃v H n,Q (.xM v) ⟨[],H,n⟩/\On m g0 H0 w0 D a.defers a.tmps v H n chain w
 |_,_,_=>False
def Em.drawn{m:Nat}{g0:q8}{H0:AB}{w0:World}{N:Nat}{D:DP}{s:AS}{a:Act}{w:World}(h:Em m g0 H0 w0 N D s a w)(k:Nat):Em m g0 H0 w0 N D s a {w with drawn:=k}:=by
 obtain⟨g,hR,hE,hT,hm,hN,hD⟩:=h;refine⟨g,⟨hR.σw,λid ob ho=>?_,hR.yJ,hR.hd,hR.ap,hR.un,hR.gl,hR.gz⟩,hE,⟨hT.le,hT.βn,hT.os,hT.tape,hT.output,hT.size,hT.kept,hT.now,hT.nσ⟩,hm,hN,Ki.heap (w:=w) (w':={w with drawn:=k}) rfl hD⟩;have:=hR.obj id ob ho;cases ob<;>exact this
def Em.trans{m m1:Nat}{g0 g1:q8}{H0 H1:AB}{w0 w1:World}{N:Nat}{D:DP}{s':AS}{a':Act}{w':World}(hT:q9 m g0 H0 w0 g1 H1 w1)(hm:m<=m1)(h:Em m1 g1 H1 w1 N D s' a' w'):
  Em m g0 H0 w0 N D s' a' w':=by
 obtain⟨g,hR,hE,hT',hm',hN,hD⟩:=h;exact⟨g,hR,hE,hT.trans (hT'.floor hm),zo,hN,hD⟩
def On.trans{m m1:Nat}{D:DP}{ds:List Deferred}{tm:Array Value}{g0 g1:q8}{H0 H1:AB}{w0 w1:World}{v:Fs}{H:AB}{n:Nat}{chain:List PanicEntry}{w':World}(hT:q9 m g0 H0 w0 g1 H1 w1)(hm:m<=m1)(h:On m1 g1 H1 w1 D ds tm v H n chain w'):
  On m g0 H0 w0 D ds tm v H n chain w':=by
 obtain⟨g,x,hR,hT',hm',hc,hv⟩:=h;exact⟨g,x,hR,hT.trans (hT'.floor hm),zo,hc,hv⟩
theorem K9{env:List (Nat×Bool×Fs)}:∀{env2:List (Nat×Bool×Fs)},SS env env2->∀{t:Nat} {gd:Bool} {v:Fs},BI env2 t=some (gd,v)->∃v',BI env t=some (gd,v')/\Wk v' v
 |[],_,t,gd,v,h=>by simp [BI]at h
 |(i,g,x)::r,⟨h1,h2⟩,t,gd,v,h=>by
  simp only[BI]at h;split at h
  ·rename_i e;subst e;cases h;exact h1
  ·exact K9 h2 h
theorem KL{n:Nat}:∀{env2:List (Nat×Bool×Fs)},J5 n env2->∀{t:Nat} {gd:Bool} {v:Fs},BI env2 t=some (gd,v)->v.under n
 |[],_,t,gd,v,h=>by simp [BI]at h
 |(i,g,x)::r,⟨h1,h2⟩,t,gd,v,h=>by
  simp only[BI]at h;split at h
  ·cases h;exact h1
  ·exact KL h2 h
def Up{m:Nat}{g0 g1:q8}{H0:AB}{w0 w1:World}{N:Nat}{D:DP}{s1 s' s2:AS}{a':Act}{w':World}(hR:x7 g1 s1.H s1.n w1)(hT:q9 m g0 H0 w0 g1 s1.H w1)(hm:m<=s1.n)
  (h:Em s1.n g1 s1.H w1 N D s' a' w') (hw:K0 s1 s' s2):Em m g0 H0 w0 N D s2 a' w':=by
 rcases hw with rfl|hw
 ·exact h.trans hT hm
 obtain⟨g,hR',hE,hT',hm',hN,hD⟩:=h;obtain⟨we,⟨e1,e2⟩|⟨e2,hf,hu⟩⟩:=hw
 ·refine⟨g,by rw[e1,e2];exact hR',λt gd v hg=>?_,by rw[e1];exact hT.trans (hT'.floor hm),by rw[e2];omega,hN,by rw[e1];exact hD⟩;obtain⟨v',p1,p2⟩:=K9 we hg;obtain⟨x,q1,q2,q3⟩:=hE t gd v' p1;exact⟨x,q1,λk=>p2 _ _ (q2 k),q3⟩
 ·obtain⟨r2,t2,ag⟩:=forget hR hR' hT' hf;refine⟨⟨g1.β,g.σ⟩,by rw[e2];exact r2,λt gd v hg=>?_,hT.trans (t2.floor hm),by rw[e2];omega,hN,hD.own λb=>UL hT' hf⟩;obtain⟨v',p1,p2⟩:=K9 we hg;obtain⟨x,q1,q2,q3⟩:=hE t gd v' p1;exact⟨x,q1,λk=>AR.agree ag v x (KL hu hg) (p2 _ _ (q2 k)),q3⟩
theorem LC(s:AS):∀(l:List Nat) (t:Nat),BI (l.filterMap λt=>(BI s.env t).map λx=>(t,x)) t=if t∈l then BI s.env t else none
 |[],t=>by simp [BI]
 |i::l,t=>by
  rw[List.filterMap_cons];cases h:BI s.env i with
  |none=>
   simp only[tU];rw[LC s l t];by_cases e:t=i
   ·subst e;simp [h]
   ·simp [e]
  |some x=>
   simp only[td,BI];rw[LC s l t];by_cases e:i=t
   ·subst e;simp [h]
   ·simp [e,Ne.symm e]
def Em.keep{m:Nat}{g0:q8}{H0:AB}{w0:World}{N:Nat}{D:DP}{s:AS}{a:Act}{w:World}(h:Em m g0 H0 w0 N D s a w)(l:List Nat):Em m g0 H0 w0 N D (s.keep l) a w:=by
 obtain⟨g,hR,hE,rest⟩:=h;refine⟨g,hR,λt gd v hg=>?_,rest⟩;simp only[AS.keep]at hg;rw[LC]at hg;split at hg
 ·exact hE t gd v hg
 ·cases hg
def Q2{kp:List Nat}{a b:AS}(h:OX kp a b):a.keep kp=b.keep kp:=by
 obtain⟨h1,h2,h3⟩:=h;obtain⟨e1,H1,n1⟩:=a;obtain⟨e2,H2,n2⟩:=b;simp only at h1 h2 h3;subst h2;subst h3;simp only[AS.keep,AS.mk.injEq,uJ];have:∀l:List Nat,(∀t∈l,t∈kp)->(l.filterMap λt=>(BI e1 t).map λx=>(t,x))=l.filterMap λt=>(BI e2 t).map λx=>(t,x):=by
  intro l;induction l with
  |nil=>intro _;rfl
  |cons t l ih=>grind
 exact this kp λ_ h=>h
def bp{g:q8}{env:List (Nat×Bool×Fs)}{a:Act}(hgl:Et g)(he:B1 g env a.tmps){x:Operand}{x':zz}(h:Az x=some x')(s9:(lk env x').1=true)(hb:J4 (AY env x')):a.eval x= .bool (Fm (AY env x')):=by
 have:=Do hgl he h s9;generalize AY env x'=v at this hb⊢;cases v<;>simp only[J4]at hb;exact this
def EK{P:Program}{b:Frame}{a:Act}{k:List Item}{cs:List Frame}{w:World}{c:Code}:step P (lone (b.atR a (.code (.scope c)::k)) cs w)= .next (lone (b.atR a (.code c:: .inScope c::k)) cs w):=
 step_lone_go (by simp [stepG,stepG.exec,Frame.atR])
def Or{P:Program}{b:Frame}{a:Act}{k:List Item}{cs:List Frame}{w:World}{c:Code}:step P (lone (b.atR a (.inScope c::k)) cs w)= .next (lone (b.atR a k) cs w):=
 step_lone_go (by simp [stepG,stepG.exec,Frame.atR])
theorem Uq{F:Fence}{n:Nat}{P:Program}{Q:Exit->Act->World->Prop}{a:Act}{w:World}{c:Code}(h:c.wpIn F n P (λe a w=>match e with
  | .goto _=>False
  |e=>Q e a w) a w):(Code.scope c).wpIn F n P Q a w:=by
 intro b k cs hro hb hr;have h0:(lone (b.atR a (.code (.scope c)::k)) cs w).fenced P F:=fenced_calm hb hr rfl;obtain⟨e,a₁,w₁,hq,harr⟩:=h b (.inScope c::k) cs hro hb hr;cases e with
 |normal=>exact⟨.normal,a₁,w₁,hq,.head h0 EK (StepsIn.trans harr (.one (fenced_calm hb hr rfl) Or))⟩
 |exit id=>exact⟨_,a₁,w₁,hq,λk' hk=>.head h0 EK (harr.1 k' (by simp [exitTo,hk])),λhr' hk=>let ⟨k₁,h1,h2⟩:=harr.2 hr' (by simp [exitTo,hk]);⟨k₁,h1,.head h0 EK h2⟩⟩
 |goto l=>exact hq.elim
 |ret=>exact⟨_,a₁,w₁,hq,.of_steps (.one h0 EK) harr⟩
 |panic ch=>exact⟨_,a₁,w₁,hq,.of_steps (.one h0 EK) harr⟩
 |outgrown=>exact⟨_,a₁,w₁,hq,.of_steps (.one h0 EK) harr⟩
def Hv(p:Nat->Prop)(h:∃k,p k):∃k,p k/\∀j,p j->k<=j:=by
 obtain⟨k,hk⟩:=h;induction k using Nat.strongRecOn with
 |_ k ih=>grind
section
variable {P:Program} {r:Option Nat} {N:Nat} {D:DP} {fz im:List (Nat×Nat)} {kp:Nat->List Nat}
theorem Ur{g:Operand}{g':zz}{ps:Array Tmp}{asg body:Code}{Q:x6->AS->Prop}{m:Nat}{g0:q8}{H0:AB}{w0:World}{s:AS}{a:Act}{w:World}(hg:Az g=some g')
  (s9:(lk s.env g').1=true) (h:GE P s Q ps N asg body (AY s.env g')) (hs:Em m g0 H0 w0 N D s a w) (hDw:D.fl<=w0.heap.size) (v9:D.no=false):(Code.rangeFunc g ps asg body).wpIn (FR none) 0 P (QM m g0 H0 w0 N D Q) a w:=by
 obtain⟨gh,hR,hE,hT,hm,hN,hD⟩:=hs;have hv:=Do hR.gl hE hg s9;generalize AY s.env g'=gv at h hv;cases gv<;>simp only[GE]at h;rename_i ff first cap
 cases ff<;>simp only at h;rename_i y9;obtain⟨fv,cv,e1,k1,k2⟩:=hv;refine wpIn_rangeFunc λfn hfn=>?_
 have hl:=h (w.heap.size+1);obtain⟨wo,hc⟩:=hl;have hcb':=wo;obtain⟨fn',c1,c2,c3⟩:=hcb';have c3':¬fn'.name= "runtime.NumGoroutine" :=by simpa using c3
 have c4:¬fn'.body=none:=by cases hb:fn'.body<;>simp_all
 let rec0:Loop:={state:=.ready,pending:=none,fn:=fn,tmps:=a.tmps,params:=ps,assign:=asg,body:=body,defers:=w.heap.size}
 let wa:World:=w.alloc (.deferred (some []))
 let wb:World:=wa.alloc (.loop rec0)
 have hxa:JW w wa:=JW.push (w:=w) (w':=wa) rfl;have hRa:x7 ⟨gh.β,gh.σ⟩ s.H s.n wa:=hR.grow hxa (λ_ _ _ x=>x) (λ_ _ _ x=>.inl x);have hTa:q9 s.n gh s.H w ⟨gh.β,gh.σ⟩ s.H wa:=q9.grow hxa rfl rfl rfl (λ_ _ _ x=>x) (λ_ _ _ x=>.inl x);have hRa1:x7 ⟨gh.β,gh.σ⟩ s.H (s.n+1) wa:=⟨hRa.σw,hRa.obj,hRa.yJ,λid ob q=>Nat.lt_succ_of_lt (hRa.hd id ob q),hRa.ap,hRa.un,hRa.gl,hRa.gz⟩;have hnone:AD s.H s.n=none:=by
  cases q:AD s.H s.n with
  |none=>rfl
  |some ob=>exact absurd (hR.hd _ _ q) (Nat.lt_irrefl _)
 have hsza:wa.heap.size=w.heap.size+1:=World.size_alloc ..;have hgle:gh.le ⟨λi=>if i=s.n then some ⟨w.heap.size+1,0,1⟩else gh.β i,gh.σ⟩:=⟨λi L q=>by
  have:i≠s.n:=by rintro rfl;exact absurd hnone ((hR.yJ _ _ q).1)
  simp [this,q],λ_ _ _ q=>q⟩
 obtain⟨hRb,hTb,hle⟩:=hRa1.new (m:=s.n) (w':=wb) (x:=Obj.loop rec0) rfl rfl rfl rfl hnone (Nat.lt_succ_self _) (sj _) (L:=⟨w.heap.size+1,0,1⟩) hsza.symm
  (ob:=.lp ⟨w.heap.size+1,.ready,none,N,s.env,ps,asg,body⟩)
  ⟨⟨w.heap.size+1,0,1⟩,zw,rfl,rfl,rfl,rec0,by rw[<-hsza];exact World.alloc_heap_new wa _,rfl,rfl,rfl,rfl,rfl,hE.mono hgle,hN⟩
 have hT1:=hTa.trans hTb
 have hmark:∀b ob,AD (wB s.H s.n ob) b≠none->True:=λ_ _ _=>zt
 obtain⟨ms,yf,hMOK,-⟩:=hD;have hDb:Ki D ⟨λi=>if i=s.n then some ⟨w.heap.size+1,0,1⟩else gh.β i,gh.σ⟩ (wB s.H s.n (.lp ⟨w.heap.size+1,.ready,none,N,s.env,ps,asg,body⟩)) ([{target:=.collected w.heap.size,args:= #[]}]++a.defers) a.tmps wb:=by
  refine⟨{target:=.collected w.heap.size,args:= #[]}::ms,by rw[yf];rfl,⟨⟨w.heap.size,rfl,sX hDw hT.size,?_,?_,?_⟩,?_⟩,λh=>by rw[v9]at h;cases h⟩
  ·exact JW.push (w:=wa) (w':=wb) rfl _ _ (World.alloc_heap_new w _)
  ·rintro⟨id,ob,L,q1,q2,q3,q4,q5,q6⟩;by_cases e:id=s.n
   ·subst e;simp at q3;subst q3;simp at q4
   ·simp only[sg e]at q3;rw[AA _ _ _ _ (Ne.symm e)]at q1;have:=(hR.yJ id L q3).2 zo;omega
  ·intro d hd e;obtain⟨b,q1,q2⟩:=OW.wR hMOK d hd;rw[q1]at e;have:b=w.heap.size:=by simpa using e
   omega
  ·exact OW.step hT1 hMOK
 have yG:wI ⟨λi=>if i=s.n then some ⟨w.heap.size+1,0,1⟩else gh.β i,gh.σ⟩ (first++[.fn (.yield (w.heap.size+1)) [] []]++cap) (fv++ #[Value.func (.yield (w.heap.size+1)) #[] #[]]++cv).toList:=by
  simp only[Array.toList_append];refine wI.append' (wI.append' (wI.mono hgle _ _ k1) ?_) (wI.mono hgle _ _ k2);exact⟨_,_,rfl,⟨#[], #[],rfl,rfl,rfl⟩,rfl⟩
 have yP:=hc _ wb _ hRb yG;simp only[vv]at yP;refine⟨w.heap.size+1,[{target:=.collected w.heap.size,args:= #[]}],wb,⟨.fn (.func y9) cv,fv++ #[Value.func (.yield (w.heap.size+1)) #[] #[]]⟩,wb,y9,fv++ #[Value.func (.yield (w.heap.size+1)) #[] #[]]++cv,wb,run_enterLoop_outer fn a.tmps ps asg body,?_,λ_ _=>zt,?_,by simp [FR,Fence.wide],?_⟩
 ·have ev:a.eval (.const (.func (.yield (w.heap.size+1)) #[] #[]))=Value.func (.yield (w.heap.size+1)) #[] #[]:=rfl;simp [resolve,e1,Deferred.ofValue,ev]
 ·simp [invoke,callFunc,c1,c3',c4]
 refine(callsIn_wide (n:=0-1)).2 (yP.mono ?_);rintro e w' ⟨g',out,H',n',hq,he,r1,hn',t1⟩;have hT2:q9 s.n gh s.H w g' H' w':=hT1.trans (t1.floor zo);have hD':Ki D g' H' ([{target:=.collected w.heap.size,args:= #[]}]++a.defers) a.tmps w':=hDb.step t1;cases e with
 |outgrown=>cases out<;>exact he.elim
 |panicked ch=>
  cases out with
  |ret v=>exact he.elim
  |xM v=>
   obtain⟨x,rfl,k⟩:=he;exact⟨v,H',n',hq,g',x,r1,hT.trans (hT2.floor hm),zo,rfl,k,hD'⟩
 |returned x=>
  cases out with
  |xM v=>exact he.elim
  |ret v=>
   simp only[GD]at hq;cases ho:AD H' s.n with
   |none=>simp [ho]at hq
   |some ob=>
    cases ob<;>simp only[ho]at hq;rename_i y;obtain⟨hbusy,hq⟩:=hq;obtain⟨L,q1,q2,q3,q4,r,p1,p2,p3,p4⟩:=r1.obj _ _ ho;have hL:L=⟨w.heap.size+1,0,1⟩:=by
     have:=t1.le.β s.n ⟨w.heap.size+1,0,1⟩ zw;rw[q1]at this;exact Option.some.inj this
    subst hL;simp only at p1 q4;have hend:(Instr.endLoop (w.heap.size+1)).run P w'= .ok y.xQ (w'.putObj (w.heap.size+1) (.loop {r with state:=.exhausted})):=by
     rw[<-p3];exact run_endLoop (P:=P) p1 (by rw[p2];exact hbusy)
    have e9:w.heap.size+1<w'.heap.size:=(sW.1 p1).1
    obtain⟨rk,tk⟩:=r1.kill (m:=s.n) ho;have hup:=r1.upd (m:=s.n) (w':=w'.putObj (w.heap.size+1) (.loop {r with state:=.exhausted})) (ob':=.dead) ho rfl q1 rfl rfl rfl (by simp [World.putObj]) (λb hb=>by simp [World.putObj,uj (Ne.symm hb)])
     (.inr ⟨rfl,rfl,_,p1,zw⟩) zt
    obtain⟨rk',tk'⟩:=hup;have hsim:∀s',s'=({s with H:=wB H' s.n .dead,n:=n'}:AS)->Em m g0 H0 w0 N D s' {a with defers:=[{target:=.collected w.heap.size,args:= #[]}]++a.defers} (w'.putObj (w.heap.size+1) (.loop {r with state:=.exhausted})):=by
     rintro _ rfl;exact⟨g',rk',hE.mono (hgle.trans t1.le),(hT.trans (hT2.floor hm)).trans (tk'.floor hm),zp,hN,hD'.step tk'⟩
    generalize w'.putObj (w.heap.size+1) (.loop {r with state:=.exhausted})=W at hend hsim;refine⟨y.xQ,W,hend,?_⟩;cases hp:y.xQ with
    |none=>simp only[hp]at hq;exact⟨_,hq,hsim _ rfl⟩
    |some c=>
     simp only[hp]at hq;cases c<;>simp only at hq
     ·exact wpIn_exit ⟨_,hq,hsim _ rfl⟩
     ·exact wpIn_ret ⟨_,hq,hsim _ rfl⟩
theorem Em.freeze{m:Nat}{g0:q8}{H0:AB}{w0:World}{s:AS}{a:Act}{w:World}{t:Nat}{Q:x6->AS->Prop}(h:I7 Q s t (BI s.env t))(hs:Em m g0 H0 w0 N D s a w):∃s',Q .normal s'/\Em m g0 H0 w0 N D s' a w:=by
 obtain⟨g,hR,hE,hT,hm,hN,hD⟩:=hs;unfold I7 at h;split at h;case h_2=>exact h.elim
 rename_i id e off len cap heg;obtain⟨x,x1,x2,-⟩:=hE t true _ heg;obtain⟨L,k1,k2,rfl⟩:=x2 rfl
 have val:∀(g':q8) (H':AB) (l:List Fs),g.le g'->FT g' w id (.frz e l)->off+len<=l.length->len<=cap->AR g' (.sl (if len=cap then .exact e else .none e) ((l.drop off).take len)) (.slice (some ⟨L.wR,off*e,none⟩) len cap):=by
  intro g' H' l hle ho h1 h2;obtain⟨L',j1,j2,j3⟩:=ho;rw[hle.β _ _ k1]at j1;cases j1;have hlen:((l.drop off).take len).length=len:=by simp;omega
  have wX:=wL.take len _ _ (wL.drop off _ _ j3);rw[tx]at wX;by_cases hc:len=cap
  ·rw[sn hc];exact .inr ⟨zt,L.wR,off*e,cap,⟨none,by rw[hlen],.inl rfl⟩,by rw[hlen];exact h2,wX,by rw[hlen];exact hc.symm⟩
  ·rw[sg hc];exact .inr ⟨zt,L.wR,off*e,cap,⟨none,by rw[hlen],.inl rfl⟩,by rw[hlen];exact h2,wX,zt⟩
 have env:∀(g':q8) (v:Fs),g.le g'->AR g' v (.slice (some ⟨L.wR,off*e,none⟩) len cap)->B1 g' ((t,true,v)::s.env) a.tmps:=by
  intro g' v hle hv t' gd v' hg;simp only[BI]at hg;split at hg
  ·simp_all
  ·exact(hE.mono hle) t' gd v' hg
 split at h
 ·rename_i e' l ho;obtain⟨rfl,h1,h2,hQ⟩:=h;obtain⟨σ',r1,t1⟩:=hR.freeze (m:=m) ho;exact⟨_,hQ,_,r1,env _ _ t1.le (val _ H0 l t1.le (r1.obj id _ (AC ..)) h1 h2),hT.trans t1,hm,hN,hD.step t1⟩
 ·rename_i e' l ho;obtain⟨rfl,h1,h2,hQ⟩:=h;exact⟨_,hQ,g,hR,env g _ (.refl g) (val g H0 l (.refl g) (hR.obj id _ ho) h1 h2),hT,hm,hN,hD⟩
 ·exact h.elim
theorem Em.freezeo{m:Nat}{g0:q8}{H0:AB}{w0:World}{s:AS}{a:Act}{w:World}{t:Nat}{Q:x6->AS->Prop}(h:Ga Q s t (BI s.env t))(hs:Em m g0 H0 w0 N D s a w):∃s',Q .normal s'/\Em m g0 H0 w0 N D s' a w:=by
 obtain⟨g,hR,hE,hT,hm,hN,hD⟩:=hs;unfold Ga at h;split at h;case h_3=>exact h.elim
 case h_2 tok l heg=>
  obtain⟨x,x1,x2,-⟩:=hE t true _ heg;refine⟨_,h,g,hR,?_,hT,hm,hN,hD⟩;intro t' gd v' hg;simp only[BI]at hg;split at hg
  ·simp_all
  ·exact hE t' gd v' hg
 case h_1 id e off len cap heg=>
  obtain⟨x,x1,x2,-⟩:=hE t true _ heg;split at h;case h_2=>exact h.elim
  rename_i e' l ho;obtain⟨rfl,rfl,h1,h2,hQ⟩:=h;obtain⟨g',v1,r1,t1⟩:=hR.own (m:=m) ho hm h1 h2 (x2 rfl);refine⟨_,hQ,g',r1,?_,hT.trans t1,zp,hN,hD.step t1⟩;intro t' gd v' hg;simp only[BI]at hg;split at hg
  ·simp_all
  ·exact(hE.mono t1.le) t' gd v' hg
theorem FK{m:Nat}{g0:q8}{H0:AB}{w0:World}{c:Code}{a:Act}{w:World}{s:AS}{P:Program}{r:Option Nat}:∀(l:List Nat) (ac:z8) (Q:x6->AS->Prop),IE P (l.foldl (λc t=>.seq c (if Nat.ble 5000 t then .frzo (t-5000)else .frz (t-1000))) ac) Q s->
  (∀Q',IE P ac Q' s->c.wpIn (FR r) 0 P (QM m g0 H0 w0 N D Q') a w)->c.wpIn (FR r) 0 P (QM m g0 H0 w0 N D Q) a w
 |[],ac,Q,h,hc=>hc Q h
 |t::l,ac,Q,h,hc=>FK l (.seq ac (if Nat.ble 5000 t then .frzo (t-5000)else .frz (t-1000))) Q h λQ' h'=>by
  refine wpIn_mono (hc _ h') λe a' w' hq=>?_
  cases e with
  |normal=>
   obtain⟨s',q1,q2⟩:=hq;by_cases ht:Nat.ble 5000 t=true
   ·simp only[ht,tD]at q1;exact Em.freezeo q1 q2
   ·simp only[ht]at q1;exact Em.freeze q1 q2
  |exit i=>exact hq
  |ret=>exact hq
  |panic c=>exact hq
  |goto l=>exact hq
  |outgrown=>exact hq
theorem Cc:∀(c:Code) {ac:z8} {Q:x6->AS->Prop} {m:Nat} {g0:q8} {H0:AB} {w0:World} {s:AS} {a:Act} {w:World},BQ P N fz im kp c=some ac->(r=none/\D.no=false)\/ac.plain=true->D.fl<=w0.heap.size/\D.lo<=dv fz->IE P ac Q s->Em m g0 H0 w0 N D s a w->
  c.wpIn (FR r) 0 P (QM m g0 H0 w0 N D Q) a w
 | .skip,ac,Q,m,g0,H0,w0,s,a,w,hc,hp,hDw,h,hs=>by
  simp only[BQ]at hc;cases hc;exact wpIn_skip ⟨s,h,hs⟩
 | .label l,ac,Q,m,g0,H0,w0,s,a,w,hc,hp,hDw,h,hs=>by
  simp only[BQ]at hc;cases hc;exact wpIn_label ⟨s,h,hs⟩
 | .exit i,ac,Q,m,g0,H0,w0,s,a,w,hc,hp,hDw,h,hs=>by
  simp only[BQ]at hc;cases hc;exact wpIn_exit ⟨s,h,hs⟩
 | .ret,ac,Q,m,g0,H0,w0,s,a,w,hc,hp,hDw,h,hs=>by
  simp only[BQ]at hc;cases hc;exact wpIn_ret ⟨s,h,hs⟩
 | .seq x y,ac,Q,m,g0,H0,w0,s,a,w,hc,hp,hDw,h,hs=>by
  simp only[BQ]at hc;split at hc
  ·rename_i ax ay h1 h2;cases hc;have hp':((r=none/\D.no=false)\/ax.plain=true)/\((r=none/\D.no=false)\/ay.plain=true):=by
    rcases hp with e|e
    ·exact⟨.inl e,.inl e⟩
    ·simp_all [z8.plain,sf]
   refine wpIn_seq (wpIn_mono (Cc x h1 hp'.1 hDw h hs) λe a' w' hq=>?_);cases e with
   |normal=>obtain⟨s',q1,q2⟩:=hq;exact Cc y h2 hp'.2 hDw q1 q2
   |exit i=>exact hq
   |ret=>exact hq
   |panic c=>exact hq
   |goto l=>exact hq
   |outgrown=>exact hq
  ·cases hc
 | .block id x,ac,Q,m,g0,H0,w0,s,a,w,hc,hp,hDw,h,hs=>by
  simp only[BQ]at hc;cases h1:BQ P N fz im kp x with
  |none=>simp [h1]at hc
  |some ax=>
   simp [h1]at hc;subst hc;refine wpIn_block (wpIn_mono (Cc x h1 hp hDw h hs) λe a' w' hq=>?_);cases e with
   |normal=>exact hq
   |exit i=>
    obtain⟨s',q1,q2⟩:=hq;simp only[Exit.inBlock]at q1⊢;split
    ·rename_i e;rw[sn e]at q1;exact⟨s',q1,q2⟩
    ·rename_i e;rw[sg e]at q1;exact⟨s',q1,q2⟩
   |ret=>exact hq
   |panic c=>exact hq
   |goto l=>exact hq
   |outgrown=>exact hq
 | .cond c x y,ac,Q,m,g0,H0,w0,s,a,w,hc,hp,hDw,h,hs=>by
  simp only[BQ]at hc;split at hc
  ·rename_i c' ax ay h1 h2 h3;cases hc;obtain⟨q1,q2,q3,q4⟩:=h;obtain⟨g,hR,hE,rest⟩:=hs;have e:=bp hR.gl hE h1 q1 q2;have hp':((r=none/\D.no=false)\/ax.plain=true)/\((r=none/\D.no=false)\/ay.plain=true):=by
    rcases hp with e|e
    ·exact⟨.inl e,.inl e⟩
    ·simp_all [z8.plain,sf]
   refine wpIn_cond_split e (λht=>Cc x h2 hp'.1 hDw (q3 ht) ⟨g,hR,hE,rest⟩) (λht=>Cc y h3 hp'.2 hDw (q4 ht) ⟨g,hR,hE,rest⟩)
  ·cases hc
 | .loop x,ac,Q,m,g0,H0,w0,s,a,w,hc,hp,hDw,h,hs=>by
  simp only[BQ]at hc;cases h1:BQ P N fz im kp x with
  |none=>simp [h1]at hc
  |some ax=>
   simp [h1]at hc;subst hc;obtain⟨I,μ,hI,hround⟩:=h
   classical
   let J:Act->World->Nat->Prop:=λa w k=>∃s,I s/\Em m g0 H0 w0 N D s a w/\μ s=k
   let μ':Act->World->Nat:=λa w=>if hx:∃k,J a w k then Classical.choose (Hv _ hx)else 0
   have hμ':∀a w,(∃k,J a w k)->J a w (μ' a w)/\∀j,J a w j->μ' a w<=j:=by
    intro a w hx;have e:μ' a w=Classical.choose (Hv _ hx):=by simp only[μ'];rw[dif_pos hx]
    rw[e];exact Classical.choose_spec (Hv _ hx)
   refine wpIn_loop (λa w=>∃k,J a w k) μ' ⟨_,s,hI,hs,rfl⟩ ?_;rintro a1 w1 hx;obtain⟨⟨s1,hI1,wr,hμ1⟩,-⟩:=hμ' a1 w1 hx;obtain⟨g1,hR1,hE1,hT1,hm1,hN1,hD1⟩:=wr;have wl:Em s1.n g1 s1.H w1 N D s1 a1 w1:=⟨g1,hR1,hE1,q9.refl _ _ _ _,sj _,hN1,hD1⟩;refine wpIn_mono (Cc x h1 hp ⟨sX hDw.1 hT1.size,hDw.2⟩ (hround s1 hI1) wl) λe a' w' hq=>?_
   cases e with
   |normal=>
    obtain⟨s',⟨s2,q1,q2,q3⟩,q4⟩:=hq;have yc:=Up hR1 hT1 hm1 q4 q1;have hx':∃k,J a' w' k:=⟨_,s2,q2,yc,rfl⟩;refine⟨hx',?_⟩;have e3:=(hμ' a' w' hx').2 _ ⟨s2,q2,yc,rfl⟩;omega
   |exit i=>obtain⟨s',q1,q2⟩:=hq;exact⟨s',q1,q2.trans hT1 hm1⟩
   |ret=>obtain⟨s',q1,q2⟩:=hq;exact⟨s',q1,q2.trans hT1 hm1⟩
   |panic c=>obtain⟨v,H,n,q1,q2⟩:=hq;exact⟨v,H,n,q1,q2.trans hT1 hm1⟩
   |goto l=>exact hq
   |outgrown=>exact hq
 | .region id ops draw,ac,Q,m,g0,H0,w0,s,a,w,hc,hp,hDw,h,hs=>by
  simp only[BQ]at hc;split at hc
  ·rename_i l hl;split at hc
   ·rename_i hd;cases hc;refine FK (P:=P) (c:=.region id ops draw) _ _ _ h λQ h=>?_
    have hmb:m<=s.n:=by obtain⟨g,_,_,_,hm,_⟩:=hs;exact hm
    have wr:Em m g0 H0 w0 N D {s with n:=s.n+(if Ec l=true then ops.size else 0)} a w:=by
     obtain⟨g,hR,hE,hT,hm,rest⟩:=hs;exact⟨g,⟨hR.σw,hR.obj,hR.yJ,λid ob ho=>uw (hR.hd id ob ho) (tO _ _),hR.ap,hR.un,hR.gl,hR.gz⟩,hE,hT,sX hm (tO _ _),rest⟩
    have xV:Ec l=true->s.n+ops.size<=({s with n:=s.n+(if Ec l=true then ops.size else 0)}:AS).n:=λq=>by simp [q]
    have hlen:l.length=ops.size:=by rw[(EJ _ _ _ hl).1,tq]
    have wS:D4 P (λv H n=>Q (.xM v) ⟨[],H,n⟩) s.n (FW l (List.range ops.size)) (λs'=>Q .normal (s'.keep (kp id))) {s with n:=s.n+(if Ec l=true then ops.size else 0)}:=by
     rw[<-hlen,S2];rw[hlen];exact h
    cases draw with
    |false=>
     refine wpIn_region (P2 hl hDw.2 hmb (λv H' n' chain a' w' q1 q2=>⟨v,H',n',q1,q2⟩) (λs' a' w' q1 q2=>⟨_,q1,q2.keep _⟩) _ _ a w (λi hi=>tF.1 hi) wS wr xV)
    |true=>
     obtain⟨d1,d2,d3⟩:=hd.resolve_left zw;have hrem:DI ops (Array.replicate ops.size false)=List.range ops.size:=by simp_all [DI]
     refine wpIn_region_any d3 (Uo (kp:=kp id) hl hDw.2 d1 (λx hx=>?_) (λa b xd hk=>?_) hmb (λv H' n' chain a' w' q1 q2=>⟨v,H',n',q1,q2⟩) (λs' a' w' q1 q2=>⟨_,q1,q2.keep _⟩)
      _ _ _ a _ (by rw[hrem];simp) zw (λj o hj=>?_) (by rw[hrem];exact wS) (wr.drawn _) xV)
     ·unfold K4 at d2;have:=(sE.1 d2) x hx;rw[sQ]at this;rcases this with e|e
      ·left;simpa using e
      ·right;intro d hd';rw[hd']at e;simpa using e
     ·rw[<-Q2 xd];exact hk
     ·exfalso;by_cases hjs:j<ops.size
      ·simp [hjs]at hj
      ·simp [hjs]at hj
   ·rename_i hnd;split at hc
    ·rename_i hd;cases hc;refine FK (P:=P) (c:=.region id ops draw) _ _ _ h λQ h=>?_
     have hmb:m<=s.n:=by obtain⟨g,_,_,_,hm,_⟩:=hs;exact hm
     have wr:Em m g0 H0 w0 N D {s with n:=s.n+(if Ec l=true then ops.size else 0)} a w:=by
      obtain⟨g,hR,hE,hT,hm,rest⟩:=hs;exact⟨g,⟨hR.σw,hR.obj,hR.yJ,λid ob ho=>uw (hR.hd id ob ho) (tO _ _),hR.ap,hR.un,hR.gl,hR.gz⟩,hE,hT,sX hm (tO _ _),rest⟩
     have xV:Ec l=true->s.n+ops.size<=({s with n:=s.n+(if Ec l=true then ops.size else 0)}:AS).n:=λq=>by simp [q]
     have hlen:l.length=ops.size:=by rw[(EJ _ _ _ hl).1,tq]
     have wS:JT P (λv H n=>Q (.xM v) ⟨[],H,n⟩) s.n (UO s.env s.n) (Ly fz l (List.range ops.size)) (λs'=>Q .normal (s'.keep (kp id))) {s with n:=s.n+(if Ec l=true then ops.size else 0)}:=by
      rw[<-hlen];rw[hlen];rw[hlen]at h;exact h
     have hdr:draw=true:=by cases draw<;>simp_all
     subst hdr;obtain⟨d1,d2,d3⟩:=hd;have hrem:DI ops (Array.replicate ops.size false)=List.range ops.size:=by simp_all [DI]
     refine wpIn_region_any d3 (S5 (kp:=kp id) hl hDw.2 d1 (λx hx=>?_) (λa b xd hk=>?_) hmb (λv H' n' chain a' w' q1 q2=>⟨v,H',n',q1,q2⟩) (λs' a' w' q1 q2=>⟨_,q1,q2.keep _⟩)
      _ _ _ a _ (by rw[hrem];simp) zw (λj o hj=>?_) (by rw[hrem];exact wS) (wr.drawn _) xV)
     ·unfold K4 at d2;have:=(sE.1 d2) x hx;rw[sQ]at this;rcases this with e|e
      ·left;simpa using e
      ·right;intro d hd';rw[hd']at e;simpa using e
     ·rw[<-Q2 xd];exact hk
     ·exfalso;by_cases hjs:j<ops.size
      ·simp [hjs]at hj
      ·simp [hjs]at hj
    ·rename_i hnd2;split at hc
     ·rename_i hd;cases hc;refine FK (P:=P) (c:=.region id ops draw) _ _ _ h λQ h=>?_
      have hmb:m<=s.n:=by obtain⟨g,_,_,_,hm,_⟩:=hs;exact hm
      have wr:Em m g0 H0 w0 N D {s with n:=s.n+(if Ec l=true then ops.size else 0)} a w:=by
       obtain⟨g,hR,hE,hT,hm,rest⟩:=hs;exact⟨g,⟨hR.σw,hR.obj,hR.yJ,λid ob ho=>uw (hR.hd id ob ho) (tO _ _),hR.ap,hR.un,hR.gl,hR.gz⟩,hE,hT,sX hm (tO _ _),rest⟩
      have xV:Ec l=true->s.n+ops.size<=({s with n:=s.n+(if Ec l=true then ops.size else 0)}:AS).n:=λq=>by simp [q]
      have hlen:l.length=ops.size:=by rw[(EJ _ _ _ hl).1,tq]
      have wS:JT P (λv H n=>Q (.xM v) ⟨[],H,n⟩) s.n (UO s.env s.n) (Ly fz l (Se fz id)) (λs'=>Q .normal (s'.keep (kp id))) {s with n:=s.n+(if Ec l=true then ops.size else 0)}:=by
       exact h
      have hdr:draw=true:=by cases draw<;>simp_all
      subst hdr;obtain⟨d1,d2,d3⟩:=hd;have hrem:Gu (Se fz id) (Array.replicate ops.size false)=Se fz id:=by
       unfold Gu;apply uX.2;intro i hi;have:=d1;unfold Ng at this;simp only[sf]at this;have:=(sE.1 this.1.1.1.1.2) i hi;simp at this;simp [this]
      refine wpIn_region_any d3 (S6 (kp:=kp id) hl hDw.2 d1 (λx hx=>?_) (λa b xd hk=>?_) hmb (λv H' n' chain a' w' q1 q2=>⟨v,H',n',q1,q2⟩) (λs' a' w' q1 q2=>⟨_,q1,q2.keep _⟩)
       _ _ _ a _ (by rw[hrem];have:=d1;unfold Ng at this;simp only[sf,si]at this;exact this.1.1.1.1.1) zw (λj o hj=>?_) (by rw[hrem];exact wS) (wr.drawn _) xV)
      ·unfold K4 at d2;have:=(sE.1 d2) x hx;rw[sQ]at this;rcases this with e|e
       ·left;simpa using e
       ·right;intro d hd';rw[hd']at e;simpa using e
      ·rw[<-Q2 xd];exact hk
      ·exfalso;by_cases hjs:j<ops.size
       ·simp [hjs]at hj
       ·simp [hjs]at hj
     ·cases hc
  ·cases hc
 | .goto l,ac,Q,m,g0,H0,w0,s,a,w,hc,hp,hDw,h,hs=>by simp [BQ]at hc
 | .scope x,ac,Q,m,g0,H0,w0,s,a,w,hc,hp,hDw,h,hs=>by
  simp only[BQ]at hc;refine Uq (wpIn_mono (Cc x hc hp hDw h hs) λe a' w' hq=>?_);cases e with
  |goto l=>exact hq.elim
  |normal=>exact hq
  |exit i=>exact hq
  |ret=>exact hq
  |panic c=>exact hq
  |outgrown=>exact hq
 | .rangeFunc g ps asg body,ac,Q,m,g0,H0,w0,s,a,w,hc,hp,hDw,h,hs=>by
  simp only[BQ]at hc;cases h1:Az g with
  |none=>simp [h1]at hc
  |some g'=>
   simp [h1]at hc;subst hc;rcases hp with e|e
   ·obtain⟨rfl,e⟩:=e;exact Ur h1 h.1 h.2 hs hDw.1 e
   ·cases e
 | .refuse l,ac,Q,m,g0,H0,w0,s,a,w,hc,hp,hDw,h,hs=>by simp [BQ]at hc
end
end Go.AM
