/-
  The abstract machine, part Q: an operation is taken first · The abstract machine, part R: an operation is taken ahead of.
  Conditions: none beyond those of its parts.
-/
import Derived.Test.YtbngedlokkndkaaGreatDoorB3
import Derived.ControlIn
import Derived.RangeFuncRecord
import Derived.RangeFuncIn

set_option maxRecDepth 20000
set_option linter.all false
namespace Go.AM
section
variable {P:Program} {Qp:Fs->AB->Nat->Prop} {base:Nat} {kp:List Nat}
def HR(H H':AB):Prop:=H'=H\/∃id ob,AD H id=none/\H'=sA H id ob
def HA(H H':AB):Prop:=H'=H\/∃tok id,AD H id=none/\(∀i e,tok= .own i e->AD H i=some .tok)/\H'=sA (AR H tok) id .tok
def XOp.free:XOp->Prop
 | .tH .. | .tas .. =>True
 |_=>False
variable {H:AB} {l:List Fs} {b:Nat}
theorem Pn{x:XOp}(hx:x.free):(xE b x H l).2.1=H:=by
 cases x<;>first|exact hx.elim|skip
 ·rename_i kd q;rcases kd with _|_|_|kd<;>rcases l with _|⟨v,_|⟨v2,l⟩⟩<;>first|rfl|(cases v<;>rfl)
 ·rename_i t ok z;rcases ok with _|_<;>rcases l with _|⟨v,_|⟨v2,l⟩⟩<;>first|rfl|(cases v<;>rfl)
theorem Uj{x:XOp}{H':AB}(hx:x.free):(xE b x H l).1=(xE b x H' l).1/\(xE b x H l).2.2=(xE b x H' l).2.2:=by
 cases x<;>first|exact hx.elim|skip
 ·rename_i kd q;rcases kd with _|_|_|kd<;>rcases l with _|⟨v,_|⟨v2,l⟩⟩<;>first|exact⟨rfl,rfl⟩|(cases v<;>exact⟨rfl,rfl⟩)
 ·rename_i t ok z;rcases ok with _|_<;>rcases l with _|⟨v,_|⟨v2,l⟩⟩<;>first|exact⟨rfl,rfl⟩|(cases v<;>exact⟨rfl,rfl⟩)
theorem IT{kt:KT}{z:Fs}{ok:Bool}:(xE b (.look kt z ok) H l).2.1=H:=by
 rcases l with _|⟨v,_|⟨v2,_|⟨v3,l⟩⟩⟩<;>try rfl
 ·cases v<;>rfl
 ·cases v<;>try rfl
  simp only[xE];split<;>rfl
 ·cases v<;>rfl
theorem EU{o:xj}{K:AS->Prop}{s:AS}(hc:o.k.cat≠5)(h:AX P Qp base o K s):
  ∃H' g v,K ({s with H:=H'}.put o.dst g v)/\(∀K2:AS->Prop,K2 ({s with H:=H'}.put o.dst g v)->AX P Qp base o K2 s)/\(o.guard=none->g=true)/\
   (o.k.cat=0\/o.k.cat=1\/o.k.cat=3->H'=s.H)/\(o.k.cat=2->HR s.H H')/\(o.k.cat=4->HA s.H H'):=by
 obtain⟨dst,guard,k⟩:=o;obtain⟨h0,h1⟩:=h;have hgn:guard=none->Be s.env guard=true:=by rintro rfl;rfl
 have eff:∀{k:Io},(∀K2:AS->Prop,(Be s.env guard=true->Bz s.env k.sF/\BB P Qp base ⟨dst,guard,k⟩ K2 s)/\(Be s.env guard=false->K2 (s.put dst false (.sH [])))->AX P Qp base ⟨dst,guard,k⟩ K2 s)->
   (Be s.env guard=true->Bz s.env k.sF/\BB P Qp base ⟨dst,guard,k⟩ K s)/\(Be s.env guard=false->K (s.put dst false (.sH [])))->
   (Bz s.env k.sF->BB P Qp base ⟨dst,guard,k⟩ K s->∃H' v,K ({s with H:=H'}.put dst true v)/\(∀K2:AS->Prop,K2 ({s with H:=H'}.put dst true v)->BB P Qp base ⟨dst,guard,k⟩ K2 s)/\(k.cat=0\/k.cat=1\/k.cat=3->H'=s.H)/\(k.cat=2->HR s.H H')/\(k.cat=4->HA s.H H'))->
   ∃H' g v,K ({s with H:=H'}.put dst g v)/\(∀K2:AS->Prop,K2 ({s with H:=H'}.put dst g v)->AX P Qp base ⟨dst,guard,k⟩ K2 s)/\(guard=none->g=true)/\
    (k.cat=0\/k.cat=1\/k.cat=3->H'=s.H)/\(k.cat=2->HR s.H H')/\(k.cat=4->HA s.H H'):=by
  intro k sY hh he;by_cases hg:Be s.env guard=true
  ·grind
  ·have hg:Be s.env guard=false:=by simpa using hg
   exact⟨s.H,false,.sH [],hh.2 hg,λK2 hk=>sY K2 ⟨λq=>(by rw[hg]at q;cases q),λ_=>hk⟩,λq=>(by have:=hgn q;rw[hg]at this;cases this),λ_=>rfl,λ_=>.inl rfl,λ_=>.inl rfl⟩
 cases k with
 |v k=>exact⟨s.H,_,_,h1.2,λK2 hk=>⟨h0,h1.1,hk⟩,hgn,λ_=>rfl,λ_=>.inl rfl,λ_=>.inl rfl⟩
 |pick c a b=>exact⟨s.H,_,_,h1.2,λK2 hk=>⟨h0,h1.1,hk⟩,hgn,λ_=>rfl,λ_=>.inl rfl,λ_=>.inl rfl⟩
 |call qt f args=>
  cases qt with
  |true=>obtain⟨r,h1,h2⟩:=h1;exact⟨s.H,_,_,h2,λK2 hk=>⟨h0,r,h1,hk⟩,hgn,λ_=>rfl,λ_=>.inl rfl,λ_=>.inl rfl⟩
  |false=>exact absurd rfl hc
 |tJ x=>exact absurd rfl hc
 |slA nn x lo hi=>exact absurd rfl hc
 |ext x xs=>
  cases x<;>first
   |exact absurd rfl hc
   |(refine eff (λK2 q=>⟨h0,q⟩) h1 λq1 q2=>?_
     obtain⟨p1,p2⟩:=q2;rw[IT]at p2;exact⟨_,_,p2,λK2 hk=>⟨p1,by rw[IT];exact hk⟩,λ_=>rfl,by simp [Io.cat],by simp [Io.cat]⟩)
   |(refine eff (λK2 q=>⟨h0,q⟩) h1 λq1 q2=>?_
     rename_i rel;obtain⟨p1,p2⟩:=q2;rcases xs with _|⟨_,_⟩
     ·exact⟨_,_,p2,λK2 hk=>⟨p1,hk⟩,by simp [Io.cat],λ_=>.inr ⟨_,_,p1,rfl⟩,by simp [Io.cat]⟩
     ·exact p1.elim)
   |(refine eff (λK2 q=>⟨h0,q⟩) h1 λq1 q2=>?_
     rcases xs with _|⟨_,_⟩
     ·obtain⟨⟨p0,p1⟩,p2⟩:=q2;exact⟨_,_,p2,λK2 hk=>⟨⟨p0,p1⟩,hk⟩,by simp [Io.cat],λ_=>.inr ⟨_,_,p0,rfl⟩,by simp [Io.cat]⟩
     ·obtain⟨p1,p2⟩:=q2;exact p1.elim)
   |(refine eff (λK2 q=>⟨h0,q⟩) h1 λq1 q2=>?_
     obtain⟨⟨p0,p1⟩,p2⟩:=q2;exact⟨_,_,p2,λK2 hk=>⟨⟨p0,p1⟩,hk⟩,by simp [Io.cat],λ_=>.inr ⟨_,_,p0,rfl⟩,by simp [Io.cat]⟩)
   |(refine eff (λK2 q=>⟨h0,q⟩) h1 λq1 q2=>?_
     obtain⟨p1,p2⟩:=q2;rw[Pn (by trivial)]at p2;exact⟨_,_,p2,λK2 hk=>⟨p1,by rw[Pn (by trivial)];exact hk⟩,λ_=>rfl,by simp [Io.cat],by simp [Io.cat]⟩)
 |uF rel esz bytes zero x y str=>exact absurd rfl hc
 |appZ rel esz bytes zero x y=>exact absurd rfl hc
 |nils nq x=>exact absurd rfl hc
 |mnx x=>exact absurd rfl hc
 |cpu f args=>
  refine eff (λK2 q=>⟨h0,q⟩) h1 λq1 q2=>?_
  simp only[BB]at q2⊢;generalize AV s.env f=fv at q2⊢;cases fv<;>(try simp only[]at q2)<;>first|exact q2.elim|skip
  rename_i ff first cap
  cases ff<;>(try simp only[]at q2)<;>first|exact q2.elim|skip
  obtain⟨r,p1,p2⟩:=q2;exact⟨s.H,r,p2,λK2 hk=>⟨r,p1,hk⟩,λ_=>rfl,λ_=>.inl rfl,λ_=>.inl rfl⟩
 |alloc rel cs=>
  refine eff (λK2 q=>⟨h0,q⟩) h1 λq1 q2=>?_
  exact⟨_,_,q2.2,λK2 hk=>⟨q2.1,hk⟩,by simp [Io.cat],λ_=>.inr ⟨_,_,q2.1,rfl⟩,by simp [Io.cat]⟩
 |box rel sz x=>
  refine eff (λK2 q=>⟨h0,q⟩) h1 λq1 q2=>?_
  exact⟨_,_,q2.2.2.2,λK2 hk=>⟨q2.1,q2.2.1,q2.2.2.1,hk⟩,by simp [Io.cat],λ_=>.inr ⟨_,_,q2.1,rfl⟩,by simp [Io.cat]⟩
 |mks rel esz bytes zero x=>
  refine eff (λK2 q=>⟨h0,q⟩) h1 λq1 q2=>?_
  obtain⟨p1,p2,p3,p4,p5,p6,p7⟩:=q2;exact⟨_,_,p7,λK2 hk=>⟨p1,p2,p3,p4,p5,p6,hk⟩,by simp [Io.cat],λ_=>.inr ⟨_,_,p1,rfl⟩,by simp [Io.cat]⟩
 |st sz a x=>
  refine eff (λK2 q=>⟨h0,q⟩) h1 λq1 q2=>?_
  obtain⟨p1,p2,p3⟩:=q2;simp only[BB,p1,p2,pR];generalize AV s.env a=av at p3⊢;cases av<;>(try simp only[]at p3)<;>first|exact p3.elim|skip
  ·split at p3
   ·grind [Io.cat]
   ·exact p3.elim
  ·split at p3
   ·grind [Io.cat]
   ·exact p3.elim
 |app rel esz bytes x y str=>
  refine eff (λK2 q=>⟨h0,q⟩) h1 λq1 q2=>?_
  simp only[BB]at q2⊢;generalize AV s.env x=av at q2⊢;generalize CG s.H (AV s.env) esz y str=bv at q2⊢;cases av<;>(try simp only[]at q2)<;>first|exact q2.elim|skip
  rename_i tok l;cases bv<;>(try simp only[]at q2)<;>first|exact q2.elim|skip
  simp only[]at q2⊢;obtain⟨p1,p2,p3,p4,p5,p6⟩:=q2;refine⟨_,_,p6,λK2 hk=>⟨p1,p2,p3,p4,p5,hk⟩,by simp [Io.cat],by simp [Io.cat],λ_=>.inr ⟨tok,_,p1,?_,rfl⟩⟩;rintro i e rfl;exact p2.2
def GS(o:xj)(H H':AB)(n n':Nat)(ρ:zx->Fs):Prop:=match o.k with
 | .v k=>(BN H ρ k).1->BN H ρ k=BN H' ρ k
 | .call true _ _=>H=H'/\n=n'
 | .ext (.look ..) _=>H=H'
 |_=>True
theorem Dw{o:xj}{K K':AS->Prop}{s1 s:AS}(sW:o.k.cat=0\/o.k.cat=1\/o.k.cat=3)(hl:Fg o s1.env s.env)
  (hc:Be s.env o.guard=true->Bz s.env o.k.sF->GS o s1.H s.H s1.n s.n (AV s.env))
  (hK:∀g v v',(g=true->v=v')->(o.guard=none->g=true)->K (s1.put o.dst g v)->K' (s.put o.dst g v')):
  AX P Qp base o K s1->AX P Qp base o K' s:=by
 obtain⟨dst,guard,k⟩:=o;have hg:=ES hl;have hgn:guard=none->Be s1.env guard=true:=by rintro rfl;rfl
 simp only at hg hK;have rho:Bz s1.env k.sF->∀x∈k.sF,AV s1.env x=AV s.env x:=λh=>Mr hl (l:=k.sF) (λx hx=>hx) h
 have tT:Bz s1.env k.sF->Bz s.env k.sF:=Mq hl (l:=k.sF) (λx hx=>hx);cases k with
 |v k=>
  rintro⟨h0,h1,h2⟩;have e:Be s1.env guard=true->BN s1.H (AV s1.env) k=BN s.H (AV s.env) k:=λq=>by
   have e1:=Oa (H:=s1.H) k (rho (h1 q).1);rw[e1];exact hc (hg▸q) (tT (h1 q).1) (e1▸(h1 q).2)
  refine⟨Cn hl h0,λq=>?_,?_⟩
  ·have q:Be s1.env guard=true:=hg▸q;exact⟨tT (h1 q).1,e q▸(h1 q).2⟩
  ·grind
 |pick c a b=>
  rintro⟨h0,h1,h2⟩;have l1:=ER hl (x:=c) (by simp [Io.sF]);have l2:=ER hl (x:=a) (by simp [Io.sF]);have l3:=ER hl (x:=b) (by simp [Io.sF]);have ec:Be s1.env guard=true->AV s1.env c=AV s.env c:=λq=>l1.2 (h1 q).1
  have hsel:∀(t:Bool) (x y x' y':Fs),(t=true->x=x')->(t=false->y=y')->QF t x y=QF t x' y':=by
   intro t x y x' y' p1 p2;cases t with
   |true=>have:=p1 rfl;subst this;cases x<;>cases y<;>cases y'<;>rfl
   |false=>have:=p2 rfl;subst this;cases y<;>cases x<;>cases x'<;>rfl
  refine⟨Cn hl h0,λq=>?_,?_⟩
  ·simp_all
  ·show K' (s.put dst (Be s.env guard) _);rw[<-hg];refine hK _ _ _ (λq=>?_) hgn h2;rw[<-ec q];obtain⟨q1,q2,q3,q4⟩:=h1 q;exact hsel _ _ _ _ _ (λp=>l2.2 (q3 p)) (λp=>l3.2 (q4 p))
 |call qt f args=>
  cases qt with
  |false=>simp [Io.cat]at sW
  |true=>
   rintro⟨h0,r,h1,h2⟩;refine⟨Cn hl h0,r,λq=>?_,?_⟩
   ·have q':Be s1.env guard=true:=hg▸q;obtain⟨q1,q2,q3⟩:=h1 q';have q5:Bz s1.env (Io.call true f args).sF:=⟨q1,q2⟩;have rh:=rho q5;have e1:AV s1.env f=AV s.env f:=rh f (by simp [Io.sF]);have e2:args.map (AV s1.env)=args.map (AV s.env):=pC λx hx=>rh x (by simp [Io.sF,hx])
    obtain⟨c1,c2⟩:=hc q (tT q5);refine⟨(tT q5).1,(tT q5).2,?_⟩;rw[e1,e2,c1,c2]at q3;exact q3
   ·grind
 |ext x xs=>
  have free:x.free->AX P Qp base ⟨dst,guard,.ext x xs⟩ K s1->AX P Qp base ⟨dst,guard,.ext x xs⟩ K' s:=by
   rintro hx ⟨h0,h1,h2⟩;refine⟨Cn hl h0,λq=>?_,λq=>?_⟩
   ·have q':Be s1.env guard=true:=hg▸q;obtain⟨q1,q2,q3⟩:=h1 q';have e2:xs.map (AV s1.env)=xs.map (AV s.env):=pC λx hx=>rho q1 x hx
    refine⟨tT q1,?_,?_⟩
    ·show(xE base x s.H (xs.map (AV s.env))).1;rw[<-e2,<-(Uj (b:=base) (l:=xs.map (AV s1.env)) (H:=s1.H) (H':=s.H) hx).1];exact q2
    ·show K' ({s with H:=(xE base x s.H (xs.map (AV s.env))).2.1}.put dst true (xE base x s.H (xs.map (AV s.env))).2.2);have q3':K ({s1 with H:=(xE base x s1.H (xs.map (AV s1.env))).2.1}.put dst true (xE base x s1.H (xs.map (AV s1.env))).2.2):=q3;rw[Pn hx]at q3'⊢;exact hK true _ _ (λ_=>by rw[<-e2];exact(Uj hx).2) (λ_=>rfl) q3'
   ·grind
  cases x<;>first|(simp [Io.cat]at sW;done)|exact free trivial|skip
  rintro⟨h0,h1,h2⟩;refine⟨Cn hl h0,λq=>?_,λq=>?_⟩
  ·have q':Be s1.env guard=true:=hg▸q;obtain⟨q1,q2,q3⟩:=h1 q';have e2:xs.map (AV s1.env)=xs.map (AV s.env):=pC λx hx=>rho q1 x hx
   have hH:s1.H=s.H:=hc q (tT q1);simp only[IT]at q3⊢;rw[e2,hH]at q2;refine⟨tT q1,q2,?_⟩;rename_i kt z ok;have q3':K (s1.put dst true (xE base (.look kt z ok) s1.H (xs.map (AV s1.env))).2.2):=q3;have:=hK true _ (xE base (.look kt z ok) s.H (xs.map (AV s.env))).2.2 (λ_=>by rw[e2,hH]) (λ_=>rfl) q3';show K' ({s with H:=(xE base (.look kt z ok) s.H (xs.map (AV s.env))).2.1}.put dst true (xE base (.look kt z ok) s.H (xs.map (AV s.env))).2.2);rw[IT];exact this
  ·grind
 |cpu f args=>
  rintro⟨h0,h1,h2⟩;refine⟨Cn hl h0,λq=>?_,λq=>?_⟩
  ·have q':Be s1.env guard=true:=hg▸q;obtain⟨q1,q3⟩:=h1 q';have e1:AV s1.env f=AV s.env f:=rho q1 f (by simp [Io.sF]);have e2:args.map (AV s1.env)=args.map (AV s.env):=pC λx hx=>rho q1 x (by simp [Io.sF,hx])
   refine⟨tT q1,?_⟩;simp only[BB]at q3⊢;rw[e1,e2]at q3;generalize AV s.env f=fv at q3⊢;cases fv<;>(try simp only[]at q3)<;>first|exact q3.elim|skip
   rename_i ff first cap
   cases ff<;>(try simp only[]at q3)<;>first|exact q3.elim|skip
   obtain⟨r,p1,p2⟩:=q3;exact⟨r,p1,hK true _ _ (λ_=>rfl) (λ_=>rfl) p2⟩
  ·grind
 |_=>simp [Io.cat]at sW
end
section
variable {P:Program} {Qp:Fs->AB->Nat->Prop} {base:Nat} {kp:List Nat}
theorem Hl(s:AS)(H:AB)(n:Nat)(d:Option Nat)(g:Bool)(v:Fs):({s with H:=H,n:=n}:AS).put d g v={s.put d g v with H:=H,n:=n}:=by cases d<;>rfl
variable {H:AB} {ob:xq} {o:xj} {s:AS} {a:Fs} {ag:Bool} {id sz:Nat} {tok:xv}
theorem Ge{dx dy:Option Nat}{gx gy:Bool}{vx vx' vy vy':Fs}(hd:∀d,dx=some d->dy≠some d)(hx:gx=true->vx=vx')(hy:gy=true->vy=vy')
  (kx:∀d,dx=some d->d∈kp->gx=true) (ky:∀d,dy=some d->d∈kp->gy=true):
  K9 kp ((s.put dx gx vx).put dy gy vy) ((s.put dy gy vy').put dx gx vx'):=by
 refine⟨λt=>?_,by simp [Br],by simp [D7]⟩;simp only[Fq];by_cases h1:dy=some t
 ·have h2:dx≠some t:=λh=>hd t h h1
  rw[oE h1,og h2,oE h1];exact⟨⟨rfl,hy⟩,λm=>by rw[hy (ky t h1 m)]⟩
 ·rw[og h1];by_cases h2:dx=some t
  ·rw[oE h2,oE h2];exact⟨⟨rfl,hx⟩,λm=>by rw[hx (kx t h2 m)]⟩
  ·rw[og h2,og h2,og h1];exact⟨Ld.rfl' _,λ_=>rfl⟩
def WV(H:AB):Fs->Prop
 | .ptr id _| .ap id _ _ _=>AD H id≠none
 |_=>True
theorem LC(h:WV H a)(hn:AD H id=none):A4 (sA H id ob) sz ag a=A4 H sz ag a:=by
 cases a<;>try rfl
 ·rename_i i off;have:id≠i:=by rintro rfl;exact h hn
  simp only[A4,AA _ _ _ _ this]
 ·rename_i i esz j off;have:id≠i:=by rintro rfl;exact h hn
  simp only[A4,AA _ _ _ _ this]
theorem Mt(h:(A4 H sz ag a).1):WV H a:=by
 cases a<;>simp only[WV]
 ·intro hn;simp [A4,hn]at h
 ·intro hn;simp [A4,hn]at h
theorem RV{i:Nat}(hn:AD H id=none)(ht:∀j e,tok= .own j e->AD H j=some .tok)(ho:AD H i=some ob)(sZ:ob≠ .tok):
  AD (sA (AR H tok) id .tok) i=some ob:=by
 have h1:id≠i:=by rintro rfl;rw[hn]at ho;cases ho
 rw[AA _ _ _ _ h1];cases tok<;>try exact ho
 rename_i j e;have h2:j≠i:=by rintro rfl;rw[ht _ _ rfl]at ho;cases ho;exact sZ rfl
 simp only[AR];rw[AA _ _ _ _ h2];exact ho
theorem Jk{i:Nat}(ho:AD (sA (AR H tok) id .tok) i=some ob)(sZ:ob≠ .tok)(hne2:ob≠ .dead):AD H i=some ob:=by
 by_cases h1:id=i
 ·simp_all [AC]
 ·rw[AA _ _ _ _ h1]at ho;cases tok<;>try exact ho
  rename_i j e;simp only[AR]at ho;by_cases h2:j=i
  ·simp_all [AC]
  ·rw[AA _ _ _ _ h2]at ho;exact ho
theorem WW(hn:AD H id=none)(ht:∀j e,tok= .own j e->AD H j=some .tok)(h:(A4 H sz ag a).1):
  A4 H sz ag a=A4 (sA (AR H tok) id .tok) sz ag a:=by
 cases a<;>try rfl
 ·grind [A4,RV]
 ·grind [A4,RV]
theorem Nl(h:(A4 (sA (AR H tok) id .tok) sz ag a).1):
  A4 (sA (AR H tok) id .tok) sz ag a=A4 H sz ag a:=by
 cases a<;>try rfl
 ·grind [A4,Jk]
 ·grind [A4,Jk]
theorem RW(h:o.k.cat=0)(H H':AB)(n n':Nat)(ρ:zx->Fs):GS o H H' n n' ρ:=by
 obtain⟨dst,guard,k⟩:=o;cases k with
 |v k=>cases k<;>first|(simp [Io.cat]at h;done)|exact λ_=>rfl
 |pick c a b=>trivial
 |call q f args=>cases q<;>simp [Io.cat]at h
 |ext x xs=>cases x<;>first|trivial|(simp [Io.cat]at h;done)
 |_=>trivial
theorem RX(H:AB)(n:Nat)(ρ:zx->Fs):GS o H H n n ρ:=by
 obtain⟨dst,guard,k⟩:=o;cases k with
 |v k=>exact λ_=>rfl
 |call q f args=>cases q<;>first|exact⟨rfl,rfl⟩|trivial
 |ext x xs=>cases x<;>first|trivial|exact(rfl:H=H)
 |_=>trivial
theorem Uk(h:o.k.cat=1):∃sz ag x,o.k= .v (.ld sz ag x):=by
 obtain⟨dst,guard,k⟩:=o;cases k with
 |v k=>cases k<;>first|exact⟨_,_,_,rfl⟩|(simp [Io.cat]at h;done)
 |call q f args=>cases q<;>simp [Io.cat]at h
 |ext x xs=>cases x<;>simp [Io.cat]at h
 |_=>simp [Io.cat]at h
def Ob(o:xj)(s:AS):Prop:=∀sz ag x,o.k= .v (.ld sz ag x)->(lk s.env x).1=true->WV s.H (AV s.env x)
def Es(kp:List Nat)(o:xj):Prop:=o.guard=none\/∀d,o.dst=some d->d∉kp
theorem Es.held(h:Es kp o){g:Bool}(hg:o.guard=none->g=true):∀d,o.dst=some d->d∈kp->g=true:=λd hd hm=>h.elim hg λk=>absurd hm (k d hd)
structure Apart(x y:xj):Prop where
 xy:∀d,x.dst=some d->zx.t d∉y.k.sF/\(∀w,y.guard≠some (d,w))/\y.dst≠some d
 yx:∀d,y.dst=some d->zx.t d∉x.k.sF/\∀w,x.guard≠some (d,w)
theorem DI{d:Option Nat}{g:Bool}{v:Fs}(h:∀i,d=some i->zx.t i∉o.k.sF/\∀w,o.guard≠some (i,w)):Fg o (s.put d g v).env s.env:=by
 refine⟨λi hi=>?_,λi w hg=>?_⟩
 ·rw[Fq,og (λe=>(h i e).1 hi)];exact Ld.rfl' _
 ·rw[Fq,og (λe=>(h i e).2 w hg)];exact Ld.rfl' _
theorem Fg.symm{e e':List (Nat×Bool×Fs)}(h:Fg o e e'):Fg o e' e:=⟨λi hi=>(h.1 i hi).symm,λi w hw=>(h.2 i w hw).symm⟩
def HF:Io->Nat
 | .alloc r _| .box r _ _| .mks r _ _ _ _| .ext (.mkm r) _| .ext (.bsm r ..) _| .ext (.mkc r ..) _=>r
 |_=>0
theorem Oc{K K':AS->Prop}{s1:AS}(sW:o.k.cat=2)(hl:Fg o s1.env s.env)(hn:s1.n=s.n)(hdom:AD s1.H (base+HF o.k)=none->AD s.H (base+HF o.k)=none)
  (hK:∀g v v' (u:AB->AB),(g=true->v=v')->(o.guard=none->g=true)->((u=λH=>H)\/∃ob,u=λH=>sA H (base+HF o.k) ob)->K ({s1 with H:=u s1.H}.put o.dst g v)->K' ({s with H:=u s.H}.put o.dst g v')):
  AX P Qp base o K s1->AX P Qp base o K' s:=by
 obtain⟨dst,guard,k⟩:=o;have hg:=ES hl;have hgn:guard=none->Be s1.env guard=true:=by rintro rfl;rfl
 simp only at hg hK;have rho:Bz s1.env k.sF->∀x∈k.sF,AV s1.env x=AV s.env x:=λh=>Mr hl (l:=k.sF) (λx hx=>hx) h
 have tT:Bz s1.env k.sF->Bz s.env k.sF:=Mq hl (l:=k.sF) (λx hx=>hx);have skip:Be s1.env guard=false->K (s1.put dst false (.sH []))->K' (s.put dst false (.sH [])):=λq hk=>
  hK false (.sH []) (.sH []) (λH=>H) zw (λq'=>by have:=hgn q';rw[q]at this;cases this) (.inl rfl) hk
 cases k with
 |alloc rel cs=>
  rintro⟨h0,h1⟩;refine⟨Cn hl h0,?_⟩;simp only[]at h1⊢;rw[<-hg];refine⟨λq=>?_,λq=>skip q (h1.2 q)⟩;obtain⟨q1,q2⟩:=h1.1 q;refine⟨tT q1,?_⟩;simp only[BB]at q2⊢;exact⟨hdom q2.1,hK true _ _ _ (λ_=>rfl) (λ_=>rfl) (.inr ⟨.box cs,rfl⟩) q2.2⟩
 |box rel sz x=>
  rintro⟨h0,h1⟩;refine⟨Cn hl h0,?_⟩;simp only[]at h1⊢;rw[<-hg];refine⟨λq=>?_,λq=>skip q (h1.2 q)⟩;obtain⟨q1,q2⟩:=h1.1 q;have e1:AV s1.env x=AV s.env x:=rho q1 x (by simp [Io.sF]);refine⟨tT q1,?_⟩;simp only[BB]at q2⊢;rw[e1]at q2;exact⟨hdom q2.1,q2.2.1,q2.2.2.1,hK true _ _ _ (λ_=>rfl) (λ_=>rfl) (.inr ⟨.box _,rfl⟩) q2.2.2.2⟩
 |mks rel esz bytes zero x=>
  rintro⟨h0,h1⟩;refine⟨Cn hl h0,?_⟩;simp only[]at h1⊢;rw[<-hg];refine⟨λq=>?_,λq=>skip q (h1.2 q)⟩;obtain⟨q1,q2⟩:=h1.1 q;have e1:AV s1.env x=AV s.env x:=rho q1 x (by simp [Io.sF]);refine⟨tT q1,?_⟩;simp only[BB]at q2⊢;rw[e1]at q2;obtain⟨p1,p2,p3,p4,p5,p6,p7⟩:=q2;exact⟨hdom p1,p2,p3,p4,p5,p6,hK true _ _ _ (λ_=>rfl) (λ_=>rfl) (.inr ⟨.arr _ _,rfl⟩) p7⟩
 |v k=>cases k<;>simp [Io.cat]at sW
 |call q f args=>cases q<;>simp [Io.cat]at sW
 |ext x xs=>
  cases x<;>first|(simp [Io.cat]at sW;done)|skip
  rotate_left
  ·rename_i rel esz nn zero is;rintro⟨h0,h1⟩;refine⟨Cn hl h0,?_⟩;simp only[]at h1⊢;rw[<-hg];refine⟨λq=>?_,λq=>skip q (h1.2 q)⟩;obtain⟨q1,q2⟩:=h1.1 q;have e2:xs.map (AV s1.env)=xs.map (AV s.env):=pC λx hx=>rho q1 x hx
   refine⟨tT q1,?_⟩;simp only[BB]at q2⊢;rw[e2]at q2;obtain⟨⟨p1,p2⟩,p3⟩:=q2;exact⟨⟨hdom p1,p2⟩,hK true _ _ _ (λ_=>rfl) (λ_=>rfl) (.inr ⟨.arr _ _,rfl⟩) p3⟩
  ·rename_i rel esz b zero l c;rintro⟨h0,h1⟩;refine⟨Cn hl h0,?_⟩;simp only[]at h1⊢;rw[<-hg];refine⟨λq=>?_,λq=>skip q (h1.2 q)⟩;obtain⟨q1,q2⟩:=h1.1 q;refine⟨tT q1,?_⟩;simp only[BB]at q2⊢;rcases xs with _|⟨_,_⟩
   ·exact⟨⟨hdom q2.1.1,q2.1.2⟩,hK true _ _ _ (λ_=>rfl) (λ_=>rfl) (.inr ⟨.arr _ _,rfl⟩) q2.2⟩
   ·exact q2.1.elim
  rename_i rel;rintro⟨h0,h1⟩;refine⟨Cn hl h0,?_⟩;simp only[]at h1⊢;rw[<-hg];refine⟨λq=>?_,λq=>skip q (h1.2 q)⟩;obtain⟨q1,q2⟩:=h1.1 q;refine⟨tT q1,?_⟩;simp only[BB]at q2⊢;rcases xs with _|⟨_,_⟩
  ·exact⟨hdom q2.1,hK true _ _ _ (λ_=>rfl) (λ_=>rfl) (.inr ⟨.map [] 0,rfl⟩) q2.2⟩
  ·exact q2.1.elim
 |_=>simp [Io.cat]at sW
theorem swap{x y:xj}{K:AS->Prop}(tW:Apart x y)(sW:FH x.k.cat y.k.cat=true)(kx:Es kp x)(ky:Es kp y)(hrel:x.k.cat=2->y.k.cat=2->HF x.k≠HF y.k)(hsafe:Ob y s)(hK:∀a b,K9 kp a b->K a->K b)
  (h:AX P Qp base x (AX P Qp base y K) s):AX P Qp base y (AX P Qp base x K) s:=by
 have hxc5:x.k.cat≠5:=by intro e;rw[e]at sW;cases hy:y.k.cat<;>simp [FH,hy]at sW
 obtain⟨H',gx,vx,hy,hre,hgx,hH1,hH2,hH4⟩:=EU hxc5 h;have ndst:∀d,x.dst=some d->y.dst≠some d:=λd hd=>(tW.xy d hd).2.2
 have vb:∀{s:AS} {H:AB} {g:Bool} {v:Fs},Fg y ({s with H:=H}.put x.dst g v).env s.env:=λ{s H g v}=>DI (s:={s with H:=H}) (λi e=>⟨(tW.xy i e).1,(tW.xy i e).2.1⟩)
 have uO:∀{s:AS} {H:AB} {n:Nat} {g:Bool} {v:Fs},Fg x s.env ({s with H:=H,n:=n}.put y.dst g v).env:=λ{s H n g v}=>(DI (s:={s with H:=H,n:=n}) (tW.yx)).symm
 by_cases hyv:y.k.cat=0\/y.k.cat=1\/y.k.cat=3
 ·
  refine Dw hyv vb (λhgy hoy=>?_) (λgy vy vy' hvy hgy hk=>?_) hy
  ·rw[Br,D7];by_cases hxc:x.k.cat=0\/x.k.cat=1\/x.k.cat=3
   ·rw[hH1 hxc];exact RX _ _ _
   ·rcases hyv with hy0|hy1|hy3
    ·exact RW hy0 _ _ _ _ _
    ·obtain⟨sz,ag,ad,hyk⟩:=Uk hy1;have hsf:=hsafe sz ag ad hyk (by rw[hyk]at hoy;exact hoy.1);have hxc24:x.k.cat=2\/x.k.cat=4:=by
      rw[hy1]at sW;generalize x.k.cat=c at sW hxc hxc5
      match c with
      |0|1|3=>simp at hxc
      |2=>exact .inl rfl
      |4=>exact .inr rfl
      |5=>simp at hxc5
      |c+6=>simp [FH]at sW
     show GS y H' s.H s.n s.n (AV s.env);unfold GS;rw[hyk];show(A4 H' sz ag (AV s.env ad)).1->A4 H' sz ag (AV s.env ad)=A4 s.H sz ag (AV s.env ad);intro q;rcases hxc24 with e|e
     ·rcases hH2 e with rfl|⟨id,ob,p1,rfl⟩
      ·rfl
      ·exact LC hsf p1
     ·rcases hH4 e with rfl|⟨tok,id,p1,p2,rfl⟩
      ·rfl
      ·exact Nl q
    ·simp_all [FH]
  ·
   have:=hre (λs'=>s'={s with H:=H'}.put x.dst gx vx) rfl;refine CR (uO (s:=s) (H:=s.H) (n:=s.n)) (by rw[Br]) (by rw[D7]) (λH n g v v' hv _ hg he=>?_) this;have e1:({s.put y.dst gy vy' with H:=H,n:=n}:AS).put x.dst g v'=(({s with H:=H,n:=n}:AS).put y.dst gy vy').put x.dst g v':=by cases y.dst<;>rfl
   rw[e1];refine hK _ _ ?_ hk;rw[<-he];exact Ge ndst hv hvy (kx.held hg) (ky.held hgy)
 ·
  have hxv:x.k.cat=0\/x.k.cat=1\/x.k.cat=3\/(x.k.cat=2/\y.k.cat=2):=by grind [FH]
  have fin:∀{H:AB} {n:Nat} {g g2:Bool} {v v' v2 v2':Fs},(g=true->v=v')->(y.guard=none->g=true)->(g2=true->v2=v2')->(x.guard=none->g2=true)->
    K ((({s with H:=H,n:=n}:AS).put x.dst g2 v2).put y.dst g v)->K ((({s with H:=H,n:=n}:AS).put y.dst g v').put x.dst g2 v2'):=λa1 a2 a3 a4 hk=>
   hK _ _ (Ge ndst a3 a1 (kx.held a4) (ky.held a2)) hk
  rcases hxv with hx0|hx1|hx3|⟨hx2,hy2⟩
  ·have eH:=hH1 (.inl hx0);subst eH;refine CR vb (by rw[Br]) (by rw[D7]) (λH n g v v' hv _ hg hk=>?_) hy;have:=hre (λs'=>s'=s.put x.dst gx vx) rfl;refine Dw (.inl hx0) (uO (s:=s) (H:=H) (n:=n)) (λ_ _=>RW hx0 _ _ _ _ _) (λg2 v2 v2' hv2 hg2 he=>?_) this;refine fin hv hg hv2 hg2 ?_;rw[Hl s,he];exact hk
  ·have eH:=hH1 (.inr (.inl hx1));subst eH;have hy24:y.k.cat=2\/y.k.cat=4:=by grind [FH]
   have hyc5:y.k.cat≠5:=by rcases hy24 with e|e<;>rw[e]<;>decide
   obtain⟨H2,gy,vy,hk,hreY,hgy,-,hR2,hR4⟩:=EU hyc5 hy;rw[Br]at hR2 hR4;obtain⟨sz,ag,ad,hxk⟩:=Uk hx1;refine CR vb (by rw[Br]) (by rw[D7]) (λH n g v v' hv _ hg he=>?_) (hreY (λs'=>s'=({s.put x.dst gx vx with H:=H2}:AS).put y.dst gy vy) rfl);have e1:H=H2:=by have:=congrArg AS.H he;rwa[Br,Br]at this
   subst e1;rw[<-he]at hk;have:=hre (λs'=>s'=s.put x.dst gx vx) rfl;refine Dw (.inr (.inl hx1)) (uO (s:=s) (H:=H) (n:=n)) (λ_ _=>?_) (λg2 v2 v2' hv2 hg2 he2=>?_) this
   ·rw[Br,D7];unfold GS;rw[hxk];show(A4 s.H sz ag _).1->A4 s.H sz ag _=A4 H sz ag _;intro q;rcases hy24 with e|e
    ·rcases hR2 e with rfl|⟨id,ob,p1,rfl⟩
     ·rfl
     ·exact(LC (Mt q) p1).symm
    ·rcases hR4 e with rfl|⟨tok,id,p1,p2,rfl⟩
     ·rfl
     ·exact WW p1 p2 q
   ·refine fin hv hg hv2 hg2 ?_;rw[Hl s,he2];exact hk
  ·simp_all [FH]
  ·refine Oc hy2 vb (by rw[D7]) (λq=>?_) (λg v v' u hv hg hu hk=>?_) hy
   ·rw[Br]at q;rcases hH2 hx2 with rfl|⟨id,ob,p1,rfl⟩
    ·exact q
    ·rw[AN]at q;split at q
     ·cases q
     ·exact q
   ·have:=hre (λs'=>s'={s with H:=H'}.put x.dst gx vx) rfl;refine Oc hx2 (uO (s:=s) (H:=u s.H) (n:=s.n)) (by rw[D7]) (λq=>?_) (λg2 v2 v2' u2 hv2 hg2 hu2 he=>?_) this
    ·rw[Br];rcases hu with rfl|⟨ob,rfl⟩
     ·exact q
     ·have:=hrel hx2 hy2;rw[AA _ _ _ _ zo];exact q
    ·rw[Br];have e1:({({s with H:=u s.H}:AS).put y.dst g v' with H:=u2 (u s.H)}:AS).put x.dst g2 v2'=(({s with H:=u2 (u s.H),n:=s.n}:AS).put y.dst g v').put x.dst g2 v2':=by
      cases y.dst<;>rfl
     rw[e1];refine fin hv hg hv2 hg2 ?_;rw[Br]at hk;have e2:H'=u2 s.H:=by have:=congrArg AS.H he;rw[Br,Br]at this;exact this.symm
     have e3:u H'=u2 (u s.H):=by
      rw[e2];rcases hu with rfl|⟨ob,rfl⟩<;>rcases hu2 with rfl|⟨ob2,rfl⟩<;>try rfl
      have:=hrel hx2 hy2;exact IL _ _ _ _ _ zo
     rw[<-e3];have e4:({({s with H:=H'}:AS).put x.dst gx vx with H:=u H'}:AS)=({s with H:=u H',n:=s.n}:AS).put x.dst g2 v2:=by
      have e5:=congrArg AS.env he;have e6:(({s with H:=u2 s.H}:AS).put x.dst g2 v2).env=(({s with H:=u H',n:=s.n}:AS).put x.dst g2 v2).env:=by cases x.dst<;>rfl
      have e7:∀(a b:AS),a.env=b.env->a.H=b.H->a.n=b.n->a=b:=by rintro⟨⟩ ⟨⟩ h1 h2 h3;simp at h1 h2 h3;simp [h1,h2,h3]
      refine e7 _ _ ?_ ?_ ?_
      ·rw[<-e6,e5]
      ·rw[Br]
      ·show(({s with H:=H'}:AS).put x.dst gx vx).n=_;rw[D7,D7]
     rw[<-e4];exact hk
end
section
variable {P:Program} {Qp:Fs->AB->Nat->Prop} {base:Nat} {kp:List Nat}
variable {H:AB}
theorem K9.put{a b:AS}{d:Option Nat}{n:Nat}{g:Bool}{v v':Fs}(h:K9 kp a b)(hv:g=true->v=v')(hk:∀i,d=some i->i∈kp->g=true):
  K9 kp (({a with H:=H,n:=n}:AS).put d g v) (({b with H:=H,n:=n}:AS).put d g v'):=by
 refine⟨λt=>?_,by rw[Br,Br],by rw[D7,D7]⟩;simp only[Fq];by_cases h1:d=some t
 ·rw[oE h1,oE h1];exact⟨⟨rfl,hv⟩,λm=>by rw[hv (hk t h1 m)]⟩
 ·rw[og h1,og h1];exact h.1 t
theorem LD{K:AS->Prop}(hK:∀a b,K9 kp a b->K a->K b):∀(L:List xj),(∀x∈L,Es kp x)->∀a b,K9 kp a b->Dv P Qp base L K a->Dv P Qp base L K b
 |[],_,a,b,h,hh=>hK a b h hh
 |x::L,hk,a,b,h,hh=>CR (s1:=a) (s:=b) ⟨λi _=>(h.1 i).1,λi _ _=>(h.1 i).1⟩ h.2.1 h.2.2
   (λH n g v v' hv _ hg q=>LD hK L (λy hy=>hk y (pE _ hy)) _ _ (h.put hv ((hk x (po ..)).held hg)) q) hh
theorem KU{H':AB}(h:∀id,AD H id≠none->AD H' id≠none){a:Fs}(ha:WV H a):WV H' a:=by
 cases a<;>first|exact h _ ha|trivial
theorem Ft{i id:Nat}{ob:xq}(h:AD H id≠none):AD (sA H i ob) id≠none:=by
 rw[AN];split
 ·simp
 ·exact h
theorem gF{y:xj}{B:List xj}{K:AS->Prop}(ky:Es kp y)(hB:∀x∈B,Es kp x)(hK:∀a b,K9 kp a b->K a->K b):∀(A:List xj) (s:AS),
  (∀x∈A,Apart x y/\FH x.k.cat y.k.cat=true/\Es kp x/\(x.k.cat=2->y.k.cat=2->HF x.k≠HF y.k))->Ob y s->
  Dv P Qp base (A++y::B) K s->AX P Qp base y (Dv P Qp base (A++B) K) s
 |[],_,_,_,h=>h
 |x::A,s,hA,hs,h=>by
  obtain⟨tW,sW,kx,hrel⟩:=hA x (po ..);have hxc5:x.k.cat≠5:=by intro e;rw[e]at sW;cases hy:y.k.cat<;>simp [FH,hy]at sW
  obtain⟨H',gx,vx,h1,hre,-,hH1,hH2,hH4⟩:=EU hxc5 h;have uJ:Ob y ({s with H:=H'}.put x.dst gx vx):=by
   intro sz ag ad e t9;have hy1:y.k.cat=1:=by rw[e];rfl
   have hlk:lk ({s with H:=H'}.put x.dst gx vx).env ad=lk s.env ad:=by
    cases ad with
    |c v=>rfl
    |t i=>
     simp only[lk];rw[Fq,og (λq=>(tW.xy i q).1 (by rw[e];simp [Io.sF,x0.sF]))]
   have ut:AV ({s with H:=H'}.put x.dst gx vx).env ad=AV s.env ad:=by simp only[AV,hlk]
   rw[ut,Br];rw[hlk]at t9;refine KU (H:=s.H) (λid s5=>?_) (hs sz ag ad e t9);rw[hy1]at sW;have hxc:(x.k.cat=0\/x.k.cat=1\/x.k.cat=3)\/x.k.cat=2\/x.k.cat=4:=by grind [FH]
   rcases hxc with e|e|e
   ·rw[hH1 e];exact s5
   ·rcases hH2 e with rfl|⟨i,ob,p1,rfl⟩
    ·exact s5
    ·exact Ft s5
   ·rcases hH4 e with rfl|⟨tok,i,p1,p2,rfl⟩
    ·exact s5
    ·refine Ft ?_;cases tok<;>first|exact s5|exact Ft s5
  have h2:=gF ky hB hK A _ (λz hz=>hA z (pE _ hz)) uJ h1;have hAB:∀z∈A++B,Es kp z:=λz hz=>(pI.1 hz).elim (λq=>(hA z (pE _ q)).2.2.1) (hB z)
  exact swap tW sW kx ky hrel hs (LD hK (A++B) hAB) (hre _ h2)
end
def Hm{x y:xj}(h:Mb x y=true):Apart x y:=by
 unfold Mb at h;rw[oo]at h;obtain⟨h1,h2⟩:=h;refine⟨λd hd=>?_,λd hd=>?_⟩
 ·grind
 ·grind
theorem D8{P:Program}{N lo:Nat}{ops:Array Oper}{mkv imp:List Nat}:∀(L:List Oper) (i:Nat) (l:List xj),Nh P N lo ops mkv imp L i=some l->
  l.length=L.length/\∀(j:Nat) (o:Oper),L[j]?=some o->∃gd k,l[j]?=some ⟨o.dst,gd,k⟩/\Ma ops o.guard=some gd/\BD P (mkv.contains (i+j)) (imp.contains (i+j)) (i+j) o.op=some k/\∀d,o.dst=some d->d<N/\lo<=d
 |[],i,l,h=>by
  simp only[Nh]at h;cases h;exact⟨rfl,λj o h=>by simp at h⟩
 |o::L,i,l,h=>by
  simp only[Nh]at h;split at h
  ·rename_i gd k l' h1 h2 h3;split at h
   ·rename_i hd;cases h;obtain⟨q1,q2⟩:=D8 L (i+1) l' h3;refine⟨by simp [q1],λj o' hj=>?_⟩;cases j with
    |zero=>grind
    |succ j=>grind
   ·cases h
  ·cases h
def Gf{P:Program}{mkv imp:Bool}{i:Nat}{op:Op}{k:Io}(h:BD P mkv imp i op=some k)(hc:k.cat=2):HF k=i:=by
 have other:BD P mkv imp i op=(CD P mkv op).map .v->False:=by
  intro e;rw[e]at h;cases h1:CD P mkv op with
  |none=>simp [h1]at h
  |some k'=>simp [h1]at h;subst h;cases k'<;>simp [Io.cat]at hc
 cases op;case alloc t=>
  simp only[BD]at h;cases hz:B6 P t with
  |none=>simp [hz]at h
  |some z=>simp [hz]at h;subst h;rfl
 case box t x=>
  simp only[BD]at h;split at h
  ·cases h;rfl
  ·cases h
 case pick c x y=>grind [BD,Io.cat]
 case store t ad x=>grind [BD,Io.cat]
 case slice t x lo hi mx=>grind [BD,Io.cat]
 case panic x=>
  simp only[BD]at h;cases hx:Aw x with
  |none=>simp [hx]at h
  |some x'=>simp [hx]at h;subst h;simp [Io.cat]at hc
 case makeSlice t l c=>
  cases mkv with
  |true=>exact(other (by simp [BD])).elim
  |false=>
   cases l<;>cases c<;>(try (simp [BD]at h;done))
   ·simp only[BD,oP,pb]at h;split at h
    ·split at h
     ·split at h
      ·cases h;rfl
      ·cases h
     ·cases h
    ·cases h
   ·rename_i l c;cases l<;>(try (simp [BD]at h;done));rename_i kl nl;cases kl<;>(try (simp [BD]at h;done));cases c<;>(try (simp [BD]at h;done));rename_i kc nc;cases kc<;>(try (simp [BD]at h;done));simp only[BD,oP,pb]at h;split at h
    ·split at h
     ·split at h
      ·cases h;rfl
      ·cases h
     ·cases h
    ·split at h
     ·split at h
      ·split at h
       ·cases h;rfl
       ·cases h
      ·cases h
     ·cases h
 case call c=>
  obtain⟨callee,args,ts⟩:=c;cases callee;case invoke rv mt=>simp [BD,CD]at h
  case value f=>
   simp only[BD]at h;split at h
   ·cases mkv<;>cases imp<;>simp at h<;>subst h<;>simp [Io.cat]at hc
   ·cases h
  case builtin b=>
   cases b;case append=>grind [BD,Io.cat]
   case len=>
    simp only[BD]at h;split at h
    ·split at h
     ·cases hx:Aw ‹Operand› with
      |none=>simp [hx]at h
      |some x'=>simp [hx]at h;subst h;simp [Io.cat]at hc
     ·cases h1:CD P mkv (.call {callee:=.builtin .len,args,argTypes:=ts})with
      |none=>simp [h1]at h
      |some k'=>simp [h1]at h;subst h;cases k'<;>simp [Io.cat]at hc
    ·cases h
   case copy=>grind [BD,Io.cat]
   all_goals exact(other (by first|rfl|simp [BD])).elim
 case buildSlice t len parts=>
  simp only[BD]at h;split at h
  ·split at h
   ·split at h
    ·cases h;rfl
    ·cases h
   ·cases h
  ·cases h1:CD P mkv (.buildSlice t len parts)with
   |none=>simp [h1]at h
   |some k'=>simp [h1]at h;subst h;cases k'<;>simp [Io.cat]at hc
 case makeMap t r=>
  cases r with
  |some r=>simp [BD,CD]at h
  |none=>
   simp only[BD]at h;split at h
   ·cases h;rfl
   ·cases h
 case lookup t x ix ok=>
  simp only[BD]at h;split at h
  ·split at h
   ·cases h;simp [Io.cat]at hc
   ·cases h
  ·cases h
 case mapUpdate t mm kk x=>
  simp only[BD,V2]at h;split at h
  ·simp only[pY]at h;obtain⟨_,_,rfl⟩:=h;simp [Io.cat]at hc
  ·cases h
 case insert t mm kk x=>
  simp only[BD,V2]at h;split at h
  ·simp only[pY]at h;obtain⟨_,_,rfl⟩:=h;simp [Io.cat]at hc
  ·cases h
 case range t x=>
  simp only[BD]at h;split at h
  ·cases h;simp [Io.cat]at hc
  ·cases h;simp [Io.cat]at hc
  ·cases h
 case next x b=>
  cases b with
  |false=>
   simp only[BD]at h;cases hx:Aw x with
   |none=>simp [hx]at h
   |some x'=>simp [hx]at h;subst h;simp [Io.cat]at hc
  |true=>
   simp only[BD]at h;cases hx:Aw x with
   |none=>simp [hx]at h
   |some x'=>simp [hx]at h;subst h;simp [Io.cat]at hc
 case entry x=>
  simp only[BD]at h;cases hx:Aw x with
  |none=>simp [hx]at h
  |some x'=>simp [hx]at h;subst h;simp [Io.cat]at hc
 case convert sT dT x=>
  simp only[BD]at h;split at h
  ·cases hx:Aw x with
   |none=>simp [hx]at h
   |some x'=>simp [hx]at h;subst h;simp [Io.cat]at hc
  ·cases h1:CD P mkv (.convert sT dT x)with
   |none=>simp [h1]at h
   |some k'=>simp [h1]at h;subst h;cases k'<;>simp [Io.cat]at hc
 case binOp bo t X Y yt=>
  cases bo<;>cases Y<;>first
   |exact(other rfl).elim
   |(simp only[BD]at h
     split at h
     ·simp only[pY]at h;obtain⟨_,_,rfl⟩:=h;simp [Io.cat]at hc
     ·split at h
      ·grind [Option.map_eq_some_iff,Io.cat]
      ·simp only[pY]at h;obtain⟨k',_,rfl⟩:=h;cases k'<;>simp [Io.cat]at hc
     done)
   |exact(other (by simp only[BD])).elim
 case typeAssert x xt t ok=>
  simp only[BD]at h;split at h
  ·cases h
  ·split at h
   ·cases h;simp [Io.cat]at hc
   ·cases h
 all_goals exact(other (by first|rfl|simp [BD])).elim
theorem Hn{base:Nat}{cx:Nat->Fs}{ρ ρ':zx->Fs}:∀(f:Nat) (k:Io),(∀a∈k.sF,ρ a=ρ' a)->Bg base cx ρ f k->Bg base cx ρ' f k
 |0,_,_,_=>trivial
 |1,.v (.ld _ _ a),h,q=>by simp only[Bg]at q⊢;rw[<-h a (by simp [Io.sF,x0.sF])];exact q
 |2,.st _ a _,h,q=>by simp only[Bg]at q⊢;rw[<-h a (by simp [Io.sF])];exact q
 |f+3,.v k,h,q=>by
  cases k with
  |ld sz ag a=>simp only[Bg]at q⊢;rw[<-h a (by simp [Io.sF,x0.sF])];exact q
  |_=>simp only[Bg]at q
 |f+3,.st _ a _,h,q=>by simp only[Bg]at q⊢;rw[<-h a (by simp [Io.sF])];exact q
 |f+3,.pick ..,_,q|f+3,.alloc ..,_,q|f+3,.box ..,_,q|f+3,.app ..,_,q|f+3,.mks ..,_,q|f+3,.call true ..,_,q|f+3,.tJ ..,_,q|f+3,.slA ..,_,q|f+3,.ext ..,_,q|f+3,.uF ..,_,q|f+3,.appZ ..,_,q|f+3,.nils ..,_,q|f+3,.cpu ..,_,q|f+3,.mnx ..,_,q=>by simp only[Bg]at q
 |f+3,.call false ..,_,q=>by simp only[Bg]at q⊢;exact q
 |2,.uF ..,_,q=>trivial
 |1,.pick ..,_,q|1,.alloc ..,_,q|1,.box ..,_,q|1,.app ..,_,q|1,.mks ..,_,q|1,.call ..,_,q|1,.tJ ..,_,q|1,.st ..,_,q=>by simp only[Bg]at q
 |2,.v k,h,q=>by
  cases k with
  |ld sz ag a=>simp only[Bg]at q⊢;rw[<-h a (by simp [Io.sF,x0.sF])];exact q
  |_=>simp only[Bg]at q
 |2,.pick ..,_,q|2,.alloc ..,_,q|2,.box ..,_,q|2,.app ..,_,q|2,.mks ..,_,q|2,.call ..,_,q|2,.tJ ..,_,q=>by simp only[Bg]at q
 |1,.v k,h,q=>by
  cases k with
  |ld sz ag a=>simp only[Bg]at q⊢;rw[<-h a (by simp [Io.sF,x0.sF])];exact q
  |_=>simp only[Bg]at q
def RY{H:AB}{id sz:Nat}{ag:Bool}{ob:xq}{a:Fs}(h:¬EF id a):A4 (sA H id ob) sz ag a=A4 H sz ag a:=by
 cases a<;>try rfl
 ·rename_i i off;simp only[A4,AA _ _ _ _ (λe=>h (Eq.symm e))]
 ·rename_i i esz j off;simp only[A4,AA _ _ _ _ (λe=>h (Eq.symm e))]
def Mu{base id:Nat}{a b:Fs}(h1:Il base a)(h2:EF id a)(h3:Ga base b):¬EF id b:=by
 intro h4;have e1:base<=id:=by cases a<;>simp only[Il,EF]at h1 h2<;>omega
 have e2:id<base:=by cases b<;>simp only[Ga,EF]at h3 h4<;>omega
 omega
section
variable {P:Program} {Qp:Fs->AB->Nat->Prop} {base:Nat} {cx:Nat->Fs} {kp:List Nat}
variable {o y:xj} {s:AS} {K:AS->Prop} {a:Fs} {ag:Bool} {sz f base m:Nat} {x:Nat×xj} {ax:zx}
theorem Mv{a x:zx}(hk:o.k= .st sz a x)(h:AX P Qp base o K s):
  ∃H' g v,K ({s with H:=H'}.put o.dst g v)/\(∀K2:AS->Prop,K2 ({s with H:=H'}.put o.dst g v)->AX P Qp base o K2 s)/\(o.guard=none->g=true)/\
   (H'=s.H\/(Be s.env o.guard=true/\∃id ob,EF id (AV s.env a)/\H'=sA s.H id ob)):=by
 obtain⟨dst,guard,k⟩:=o;simp only at hk;subst hk;obtain⟨h0,h1⟩:=h;simp only at h1;by_cases hg:Be s.env guard=true
 ·obtain⟨p0,p1,p2,p3⟩:=h1.1 hg;have fin:∀(H':AB) (id:Nat) (ob:xq),EF id (AV s.env a)->H'=sA s.H id ob->K ({s with H:=H'}.put dst true (.sH []))->
    (∀K2:AS->Prop,K2 ({s with H:=H'}.put dst true (.sH []))->BB P Qp base ⟨dst,guard,.st sz a x⟩ K2 s)->_:=λH' id ob q1 q2 q3 q4=>
   (⟨H',true,.sH [],q3,λK2 hk=>⟨h0,λ_=>⟨p0,q4 K2 hk⟩,λq=>by rw[hg]at q;cases q⟩,λ_=>rfl,.inr ⟨hg,id,ob,q1,q2⟩⟩:
    ∃H' g v,K ({s with H:=H'}.put dst g v)/\(∀K2:AS->Prop,K2 ({s with H:=H'}.put dst g v)->AX P Qp base ⟨dst,guard,.st sz a x⟩ K2 s)/\(guard=none->g=true)/\
     (H'=s.H\/(Be s.env guard=true/\∃id ob,EF id (AV s.env a)/\H'=sA s.H id ob)))
  generalize hav:AV s.env a=av at p3 fin;cases av<;>(try simp only[]at p3)<;>first|exact p3.elim|skip
  ·split at p3
   ·rename_i id off _ cs hh;refine fin _ id _ rfl rfl p3.2 λK2 hk=>⟨p1,p2,?_⟩
    simp only[hav,hh];exact⟨p3.1,hk⟩
   ·exact p3.elim
  ·split at p3
   ·rename_i id esz i off _ e l hh;obtain⟨r1,r2,r3,r5⟩:=p3;refine fin _ id _ rfl rfl r5 λK2 hk=>⟨p1,p2,?_⟩
    simp only[hav,hh];exact⟨r1,r2,r3,hk⟩
   ·exact p3.elim
 ·have hg:Be s.env guard=false:=by simpa using hg
  exact⟨s.H,false,.sH [],h1.2 hg,λK2 hk=>⟨h0,λq=>(by rw[hg]at q;cases q),λ_=>hk⟩,λq=>(by subst q;cases hg),.inl rfl⟩
theorem Jl{d:Option Nat}{g:Bool}{v:Fs}{a:zx}(h:∀i,d=some i->a≠ .t i):AV (s.put d g v).env a=AV s.env a:=by
 cases a with
 |c v=>rfl
 |t i=>simp only[AV,lk];rw[Fq,og (λe=>h i e rfl)]
theorem Yz{x:xj}{sz':Nat}{ay vy0:zx}(hxk:x.k= .v (.ld sz ag ax))(hyk:y.k= .st sz' ay vy0)(tW:Apart x y)(kx:Es kp x)(ky:Es kp y)
  (sZ:Be s.env x.guard=true->Be s.env y.guard=true->∀id,EF id (AV s.env ay)->¬EF id (AV s.env ax)) (hK:∀a b,K9 kp a b->K a->K b)
  (h:AX P Qp base x (AX P Qp base y K) s):AX P Qp base y (AX P Qp base x K) s:=by
 have hx1:x.k.cat=1:=by rw[hxk];rfl
 obtain⟨H',gx,vx,hy,hre,hgx,hH1,-,-⟩:=EU (by rw[hx1];decide) h;have eH:=hH1 (.inr (.inl hx1));subst eH;have ndst:∀d,x.dst=some d->y.dst≠some d:=λd hd=>(tW.xy d hd).2.2
 have vb:∀{s:AS} {H:AB} {g:Bool} {v:Fs},Fg y ({s with H:=H}.put x.dst g v).env s.env:=λ{s H g v}=>DI (s:={s with H:=H}) (λi e=>⟨(tW.xy i e).1,(tW.xy i e).2.1⟩)
 have uO:∀{s:AS} {H:AB} {n:Nat} {g:Bool} {v:Fs},Fg x s.env ({s with H:=H,n:=n}.put y.dst g v).env:=λ{s H n g v}=>(DI (s:={s with H:=H,n:=n}) (tW.yx)).symm
 obtain⟨H2,gy,vy,hk,hreY,hgy,hS⟩:=Mv hyk hy;refine CR vb (by rw[Br]) (by rw[D7]) (λH n g v v' hv _ hg he=>?_) (hreY (λs'=>s'=({s.put x.dst gx vx with H:=H2}:AS).put y.dst gy vy) rfl);have e1:H=H2:=by have:=congrArg AS.H he;rwa[Br,Br]at this
 subst e1;rw[<-he]at hk;have:=hre (λs'=>s'=s.put x.dst gx vx) rfl;refine Dw (.inr (.inl hx1)) (uO (s:=s) (H:=H) (n:=n)) (λq1 _=>?_) (λg2 v2 v2' hv2 hg2 he2=>?_) this
 ·rw[Br,D7];have ex:AV (({s with H:=H,n:=n}:AS).put y.dst g v').env ax=AV s.env ax:=Jl (s:={s with H:=H,n:=n}) (λi e=>λe'=>(tW.yx i e).1 (by rw[hxk,e'];simp [Io.sF,x0.sF]));rw[<-ES (uO (s:=s) (H:=H) (n:=n) (g:=g) (v:=v'))]at q1;unfold GS;rw[hxk];show(A4 s.H sz ag _).1->A4 s.H sz ag _=A4 H sz ag _;intro _;rw[ex];rcases hS with e|⟨p1,id,ob,p2,p3⟩
  ·rw[e,Br]
  ·rw[p3,Br,RY];have ey:AV (s.put x.dst gx vx).env ay=AV s.env ay:=Jl (λi e=>λe'=>(tW.xy i e).1 (by rw[hyk,e'];simp [Io.sF]));rw[ey]at p2;have gy':Be s.env y.guard=true:=by rw[<-ES (vb (s:=s) (H:=s.H) (g:=gx) (v:=vx))];exact p1
   exact sZ q1 gy' _ p2
 ·refine hK _ _ (Ge ndst hv2 hv (kx.held hg2) (ky.held hg)) ?_;rw[Hl s,he2];exact hk
theorem Y0{x:xj}{sz':Nat}{ay vy0:zx}(hxk:x.k= .st sz' ax vy0)(hyk:y.k= .v (.ld sz ag ay))(tW:Apart x y)(kx:Es kp x)(ky:Es kp y)
  (sZ:Be s.env x.guard=true->Be s.env y.guard=true->∀id,EF id (AV s.env ax)->¬EF id (AV s.env ay)) (hK:∀a b,K9 kp a b->K a->K b)
  (h:AX P Qp base x (AX P Qp base y K) s):AX P Qp base y (AX P Qp base x K) s:=by
 have hy1:y.k.cat=1:=by rw[hyk];rfl
 obtain⟨H',gx,vx,hy,hre,hgx,hS⟩:=Mv hxk h;have ndst:∀d,x.dst=some d->y.dst≠some d:=λd hd=>(tW.xy d hd).2.2
 have vb:∀{s:AS} {H:AB} {g:Bool} {v:Fs},Fg y ({s with H:=H}.put x.dst g v).env s.env:=λ{s H g v}=>DI (s:={s with H:=H}) (λi e=>⟨(tW.xy i e).1,(tW.xy i e).2.1⟩)
 have uO:∀{s:AS} {H:AB} {n:Nat} {g:Bool} {v:Fs},Fg x s.env ({s with H:=H,n:=n}.put y.dst g v).env:=λ{s H n g v}=>(DI (s:={s with H:=H,n:=n}) (tW.yx)).symm
 refine Dw (.inr (.inl hy1)) vb (λhgy hoy=>?_) (λgy vy vy' hvy hgy hk=>?_) hy
 ·rw[Br,D7];unfold GS;rw[hyk];show(A4 H' sz ag (AV s.env ay)).1->A4 H' sz ag (AV s.env ay)=A4 s.H sz ag (AV s.env ay);intro _;rcases hS with e|⟨p1,id,ob,p2,p3⟩
  ·rw[e]
  ·rw[p3,RY];exact sZ p1 hgy _ p2
 ·have:=hre (λs'=>s'={s with H:=H'}.put x.dst gx vx) rfl;refine CR (uO (s:=s) (H:=s.H) (n:=s.n)) (by rw[Br]) (by rw[D7]) (λH n g v v' hv _ hg he=>?_) this;have e1:({s.put y.dst gy vy' with H:=H,n:=n}:AS).put x.dst g v'=(({s with H:=H,n:=n}:AS).put y.dst gy vy').put x.dst g v':=by cases y.dst<;>rfl
  rw[e1];refine hK _ _ ?_ hk;rw[<-he];exact Ge ndst hv hvy (kx.held hg) (ky.held hgy)
theorem RZ{H:AB}{n:Nat}{d:Option Nat}{g:Bool}{v:Fs}(h:∀i,d=some i->zx.t i∉o.k.sF/\∀w,o.guard≠some (i,w)):
  Gb base cx f o ({s with H:=H,n:=n}.put d g v)↔Gb base cx f o s:=by
 have hl:Fg o ({s with H:=H,n:=n}.put d g v).env s.env:=DI (s:={s with H:=H,n:=n}) h;have hg:=ES hl;have ha:∀a∈o.k.sF,AV ({s with H:=H,n:=n}.put d g v).env a=AV s.env a:=λa hm=>Jl (s:={s with H:=H,n:=n}) (λi e e'=>(h i e).1 (e'▸hm))
 unfold Gb;rw[hg];exact⟨λq e=>Hn f o.k ha (q e),λq e=>Hn f o.k (λa hm=>(ha a hm).symm) (q e)⟩
theorem Gw(h:UT x=true):x.1=1/\∃sz ag a,x.2.k= .v (.ld sz ag a):=by
 obtain⟨f,d,g,k⟩:=x;unfold UT at h;simp only[oo,qF]at h;refine⟨h.1,?_⟩;cases k with
 |v k=>cases k with
  |ld sz ag a=>exact⟨_,_,_,rfl⟩
  |_=>exact absurd h.2 zw
 |_=>exact absurd h.2 zw
theorem Et(h:UU x=true):x.1=2/\∃sz a v,x.2.k= .st sz a v:=by
 obtain⟨f,d,g,k⟩:=x;unfold UU at h;simp only[oo,qF]at h;refine⟨h.1,?_⟩;cases k with
 |st sz a v=>exact⟨_,_,_,rfl⟩
 |_=>exact absurd h.2 zw
theorem Dx(h:Qy x=true):∃m,x.1=m+3/\∃sz ag a,x.2.k= .v (.ld sz ag a):=by
 obtain⟨f,d,g,k⟩:=x;unfold Qy at h;simp only[oo,Nat.ble_eq]at h;refine⟨f-3,by simp only;omega,?_⟩;cases k with
 |v k=>cases k with
  |ld sz ag a=>exact⟨_,_,_,rfl⟩
  |_=>exact absurd h.2 zw
 |_=>exact absurd h.2 zw
theorem Eu(h:UV x=true):∃m,x.1=m+3/\∃sz a v,x.2.k= .st sz a v:=by
 obtain⟨f,d,g,k⟩:=x;unfold UV at h;simp only[oo,Nat.ble_eq]at h;refine⟨f-3,by simp only;omega,?_⟩;cases k with
 |st sz a v=>exact⟨_,_,_,rfl⟩
 |_=>exact absurd h.2 zw
theorem Ra{x y:Nat}(h:cH x y=true):(x≠y/\x<=1002/\y<=1002)\/(1003<=x/\x % 2=1/\y=x+1)\/(1003<=y/\y % 2=1/\x=y+1)\/(x≠y/\1003<=x/\x<=300002/\x % 2=1/\1003<=y/\y<=300002/\y % 2=1):=by
 unfold cH at h;simp only[oV,oo,bne_iff_ne,Nat.ble_eq,qF]at h;omega
theorem Y1{x y:Nat}(h:cH x y=true):cH y x=true:=by
 have:=Ra h;unfold cH;simp only[oV,oo,bne_iff_ne,Nat.ble_eq,qF];omega
theorem Jm(h:Pb x=true):∃m,x.1=m+3/\300000<=m/\m % 2=0/\∃f xs,x.2.k= .call false f xs:=by
 obtain⟨f,d,g,k⟩:=x;unfold Pb at h;simp only[oo,Nat.ble_eq,qF]at h;refine⟨f-3,by simp only;omega,zo,zo,?_⟩;cases k with
 |call q f xs=>cases q with
  |true=>exact absurd h.2 zw
  |false=>exact⟨_,_,rfl⟩
 |_=>exact absurd h.2 zw
theorem TC{id:Nat}(h1:OF base cx m a)(h2:EF id a):QG base cx m id:=by
 cases a<;>simp only[OF,EF]at h1 h2
 ·subst h2;exact h1
 ·subst h2;exact h1.2
theorem ki{m':Nat}{i:Nat}(k1:QG base cx m i)(k2:QG base cx m' i)(sZ:cH (m+3) (m'+3)=true):False:=by
 have hk:=Ra sZ;have pair:∀a:Nat,1000<=a->a % 2=0->QG base cx a i->QG base cx (a+1) i->False:=by
  intro a h0 h1 q1 q2;unfold QG at q1 q2;by_cases hb:a<300000
  ·grind
  ·grind
 rcases hk with⟨h1,h2,h3⟩|⟨h1,h2,h3⟩|⟨h1,h2,h3⟩|⟨h1,h2,h3,h4,h5,h6,h7⟩
 ·unfold QG at k1 k2;rw[oE zo]at k1 k2;omega
 ·grind
 ·grind
 ·unfold QG at k1 k2;rw[og zo,oE zo,oE zo]at k1 k2;omega
theorem Rb{id m':Nat}{b:Fs}(h1:OF base cx m a)(h2:EF id a)(h3:OF base cx m' b)(sZ:cH (m+3) (m'+3)=true):¬EF id b:=
 λh4=>ki (TC h1 h2) (TC h3 h4) sZ
theorem I4(h:YZ x=true):x.1=2/\∃sz ag a,x.2.k= .v (.ld sz ag a):=by
 obtain⟨f,d,g,k⟩:=x;unfold YZ at h;simp only[oo,qF]at h;refine⟨h.1,?_⟩;cases k with
 |v k=>cases k with
  |ld sz ag a=>exact⟨_,_,_,rfl⟩
  |_=>exact absurd h.2 zw
 |_=>exact absurd h.2 zw
theorem Mw(h:Ya x=true):x.1=2/\∃rel esz bytes z a v str,x.2.k= .uF rel esz bytes z a v str:=by
 obtain⟨f,d,g,k⟩:=x;unfold Ya at h;simp only[oo,qF]at h;refine⟨h.1,?_⟩;cases k with
 |uF rel esz bytes z a v str=>exact⟨_,_,_,_,_,_,_,rfl⟩
 |_=>exact absurd h.2 zw
theorem Gx{k:Io}{H H':AB}(h:k.cat≠5):FF cx f k H H':=by
 unfold FF;split
 ·exact absurd rfl h
 ·exact absurd rfl h
 ·trivial
theorem kj{x:xj}(hxk:x.k= .v (.ld sz ag ax))(tW:Apart x y)(kx:Es kp x)(ky:Es kp y)
  (sZ:Be s.env x.guard=true->∀s',K s'->(A4 s.H sz ag (AV s.env ax)).1->A4 s.H sz ag (AV s.env ax)=A4 s'.H sz ag (AV s.env ax)) (hK:∀a b,K9 kp a b->K a->K b)
  (h:AX P Qp base x (AX P Qp base y K) s):AX P Qp base y (AX P Qp base x K) s:=by
 have hx1:x.k.cat=1:=by rw[hxk];rfl
 obtain⟨H',gx,vx,hy,hre,hgx,hH1,-,-⟩:=EU (by rw[hx1];decide) h;have eH:=hH1 (.inr (.inl hx1));subst eH;have ndst:∀d,x.dst=some d->y.dst≠some d:=λd hd=>(tW.xy d hd).2.2
 have vb:∀{s:AS} {H:AB} {g:Bool} {v:Fs},Fg y ({s with H:=H}.put x.dst g v).env s.env:=λ{s H g v}=>DI (s:={s with H:=H}) (λi e=>⟨(tW.xy i e).1,(tW.xy i e).2.1⟩)
 have uO:∀{s:AS} {H:AB} {n:Nat} {g:Bool} {v:Fs},Fg x s.env ({s with H:=H,n:=n}.put y.dst g v).env:=λ{s H n g v}=>(DI (s:={s with H:=H,n:=n}) (tW.yx)).symm
 refine CR vb (by rw[Br]) (by rw[D7]) (λH n g v v' hv _ hg hk=>?_) hy;have:=hre (λs'=>s'=s.put x.dst gx vx) rfl;refine Dw (.inr (.inl hx1)) (uO (s:=s) (H:=H) (n:=n)) (λq1 _=>?_) (λg2 v2 v2' hv2 hg2 he2=>?_) this
 ·rw[Br,D7];have ex:AV (({s with H:=H,n:=n}:AS).put y.dst g v').env ax=AV s.env ax:=Jl (s:={s with H:=H,n:=n}) (λi e=>λe'=>(tW.yx i e).1 (by rw[hxk,e'];simp [Io.sF,x0.sF]));rw[<-ES (uO (s:=s) (H:=H) (n:=n) (g:=g) (v:=v'))]at q1;unfold GS;rw[hxk];show(A4 s.H sz ag _).1->A4 s.H sz ag _=A4 H sz ag _;rw[ex];intro q;have:=sZ q1 _ hk q;rw[Br]at this;exact this
 ·refine hK _ _ (Ge ndst hv2 hv (kx.held hg2) (ky.held hg)) ?_;rw[Hl s,he2];exact hk
theorem ko{x:xj}(hxk:x.k= .v (.ld sz ag ax))(tW:Apart x y)(kx:Es kp x)(ky:Es kp y)
  (sZ:Be s.env x.guard=true->∀id,EF id (AV s.env ax)->¬EF id a) (hK:∀a b,K9 kp a b->K a->K b) (hkeep:∀s',K s'->Gt a s.H s'.H)
  (h:AX P Qp base x (AX P Qp base y K) s):AX P Qp base y (AX P Qp base x K) s:=by
 have hx1:x.k.cat=1:=by rw[hxk];rfl
 obtain⟨H',gx,vx,hy,hre,hgx,hH1,-,-⟩:=EU (by rw[hx1];decide) h;have eH:=hH1 (.inr (.inl hx1));subst eH;have ndst:∀d,x.dst=some d->y.dst≠some d:=λd hd=>(tW.xy d hd).2.2
 have vb:∀{s:AS} {H:AB} {g:Bool} {v:Fs},Fg y ({s with H:=H}.put x.dst g v).env s.env:=λ{s H g v}=>DI (s:={s with H:=H}) (λi e=>⟨(tW.xy i e).1,(tW.xy i e).2.1⟩)
 have uO:∀{s:AS} {H:AB} {n:Nat} {g:Bool} {v:Fs},Fg x s.env ({s with H:=H,n:=n}.put y.dst g v).env:=λ{s H n g v}=>(DI (s:={s with H:=H,n:=n}) (tW.yx)).symm
 refine CR vb (by rw[Br]) (by rw[D7]) (λH n g v v' hv _ hg hk=>?_) hy;have hkp:=hkeep _ hk;rw[Br]at hkp;have:=hre (λs'=>s'=s.put x.dst gx vx) rfl;refine Dw (.inr (.inl hx1)) (uO (s:=s) (H:=H) (n:=n)) (λq1 _=>?_) (λg2 v2 v2' hv2 hg2 he2=>?_) this
 ·rw[Br,D7];have ex:AV (({s with H:=H,n:=n}:AS).put y.dst g v').env ax=AV s.env ax:=Jl (s:={s with H:=H,n:=n}) (λi e=>λe'=>(tW.yx i e).1 (by rw[hxk,e'];simp [Io.sF,x0.sF]));rw[<-ES (uO (s:=s) (H:=H) (n:=n) (g:=g) (v:=v'))]at q1;unfold GS;rw[hxk];show(A4 s.H sz ag _).1->A4 s.H sz ag _=A4 H sz ag _;rw[ex];intro q;have hn:=sZ q1;have hd:=Mt q;generalize AV s.env ax=av at q hn hd;cases av<;>try rfl
  ·rename_i i off;simp only[A4,hkp i (hn i rfl) hd]
  ·rename_i i esz j off;simp only[A4,hkp i (hn i rfl) hd]
 ·refine hK _ _ (Ge ndst hv2 hv (kx.held hg2) (ky.held hg)) ?_;rw[Hl s,he2];exact hk
theorem swapX{y:Nat×xj}(tW:Apart x.2 y.2)(sW:Qz x y=true)(kx:Es kp x.2)(ky:Es kp y.2)(hrel:x.2.k.cat=2->y.2.k.cat=2->HF x.2.k≠HF y.2.k)(hsafe:Ob y.2 s)(hK:∀a b,K9 kp a b->K a->K b)
  (hc5:x.2.k.cat≠5)
  (h:K4 P Qp base cx x (K4 P Qp base cx y K) s):K4 P Qp base cx y (K4 P Qp base cx x K) s:=by
 obtain⟨fx,x⟩:=x;obtain⟨fy,y⟩:=y;obtain⟨sx,h⟩:=h;simp only at*;have hyx:∀i,y.dst=some i->zx.t i∉x.k.sF/\∀w,x.guard≠some (i,w):=λi e=>tW.yx i e
 have u0:∀i,x.dst=some i->zx.t i∉y.k.sF/\∀w,y.guard≠some (i,w):=λi e=>⟨(tW.xy i e).1,(tW.xy i e).2.1⟩
 have hx01:y.k.cat=5->x.k.cat=0\/x.k.cat=1:=by
  intro e;unfold Qz at sW;rw[oV,oV,oV,oV,oV,oV]at sW;simp only[oo]at sW;rcases sW with(((((q|q)|q)|q)|q)|q)|q
  ·grind [FH]
  ·obtain⟨-,_,_,_,e2⟩:=Et q.2;rw[e2]at e;cases e
  ·obtain⟨-,_,_,_,e2⟩:=Gw q.2;rw[e2]at e;cases e
  ·obtain⟨_,-,_,_,_,e2⟩:=Eu q.2;rw[e2]at e;cases e
  ·obtain⟨_,-,_,_,_,e2⟩:=Dx q.2;rw[e2]at e;cases e
  ·obtain⟨_,-,_,_,_,e2⟩:=Dx q.1.1;right;simp only at e2;rw[e2];rfl
  ·obtain⟨-,_,_,_,e2⟩:=I4 q.1;right;simp only at e2;rw[e2];rfl
 let Ky:AS->Prop:=λs2=>FF cx fy y.k s.H s2.H/\K s2
 have hKy:∀a b,K9 kp a b->Ky a->Ky b:=λa b e q=>⟨by rw[<-e.2.1];exact q.1,hK a b e q.2⟩
 obtain⟨sy,h'⟩:Gb base cx fy y s/\AX P Qp base x (AX P Qp base y Ky) s:=by
  obtain⟨H',g,v,k1,hre,-,hH1,-,-⟩:=EU hc5 h;refine⟨(RZ (H:=H') (n:=s.n) u0).1 k1.2.1,hre _ (GC (λs2 k=>⟨?_,k.2⟩) k1.2.2)⟩;by_cases e:y.k.cat=5
  ·grind [Br]
  ·exact Gx e
 have fin:AX P Qp base y (AX P Qp base x Ky) s->K4 P Qp base cx (fy,y) (K4 P Qp base cx (fx,x) K) s:=λq=>
  ⟨sy,CR (s:=s) ⟨λ_ _=>Ld.rfl' _,λ_ _ _=>Ld.rfl' _⟩ rfl rfl (λH n g v v' h1 h2 h3 h4=>by
   rw[<-h2 rfl];refine⟨?_,(RZ (H:=H) (n:=n) hyx).2 sx,GC (λs' k=>⟨Gx hc5,k.2⟩) h4⟩;by_cases e:y.k.cat=5
   ·obtain⟨H',g',v',k1,-,-,hH1,-,-⟩:=EU hc5 h4;have eH:=hH1 ((hx01 e).imp id .inl);have:=k1.1;rw[Br,eH]at this;exact this
   ·exact Gx e) q⟩
 unfold Qz at sW;rw[oV,oV,oV,oV,oV,oV]at sW;rcases sW with(((((sW|sW)|sW)|sW)|sW)|sW)|sW
 ·exact fin (swap tW sW kx ky hrel hsafe hKy h')
 ·rw[oo]at sW;obtain⟨e1,sz,ag,a,e2⟩:=Gw sW.1;obtain⟨e3,sz',a',v',e4⟩:=Et sW.2;simp only at e1 e2 e3 e4;unfold Gb at sx sy;rw[e1,e2]at sx;rw[e3,e4]at sy;exact fin (Yz e2 e4 tW kx ky (λqx qy _ p=>Mu (sy qy) p (sx qx)) hKy h')
 ·rw[oo]at sW;obtain⟨e1,sz,a,v,e2⟩:=Et sW.1;obtain⟨e3,sz',ag,a',e4⟩:=Gw sW.2;simp only at e1 e2 e3 e4;unfold Gb at sx sy;rw[e1,e2]at sx;rw[e3,e4]at sy;exact fin (Y0 e2 e4 tW kx ky (λqx qy _ p=>Mu (sx qx) p (sy qy)) hKy h')
 ·rw[oo,oo]at sW;obtain⟨m,e1,sz,ag,a,e2⟩:=Dx sW.1.2;obtain⟨m',e3,sz',a',v',e4⟩:=Eu sW.2;have sZ:=sW.1.1;simp only at e1 e2 e3 e4 sZ;rw[e1,e3]at sZ;unfold Gb at sx sy;rw[e1,e2]at sx;rw[e3,e4]at sy;exact fin (Yz e2 e4 tW kx ky (λqx qy _ p=>Rb (sy qy) p (sx qx) (Y1 sZ)) hKy h')
 ·rw[oo,oo]at sW;obtain⟨m,e1,sz,a,v,e2⟩:=Eu sW.1.2;obtain⟨m',e3,sz',ag,a',e4⟩:=Dx sW.2;have sZ:=sW.1.1;simp only at e1 e2 e3 e4 sZ;rw[e1,e3]at sZ;unfold Gb at sx sy;rw[e1,e2]at sx;rw[e3,e4]at sy;exact fin (Y0 e2 e4 tW kx ky (λqx qy _ p=>Rb (sx qx) p (sy qy) sZ) hKy h')
 ·rw[oo,oo]at sW;obtain⟨m,e1,sz,ag,a,e2⟩:=Dx sW.1.1;obtain⟨m',e3,hm1,hm2,f,xs,e4⟩:=Jm sW.1.2;have hmm:m=m'+1:=by simp_all
  subst hmm;simp only at e1 e2 e3 e4;unfold Gb at sx;rw[e1,e2]at sx;refine fin (ko (a:=cx ((m'-300000)/2)) e2 tW kx ky (λqx id p q=>?_) hKy (λs' k=>?_) h')
  ·have h1:QG base cx (m'+1) id:=TC (sx qx) p;unfold QG at h1;rw[og zo,og zo,og zo,show(m'+1-300000)/2=(m'-300000)/2 by omega]at h1;exact h1 q
  ·have:=k.1;rw[e3,e4]at this;exact this
 ·rw[oo]at sW;obtain⟨e1,sz,ag,a,e2⟩:=I4 sW.1;obtain⟨e3,rel,esz,bytes,z,a',v',str,e4⟩:=Mw sW.2;simp only at e1 e2 e3 e4;unfold Gb at sx;rw[e1,e2]at sx;refine fin (kj e2 tW kx ky (λqx s' k q=>?_) hKy h');have hp:fZ (AV s.env a):=sx qx;have hk:=k.1;rw[e3,e4]at hk;have hk':PV s.H s'.H:=hk;generalize AV s.env a=av at q hp;cases av<;>simp only[fZ]at hp;rename_i i off;simp only[A4]at q⊢;split at q
  ·rename_i cs hh;rw[hk' i cs hh]
  ·exact q.elim
theorem WX{a b:AS}(h:K9 kp a b)(hs:Gb base cx f o a)(hh:AX P Qp base o K a):Gb base cx f o b:=by
 have hl:Fg o a.env b.env:=⟨λi _=>(h.1 i).1,λi _ _=>(h.1 i).1⟩;intro hg;rw[<-ES hl]at hg;have hs:=hs hg;have key:Bz a.env o.k.sF\/Bg base cx (AV b.env) f o.k:=by
  obtain⟨dst,guard,k⟩:=o;obtain⟨h0,h1⟩:=hh;cases k with
  |v k=>exact .inl (h1.1 hg).1
  |st sz a x=>exact .inl (h1.1 hg).1
  |call q g xs=>match f,q with
   |0,_=>exact .inr zt
   |1,_|2,_|f+3,true=>simp only[Bg]at hs
   |f+3,false=>exact .inr hs
  |uF rel esz bytes z x y str=>match f with
   |0=>exact .inr zt
   |2=>exact .inr zt
   |1|f+3=>simp only[Bg]at hs
  |_=>match f with
   |0=>exact .inr zt
   |1|2|f+3=>simp only[Bg]at hs
 rcases key with ok|q
 ·exact Hn f o.k (λx hx=>(ER hl hx).2 (Jj ok x hx)) hs
 ·exact q
theorem Od(hK:∀a b,K9 kp a b->K a->K b):∀(L:List (Nat×xj)),(∀x∈L,Es kp x.2)->∀a b,K9 kp a b->Iy P Qp base cx L K a->Iy P Qp base cx L K b
 |[],_,a,b,h,hh=>hK a b h hh
 |x::L,hk,a,b,h,hh=>⟨WX h hh.1 hh.2,CR (s1:=a) (s:=b) ⟨λi _=>(h.1 i).1,λi _ _=>(h.1 i).1⟩ h.2.1 h.2.2
   (λH n g v v' hv _ hg q=>⟨by have:=q.1;rw[Br,h.2.1]at this;rw[Br];exact this,Od hK L (λy hy=>hk y (pE _ hy)) _ _ (h.put hv ((hk x (po ..)).held hg)) q.2⟩) hh.2⟩
theorem TD{y:Nat×xj}{B:List (Nat×xj)}(ky:Es kp y.2)(hB:∀x∈B,Es kp x.2)(hK:∀a b,K9 kp a b->K a->K b):∀(A:List (Nat×xj)) (s:AS),
  (∀x∈A,Apart x.2 y.2/\Qz x y=true/\Es kp x.2/\(x.2.k.cat=2->y.2.k.cat=2->HF x.2.k≠HF y.2.k))->Ob y.2 s->
  Iy P Qp base cx (A++y::B) K s->K4 P Qp base cx y (Iy P Qp base cx (A++B) K) s
 |[],_,_,_,h=>h
 |x::A,s,hA,hs,h=>by
  obtain⟨tW,sW,kx,hrel⟩:=hA x (po ..);have hxc5:x.2.k.cat≠5:=by
   intro e;unfold Qz at sW;rw[e]at sW;have h0:FH 5 y.2.k.cat=false:=by cases hy:y.2.k.cat<;>simp [FH]
   rw[h0,qT,oV,oV,oV,oV,oV]at sW;simp only[oo]at sW;rcases sW with((((q|q)|q)|q)|q)|q
   ·obtain⟨-,sz,ag,a,e2⟩:=Gw q.1;rw[e2]at e;cases e
   ·obtain⟨-,sz,a,v,e2⟩:=Et q.1;rw[e2]at e;cases e
   ·obtain⟨m,-,sz,ag,a,e2⟩:=Dx q.1.2;rw[e2]at e;cases e
   ·obtain⟨m,-,sz,a,v,e2⟩:=Eu q.1.2;rw[e2]at e;cases e
   ·obtain⟨m,-,sz,ag,a,e2⟩:=Dx q.1.1;rw[e2]at e;cases e
   ·obtain⟨-,sz,ag,a,e2⟩:=I4 q.1;rw[e2]at e;cases e
  obtain⟨sx,hx⟩:=h;obtain⟨H',gx,vx,⟨-,h1⟩,hre,-,hH1,hH2,hH4⟩:=EU hxc5 hx;have uJ:Ob y.2 ({s with H:=H'}.put x.2.dst gx vx):=by
   intro sz ag ad e t9;have hy1:y.2.k.cat=1:=by rw[e];rfl
   have hlk:lk ({s with H:=H'}.put x.2.dst gx vx).env ad=lk s.env ad:=by
    cases ad with
    |c v=>rfl
    |t i=>
     simp only[lk];rw[Fq,og (λq=>(tW.xy i q).1 (by rw[e];simp [Io.sF,x0.sF]))]
   have ut:AV ({s with H:=H'}.put x.2.dst gx vx).env ad=AV s.env ad:=by simp only[AV,hlk]
   rw[ut,Br];rw[hlk]at t9;have h0:=hs sz ag ad e t9;by_cases sY:∃sz a v,x.2.k= .st sz a v
   ·obtain⟨sz',a',v',ex⟩:=sY;obtain⟨H2,g2,v2,-,hre2,-,hS⟩:=Mv ex hx;have e5:=Mv ex (hre2 (λs'=>s'=({s with H:=H2}:AS).put x.2.dst g2 v2) rfl);obtain⟨H3,g3,v3,k3,-,-,hS3⟩:=Mv ex (hre (λs'=>s'=({s with H:=H'}:AS).put x.2.dst gx vx) rfl);have e6:H3=H':=by have:=congrArg AS.H k3;rwa[Br,Br]at this
    subst e6;refine KU (H:=s.H) (λid s5=>?_) h0;rcases hS3 with e|⟨_,i,ob,_,e⟩
    ·rw[e];exact s5
    ·rw[e];exact Ft s5
   ·have hcat':FH x.2.k.cat y.2.k.cat=true:=by
     unfold Qz at sW;rw[oV,oV,oV,oV,oV,oV]at sW;simp only[oo]at sW;rcases sW with(((((q|q)|q)|q)|q)|q)|q
     ·exact q
     ·obtain⟨-,sz',a',v',e2⟩:=Et q.2;rw[e2]at e;cases e
     ·obtain⟨-,sz',a',v',e2⟩:=Et q.1;exact absurd ⟨_,_,_,e2⟩ sY
     ·obtain⟨m,-,sz',a',v',e2⟩:=Eu q.2;rw[e2]at e;cases e
     ·obtain⟨m,-,sz',a',v',e2⟩:=Eu q.1.2;exact absurd ⟨_,_,_,e2⟩ sY
     ·obtain⟨m,-,-,-,f',xs',e2⟩:=Jm q.1.2;rw[e2]at e;cases e
     ·obtain⟨-,rel,esz,bytes,z,a',v',str,e2⟩:=Mw q.2;rw[e2]at e;cases e
    refine KU (H:=s.H) (λid s5=>?_) h0;rw[hy1]at hcat';have hxc:(x.2.k.cat=0\/x.2.k.cat=1\/x.2.k.cat=3)\/x.2.k.cat=2\/x.2.k.cat=4:=by grind [FH]
    rcases hxc with e|e|e
    ·rw[hH1 e];exact s5
    ·rcases hH2 e with rfl|⟨i,ob,p1,rfl⟩
     ·exact s5
     ·exact Ft s5
    ·rcases hH4 e with rfl|⟨tok,i,p1,p2,rfl⟩
     ·exact s5
     ·refine Ft ?_;cases tok<;>first|exact s5|exact Ft s5
  have h2:=TD ky hB hK A _ (λz hz=>hA z (pE _ hz)) uJ h1;have hAB:∀z∈A++B,Es kp z.2:=λz hz=>(pI.1 hz).elim (λq=>(hA z (pE _ q)).2.2.1) (hB z)
  exact swapX tW sW kx ky hrel hs (Od hK (A++B) hAB) hxc5 ⟨sx,hre _ ⟨Gx hxc5,h2⟩⟩
end
def Cz(ops:Array Oper)(listed:Array Bool):List Nat:=(List.range ops.size).filter λi=>!listed.getD i true
def FI(l:List xj)(L:List Nat):List xj:=L.map (CH l)
def Rd(l:List xj):FI l (List.range l.length)=l:=by
 apply List.ext_getElem
 ·simp [FI]
 ·intro i h1 h2;simp [FI,CH,h2]
def EV(l:List xj):Bool:=l.any λo=>o.k.news
section
variable {P:Program} {r:Option Nat} {m N lo:Nat} {g0:z8} {H0:AB} {w0:World} {D:DP} {ops:Array Oper} {l:List xj} {mkv imp:List Nat}
variable {Qp:Fs->AB->Nat->Prop} {base:Nat} {kp:List Nat} {Qc:Exit->Act->World->Prop}
variable {K:AS->Prop} {listed:Array Bool} {i:Nat}
theorem Lt{Kc:Act->World->Prop}{s:AS}{a:Act}{w:World}(hl:Nh P N lo ops mkv imp ops.toList 0=some l)(vf:D.lo<=lo)(hi:i<ops.size)(hstep:AX P Qp base (CH l i) K s)
  (hsim:Eg m g0 H0 w0 N D s a w) (hb:m<=base) (tR:EV l=true->base+ops.size<=s.n)
  (hK:∀s' a' w',K s'->Eg m g0 H0 w0 N D s' a' w'->s.n<=s'.n->Kc a' w')
  (hQ:∀v H' n' chain a' w',Qp v H' n'->Nk m g0 H0 w0 D a'.defers a'.tmps v H' n' chain w'->Qc (.panic chain) a' w'):wpOpIn (FR r) 0 P ops Qc i Kc a w:=by
 obtain⟨h1,h2⟩:=D8 _ _ _ hl;have ho:ops[i]?=some ops[i]:=by simp [hi]
 obtain⟨gd,k,q1,q2,q3,q4⟩:=h2 i ops[i] (by simp [hi]);rw[pn]at q3;have e:CH l i=⟨ops[i].dst,gd,k⟩:=by simp [CH,q1]
 rw[e]at hstep;refine Mp ho q2 q3 hstep hsim hb (λhc=>?_) (λd e=>⟨(q4 d e).1,pu vf (q4 d e).2⟩) hK hQ;have:EV l=true:=by
  unfold EV;rw[List.any_eq_true];refine⟨_,qZ q1,?_⟩;exact hc
 have:=tR this;omega
theorem Oe(hl:Nh P N lo ops mkv imp ops.toList 0=some l)(vf:D.lo<=lo)(hb:m<=base)
  (hQ:∀v H' n' chain a' w',Qp v H' n'->Nk m g0 H0 w0 D a'.defers a'.tmps v H' n' chain w'->Qc (.panic chain) a' w')
  (hK:∀s' a' w',K s'->Eg m g0 H0 w0 N D s' a' w'->Qc .normal a' w'):
  ∀(L:List Nat) (s:AS) (a:Act) (w:World),(∀i∈L,i<ops.size)->Dv P Qp base (FI l L) K s->Eg m g0 H0 w0 N D s a w->(EV l=true->base+ops.size<=s.n)->
   wpOpsIn (FR r) 0 P ops Qc L a w
 |[],s,a,w,_,h,hs,_=>by simp only[wpOpsIn];exact hK s a w h hs
 |i::L,s,a,w,hi,h,hs,tR=>by
  rw[wpOpsIn_cons];refine Lt hl vf (hi i (po ..)) (K:=Dv P Qp base (FI l L) K) h hs hb tR (λs' a' w' hk hs' hn=>?_) hQ;exact Oe hl vf hb hQ hK L s' a' w' (λj hj=>hi j (pE _ hj)) hk hs' (λq=>pu (tR q) hn)
def Lu(ops:Array Oper)(listed:Array Bool):Prop:=∀(j:Nat) (o:Oper),listed.getD j false=true->ops[j]?=some o->∀e∈o.after,Region.binds .any e=true->listed.getD e.on false=true
theorem Jn{α:Type}{f:α->Nat}{x:Nat}:∀(l:List α) (m:Nat),(l.foldl (λm e=>m|||f e) m).testBit x=true->m.testBit x=true\/∃e∈l,(f e).testBit x=true
 |[],m,h=>.inl h
 |a::l,m,h=>by
  rcases Jn l _ h with h|⟨e,he,h⟩
  ·grind
  ·exact .inr ⟨e,pE _ he,h⟩
theorem TE{acc:List Nat}{o:Oper}{x:Nat}(h:(I0 acc o).testBit x=true):∃e∈o.after,Region.binds .any e=true/\(x=e.on\/(acc.getD e.on 0).testBit x=true):=by
 unfold I0 at h;have e1:(λ(m:Nat) (e:Edge)=>m|||(1<<<e.on)|||acc.getD e.on 0)=λm e=>m|||((1<<<e.on)|||acc.getD e.on 0):=by
  funext m e;rw[Nat.or_assoc]
 rw[e1]at h;rcases Jn _ _ h with h|⟨e,he,h⟩
 ·simp at h
 ·simp only[qn,qL]at he;refine⟨e,he.1,he.2,?_⟩;rw[Nat.testBit_or,oV]at h;rcases h with h|h
  ·simp_all [Nat.one_shiftLeft,Nat.testBit_two_pow]
  ·exact .inr h
def TF(ops:List Oper)(ms:List Nat):Prop:=∀k x,(ms.getD k 0).testBit x=true->∃o,ops[k]?=some o/\∃e∈o.after,Region.binds .any e=true/\(x=e.on\/(e.on<k/\(ms.getD e.on 0).testBit x=true))
theorem Re:∀(r pre:List Oper) (acc:List Nat),acc.length=pre.length->TF (pre++r) acc->TF (pre++r) (Hg r acc)
 |[],pre,acc,_,h=>h
 |o::r,pre,acc,hl,h=>by
  have e:pre++o::r=(pre++[o])++r:=zw
  rw[e]at h⊢;refine Re r (pre++[o]) (acc++[I0 acc o]) (by simp [hl]) ?_;intro k x hb;have old:∀j,j<acc.length->(acc++[I0 acc o]).getD j 0=acc.getD j 0:=λj hj=>by
   simp [pM,pH hj]
  by_cases hk:k<acc.length
  ·rw[old k hk]at hb;obtain⟨o',h1,e',h2,h3,h4⟩:=h k x hb;refine⟨o',h1,e',h2,h3,h4.imp id λ⟨a,b⟩=>⟨a,by rw[old _ zo];exact b⟩⟩
  ·by_cases uR:k=acc.length
   ·subst uR;have e2:(acc++[I0 acc o]).getD acc.length 0=I0 acc o:=by simp [pM]
    rw[e2]at hb;obtain⟨e',h2,h3,h4⟩:=TE hb;refine⟨o,by rw[hl];simp,e',h2,h3,h4.imp id λb=>?_⟩;have e9:e'.on<acc.length:=by
     apply Nat.lt_of_not_le;intro hge;rw[pM,qY hge]at b;simp at b
    exact⟨e9,by rw[old _ e9];exact b⟩
   ·exfalso;rw[pM,qY (by simp;omega)]at hb;simp at hb
theorem Ho(hc:Lu ops listed):∀(k:Nat),(∀o,ops[k]?=some o->∀e∈o.after,Region.binds .any e=true->listed.getD e.on false=true)->∀x,((Hg ops.toList []).getD k 0).testBit x=true->listed.getD x false=true:=by
 have hm:TF ops.toList (Hg ops.toList []):=Re ops.toList [] [] rfl (λk x h=>by simp at h);intro k;induction k using Nat.strongRecOn with
 |_ k ih=>
  intro hi x hb;obtain⟨o,h1,e,h2,h3,h4⟩:=hm k x hb;have ho:ops[k]?=some o:=by simpa using h1
  have hl:=hi o ho e h2 h3;rcases h4 with rfl|⟨e9,h4⟩
  ·exact hl
  ·exact ih e.on e9 (λo' ho'=>hc e.on o' hl ho') x h4
theorem B2:i∈Cz ops listed↔i<ops.size/\listed.getD i true=false:=by
 simp [Cz]
theorem GD(listed:Array Bool):(Cz ops listed).Pairwise (· < ·):=List.Pairwise.filter _ rj
theorem Rf(hi:i<listed.size):Cz ops (listed.setIfInBounds i true)=(Cz ops listed).filter (· !=i):=by
 unfold Cz;rw[rZ];apply rS;intro j hj;by_cases h:i=j
 ·subst h;simp [hi]
 ·rw[getD_set_ne true h];simp [Ne.symm h]
theorem Jo{A B:List Nat}(h:(A++i::B).Pairwise (· < ·)):(A++i::B).filter (· !=i)=A++B/\∀x∈A,x<i:=by
 rw[List.pairwise_append]at h;obtain⟨_,h2,h3⟩:=h;rw[qH]at h2;refine⟨?_,λx hx=>h3 x hx i (po ..)⟩;rw[qv,qh];simp only[bne_self_eq_false,oP,pb];congr 1
 ·apply rL.2;intro x hx;have:=h3 x hx i (po ..);simp;omega
 ·apply rL.2;intro x hx;have:=h2.1 x hx;simp;omega
theorem TG(hl:Nh P N lo ops mkv imp ops.toList 0=some l)(vf:D.lo<=lo)(hd:St ops l=true)(hkp:∀x∈l,Es kp x)(hKr:∀a b,K9 kp a b->K a->K b)(hb:m<=base)
  (hQ:∀v H' n' chain a' w',Qp v H' n'->Nk m g0 H0 w0 D a'.defers a'.tmps v H' n' chain w'->Qc (.panic chain) a' w')
  (hK:∀s' a' w',K s'->Eg m g0 H0 w0 N D s' a' w'->Qc .normal a' w'):
  ∀(fuel:Nat) (listed:Array Bool) (s:AS) (a:Act) (w:World),(Cz ops listed).length=fuel->listed.size=ops.size->Lu ops listed->Dv P Qp base (FI l (Cz ops listed)) K s->Eg m g0 H0 w0 N D s a w->
   (EV l=true->base+ops.size<=s.n)->wpAnyIn (FR r) 0 P .any ops Qc fuel listed a w:=by
 obtain⟨l9,uA⟩:=D8 _ _ _ hl;have l9:l.length=ops.size:=by rw[l9,pq]
 unfold St US at hd;rw[oo,oo]at hd;obtain⟨⟨hed,hld⟩,hd⟩:=hd;have tI:∀i,i<ops.size->CH l i∈l:=λi hi=>by
  have v7:i<l.length:=zo
  simp [CH,v7]
 have ve:∀listed:Array Bool,Region.ready .any ops listed=[]->listed.size=ops.size->Cz ops listed=[]:=by
  intro listed hr tB;cases hrem:Cz ops listed with
  |nil=>rfl
  |cons i B=>
   exfalso;have hi:i∈Cz ops listed:=by rw[hrem];exact po ..
   obtain⟨hi1,ui⟩:=B2.1 hi;have:i∈Region.ready .any ops listed:=by
    refine mem_ready.2 ⟨ui,ops[i],by simp [hi1],λe he hbd=>?_⟩;unfold Ls at hed;rw[oM]at hed;have h1:=hed i (px.2 hi1);have ho:ops[i]?=some ops[i]:=by simp [hi1]
    rw[ho]at h1;simp only[oM,qL]at h1;have h2:=h1 e he;rw[hbd]at h2;simp only[o9,qT,oC]at h2;by_cases h3:listed.getD e.on false=true
    ·exact h3
    ·exfalso;have h4:e.on∈Cz ops listed:=B2.2 ⟨zo,by
      have:e.on<listed.size:=zo
      simp [this]at h3⊢;exact h3⟩
     rw[hrem]at h4;have hs:=GD (ops:=ops) listed;rw[hrem,qH]at hs;rcases ph.1 h4 with h5|h5
     ·omega
     ·have:=hs.1 _ h5;omega
   rw[hr]at this;cases this
 intro fuel;induction fuel with
 |zero=>
  intro listed s a w hf tB hc h hs tR;have Ac:Cz ops listed=[]:=qb.1 hf;refine⟨?_,?_⟩
  ·cases hr:Region.ready .any ops listed with
   |nil=>rfl
   |cons i B=>
    have hi:i∈Region.ready .any ops listed:=by rw[hr];exact po ..
    obtain⟨h1,o,h2,-⟩:=mem_ready.1 hi;have:i∈Cz ops listed:=B2.2 ⟨(oU.1 h2).1,h1⟩;rw[Ac]at this;cases this
  ·rw[Ac]at h;exact hK s a w h hs
 |succ fuel ih=>
  intro listed s a w hf tB hc h hs tR;refine⟨λhr=>?_,λi hi=>?_⟩
  ·rw[ve listed hr tB]at hf;cases hf
  ·obtain⟨h1,o,h2,hedge⟩:=mem_ready.1 hi;have hi1:i<ops.size:=(oU.1 h2).1;have hir:i∈Cz ops listed:=B2.2 ⟨hi1,h1⟩;obtain⟨A,B,hAB⟩:=List.append_of_mem hir;have hsort:=GD (ops:=ops) listed;rw[hAB]at hsort;obtain⟨t7,e9⟩:=Jo hsort;have sA:Cz ops (listed.setIfInBounds i true)=A++B:=by rw[Rf zo,hAB,t7]
   have hanc:∀x,((Hg ops.toList []).getD i 0).testBit x=true->listed.getD x false=true:=Ho hc i (λo' ho'=>by rw[h2]at ho';cases ho';exact hedge);have hlti:i<l.length:=zo
   have l0:=gF (P:=P) (Qp:=Qp) (base:=base) (y:=CH l i) (B:=FI l B) (K:=K) (kp:=kp) (hkp _ (tI i hi1))
    (λx hx=>by
     obtain⟨j,hj,rfl⟩:=pz.1 hx;exact hkp _ (tI j (B2.1 (show j∈Cz ops listed by rw[hAB];simp [hj])).1)) hKr (FI l A) s
    (λx hx=>by
     obtain⟨j,hj,rfl⟩:=pz.1 hx;have hji:=e9 j hj;obtain⟨hj1,hj2⟩:=B2.1 (show j∈Cz ops listed by rw[hAB];simp [hj]);rw[oM]at hd;have hd1:=hd i (px.2 hlti);rw[oM]at hd1;have tg:=hd1 j (px.2 hji);have hltj:j<l.length:=zo
     have e1:l[j]?=some (CH l j):=by simp [CH,hltj]
     have e2:l[i]?=some (CH l i):=by simp [CH,hlti]
     rw[e1,e2]at tg;simp only[oV,oo]at tg;rcases tg with⟨d1,d2⟩|d3
     ·refine⟨Hm d1,d2,hkp _ (tI j hj1),λc1 c2=>?_⟩;obtain⟨gd,k,q1,q2,q3,q4⟩:=uA i ops[i] (by simp [hi1]);obtain⟨gd',k',q1',q2',q3',q4'⟩:=uA j ops[j] (by simp [hj1]);have e3:CH l i=⟨ops[i].dst,gd,k⟩:=by simp [CH,q1]
      have e4:CH l j=⟨ops[j].dst,gd',k'⟩:=by simp [CH,q1']
      rw[e3]at c2⊢;rw[e4]at c1⊢;have r1:=Gf q3 c2;have r2:=Gf q3' c1;simp only[r1,r2];omega
     ·exfalso;have:=hanc j d3;have hjs:j<listed.size:=zo
      simp [hjs]at this hj2;rw[this]at hj2;cases hj2)
    (by
     intro sz ag ad e t9;have hld1:Pa (CH l i)=true:=(oM.1 hld) _ (tI i hi1);obtain⟨g,hR,hE,-⟩:=hs;cases ad with
     |c v=>
      unfold Pa at hld1;rw[e]at hld1;simp only[AV,lk];cases v<;>first|trivial|(simp at hld1;done)
     |t t=>
      simp only[lk,AV]at t9⊢;cases hg:BC s.env t with
      |none=>simp [hg]at t9
      |some gv=>
       obtain⟨gd,v⟩:=gv;simp only[hg]at t9⊢;obtain⟨x,-,p2,-⟩:=hE t gd v hg;have hv:=p2 t9;cases v<;>first|trivial|skip
       ·obtain⟨L,q1,-⟩:=hv;exact(hR.uu _ _ q1).1
       ·obtain⟨L,q1,-⟩:=hv;exact(hR.uu _ _ q1).1)
    (by
     have e:FI l A++CH l i::FI l B=FI l (Cz ops listed):=by rw[hAB];simp [FI]
     rw[e];exact h)
   have e2:FI l A++FI l B=FI l (Cz ops (listed.setIfInBounds i true)):=by rw[sA];simp [FI]
   rw[e2]at l0;refine Lt hl vf hi1 l0 hs hb tR (λs' a' w' hk hs' hn=>?_) hQ;refine ih _ s' a' w' ?_ (by simp [tB]) ?_ hk hs' (λq=>pu (tR q) hn)
   ·rw[sA];rw[hAB]at hf;simp at hf⊢;omega
   ·intro j o' hj ho' e he hbd;by_cases hij:i=j
    ·subst hij;rw[h2]at ho';cases ho';exact getD_set_true (hedge e he hbd)
    ·rw[getD_set_ne false hij]at hj;exact getD_set_true (hc j o' hj ho' e he hbd)
def GT(ord:List Nat)(listed:Array Bool):List Nat:=ord.filter λi=>!listed.getD i true
theorem LE{p:Nat->Nat->Bool}:∀{l:List Nat},JZ p l=true->l.Pairwise λj i=>p j i=true
 |[],_=>List.Pairwise.nil
 |j::r,h=>by
  simp only[JZ,oo,oM]at h;exact qH.2 ⟨h.1,LE h.2⟩
theorem Y2{ord:List Nat}(hi:i<listed.size):GT ord (listed.setIfInBounds i true)=(GT ord listed).filter (· !=i):=by
 unfold GT;rw[rZ];apply rS;intro j hj;by_cases h:i=j
 ·subst h;simp [hi]
 ·rw[getD_set_ne true h];simp [Ne.symm h]
theorem Y3{R:Nat->Nat->Prop}(hR:∀x y,R x y->x≠y){A B:List Nat}(h:(A++i::B).Pairwise R):(A++i::B).filter (· !=i)=A++B/\∀x∈A,R x i:=by
 rw[List.pairwise_append]at h;obtain⟨_,h2,h3⟩:=h;rw[qH]at h2;refine⟨?_,λx hx=>h3 x hx i (po ..)⟩;rw[qv,qh];simp only[bne_self_eq_false,oP,pb];congr 1
 ·simp_all
 ·apply rL.2;intro x hx;have:=hR _ _ (h2.1 x hx);simpa using λe=>this e.symm
theorem LG{ops:Array Oper}{T:List Nat}:∀(S seen:List Nat),Mc ops seen (S++i::T)=true->∀o,ops[i]?=some o->∀e∈o.after,Region.binds .any e=true->e.on∈S\/e.on∈seen
 |[],seen,h,o,ho,e,he,hb=>by
  simp only[oW,Mc,oo,ho,oM,qL]at h;have:=h.1 e he;rw[hb]at this;exact .inr (by simpa using this)
 |j::S,seen,h,o,ho,e,he,hb=>by
  simp only[pp,Mc,oo]at h;rcases LG S (j::seen) h.2 o ho e he hb with q|q
  ·exact .inl (by simp [q])
  ·grind
theorem Rg{fz:List (Nat×Nat)}{cx:Nat->Fs}(hl:Nh P N lo ops mkv imp ops.toList 0=some l)(vf:D.lo<=lo)(hd:Pc fz ops l=true)(hkp:∀x∈l,Es kp x)(hKr:∀a b,K9 kp a b->K a->K b)(hb:m<=base)
  (hQ:∀v H' n' chain a' w',Qp v H' n'->Nk m g0 H0 w0 D a'.defers a'.tmps v H' n' chain w'->Qc (.panic chain) a' w')
  (hK:∀s' a' w',K s'->Eg m g0 H0 w0 N D s' a' w'->Qc .normal a' w'):
  ∀(fuel:Nat) (listed:Array Bool) (s:AS) (a:Act) (w:World),(Cz ops listed).length=fuel->listed.size=ops.size->Lu ops listed->Iy P Qp base cx (K5 fz l (Cz ops listed)) K s->Eg m g0 H0 w0 N D s a w->
   (EV l=true->base+ops.size<=s.n)->wpAnyIn (FR r) 0 P .any ops Qc fuel listed a w:=by
 obtain⟨l9,uA⟩:=D8 _ _ _ hl;have l9:l.length=ops.size:=by rw[l9,pq]
 unfold Pc Q0 at hd;rw[oo,oo]at hd;obtain⟨⟨hed,hld⟩,hd⟩:=hd;have tI:∀i,i<ops.size->CH l i∈l:=λi hi=>by
  have v7:i<l.length:=zo
  simp [CH,v7]
 have ve:∀listed:Array Bool,Region.ready .any ops listed=[]->listed.size=ops.size->Cz ops listed=[]:=by
  intro listed hr tB;cases hrem:Cz ops listed with
  |nil=>rfl
  |cons i B=>
   exfalso;have hi:i∈Cz ops listed:=by rw[hrem];exact po ..
   obtain⟨hi1,ui⟩:=B2.1 hi;have:i∈Region.ready .any ops listed:=by
    refine mem_ready.2 ⟨ui,ops[i],by simp [hi1],λe he hbd=>?_⟩;unfold Ls at hed;rw[oM]at hed;have h1:=hed i (px.2 hi1);have ho:ops[i]?=some ops[i]:=by simp [hi1]
    rw[ho]at h1;simp only[oM,qL]at h1;have h2:=h1 e he;rw[hbd]at h2;simp only[o9,qT,oC]at h2;by_cases h3:listed.getD e.on false=true
    ·exact h3
    ·exfalso;have h4:e.on∈Cz ops listed:=B2.2 ⟨zo,by
      have:e.on<listed.size:=zo
      simp [this]at h3⊢;exact h3⟩
     rw[hrem]at h4;have hs:=GD (ops:=ops) listed;rw[hrem,qH]at hs;rcases ph.1 h4 with h5|h5
     ·omega
     ·have:=hs.1 _ h5;omega
   rw[hr]at this;cases this
 intro fuel;induction fuel with
 |zero=>
  intro listed s a w hf tB hc h hs tR;have Ac:Cz ops listed=[]:=qb.1 hf;refine⟨?_,?_⟩
  ·cases hr:Region.ready .any ops listed with
   |nil=>rfl
   |cons i B=>
    have hi:i∈Region.ready .any ops listed:=by rw[hr];exact po ..
    obtain⟨h1,o,h2,-⟩:=mem_ready.1 hi;have:i∈Cz ops listed:=B2.2 ⟨(oU.1 h2).1,h1⟩;rw[Ac]at this;cases this
  ·rw[Ac]at h;exact hK s a w h hs
 |succ fuel ih=>
  intro listed s a w hf tB hc h hs tR;refine⟨λhr=>?_,λi hi=>?_⟩
  ·rw[ve listed hr tB]at hf;cases hf
  ·obtain⟨h1,o,h2,hedge⟩:=mem_ready.1 hi;have hi1:i<ops.size:=(oU.1 h2).1;have hir:i∈Cz ops listed:=B2.2 ⟨hi1,h1⟩;obtain⟨A,B,hAB⟩:=List.append_of_mem hir;have hsort:=GD (ops:=ops) listed;rw[hAB]at hsort;obtain⟨t7,e9⟩:=Jo hsort;have sA:Cz ops (listed.setIfInBounds i true)=A++B:=by rw[Rf zo,hAB,t7]
   have hanc:∀x,((Hg ops.toList []).getD i 0).testBit x=true->listed.getD x false=true:=Ho hc i (λo' ho'=>by rw[h2]at ho';cases ho';exact hedge);have hlti:i<l.length:=zo
   have l0:=TD (P:=P) (Qp:=Qp) (base:=base) (cx:=cx) (y:=(JY fz (JX l) (CH l i),CH l i)) (B:=K5 fz l B) (K:=K) (kp:=kp) (hkp _ (tI i hi1))
    (λx hx=>by
     obtain⟨j,hj,rfl⟩:=pz.1 hx;exact hkp _ (tI j (B2.1 (show j∈Cz ops listed by rw[hAB];simp [hj])).1)) hKr (K5 fz l A) s
    (λx hx=>by
     obtain⟨j,hj,rfl⟩:=pz.1 hx;have hji:=e9 j hj;obtain⟨hj1,hj2⟩:=B2.1 (show j∈Cz ops listed by rw[hAB];simp [hj]);rw[oM]at hd;have hd1:=hd i (px.2 hlti);rw[oM]at hd1;have tg:=hd1 j (px.2 hji);have hltj:j<l.length:=zo
     have e1:l[j]?=some (CH l j):=by simp [CH,hltj]
     have e2:l[i]?=some (CH l i):=by simp [CH,hlti]
     rw[e1,e2]at tg;simp only[oV,oo]at tg;rcases tg with⟨d1,d2⟩|d3
     ·refine⟨Hm d1,d2,hkp _ (tI j hj1),λc1 c2=>?_⟩;obtain⟨gd,k,q1,q2,q3,q4⟩:=uA i ops[i] (by simp [hi1]);obtain⟨gd',k',q1',q2',q3',q4'⟩:=uA j ops[j] (by simp [hj1]);have e3:CH l i=⟨ops[i].dst,gd,k⟩:=by simp [CH,q1]
      have e4:CH l j=⟨ops[j].dst,gd',k'⟩:=by simp [CH,q1']
      rw[e3]at c2⊢;rw[e4]at c1⊢;have r1:=Gf q3 c2;have r2:=Gf q3' c1;simp only[r1,r2];omega
     ·exfalso;have:=hanc j d3;have hjs:j<listed.size:=zo
      simp [hjs]at this hj2;rw[this]at hj2;cases hj2)
    (by
     intro sz ag ad e t9;have hld1:Pa (CH l i)=true:=(oM.1 hld) _ (tI i hi1);obtain⟨g,hR,hE,-⟩:=hs;cases ad with
     |c v=>
      unfold Pa at hld1;rw[e]at hld1;simp only[AV,lk];cases v<;>first|trivial|(simp at hld1;done)
     |t t=>
      simp only[lk,AV]at t9⊢;cases hg:BC s.env t with
      |none=>simp [hg]at t9
      |some gv=>
       obtain⟨gd,v⟩:=gv;simp only[hg]at t9⊢;obtain⟨x,-,p2,-⟩:=hE t gd v hg;have hv:=p2 t9;cases v<;>first|trivial|skip
       ·obtain⟨L,q1,-⟩:=hv;exact(hR.uu _ _ q1).1
       ·obtain⟨L,q1,-⟩:=hv;exact(hR.uu _ _ q1).1)
    (by
     have e:K5 fz l A++(JY fz (JX l) (CH l i),CH l i)::K5 fz l B=K5 fz l (Cz ops listed):=by rw[hAB];simp [K5]
     rw[e];exact h)
   have e2:K5 fz l A++K5 fz l B=K5 fz l (Cz ops (listed.setIfInBounds i true)):=by rw[sA];simp [K5]
   rw[e2]at l0;refine Lt hl vf hi1 l0.2 hs hb tR (λs' a' w' hk hs' hn=>?_) hQ;refine ih _ s' a' w' ?_ (by simp [tB]) ?_ hk.2 hs' (λq=>pu (tR q) hn)
   ·rw[sA];rw[hAB]at hf;simp at hf⊢;omega
   ·intro j o' hj ho' e he hbd;by_cases hij:i=j
    ·subst hij;rw[h2]at ho';cases ho';exact getD_set_true (hedge e he hbd)
    ·rw[getD_set_ne false hij]at hj;exact getD_set_true (hc j o' hj ho' e he hbd)
theorem Rh{fz:List (Nat×Nat)}{ord:List Nat}{cx:Nat->Fs}(hl:Nh P N lo ops mkv imp ops.toList 0=some l)(vf:D.lo<=lo)(hd:Md fz ord ops l=true)(hkp:∀x∈l,Es kp x)(hKr:∀a b,K9 kp a b->K a->K b)(hb:m<=base)
  (hQ:∀v H' n' chain a' w',Qp v H' n'->Nk m g0 H0 w0 D a'.defers a'.tmps v H' n' chain w'->Qc (.panic chain) a' w')
  (hK:∀s' a' w',K s'->Eg m g0 H0 w0 N D s' a' w'->Qc .normal a' w'):
  ∀(fuel:Nat) (listed:Array Bool) (s:AS) (a:Act) (w:World),(GT ord listed).length=fuel->listed.size=ops.size->Lu ops listed->Iy P Qp base cx (K5 fz l (GT ord listed)) K s->Eg m g0 H0 w0 N D s a w->
   (EV l=true->base+ops.size<=s.n)->wpAnyIn (FR r) 0 P .any ops Qc fuel listed a w:=by
 obtain⟨l9,uA⟩:=D8 _ _ _ hl;have l9:l.length=ops.size:=by rw[l9,pq]
 unfold Md at hd;simp only[oo]at hd;obtain⟨⟨⟨⟨⟨-,ho1⟩,ho2⟩,hld⟩,hed⟩,hd⟩:=hd;have ux:∀i,i∈ord↔i<ops.size:=λi=>⟨λh=>by simpa using(oM.1 ho1) i h,λh=>by simpa using(oM.1 ho2) i (px.2 h)⟩
 have hpw:=LE hd;have B2:∀{listed:Array Bool} {i:Nat},i∈GT ord listed↔i<ops.size/\listed.getD i true=false:=λ{listed i}=>by simp [GT,ux]
 have tI:∀i,i<ops.size->CH l i∈l:=λi hi=>by
  have v7:i<l.length:=zo
  simp [CH,v7]
 have ve:∀listed:Array Bool,Region.ready .any ops listed=[]->listed.size=ops.size->GT ord listed=[]:=by
  intro listed hr tB;cases hrem:GT ord listed with
  |nil=>rfl
  |cons i B=>
   exfalso;have hi:i∈GT ord listed:=by rw[hrem];exact po ..
   obtain⟨hi1,ui⟩:=B2.1 hi;have:i∈Region.ready .any ops listed:=by
    refine mem_ready.2 ⟨ui,ops[i],by simp [hi1],λe he hbd=>?_⟩;obtain⟨S,T,hST,hS,-,-⟩:=List.filter_eq_cons_iff.1 hrem;have h1:=LG S [] (by rw[hST]at hed;exact hed) ops[i] (by simp [hi1]) e he hbd;simp only[qV,or_false]at h1;have h2:listed.getD e.on true=true:=by simpa using hS _ h1
    have h3:e.on<listed.size:=by rw[tB];exact(ux _).1 (by rw[hST];simp [h1])
    simp [h3]at h2⊢;exact h2
   rw[hr]at this;cases this
 intro fuel;induction fuel with
 |zero=>
  intro listed s a w hf tB hc h hs tR;have Ac:GT ord listed=[]:=qb.1 hf;refine⟨?_,?_⟩
  ·cases hr:Region.ready .any ops listed with
   |nil=>rfl
   |cons i B=>
    have hi:i∈Region.ready .any ops listed:=by rw[hr];exact po ..
    obtain⟨h1,o,h2,-⟩:=mem_ready.1 hi;have:i∈GT ord listed:=B2.2 ⟨(oU.1 h2).1,h1⟩;rw[Ac]at this;cases this
  ·rw[Ac]at h;exact hK s a w h hs
 |succ fuel ih=>
  intro listed s a w hf tB hc h hs tR;refine⟨λhr=>?_,λi hi=>?_⟩
  ·rw[ve listed hr tB]at hf;cases hf
  ·obtain⟨h1,o,h2,hedge⟩:=mem_ready.1 hi;have hi1:i<ops.size:=(oU.1 h2).1;have hir:i∈GT ord listed:=B2.2 ⟨hi1,h1⟩;obtain⟨A,B,hAB⟩:=List.append_of_mem hir;have hsort:(GT ord listed).Pairwise λj i=>UW fz l (Hg ops.toList []) j i=true:=hpw.filter _
   rw[hAB]at hsort;obtain⟨t7,e9⟩:=Y3 (λx y h=>by unfold UW at h;rw[oo]at h;simpa using h.1) hsort;have sA:GT ord (listed.setIfInBounds i true)=A++B:=by rw[Y2 zo,hAB,t7]
   have hanc:∀x,((Hg ops.toList []).getD i 0).testBit x=true->listed.getD x false=true:=Ho hc i (λo' ho'=>by rw[h2]at ho';cases ho';exact hedge);have hlti:i<l.length:=zo
   have l0:=TD (P:=P) (Qp:=Qp) (base:=base) (cx:=cx) (y:=(JY fz (JX l) (CH l i),CH l i)) (B:=K5 fz l B) (K:=K) (kp:=kp) (hkp _ (tI i hi1))
    (λx hx=>by
     obtain⟨j,hj,rfl⟩:=pz.1 hx;exact hkp _ (tI j (B2.1 (show j∈GT ord listed by rw[hAB];simp [hj])).1)) hKr (K5 fz l A) s
    (λx hx=>by
     obtain⟨j,hj,rfl⟩:=pz.1 hx;obtain⟨hj1,hj2⟩:=B2.1 (show j∈GT ord listed by rw[hAB];simp [hj]);have tg:=e9 j hj;have hltj:j<l.length:=zo
     have e1:l[j]?=some (CH l j):=by simp [CH,hltj]
     have e2:l[i]?=some (CH l i):=by simp [CH,hlti]
     unfold UW at tg;rw[oo,e1,e2]at tg;have hji:j≠i:=by simpa using tg.1
     replace tg:=tg.2;simp only[oV,oo]at tg;rcases tg with⟨d1,d2⟩|d3
     ·refine⟨Hm d1,d2,hkp _ (tI j hj1),λc1 c2=>?_⟩;obtain⟨gd,k,q1,q2,q3,q4⟩:=uA i ops[i] (by simp [hi1]);obtain⟨gd',k',q1',q2',q3',q4'⟩:=uA j ops[j] (by simp [hj1]);have e3:CH l i=⟨ops[i].dst,gd,k⟩:=by simp [CH,q1]
      have e4:CH l j=⟨ops[j].dst,gd',k'⟩:=by simp [CH,q1']
      rw[e3]at c2⊢;rw[e4]at c1⊢;have r1:=Gf q3 c2;have r2:=Gf q3' c1;simp only[r1,r2];omega
     ·exfalso;have:=hanc j d3;have hjs:j<listed.size:=zo
      simp [hjs]at this hj2;rw[this]at hj2;cases hj2)
    (by
     intro sz ag ad e t9;have hld1:Pa (CH l i)=true:=(oM.1 hld) _ (tI i hi1);obtain⟨g,hR,hE,-⟩:=hs;cases ad with
     |c v=>
      unfold Pa at hld1;rw[e]at hld1;simp only[AV,lk];cases v<;>first|trivial|(simp at hld1;done)
     |t t=>
      simp only[lk,AV]at t9⊢;cases hg:BC s.env t with
      |none=>simp [hg]at t9
      |some gv=>
       obtain⟨gd,v⟩:=gv;simp only[hg]at t9⊢;obtain⟨x,-,p2,-⟩:=hE t gd v hg;have hv:=p2 t9;cases v<;>first|trivial|skip
       ·obtain⟨L,q1,-⟩:=hv;exact(hR.uu _ _ q1).1
       ·obtain⟨L,q1,-⟩:=hv;exact(hR.uu _ _ q1).1)
    (by
     have e:K5 fz l A++(JY fz (JX l) (CH l i),CH l i)::K5 fz l B=K5 fz l (GT ord listed):=by rw[hAB];simp [K5]
     rw[e];exact h)
   have e2:K5 fz l A++K5 fz l B=K5 fz l (GT ord (listed.setIfInBounds i true)):=by rw[sA];simp [K5]
   rw[e2]at l0;refine Lt hl vf hi1 l0.2 hs hb tR (λs' a' w' hk hs' hn=>?_) hQ;refine ih _ s' a' w' ?_ (by simp [tB]) ?_ hk.2 hs' (λq=>pu (tR q) hn)
   ·rw[sA];rw[hAB]at hf;simp at hf⊢;omega
   ·intro j o' hj ho' e he hbd;by_cases hij:i=j
    ·grind
    ·rw[getD_set_ne false hij]at hj;exact getD_set_true (hc j o' hj ho' e he hbd)
end
def QM(m:Nat)(g0:z8)(H0:AB)(w0:World)(N:Nat)(D:DP)(Q:x5->AS->Prop):Exit->Act->World->Prop
 | .normal,a,w=>∃s,Q .normal s/\Eg m g0 H0 w0 N D s a w
 | .exit i,a,w=>∃s,Q (.exit i) s/\Eg m g0 H0 w0 N D s a w
 | .ret,a,w=>∃s,Q .ret s/\Eg m g0 H0 w0 N D s a w
 | .panic chain,a,w=>∃v H n,Q (.tJ v) ⟨[],H,n⟩/\Nk m g0 H0 w0 D a.defers a.tmps v H n chain w
 |_,_,_=>False
def Eg.drawn{m:Nat}{g0:z8}{H0:AB}{w0:World}{N:Nat}{D:DP}{s:AS}{a:Act}{w:World}(h:Eg m g0 H0 w0 N D s a w)(k:Nat):Eg m g0 H0 w0 N D s a {w with drawn:=k}:=by
 obtain⟨g,hR,hE,hT,hm,hN,hD⟩:=h;refine⟨g,⟨hR.σw,λid ob ho=>?_,hR.uu,hR.hd,hR.ap,hR.un,hR.gl,hR.gz⟩,hE,⟨hT.le,hT.βn,hT.os,hT.tape,hT.output,hT.size,hT.kept,hT.now,hT.nσ⟩,hm,hN,J4.heap (w:=w) (w':={w with drawn:=k}) rfl hD⟩;have:=hR.obj id ob ho;cases ob<;>exact this
def Eg.trans{m m1:Nat}{g0 g1:z8}{H0 H1:AB}{w0 w1:World}{N:Nat}{D:DP}{s':AS}{a':Act}{w':World}(hT:q8 m g0 H0 w0 g1 H1 w1)(hm:m<=m1)(h:Eg m1 g1 H1 w1 N D s' a' w'):
  Eg m g0 H0 w0 N D s' a' w':=by
 obtain⟨g,hR,hE,hT',hm',hN,hD⟩:=h;exact⟨g,hR,hE,hT.trans (hT'.floor hm),zo,hN,hD⟩
def Nk.trans{m m1:Nat}{D:DP}{ds:List Deferred}{tm:Array Value}{g0 g1:z8}{H0 H1:AB}{w0 w1:World}{v:Fs}{H:AB}{n:Nat}{chain:List PanicEntry}{w':World}(hT:q8 m g0 H0 w0 g1 H1 w1)(hm:m<=m1)(h:Nk m1 g1 H1 w1 D ds tm v H n chain w'):
  Nk m g0 H0 w0 D ds tm v H n chain w':=by
 obtain⟨g,x,hR,hT',hm',hc,hv⟩:=h;exact⟨g,x,hR,hT.trans (hT'.floor hm),zo,hc,hv⟩
theorem KV{env:List (Nat×Bool×Fs)}:∀{env2:List (Nat×Bool×Fs)},Qo env env2->∀{t:Nat} {gd:Bool} {v:Fs},BC env2 t=some (gd,v)->∃v',BC env t=some (gd,v')/\Wk v' v
 |[],_,t,gd,v,h=>by simp [BC]at h
 |(i,g,x)::r,⟨h1,h2⟩,t,gd,v,h=>by
  simp only[BC]at h;split at h
  ·rename_i e;subst e;cases h;exact h1
  ·exact KV h2 h
theorem Jp{n:Nat}:∀{env2:List (Nat×Bool×Fs)},JW n env2->∀{t:Nat} {gd:Bool} {v:Fs},BC env2 t=some (gd,v)->v.under n
 |[],_,t,gd,v,h=>by simp [BC]at h
 |(i,g,x)::r,⟨h1,h2⟩,t,gd,v,h=>by
  simp only[BC]at h;split at h
  ·cases h;exact h1
  ·exact Jp h2 h
def TH{m:Nat}{g0 g1:z8}{H0:AB}{w0 w1:World}{N:Nat}{D:DP}{s1 s' s2:AS}{a':Act}{w':World}(hR:x6 g1 s1.H s1.n w1)(hT:q8 m g0 H0 w0 g1 s1.H w1)(hm:m<=s1.n)
  (h:Eg s1.n g1 s1.H w1 N D s' a' w') (hw:KK s1 s' s2):Eg m g0 H0 w0 N D s2 a' w':=by
 rcases hw with rfl|hw
 ·exact h.trans hT hm
 obtain⟨g,hR',hE,hT',hm',hN,hD⟩:=h;obtain⟨we,⟨e1,e2⟩|⟨e2,hf,hu⟩⟩:=hw
 ·refine⟨g,by rw[e1,e2];exact hR',λt gd v hg=>?_,by rw[e1];exact hT.trans (hT'.floor hm),by rw[e2];omega,hN,by rw[e1];exact hD⟩;obtain⟨v',p1,p2⟩:=KV we hg;obtain⟨x,q1,q2,q3⟩:=hE t gd v' p1;exact⟨x,q1,λk=>p2 _ _ (q2 k),q3⟩
 ·obtain⟨r2,t2,ag⟩:=forget hR hR' hT' hf;refine⟨⟨g1.β,g.σ⟩,by rw[e2];exact r2,λt gd v hg=>?_,hT.trans (t2.floor hm),by rw[e2];omega,hN,hD.own λb=>Si hT' hf⟩;obtain⟨v',p1,p2⟩:=KV we hg;obtain⟨x,q1,q2,q3⟩:=hE t gd v' p1;exact⟨x,q1,λk=>AP.agree ag v x (Jp hu hg) (p2 _ _ (q2 k)),q3⟩
theorem KW(s:AS):∀(l:List Nat) (t:Nat),BC (l.filterMap λt=>(BC s.env t).map λx=>(t,x)) t=if t∈l then BC s.env t else none
 |[],t=>by simp [BC]
 |i::l,t=>by
  rw[List.filterMap_cons];cases h:BC s.env i with
  |none=>
   simp only[qd];rw[KW s l t];by_cases e:t=i
   ·subst e;simp [h]
   ·simp [e]
  |some x=>
   simp only[pr,BC];rw[KW s l t];by_cases e:i=t
   ·subst e;simp [h]
   ·simp [e,Ne.symm e]
def Eg.keep{m:Nat}{g0:z8}{H0:AB}{w0:World}{N:Nat}{D:DP}{s:AS}{a:Act}{w:World}(h:Eg m g0 H0 w0 N D s a w)(l:List Nat):Eg m g0 H0 w0 N D (s.keep l) a w:=by
 obtain⟨g,hR,hE,rest⟩:=h;refine⟨g,hR,λt gd v hg=>?_,rest⟩;simp only[AS.keep]at hg;rw[KW]at hg;split at hg
 ·exact hE t gd v hg
 ·cases hg
def Po{kp:List Nat}{a b:AS}(h:K9 kp a b):a.keep kp=b.keep kp:=by
 obtain⟨h1,h2,h3⟩:=h;obtain⟨e1,H1,n1⟩:=a;obtain⟨e2,H2,n2⟩:=b;simp only at h1 h2 h3;subst h2;subst h3;simp only[AS.keep,AS.mk.injEq,qz];have:∀l:List Nat,(∀t∈l,t∈kp)->(l.filterMap λt=>(BC e1 t).map λx=>(t,x))=l.filterMap λt=>(BC e2 t).map λx=>(t,x):=by
  intro l;induction l with
  |nil=>intro _;rfl
  |cons t l ih=>grind
 exact this kp λ_ h=>h
def Y4{g:z8}{env:List (Nat×Bool×Fs)}{a:Act}(hgl:EN g)(he:By g env a.tmps){x:Operand}{x':zx}(h:Aw x=some x')(t9:(lk env x').1=true)(hb:JV (AV env x')):a.eval x= .bool (FZ (AV env x')):=by
 have:=Di hgl he h t9;generalize AV env x'=v at this hb⊢;cases v<;>simp only[JV]at hb;exact this
def D9{P:Program}{b:Frame}{a:Act}{k:List Item}{cs:List Frame}{w:World}{c:Code}:step P (lone (b.atR a (.code (.scope c)::k)) cs w)= .next (lone (b.atR a (.code c:: .inScope c::k)) cs w):=
 step_lone_go (by simp [stepG,stepG.exec,Frame.atR])
def Nm{P:Program}{b:Frame}{a:Act}{k:List Item}{cs:List Frame}{w:World}{c:Code}:step P (lone (b.atR a (.inScope c::k)) cs w)= .next (lone (b.atR a k) cs w):=
 step_lone_go (by simp [stepG,stepG.exec,Frame.atR])
theorem TI{F:Fence}{n:Nat}{P:Program}{Q:Exit->Act->World->Prop}{a:Act}{w:World}{c:Code}(h:c.wpIn F n P (λe a w=>match e with
  | .goto _=>False
  |e=>Q e a w) a w):(Code.scope c).wpIn F n P Q a w:=by
 intro b k cs hro hb hr;have h0:(lone (b.atR a (.code (.scope c)::k)) cs w).fenced P F:=fenced_calm hb hr rfl;obtain⟨e,a₁,w₁,hq,harr⟩:=h b (.inScope c::k) cs hro hb hr;cases e with
 |normal=>exact⟨.normal,a₁,w₁,hq,.head h0 D9 (StepsIn.trans harr (.one (fenced_calm hb hr rfl) Nm))⟩
 |exit id=>exact⟨_,a₁,w₁,hq,λk' hk=>.head h0 D9 (harr.1 k' (by simp [exitTo,hk])),λhr' hk=>let ⟨k₁,h1,h2⟩:=harr.2 hr' (by simp [exitTo,hk]);⟨k₁,h1,.head h0 D9 h2⟩⟩
 |goto l=>exact hq.elim
 |ret=>exact⟨_,a₁,w₁,hq,.of_steps (.one h0 D9) harr⟩
 |panic ch=>exact⟨_,a₁,w₁,hq,.of_steps (.one h0 D9) harr⟩
 |outgrown=>exact⟨_,a₁,w₁,hq,.of_steps (.one h0 D9) harr⟩
def Of(p:Nat->Prop)(h:∃k,p k):∃k,p k/\∀j,p j->k<=j:=by
 obtain⟨k,hk⟩:=h;induction k using Nat.strongRecOn with
 |_ k ih=>grind
section
variable {P:Program} {r:Option Nat} {N:Nat} {D:DP} {fz im:List (Nat×Nat)} {kp:Nat->List Nat}
theorem TJ{g:Operand}{g':zx}{ps:Array Tmp}{asg body:Code}{Q:x5->AS->Prop}{m:Nat}{g0:z8}{H0:AB}{w0:World}{s:AS}{a:Act}{w:World}(hg:Aw g=some g')
  (t9:(lk s.env g').1=true) (h:Gc P s Q ps N asg body (AV s.env g')) (hs:Eg m g0 H0 w0 N D s a w) (hDw:D.fl<=w0.heap.size) (u9:D.no=false):(Code.rangeFunc g ps asg body).wpIn (FR none) 0 P (QM m g0 H0 w0 N D Q) a w:=by
 obtain⟨gh,hR,hE,hT,hm,hN,hD⟩:=hs;have hv:=Di hR.gl hE hg t9;generalize AV s.env g'=gv at h hv;cases gv<;>simp only[Gc]at h;rename_i ff first cap
 cases ff<;>simp only at h;rename_i tF;obtain⟨fv,cv,e1,k1,k2⟩:=hv;refine wpIn_rangeFunc λfn hfn=>?_
 have hl:=h (w.heap.size+1);obtain⟨hcb,hc⟩:=hl;have hcb':=hcb;obtain⟨fn',c1,c2,c3⟩:=hcb';have c3':¬fn'.name= "runtime.NumGoroutine" :=by simpa using c3
 have c4:¬fn'.body=none:=by cases hb:fn'.body<;>simp_all
 let rec0:Loop:={state:=.ready,pending:=none,fn:=fn,tmps:=a.tmps,params:=ps,assign:=asg,body:=body,defers:=w.heap.size}
 let wa:World:=w.alloc (.deferred (some []))
 let wb:World:=wa.alloc (.loop rec0)
 have hxa:I1 w wa:=I1.push (w:=w) (w':=wa) rfl;have hRa:x6 ⟨gh.β,gh.σ⟩ s.H s.n wa:=hR.grow hxa (λ_ _ _ x=>x) (λ_ _ _ x=>.inl x);have hTa:q8 s.n gh s.H w ⟨gh.β,gh.σ⟩ s.H wa:=q8.grow hxa rfl rfl rfl (λ_ _ _ x=>x) (λ_ _ _ x=>.inl x);have hRa1:x6 ⟨gh.β,gh.σ⟩ s.H (s.n+1) wa:=⟨hRa.σw,hRa.obj,hRa.uu,λid ob q=>Nat.lt_succ_of_lt (hRa.hd id ob q),hRa.ap,hRa.un,hRa.gl,hRa.gz⟩;have hnone:AD s.H s.n=none:=by
  cases q:AD s.H s.n with
  |none=>rfl
  |some ob=>exact absurd (hR.hd _ _ q) (Nat.lt_irrefl _)
 have hsza:wa.heap.size=w.heap.size+1:=World.size_alloc ..;have hgle:gh.le ⟨λi=>if i=s.n then some ⟨w.heap.size+1,0,1⟩else gh.β i,gh.σ⟩:=⟨λi L q=>by
  have:i≠s.n:=by rintro rfl;exact absurd hnone ((hR.uu _ _ q).1)
  simp [this,q],λ_ _ _ q=>q⟩
 obtain⟨hRb,hTb,hle⟩:=hRa1.new (m:=s.n) (w':=wb) (x:=Obj.loop rec0) rfl rfl rfl rfl hnone (Nat.lt_succ_self _) (od _) (L:=⟨w.heap.size+1,0,1⟩) hsza.symm
  (ob:=.lp ⟨w.heap.size+1,.ready,none,N,s.env,ps,asg,body⟩)
  ⟨⟨w.heap.size+1,0,1⟩,zw,rfl,rfl,rfl,rec0,by rw[<-hsza];exact World.alloc_heap_new wa _,rfl,rfl,rfl,rfl,rfl,hE.mono hgle,hN⟩
 have hT1:=hTa.trans hTb
 have hmark:∀b ob,AD (sA s.H s.n ob) b≠none->True:=λ_ _ _=>zt
 obtain⟨ms,hms,hMOK,-⟩:=hD;have hDb:J4 D ⟨λi=>if i=s.n then some ⟨w.heap.size+1,0,1⟩else gh.β i,gh.σ⟩ (sA s.H s.n (.lp ⟨w.heap.size+1,.ready,none,N,s.env,ps,asg,body⟩)) ([{target:=.collected w.heap.size,args:= #[]}]++a.defers) a.tmps wb:=by
  refine⟨{target:=.collected w.heap.size,args:= #[]}::ms,by rw[hms];rfl,⟨⟨w.heap.size,rfl,pu hDw hT.size,?_,?_,?_⟩,?_⟩,λh=>by rw[u9]at h;cases h⟩
  ·exact I1.push (w:=wa) (w':=wb) rfl _ _ (World.alloc_heap_new w _)
  ·rintro⟨id,ob,L,q1,q2,q3,q4,q5,q6⟩;by_cases e:id=s.n
   ·subst e;simp at q3;subst q3;simp at q4
   ·simp only[og e]at q3;rw[AA _ _ _ _ (Ne.symm e)]at q1;have:=(hR.uu id L q3).2 zo;omega
  ·intro d hd e;obtain⟨b,q1,q2⟩:=NW.sO hMOK d hd;rw[q1]at e;have:b=w.heap.size:=by simpa using e
   omega
  ·exact NW.step hT1 hMOK
 have uv:sG ⟨λi=>if i=s.n then some ⟨w.heap.size+1,0,1⟩else gh.β i,gh.σ⟩ (first++[.fn (.yield (w.heap.size+1)) [] []]++cap) (fv++ #[Value.func (.yield (w.heap.size+1)) #[] #[]]++cv).toList:=by
  simp only[Array.toList_append];refine sG.append' (sG.append' (sG.mono hgle _ _ k1) ?_) (sG.mono hgle _ _ k2);exact⟨_,_,rfl,⟨#[], #[],rfl,rfl,rfl⟩,rfl⟩
 have uN:=hc _ wb _ hRb uv;simp only[rF]at uN;refine⟨w.heap.size+1,[{target:=.collected w.heap.size,args:= #[]}],wb,⟨.fn (.func tF) cv,fv++ #[Value.func (.yield (w.heap.size+1)) #[] #[]]⟩,wb,tF,fv++ #[Value.func (.yield (w.heap.size+1)) #[] #[]]++cv,wb,run_enterLoop_outer fn a.tmps ps asg body,?_,λ_ _=>zt,?_,by simp [FR,Fence.wide],?_⟩
 ·have ev:a.eval (.const (.func (.yield (w.heap.size+1)) #[] #[]))=Value.func (.yield (w.heap.size+1)) #[] #[]:=rfl;simp [resolve,e1,Deferred.ofValue,ev]
 ·simp [invoke,callFunc,c1,c3',c4]
 refine(callsIn_wide (n:=0-1)).2 (uN.mono ?_);rintro e w' ⟨g',out,H',n',hq,he,r1,hn',t1⟩;have hT2:q8 s.n gh s.H w g' H' w':=hT1.trans (t1.floor zo);have hD':J4 D g' H' ([{target:=.collected w.heap.size,args:= #[]}]++a.defers) a.tmps w':=hDb.step t1;cases e with
 |outgrown=>cases out<;>exact he.elim
 |panicked ch=>
  cases out with
  |ret v=>exact he.elim
  |tJ v=>
   obtain⟨x,rfl,k⟩:=he;exact⟨v,H',n',hq,g',x,r1,hT.trans (hT2.floor hm),zo,rfl,k,hD'⟩
 |returned x=>
  cases out with
  |tJ v=>exact he.elim
  |ret v=>
   simp only[Hf]at hq;cases ho:AD H' s.n with
   |none=>simp [ho]at hq
   |some ob=>
    cases ob<;>simp only[ho]at hq;rename_i y;obtain⟨hbusy,hq⟩:=hq;obtain⟨L,q1,q2,q3,q4,r,p1,p2,p3,p4⟩:=r1.obj _ _ ho;have hL:L=⟨w.heap.size+1,0,1⟩:=by
     have:=t1.le.β s.n ⟨w.heap.size+1,0,1⟩ zw;rw[q1]at this;exact Option.some.inj this
    subst hL;simp only at p1 q4;have hend:(Instr.endLoop (w.heap.size+1)).run P w'= .ok y.tS (w'.putObj (w.heap.size+1) (.loop {r with state:=.exhausted})):=by
     rw[<-p3];exact run_endLoop (P:=P) p1 (by rw[p2];exact hbusy)
    have e9:w.heap.size+1<w'.heap.size:=(oU.1 p1).1
    obtain⟨rk,tk⟩:=r1.kill (m:=s.n) ho;have hup:=r1.upd (m:=s.n) (w':=w'.putObj (w.heap.size+1) (.loop {r with state:=.exhausted})) (ob':=.dead) ho rfl q1 rfl rfl rfl (by simp [World.putObj]) (λb hb=>by simp [World.putObj,pX (Ne.symm hb)])
     (.inr ⟨rfl,rfl,_,p1,zw⟩) zt
    obtain⟨rk',tk'⟩:=hup;have hsim:∀s',s'=({s with H:=sA H' s.n .dead,n:=n'}:AS)->Eg m g0 H0 w0 N D s' {a with defers:=[{target:=.collected w.heap.size,args:= #[]}]++a.defers} (w'.putObj (w.heap.size+1) (.loop {r with state:=.exhausted})):=by
     rintro _ rfl;exact⟨g',rk',hE.mono (hgle.trans t1.le),(hT.trans (hT2.floor hm)).trans (tk'.floor hm),zp,hN,hD'.step tk'⟩
    generalize w'.putObj (w.heap.size+1) (.loop {r with state:=.exhausted})=W at hend hsim;refine⟨y.tS,W,hend,?_⟩;cases hp:y.tS with
    |none=>simp only[hp]at hq;exact⟨_,hq,hsim _ rfl⟩
    |some c=>
     simp only[hp]at hq;cases c<;>simp only at hq
     ·exact wpIn_exit ⟨_,hq,hsim _ rfl⟩
     ·exact wpIn_ret ⟨_,hq,hsim _ rfl⟩
theorem Eg.freeze{m:Nat}{g0:z8}{H0:AB}{w0:World}{s:AS}{a:Act}{w:World}{t:Nat}{Q:x5->AS->Prop}(h:Ie Q s t (BC s.env t))(hs:Eg m g0 H0 w0 N D s a w):∃s',Q .normal s'/\Eg m g0 H0 w0 N D s' a w:=by
 obtain⟨g,hR,hE,hT,hm,hN,hD⟩:=hs;unfold Ie at h;split at h;case h_3=>exact h.elim
 case h_2=>
  split at h
  ·rename_i ho;obtain⟨rfl,h1,hQ⟩:=h;obtain⟨r1,t1⟩:=hR.rebox (m:=m) ho h1;exact⟨_,hQ,g,r1,hE,hT.trans t1,hm,hN,hD.step t1⟩
  ·exact⟨_,h,g,hR,hE,hT,hm,hN,hD⟩
  ·exact h.elim
 rename_i id e off len cap heg;obtain⟨x,x1,x2,-⟩:=hE t true _ heg;obtain⟨L,k1,k2,rfl⟩:=x2 rfl
 have val:∀(g':z8) (H':AB) (l:List Fs),g.le g'->FE g' w id (.frz e l)->off+len<=l.length->len<=cap->AP g' (.sl (if len=cap then .exact e else .none e) ((l.drop off).take len)) (.slice (some ⟨L.sO,off*e,none⟩) len cap):=by
  intro g' H' l hle ho h1 h2;obtain⟨L',j1,j2,j3⟩:=ho;rw[hle.β _ _ k1]at j1;cases j1;have l9:((l.drop off).take len).length=len:=by simp;omega
  have sY:=sK.take len _ _ (sK.drop off _ _ j3);rw[pn]at sY;by_cases hc:len=cap
  ·rw[oE hc];exact .inr ⟨zt,L.sO,off*e,cap,⟨none,by rw[l9],.inl rfl⟩,by rw[l9];exact h2,sY,by rw[l9];exact hc.symm⟩
  ·rw[og hc];exact .inr ⟨zt,L.sO,off*e,cap,⟨none,by rw[l9],.inl rfl⟩,by rw[l9];exact h2,sY,zt⟩
 have env:∀(g':z8) (v:Fs),g.le g'->AP g' v (.slice (some ⟨L.sO,off*e,none⟩) len cap)->By g' ((t,true,v)::s.env) a.tmps:=by
  intro g' v hle hv t' gd v' hg;simp only[BC]at hg;split at hg
  ·simp_all
  ·exact(hE.mono hle) t' gd v' hg
 split at h
 ·rename_i e' l ho;obtain⟨rfl,h1,h2,hQ⟩:=h;obtain⟨σ',r1,t1⟩:=hR.freeze (m:=m) ho;exact⟨_,hQ,_,r1,env _ _ t1.le (val _ H0 l t1.le (r1.obj id _ (AC ..)) h1 h2),hT.trans t1,hm,hN,hD.step t1⟩
 ·rename_i e' l ho;obtain⟨rfl,h1,h2,hQ⟩:=h;exact⟨_,hQ,g,hR,env g _ (.refl g) (val g H0 l (.refl g) (hR.obj id _ ho) h1 h2),hT,hm,hN,hD⟩
 ·exact h.elim
theorem Eg.freezeo{m:Nat}{g0:z8}{H0:AB}{w0:World}{s:AS}{a:Act}{w:World}{t:Nat}{Q:x5->AS->Prop}(h:F9 Q s t (BC s.env t))(hs:Eg m g0 H0 w0 N D s a w):∃s',Q .normal s'/\Eg m g0 H0 w0 N D s' a w:=by
 obtain⟨g,hR,hE,hT,hm,hN,hD⟩:=hs;unfold F9 at h;split at h;case h_3=>exact h.elim
 case h_2 tok l heg=>
  obtain⟨x,x1,x2,-⟩:=hE t true _ heg;refine⟨_,h,g,hR,?_,hT,hm,hN,hD⟩;intro t' gd v' hg;simp only[BC]at hg;split at hg
  ·simp_all
  ·exact hE t' gd v' hg
 case h_1 id e off len cap heg=>
  obtain⟨x,x1,x2,-⟩:=hE t true _ heg;split at h;case h_2=>exact h.elim
  rename_i e' l ho;obtain⟨rfl,rfl,h1,h2,hQ⟩:=h;obtain⟨g',v1,r1,t1⟩:=hR.own (m:=m) ho hm h1 h2 (x2 rfl);refine⟨_,hQ,g',r1,?_,hT.trans t1,zp,hN,hD.step t1⟩;intro t' gd v' hg;simp only[BC]at hg;split at hg
  ·simp_all
  ·exact(hE.mono t1.le) t' gd v' hg
theorem FA{m:Nat}{g0:z8}{H0:AB}{w0:World}{c:Code}{a:Act}{w:World}{s:AS}{P:Program}{r:Option Nat}:∀(l:List Nat) (ac:q9) (Q:x5->AS->Prop),Gl P (l.foldl (λc t=>.seq c (if Nat.ble 5000 t then .frzo (t-5000)else .frz (t-1000))) ac) Q s->
  (∀Q',Gl P ac Q' s->c.wpIn (FR r) 0 P (QM m g0 H0 w0 N D Q') a w)->c.wpIn (FR r) 0 P (QM m g0 H0 w0 N D Q) a w
 |[],ac,Q,h,hc=>hc Q h
 |t::l,ac,Q,h,hc=>FA l (.seq ac (if Nat.ble 5000 t then .frzo (t-5000)else .frz (t-1000))) Q h λQ' h'=>by
  refine wpIn_mono (hc _ h') λe a' w' hq=>?_
  cases e with
  |normal=>
   obtain⟨s',q1,q2⟩:=hq;by_cases ht:Nat.ble 5000 t=true
   ·simp only[ht,pG]at q1;exact Eg.freezeo q1 q2
   ·simp only[ht]at q1;exact Eg.freeze q1 q2
  |exit i=>exact hq
  |ret=>exact hq
  |panic c=>exact hq
  |goto l=>exact hq
  |outgrown=>exact hq
theorem CP:∀(c:Code) {ac:q9} {Q:x5->AS->Prop} {m:Nat} {g0:z8} {H0:AB} {w0:World} {s:AS} {a:Act} {w:World},BH P N fz im kp c=some ac->(r=none/\D.no=false)\/ac.plain=true->D.fl<=w0.heap.size/\D.lo<=Z9 fz->Gl P ac Q s->Eg m g0 H0 w0 N D s a w->
  c.wpIn (FR r) 0 P (QM m g0 H0 w0 N D Q) a w
 | .skip,ac,Q,m,g0,H0,w0,s,a,w,hc,hp,hDw,h,hs=>by
  simp only[BH]at hc;cases hc;exact wpIn_skip ⟨s,h,hs⟩
 | .label l,ac,Q,m,g0,H0,w0,s,a,w,hc,hp,hDw,h,hs=>by
  simp only[BH]at hc;cases hc;exact wpIn_label ⟨s,h,hs⟩
 | .exit i,ac,Q,m,g0,H0,w0,s,a,w,hc,hp,hDw,h,hs=>by
  simp only[BH]at hc;cases hc;exact wpIn_exit ⟨s,h,hs⟩
 | .ret,ac,Q,m,g0,H0,w0,s,a,w,hc,hp,hDw,h,hs=>by
  simp only[BH]at hc;cases hc;exact wpIn_ret ⟨s,h,hs⟩
 | .seq x y,ac,Q,m,g0,H0,w0,s,a,w,hc,hp,hDw,h,hs=>by
  simp only[BH]at hc;split at hc
  ·rename_i ax ay h1 h2;cases hc;have hp':((r=none/\D.no=false)\/ax.plain=true)/\((r=none/\D.no=false)\/ay.plain=true):=by
    rcases hp with e|e
    ·exact⟨.inl e,.inl e⟩
    ·simp_all [q9.plain,oo]
   refine wpIn_seq (wpIn_mono (CP x h1 hp'.1 hDw h hs) λe a' w' hq=>?_);cases e with
   |normal=>obtain⟨s',q1,q2⟩:=hq;exact CP y h2 hp'.2 hDw q1 q2
   |exit i=>exact hq
   |ret=>exact hq
   |panic c=>exact hq
   |goto l=>exact hq
   |outgrown=>exact hq
  ·cases hc
 | .block id x,ac,Q,m,g0,H0,w0,s,a,w,hc,hp,hDw,h,hs=>by
  simp only[BH]at hc;cases h1:BH P N fz im kp x with
  |none=>simp [h1]at hc
  |some ax=>
   simp [h1]at hc;subst hc;refine wpIn_block (wpIn_mono (CP x h1 hp hDw h hs) λe a' w' hq=>?_);cases e with
   |normal=>exact hq
   |exit i=>
    obtain⟨s',q1,q2⟩:=hq;simp only[Exit.inBlock]at q1⊢;split
    ·rename_i e;rw[oE e]at q1;exact⟨s',q1,q2⟩
    ·rename_i e;rw[og e]at q1;exact⟨s',q1,q2⟩
   |ret=>exact hq
   |panic c=>exact hq
   |goto l=>exact hq
   |outgrown=>exact hq
 | .cond c x y,ac,Q,m,g0,H0,w0,s,a,w,hc,hp,hDw,h,hs=>by
  simp only[BH]at hc;split at hc
  ·rename_i c' ax ay h1 h2 h3;cases hc;obtain⟨q1,q2,q3,q4⟩:=h;obtain⟨g,hR,hE,rest⟩:=hs;have e:=Y4 hR.gl hE h1 q1 q2;have hp':((r=none/\D.no=false)\/ax.plain=true)/\((r=none/\D.no=false)\/ay.plain=true):=by
    rcases hp with e|e
    ·exact⟨.inl e,.inl e⟩
    ·simp_all [q9.plain,oo]
   refine wpIn_cond_split e (λht=>CP x h2 hp'.1 hDw (q3 ht) ⟨g,hR,hE,rest⟩) (λht=>CP y h3 hp'.2 hDw (q4 ht) ⟨g,hR,hE,rest⟩)
  ·cases hc
 | .loop x,ac,Q,m,g0,H0,w0,s,a,w,hc,hp,hDw,h,hs=>by
  simp only[BH]at hc;cases h1:BH P N fz im kp x with
  |none=>simp [h1]at hc
  |some ax=>
   simp [h1]at hc;subst hc;obtain⟨I,μ,hI,hround⟩:=h
   classical
   let J:Act->World->Nat->Prop:=λa w k=>∃s,I s/\Eg m g0 H0 w0 N D s a w/\μ s=k
   let μ':Act->World->Nat:=λa w=>if hx:∃k,J a w k then Classical.choose (Of _ hx)else 0
   have hμ':∀a w,(∃k,J a w k)->J a w (μ' a w)/\∀j,J a w j->μ' a w<=j:=by
    intro a w hx;have e:μ' a w=Classical.choose (Of _ hx):=by simp only[μ'];rw[dif_pos hx]
    rw[e];exact Classical.choose_spec (Of _ hx)
   refine wpIn_loop (λa w=>∃k,J a w k) μ' ⟨_,s,hI,hs,rfl⟩ ?_;rintro a1 w1 hx;obtain⟨⟨s1,hI1,uJ,hμ1⟩,-⟩:=hμ' a1 w1 hx;obtain⟨g1,hR1,hE1,hT1,hm1,hN1,hD1⟩:=uJ;have w9:Eg s1.n g1 s1.H w1 N D s1 a1 w1:=⟨g1,hR1,hE1,q8.refl _ _ _ _,od _,hN1,hD1⟩;refine wpIn_mono (CP x h1 hp ⟨pu hDw.1 hT1.size,hDw.2⟩ (hround s1 hI1) w9) λe a' w' hq=>?_
   cases e with
   |normal=>
    obtain⟨s',⟨s2,q1,q2,q3⟩,q4⟩:=hq;have hs2:=TH hR1 hT1 hm1 q4 q1;have hx':∃k,J a' w' k:=⟨_,s2,q2,hs2,rfl⟩;refine⟨hx',?_⟩;have e3:=(hμ' a' w' hx').2 _ ⟨s2,q2,hs2,rfl⟩;omega
   |exit i=>obtain⟨s',q1,q2⟩:=hq;exact⟨s',q1,q2.trans hT1 hm1⟩
   |ret=>obtain⟨s',q1,q2⟩:=hq;exact⟨s',q1,q2.trans hT1 hm1⟩
   |panic c=>obtain⟨v,H,n,q1,q2⟩:=hq;exact⟨v,H,n,q1,q2.trans hT1 hm1⟩
   |goto l=>exact hq
   |outgrown=>exact hq
 | .region id ops draw,ac,Q,m,g0,H0,w0,s,a,w,hc,hp,hDw,h,hs=>by
  simp only[BH]at hc;split at hc
  ·rename_i l hl;split at hc
   ·rename_i hd;cases hc;refine FA (P:=P) (c:=.region id ops draw) _ _ _ h λQ h=>?_
    have hmb:m<=s.n:=by obtain⟨g,_,_,_,hm,_⟩:=hs;exact hm
    have uJ:Eg m g0 H0 w0 N D {s with n:=s.n+(if EV l=true then ops.size else 0)} a w:=by
     obtain⟨g,hR,hE,hT,hm,rest⟩:=hs;exact⟨g,⟨hR.σw,hR.obj,hR.uu,λid ob ho=>qg (hR.hd id ob ho) (py _ _),hR.ap,hR.un,hR.gl,hR.gz⟩,hE,hT,pu hm (py _ _),rest⟩
    have tR:EV l=true->s.n+ops.size<=({s with n:=s.n+(if EV l=true then ops.size else 0)}:AS).n:=λq=>by simp [q]
    have l9:l.length=ops.size:=by rw[(D8 _ _ _ hl).1,pq]
    have sP:Dv P (λv H n=>Q (.tJ v) ⟨[],H,n⟩) s.n (FI l (List.range ops.size)) (λs'=>Q .normal (s'.keep (kp id))) {s with n:=s.n+(if EV l=true then ops.size else 0)}:=by
     rw[<-l9,Rd];rw[l9];exact h
    cases draw with
    |false=>
     refine wpIn_region (Oe hl hDw.2 hmb (λv H' n' chain a' w' q1 q2=>⟨v,H',n',q1,q2⟩) (λs' a' w' q1 q2=>⟨_,q1,q2.keep _⟩) _ _ a w (λi hi=>px.1 hi) sP uJ tR)
    |true=>
     obtain⟨d1,d2,d3⟩:=hd.resolve_left zw;have hrem:Cz ops (Array.replicate ops.size false)=List.range ops.size:=by simp_all [Cz]
     refine wpIn_region_any d3 (TG (kp:=kp id) hl hDw.2 d1 (λx hx=>?_) (λa b hab hk=>?_) hmb (λv H' n' chain a' w' q1 q2=>⟨v,H',n',q1,q2⟩) (λs' a' w' q1 q2=>⟨_,q1,q2.keep _⟩)
      _ _ _ a _ (by rw[hrem];simp) zw (λj o hj=>?_) (by rw[hrem];exact sP) (uJ.drawn _) tR)
     ·unfold KN at d2;have:=(oM.1 d2) x hx;rw[oV]at this;rcases this with e|e
      ·left;simpa using e
      ·right;intro d hd';rw[hd']at e;simpa using e
     ·rw[<-Po hab];exact hk
     ·exfalso;by_cases hjs:j<ops.size
      ·simp [hjs]at hj
      ·simp [hjs]at hj
   ·rename_i sg;split at hc
    ·rename_i hd;cases hc;refine FA (P:=P) (c:=.region id ops draw) _ _ _ h λQ h=>?_
     have hmb:m<=s.n:=by obtain⟨g,_,_,_,hm,_⟩:=hs;exact hm
     have uJ:Eg m g0 H0 w0 N D {s with n:=s.n+(if EV l=true then ops.size else 0)} a w:=by
      obtain⟨g,hR,hE,hT,hm,rest⟩:=hs;exact⟨g,⟨hR.σw,hR.obj,hR.uu,λid ob ho=>qg (hR.hd id ob ho) (py _ _),hR.ap,hR.un,hR.gl,hR.gz⟩,hE,hT,pu hm (py _ _),rest⟩
     have tR:EV l=true->s.n+ops.size<=({s with n:=s.n+(if EV l=true then ops.size else 0)}:AS).n:=λq=>by simp [q]
     have l9:l.length=ops.size:=by rw[(D8 _ _ _ hl).1,pq]
     have sP:Iy P (λv H n=>Q (.tJ v) ⟨[],H,n⟩) s.n (Sl s.env s.n) (K5 fz l (List.range ops.size)) (λs'=>Q .normal (s'.keep (kp id))) {s with n:=s.n+(if EV l=true then ops.size else 0)}:=by
      rw[<-l9];rw[l9];rw[l9]at h;exact h
     have hdr:draw=true:=by cases draw<;>simp_all
     subst hdr;obtain⟨d1,d2,d3⟩:=hd;have hrem:Cz ops (Array.replicate ops.size false)=List.range ops.size:=by simp_all [Cz]
     refine wpIn_region_any d3 (Rg (kp:=kp id) hl hDw.2 d1 (λx hx=>?_) (λa b hab hk=>?_) hmb (λv H' n' chain a' w' q1 q2=>⟨v,H',n',q1,q2⟩) (λs' a' w' q1 q2=>⟨_,q1,q2.keep _⟩)
      _ _ _ a _ (by rw[hrem];simp) zw (λj o hj=>?_) (by rw[hrem];exact sP) (uJ.drawn _) tR)
     ·unfold KN at d2;have:=(oM.1 d2) x hx;rw[oV]at this;rcases this with e|e
      ·left;simpa using e
      ·right;intro d hd';rw[hd']at e;simpa using e
     ·rw[<-Po hab];exact hk
     ·exfalso;by_cases hjs:j<ops.size
      ·simp [hjs]at hj
      ·simp [hjs]at hj
    ·rename_i hnd2;split at hc
     ·rename_i hd;cases hc;refine FA (P:=P) (c:=.region id ops draw) _ _ _ h λQ h=>?_
      have hmb:m<=s.n:=by obtain⟨g,_,_,_,hm,_⟩:=hs;exact hm
      have uJ:Eg m g0 H0 w0 N D {s with n:=s.n+(if EV l=true then ops.size else 0)} a w:=by
       obtain⟨g,hR,hE,hT,hm,rest⟩:=hs;exact⟨g,⟨hR.σw,hR.obj,hR.uu,λid ob ho=>qg (hR.hd id ob ho) (py _ _),hR.ap,hR.un,hR.gl,hR.gz⟩,hE,hT,pu hm (py _ _),rest⟩
      have tR:EV l=true->s.n+ops.size<=({s with n:=s.n+(if EV l=true then ops.size else 0)}:AS).n:=λq=>by simp [q]
      have l9:l.length=ops.size:=by rw[(D8 _ _ _ hl).1,pq]
      have sP:Iy P (λv H n=>Q (.tJ v) ⟨[],H,n⟩) s.n (Sl s.env s.n) (K5 fz l (Q1 fz id)) (λs'=>Q .normal (s'.keep (kp id))) {s with n:=s.n+(if EV l=true then ops.size else 0)}:=by
       exact h
      have hdr:draw=true:=by cases draw<;>simp_all
      subst hdr;obtain⟨d1,d2,d3⟩:=hd;have hrem:GT (Q1 fz id) (Array.replicate ops.size false)=Q1 fz id:=by
       unfold GT;apply rL.2;intro i hi;have:=d1;unfold Md at this;simp only[oo]at this;have:=(oM.1 this.1.1.1.1.2) i hi;simp at this;simp [this]
      refine wpIn_region_any d3 (Rh (kp:=kp id) hl hDw.2 d1 (λx hx=>?_) (λa b hab hk=>?_) hmb (λv H' n' chain a' w' q1 q2=>⟨v,H',n',q1,q2⟩) (λs' a' w' q1 q2=>⟨_,q1,q2.keep _⟩)
       _ _ _ a _ (by rw[hrem];have:=d1;unfold Md at this;simp only[oo,oC]at this;exact this.1.1.1.1.1) zw (λj o hj=>?_) (by rw[hrem];exact sP) (uJ.drawn _) tR)
      ·unfold KN at d2;have:=(oM.1 d2) x hx;rw[oV]at this;rcases this with e|e
       ·left;simpa using e
       ·right;intro d hd';rw[hd']at e;simpa using e
      ·rw[<-Po hab];exact hk
      ·exfalso;by_cases hjs:j<ops.size
       ·simp [hjs]at hj
       ·simp [hjs]at hj
     ·cases hc
  ·cases hc
 | .goto l,ac,Q,m,g0,H0,w0,s,a,w,hc,hp,hDw,h,hs=>by simp [BH]at hc
 | .scope x,ac,Q,m,g0,H0,w0,s,a,w,hc,hp,hDw,h,hs=>by
  simp only[BH]at hc;refine TI (wpIn_mono (CP x hc hp hDw h hs) λe a' w' hq=>?_);cases e with
  |goto l=>exact hq.elim
  |normal=>exact hq
  |exit i=>exact hq
  |ret=>exact hq
  |panic c=>exact hq
  |outgrown=>exact hq
 | .rangeFunc g ps asg body,ac,Q,m,g0,H0,w0,s,a,w,hc,hp,hDw,h,hs=>by
  simp only[BH]at hc;cases h1:Aw g with
  |none=>simp [h1]at hc
  |some g'=>
   simp [h1]at hc;subst hc;rcases hp with e|e
   ·obtain⟨rfl,e⟩:=e;exact TJ h1 h.1 h.2 hs hDw.1 e
   ·cases e
 | .refuse l,ac,Q,m,g0,H0,w0,s,a,w,hc,hp,hDw,h,hs=>by simp [BH]at hc
end
end Go.AM
