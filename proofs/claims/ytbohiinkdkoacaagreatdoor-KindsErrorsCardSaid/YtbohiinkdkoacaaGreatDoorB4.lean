/-
  Parts of the proof. Conditions: none.
-/
import Derived.Test.YtbohiinkdkoacaaGreatDoorB3
import Derived.ControlIn
import Derived.RangeFuncRecord
import Derived.RangeFuncIn
set_option maxRecDepth 20000
set_option linter.all false
namespace Go.AM
section
variable {P:Program} {Qp:Fs->AC->Nat->Prop} {base:Nat} {kp:List Nat}
def HR(H H':AC):Prop:=H'=H\/∃id ob,hget H id=none/\H'=hset H id ob
def HA(H H':AC):Prop:=H'=H\/∃tok id,hget H id=none/\(∀i e,tok= .own i e->hget H i=some .tok)/\H'=hset (AL H tok) id .tok
def XOp.free:XOp->Prop
 | .nileq .. | .tas .. =>True
 |_=>False
variable {H:AC} {l:List Fs} {b:Nat}
theorem LU{x:XOp}(hx:x.free):(xE b x H l).2.1=H:=by
 cases x<;>first|exact hx.elim|skip
 ·rename_i kd q;rcases kd with _|_|_|kd<;>rcases l with _|⟨v,_|⟨v2,l⟩⟩<;>first|rfl|(cases v<;>rfl)
 ·rename_i t ok z;rcases ok with _|_<;>rcases l with _|⟨v,_|⟨v2,l⟩⟩<;>first|rfl|(cases v<;>rfl)
theorem P5{x:XOp}{H':AC}(hx:x.free):(xE b x H l).1=(xE b x H' l).1/\(xE b x H l).2.2=(xE b x H' l).2.2:=by
 cases x<;>first|exact hx.elim|skip
 ·rename_i kd q;rcases kd with _|_|_|kd<;>rcases l with _|⟨v,_|⟨v2,l⟩⟩<;>first|exact⟨rfl,rfl⟩|(cases v<;>exact⟨rfl,rfl⟩)
 ·rename_i t ok z;rcases ok with _|_<;>rcases l with _|⟨v,_|⟨v2,l⟩⟩<;>first|exact⟨rfl,rfl⟩|(cases v<;>exact⟨rfl,rfl⟩)
theorem Fb{kt:KT}{z:Fs}{ok:Bool}:(xE b (.look kt z ok) H l).2.1=H:=by
 rcases l with _|⟨v,_|⟨v2,_|⟨v3,l⟩⟩⟩<;>try rfl
 ·cases v<;>rfl
 ·cases v<;>try rfl
  simp only[xE];split<;>rfl
 ·cases v<;>rfl
theorem Cu{o:Z9}{K:AS->Prop}{s:AS}(hc:o.k.cat≠5)(h:AU P Qp base o K s):
  ∃H' g v,K ({s with H:=H'}.put o.dst g v)/\(∀K2:AS->Prop,K2 ({s with H:=H'}.put o.dst g v)->AU P Qp base o K2 s)/\(o.guard=none->g=true)/\
   (o.k.cat=0\/o.k.cat=1\/o.k.cat=3->H'=s.H)/\(o.k.cat=2->HR s.H H')/\(o.k.cat=4->HA s.H H'):=by
 obtain⟨dst,guard,k⟩:=o;obtain⟨h0,h1⟩:=h;have hgn:guard=none->gvb s.env guard=true:=by rintro rfl;rfl
 have eff:∀{k:Io},(∀K2:AS->Prop,(gvb s.env guard=true->oks s.env k.opds/\A5 P Qp base ⟨dst,guard,k⟩ K2 s)/\(gvb s.env guard=false->K2 (s.put dst false (.tup [])))->AU P Qp base ⟨dst,guard,k⟩ K2 s)->
   (gvb s.env guard=true->oks s.env k.opds/\A5 P Qp base ⟨dst,guard,k⟩ K s)/\(gvb s.env guard=false->K (s.put dst false (.tup [])))->
   (oks s.env k.opds->A5 P Qp base ⟨dst,guard,k⟩ K s->∃H' v,K ({s with H:=H'}.put dst true v)/\(∀K2:AS->Prop,K2 ({s with H:=H'}.put dst true v)->A5 P Qp base ⟨dst,guard,k⟩ K2 s)/\(k.cat=0\/k.cat=1\/k.cat=3->H'=s.H)/\(k.cat=2->HR s.H H')/\(k.cat=4->HA s.H H'))->
   ∃H' g v,K ({s with H:=H'}.put dst g v)/\(∀K2:AS->Prop,K2 ({s with H:=H'}.put dst g v)->AU P Qp base ⟨dst,guard,k⟩ K2 s)/\(guard=none->g=true)/\
    (k.cat=0\/k.cat=1\/k.cat=3->H'=s.H)/\(k.cat=2->HR s.H H')/\(k.cat=4->HA s.H H'):=by
  intro k hst hh he;by_cases hg:gvb s.env guard=true
  ·grind
  ·have hg:gvb s.env guard=false:=by simpa using hg
   exact⟨s.H,false,.tup [],hh.2 hg,λK2 hk=>hst K2 ⟨λq=>(by rw[hg]at q;cases q),λ_=>hk⟩,λq=>(by have:=hgn q;rw[hg]at this;cases this),λ_=>rfl,λ_=>.inl rfl,λ_=>.inl rfl⟩
 cases k with
 |v k=>exact⟨s.H,_,_,h1.2,λK2 hk=>⟨h0,h1.1,hk⟩,hgn,λ_=>rfl,λ_=>.inl rfl,λ_=>.inl rfl⟩
 |pick c a b=>exact⟨s.H,_,_,h1.2,λK2 hk=>⟨h0,h1.1,hk⟩,hgn,λ_=>rfl,λ_=>.inl rfl,λ_=>.inl rfl⟩
 |call qt f args=>
  cases qt with
  |true=>obtain⟨r,h1,h2⟩:=h1;exact⟨s.H,_,_,h2,λK2 hk=>⟨h0,r,h1,hk⟩,hgn,λ_=>rfl,λ_=>.inl rfl,λ_=>.inl rfl⟩
  |false=>exact absurd rfl hc
 |pan x=>exact absurd rfl hc
 |slA nn x lo hi=>exact absurd rfl hc
 |ext x xs=>
  cases x<;>first
   |exact absurd rfl hc
   |(refine eff (λK2 q=>⟨h0,q⟩) h1 λq1 q2=>?_
     obtain⟨p1,p2⟩:=q2;rw[Fb]at p2;exact⟨_,_,p2,λK2 hk=>⟨p1,by rw[Fb];exact hk⟩,λ_=>rfl,by simp [Io.cat],by simp [Io.cat]⟩)
   |(refine eff (λK2 q=>⟨h0,q⟩) h1 λq1 q2=>?_
     rename_i rel;obtain⟨p1,p2⟩:=q2;rcases xs with _|⟨_,_⟩
     ·exact⟨_,_,p2,λK2 hk=>⟨p1,hk⟩,by simp [Io.cat],λ_=>.inr ⟨_,_,p1,rfl⟩,by simp [Io.cat]⟩
     ·exact p1.elim)
   |(refine eff (λK2 q=>⟨h0,q⟩) h1 λq1 q2=>?_
     rcases xs with _|⟨_,_⟩
     ·obtain⟨⟨p0,p1⟩,p2⟩:=q2;exact⟨_,_,p2,λK2 hk=>⟨⟨p0,p1⟩,hk⟩,by simp [Io.cat],λ_=>.inr ⟨_,_,p0,rfl⟩,by simp [Io.cat]⟩
     ·obtain⟨p1,p2⟩:=q2;exact p1.elim)
   |(refine eff (λK2 q=>⟨h0,q⟩) h1 λq1 q2=>?_
     obtain⟨⟨p0,p1⟩,p2⟩:=q2;exact⟨_,_,p2,λK2 hk=>⟨⟨p0,p1⟩,hk⟩,by simp [Io.cat],λ_=>.inr ⟨_,_,p0,rfl⟩,by simp [Io.cat]⟩)
   |(refine eff (λK2 q=>⟨h0,q⟩) h1 λq1 q2=>?_
     obtain⟨p1,p2⟩:=q2;rw[LU (by trivial)]at p2;exact⟨_,_,p2,λK2 hk=>⟨p1,by rw[LU (by trivial)];exact hk⟩,λ_=>rfl,by simp [Io.cat],by simp [Io.cat]⟩)
 |appR rel esz bytes zero x y str=>exact absurd rfl hc
 |appZ rel esz bytes zero x y=>exact absurd rfl hc
 |nils nq x=>exact absurd rfl hc
 |mnx x=>exact absurd rfl hc
 |cpu f args=>
  refine eff (λK2 q=>⟨h0,q⟩) h1 λq1 q2=>?_
  simp only[A5]at q2⊢;generalize lkv s.env f=fv at q2⊢;cases fv<;>(try simp only[]at q2)<;>first|exact q2.elim|skip
  rename_i ff first cap
  cases ff<;>(try simp only[]at q2)<;>first|exact q2.elim|skip
  obtain⟨r,p1,p2⟩:=q2;exact⟨s.H,r,p2,λK2 hk=>⟨r,p1,hk⟩,λ_=>rfl,λ_=>.inl rfl,λ_=>.inl rfl⟩
 |alloc rel cs=>
  refine eff (λK2 q=>⟨h0,q⟩) h1 λq1 q2=>?_
  exact⟨_,_,q2.2,λK2 hk=>⟨q2.1,hk⟩,by simp [Io.cat],λ_=>.inr ⟨_,_,q2.1,rfl⟩,by simp [Io.cat]⟩
 |box rel sz x=>
  refine eff (λK2 q=>⟨h0,q⟩) h1 λq1 q2=>?_
  exact⟨_,_,q2.2.2.2,λK2 hk=>⟨q2.1,q2.2.1,q2.2.2.1,hk⟩,by simp [Io.cat],λ_=>.inr ⟨_,_,q2.1,rfl⟩,by simp [Io.cat]⟩
 |mks rel esz bytes zero x=>
  refine eff (λK2 q=>⟨h0,q⟩) h1 λq1 q2=>?_
  obtain⟨p1,p2,p3,p4,p5,p6,p7⟩:=q2;exact⟨_,_,p7,λK2 hk=>⟨p1,p2,p3,p4,p5,p6,hk⟩,by simp [Io.cat],λ_=>.inr ⟨_,_,p1,rfl⟩,by simp [Io.cat]⟩
 |st sz a x=>
  refine eff (λK2 q=>⟨h0,q⟩) h1 λq1 q2=>?_
  obtain⟨p1,p2,p3⟩:=q2;simp only[A5,p1,p2,WQ];generalize lkv s.env a=av at p3⊢;cases av<;>(try simp only[]at p3)<;>first|exact p3.elim|skip
  ·split at p3
   ·grind [Io.cat]
   ·exact p3.elim
  ·split at p3
   ·grind [Io.cat]
   ·exact p3.elim
 |app rel esz bytes x y str=>
  refine eff (λK2 q=>⟨h0,q⟩) h1 λq1 q2=>?_
  simp only[A5]at q2⊢;generalize lkv s.env x=av at q2⊢;generalize Bz s.H (lkv s.env) esz y str=bv at q2⊢;cases av<;>(try simp only[]at q2)<;>first|exact q2.elim|skip
  rename_i tok l;cases bv<;>(try simp only[]at q2)<;>first|exact q2.elim|skip
  simp only[]at q2⊢;obtain⟨p1,p2,p3,p4,p5,p6⟩:=q2;refine⟨_,_,p6,λK2 hk=>⟨p1,p2,p3,p4,p5,hk⟩,by simp [Io.cat],by simp [Io.cat],λ_=>.inr ⟨tok,_,p1,?_,rfl⟩⟩;rintro i e rfl;exact p2.2
def Ew(o:Z9)(H H':AC)(n n':Nat)(ρ:Yy->Fs):Prop:=match o.k with
 | .v k=>(evk H ρ k).1->evk H ρ k=evk H' ρ k
 | .call true _ _=>H=H'/\n=n'
 | .ext (.look ..) _=>H=H'
 |_=>True
theorem CR{o:Z9}{K K':AS->Prop}{s1 s:AS}(hcat:o.k.cat=0\/o.k.cat=1\/o.k.cat=3)(hl:Look o s1.env s.env)
  (hc:gvb s.env o.guard=true->oks s.env o.k.opds->Ew o s1.H s.H s1.n s.n (lkv s.env))
  (hK:∀g v v',(g=true->v=v')->(o.guard=none->g=true)->K (s1.put o.dst g v)->K' (s.put o.dst g v')):
  AU P Qp base o K s1->AU P Qp base o K' s:=by
 obtain⟨dst,guard,k⟩:=o;have hg:=Ct hl;have hgn:guard=none->gvb s1.env guard=true:=by rintro rfl;rfl
 simp only at hg hK;have rho:oks s1.env k.opds->∀x∈k.opds,lkv s1.env x=lkv s.env x:=λh=>JB hl (l:=k.opds) (λx hx=>hx) h
 have oksT:oks s1.env k.opds->oks s.env k.opds:=JA hl (l:=k.opds) (λx hx=>hx);cases k with
 |v k=>
  rintro⟨h0,h1,h2⟩;have e:gvb s1.env guard=true->evk s1.H (lkv s1.env) k=evk s.H (lkv s.env) k:=λq=>by
   have e1:=KF (H:=s1.H) k (rho (h1 q).1);rw[e1];exact hc (hg▸q) (oksT (h1 q).1) (e1▸(h1 q).2)
  refine⟨By hl h0,λq=>?_,?_⟩
  ·have q:gvb s1.env guard=true:=hg▸q;exact⟨oksT (h1 q).1,e q▸(h1 q).2⟩
  ·grind
 |pick c a b=>
  rintro⟨h0,h1,h2⟩;have l1:=Cs hl (x:=c) (by simp [Io.opds]);have l2:=Cs hl (x:=a) (by simp [Io.opds]);have l3:=Cs hl (x:=b) (by simp [Io.opds]);have ec:gvb s1.env guard=true->lkv s1.env c=lkv s.env c:=λq=>l1.2 (h1 q).1
  have hsel:∀(t:Bool) (x y x' y':Fs),(t=true->x=x')->(t=false->y=y')->sel t x y=sel t x' y':=by
   intro t x y x' y' p1 p2;cases t with
   |true=>have:=p1 rfl;subst this;cases x<;>cases y<;>cases y'<;>rfl
   |false=>have:=p2 rfl;subst this;cases y<;>cases x<;>cases x'<;>rfl
  refine⟨By hl h0,λq=>?_,?_⟩
  ·simp_all
  ·show K' (s.put dst (gvb s.env guard) _);rw[<-hg];refine hK _ _ _ (λq=>?_) hgn h2;rw[<-ec q];obtain⟨q1,q2,q3,q4⟩:=h1 q;exact hsel _ _ _ _ _ (λp=>l2.2 (q3 p)) (λp=>l3.2 (q4 p))
 |call qt f args=>
  cases qt with
  |false=>simp [Io.cat]at hcat
  |true=>
   rintro⟨h0,r,h1,h2⟩;refine⟨By hl h0,r,λq=>?_,?_⟩
   ·have q':gvb s1.env guard=true:=hg▸q;obtain⟨q1,q2,q3⟩:=h1 q';have q5:oks s1.env (Io.call true f args).opds:=⟨q1,q2⟩;have rh:=rho q5;have e1:lkv s1.env f=lkv s.env f:=rh f (by simp [Io.opds]);have e2:args.map (lkv s1.env)=args.map (lkv s.env):=Wz λx hx=>rh x (by simp [Io.opds,hx])
    obtain⟨c1,c2⟩:=hc q (oksT q5);refine⟨(oksT q5).1,(oksT q5).2,?_⟩;rw[e1,e2,c1,c2]at q3;exact q3
   ·grind
 |ext x xs=>
  have free:x.free->AU P Qp base ⟨dst,guard,.ext x xs⟩ K s1->AU P Qp base ⟨dst,guard,.ext x xs⟩ K' s:=by
   rintro hx ⟨h0,h1,h2⟩;refine⟨By hl h0,λq=>?_,λq=>?_⟩
   ·have q':gvb s1.env guard=true:=hg▸q;obtain⟨q1,q2,q3⟩:=h1 q';have e2:xs.map (lkv s1.env)=xs.map (lkv s.env):=Wz λx hx=>rho q1 x hx
    refine⟨oksT q1,?_,?_⟩
    ·show(xE base x s.H (xs.map (lkv s.env))).1;rw[<-e2,<-(P5 (b:=base) (l:=xs.map (lkv s1.env)) (H:=s1.H) (H':=s.H) hx).1];exact q2
    ·show K' ({s with H:=(xE base x s.H (xs.map (lkv s.env))).2.1}.put dst true (xE base x s.H (xs.map (lkv s.env))).2.2);have q3':K ({s1 with H:=(xE base x s1.H (xs.map (lkv s1.env))).2.1}.put dst true (xE base x s1.H (xs.map (lkv s1.env))).2.2):=q3;rw[LU hx]at q3'⊢;exact hK true _ _ (λ_=>by rw[<-e2];exact(P5 hx).2) (λ_=>rfl) q3'
   ·grind
  cases x<;>first|(simp [Io.cat]at hcat;done)|exact free trivial|skip
  rintro⟨h0,h1,h2⟩;refine⟨By hl h0,λq=>?_,λq=>?_⟩
  ·have q':gvb s1.env guard=true:=hg▸q;obtain⟨q1,q2,q3⟩:=h1 q';have e2:xs.map (lkv s1.env)=xs.map (lkv s.env):=Wz λx hx=>rho q1 x hx
   have hH:s1.H=s.H:=hc q (oksT q1);simp only[Fb]at q3⊢;rw[e2,hH]at q2;refine⟨oksT q1,q2,?_⟩;rename_i kt z ok;have q3':K (s1.put dst true (xE base (.look kt z ok) s1.H (xs.map (lkv s1.env))).2.2):=q3;have:=hK true _ (xE base (.look kt z ok) s.H (xs.map (lkv s.env))).2.2 (λ_=>by rw[e2,hH]) (λ_=>rfl) q3';show K' ({s with H:=(xE base (.look kt z ok) s.H (xs.map (lkv s.env))).2.1}.put dst true (xE base (.look kt z ok) s.H (xs.map (lkv s.env))).2.2);rw[Fb];exact this
  ·grind
 |cpu f args=>
  rintro⟨h0,h1,h2⟩;refine⟨By hl h0,λq=>?_,λq=>?_⟩
  ·have q':gvb s1.env guard=true:=hg▸q;obtain⟨q1,q3⟩:=h1 q';have e1:lkv s1.env f=lkv s.env f:=rho q1 f (by simp [Io.opds]);have e2:args.map (lkv s1.env)=args.map (lkv s.env):=Wz λx hx=>rho q1 x (by simp [Io.opds,hx])
   refine⟨oksT q1,?_⟩;simp only[A5]at q3⊢;rw[e1,e2]at q3;generalize lkv s.env f=fv at q3⊢;cases fv<;>(try simp only[]at q3)<;>first|exact q3.elim|skip
   rename_i ff first cap
   cases ff<;>(try simp only[]at q3)<;>first|exact q3.elim|skip
   obtain⟨r,p1,p2⟩:=q3;exact⟨r,p1,hK true _ _ (λ_=>rfl) (λ_=>rfl) p2⟩
  ·grind
 |_=>simp [Io.cat]at hcat
end
section
variable {P:Program} {Qp:Fs->AC->Nat->Prop} {base:Nat} {kp:List Nat}
theorem Fc(s:AS)(H:AC)(n:Nat)(d:Option Nat)(g:Bool)(v:Fs):({s with H:=H,n:=n}:AS).put d g v={s.put d g v with H:=H,n:=n}:=by cases d<;>rfl
variable {H:AC} {ob:Z7} {o:Z9} {s:AS} {a:Fs} {ag:Bool} {id sz:Nat} {tok:Zd}
theorem Ej{dx dy:Option Nat}{gx gy:Bool}{vx vx' vy vy':Fs}(hd:∀d,dx=some d->dy≠some d)(hx:gx=true->vx=vx')(hy:gy=true->vy=vy')
  (kx:∀d,dx=some d->d∈kp->gx=true) (ky:∀d,dy=some d->d∈kp->gy=true):
  SEq kp ((s.put dx gx vx).put dy gy vy) ((s.put dy gy vy').put dx gx vx'):=by
 refine⟨λt=>?_,by simp [Ba],by simp [Dj]⟩;simp only[Dr];by_cases h1:dy=some t
 ·have h2:dx≠some t:=λh=>hd t h h1
  rw[Vv h1,V5 h2,Vv h1];exact⟨⟨rfl,hy⟩,λm=>by rw[hy (ky t h1 m)]⟩
 ·rw[V5 h1];by_cases h2:dx=some t
  ·rw[Vv h2,Vv h2];exact⟨⟨rfl,hx⟩,λm=>by rw[hx (kx t h2 m)]⟩
  ·rw[V5 h2,V5 h2,V5 h1];exact⟨EEq.rfl' _,λ_=>rfl⟩
def adom(H:AC):Fs->Prop
 | .ptr id _| .ap id _ _ _=>hget H id≠none
 |_=>True
theorem Gz(h:adom H a)(hn:hget H id=none):Ay (hset H id ob) sz ag a=Ay H sz ag a:=by
 cases a<;>try rfl
 ·rename_i i off;have:id≠i:=by rintro rfl;exact h hn
  simp only[Ay,AA _ _ _ _ this]
 ·rename_i i esz j off;have:id≠i:=by rintro rfl;exact h hn
  simp only[Ay,AA _ _ _ _ this]
theorem IL(h:(Ay H sz ag a).1):adom H a:=by
 cases a<;>simp only[adom]
 ·intro hn;simp [Ay,hn]at h
 ·intro hn;simp [Ay,hn]at h
theorem Mh{i:Nat}(hn:hget H id=none)(ht:∀j e,tok= .own j e->hget H j=some .tok)(ho:hget H i=some ob)(hne:ob≠ .tok):
  hget (hset (AL H tok) id .tok) i=some ob:=by
 have h1:id≠i:=by rintro rfl;rw[hn]at ho;cases ho
 rw[AA _ _ _ _ h1];cases tok<;>try exact ho
 rename_i j e;have h2:j≠i:=by rintro rfl;rw[ht _ _ rfl]at ho;cases ho;exact hne rfl
 simp only[AL];rw[AA _ _ _ _ h2];exact ho
theorem GA{i:Nat}(ho:hget (hset (AL H tok) id .tok) i=some ob)(hne:ob≠ .tok)(hne2:ob≠ .dead):hget H i=some ob:=by
 by_cases h1:id=i
 ·simp_all [AB]
 ·rw[AA _ _ _ _ h1]at ho;cases tok<;>try exact ho
  rename_i j e;simp only[AL]at ho;by_cases h2:j=i
  ·simp_all [AB]
  ·rw[AA _ _ _ _ h2]at ho;exact ho
theorem P6(hn:hget H id=none)(ht:∀j e,tok= .own j e->hget H j=some .tok)(h:(Ay H sz ag a).1):
  Ay H sz ag a=Ay (hset (AL H tok) id .tok) sz ag a:=by
 cases a<;>try rfl
 ·grind [Ay,Mh]
 ·grind [Ay,Mh]
theorem JC(h:(Ay (hset (AL H tok) id .tok) sz ag a).1):
  Ay (hset (AL H tok) id .tok) sz ag a=Ay H sz ag a:=by
 cases a<;>try rfl
 ·grind [Ay,GA]
 ·grind [Ay,GA]
theorem Mi(h:o.k.cat=0)(H H':AC)(n n':Nat)(ρ:Yy->Fs):Ew o H H' n n' ρ:=by
 obtain⟨dst,guard,k⟩:=o;cases k with
 |v k=>cases k<;>first|(simp [Io.cat]at h;done)|exact λ_=>rfl
 |pick c a b=>trivial
 |call q f args=>cases q<;>simp [Io.cat]at h
 |ext x xs=>cases x<;>first|trivial|(simp [Io.cat]at h;done)
 |_=>trivial
theorem LW(H:AC)(n:Nat)(ρ:Yy->Fs):Ew o H H n n ρ:=by
 obtain⟨dst,guard,k⟩:=o;cases k with
 |v k=>exact λ_=>rfl
 |call q f args=>cases q<;>first|exact⟨rfl,rfl⟩|trivial
 |ext x xs=>cases x<;>first|trivial|exact(rfl:H=H)
 |_=>trivial
theorem P7(h:o.k.cat=1):∃sz ag x,o.k= .v (.ld sz ag x):=by
 obtain⟨dst,guard,k⟩:=o;cases k with
 |v k=>cases k<;>first|exact⟨_,_,_,rfl⟩|(simp [Io.cat]at h;done)
 |call q f args=>cases q<;>simp [Io.cat]at h
 |ext x xs=>cases x<;>simp [Io.cat]at h
 |_=>simp [Io.cat]at h
def Np(o:Z9)(s:AS):Prop:=∀sz ag x,o.k= .v (.ld sz ag x)->(lk s.env x).1=true->adom s.H (lkv s.env x)
def kpOK(kp:List Nat)(o:Z9):Prop:=o.guard=none\/∀d,o.dst=some d->d∉kp
theorem kpOK.held(h:kpOK kp o){g:Bool}(hg:o.guard=none->g=true):∀d,o.dst=some d->d∈kp->g=true:=λd hd hm=>h.elim hg λk=>absurd hm (k d hd)
structure Apart(x y:Z9):Prop where
 xy:∀d,x.dst=some d->Yy.t d∉y.k.opds/\(∀w,y.guard≠some (d,w))/\y.dst≠some d
 yx:∀d,y.dst=some d->Yy.t d∉x.k.opds/\∀w,x.guard≠some (d,w)
theorem CE{d:Option Nat}{g:Bool}{v:Fs}(h:∀i,d=some i->Yy.t i∉o.k.opds/\∀w,o.guard≠some (i,w)):Look o (s.put d g v).env s.env:=by
 refine⟨λi hi=>?_,λi w hg=>?_⟩
 ·rw[Dr,V5 (λe=>(h i e).1 hi)];exact EEq.rfl' _
 ·rw[Dr,V5 (λe=>(h i e).2 w hg)];exact EEq.rfl' _
theorem Look.symm{e e':List (Nat×Bool×Fs)}(h:Look o e e'):Look o e' e:=⟨λi hi=>(h.1 i hi).symm,λi w hw=>(h.2 i w hw).symm⟩
def GN:Io->Nat
 | .alloc r _| .box r _ _| .mks r _ _ _ _| .ext (.mkm r) _| .ext (.bsm r ..) _| .ext (.mkc r ..) _=>r
 |_=>0
theorem KG{K K':AS->Prop}{s1:AS}(hcat:o.k.cat=2)(hl:Look o s1.env s.env)(hn:s1.n=s.n)(hdom:hget s1.H (base+GN o.k)=none->hget s.H (base+GN o.k)=none)
  (hK:∀g v v' (u:AC->AC),(g=true->v=v')->(o.guard=none->g=true)->((u=λH=>H)\/∃ob,u=λH=>hset H (base+GN o.k) ob)->K ({s1 with H:=u s1.H}.put o.dst g v)->K' ({s with H:=u s.H}.put o.dst g v')):
  AU P Qp base o K s1->AU P Qp base o K' s:=by
 obtain⟨dst,guard,k⟩:=o;have hg:=Ct hl;have hgn:guard=none->gvb s1.env guard=true:=by rintro rfl;rfl
 simp only at hg hK;have rho:oks s1.env k.opds->∀x∈k.opds,lkv s1.env x=lkv s.env x:=λh=>JB hl (l:=k.opds) (λx hx=>hx) h
 have oksT:oks s1.env k.opds->oks s.env k.opds:=JA hl (l:=k.opds) (λx hx=>hx);have skip:gvb s1.env guard=false->K (s1.put dst false (.tup []))->K' (s.put dst false (.tup [])):=λq hk=>
  hK false (.tup []) (.tup []) (λH=>H) zw (λq'=>by have:=hgn q';rw[q]at this;cases this) (.inl rfl) hk
 cases k with
 |alloc rel cs=>
  rintro⟨h0,h1⟩;refine⟨By hl h0,?_⟩;simp only[]at h1⊢;rw[<-hg];refine⟨λq=>?_,λq=>skip q (h1.2 q)⟩;obtain⟨q1,q2⟩:=h1.1 q;refine⟨oksT q1,?_⟩;simp only[A5]at q2⊢;exact⟨hdom q2.1,hK true _ _ _ (λ_=>rfl) (λ_=>rfl) (.inr ⟨.box cs,rfl⟩) q2.2⟩
 |box rel sz x=>
  rintro⟨h0,h1⟩;refine⟨By hl h0,?_⟩;simp only[]at h1⊢;rw[<-hg];refine⟨λq=>?_,λq=>skip q (h1.2 q)⟩;obtain⟨q1,q2⟩:=h1.1 q;have e1:lkv s1.env x=lkv s.env x:=rho q1 x (by simp [Io.opds]);refine⟨oksT q1,?_⟩;simp only[A5]at q2⊢;rw[e1]at q2;exact⟨hdom q2.1,q2.2.1,q2.2.2.1,hK true _ _ _ (λ_=>rfl) (λ_=>rfl) (.inr ⟨.box _,rfl⟩) q2.2.2.2⟩
 |mks rel esz bytes zero x=>
  rintro⟨h0,h1⟩;refine⟨By hl h0,?_⟩;simp only[]at h1⊢;rw[<-hg];refine⟨λq=>?_,λq=>skip q (h1.2 q)⟩;obtain⟨q1,q2⟩:=h1.1 q;have e1:lkv s1.env x=lkv s.env x:=rho q1 x (by simp [Io.opds]);refine⟨oksT q1,?_⟩;simp only[A5]at q2⊢;rw[e1]at q2;obtain⟨p1,p2,p3,p4,p5,p6,p7⟩:=q2;exact⟨hdom p1,p2,p3,p4,p5,p6,hK true _ _ _ (λ_=>rfl) (λ_=>rfl) (.inr ⟨.arr _ _,rfl⟩) p7⟩
 |v k=>cases k<;>simp [Io.cat]at hcat
 |call q f args=>cases q<;>simp [Io.cat]at hcat
 |ext x xs=>
  cases x<;>first|(simp [Io.cat]at hcat;done)|skip
  rotate_left
  ·rename_i rel esz nn zero is;rintro⟨h0,h1⟩;refine⟨By hl h0,?_⟩;simp only[]at h1⊢;rw[<-hg];refine⟨λq=>?_,λq=>skip q (h1.2 q)⟩;obtain⟨q1,q2⟩:=h1.1 q;have e2:xs.map (lkv s1.env)=xs.map (lkv s.env):=Wz λx hx=>rho q1 x hx
   refine⟨oksT q1,?_⟩;simp only[A5]at q2⊢;rw[e2]at q2;obtain⟨⟨p1,p2⟩,p3⟩:=q2;exact⟨⟨hdom p1,p2⟩,hK true _ _ _ (λ_=>rfl) (λ_=>rfl) (.inr ⟨.arr _ _,rfl⟩) p3⟩
  ·rename_i rel esz b zero l c;rintro⟨h0,h1⟩;refine⟨By hl h0,?_⟩;simp only[]at h1⊢;rw[<-hg];refine⟨λq=>?_,λq=>skip q (h1.2 q)⟩;obtain⟨q1,q2⟩:=h1.1 q;refine⟨oksT q1,?_⟩;simp only[A5]at q2⊢;rcases xs with _|⟨_,_⟩
   ·exact⟨⟨hdom q2.1.1,q2.1.2⟩,hK true _ _ _ (λ_=>rfl) (λ_=>rfl) (.inr ⟨.arr _ _,rfl⟩) q2.2⟩
   ·exact q2.1.elim
  rename_i rel;rintro⟨h0,h1⟩;refine⟨By hl h0,?_⟩;simp only[]at h1⊢;rw[<-hg];refine⟨λq=>?_,λq=>skip q (h1.2 q)⟩;obtain⟨q1,q2⟩:=h1.1 q;refine⟨oksT q1,?_⟩;simp only[A5]at q2⊢;rcases xs with _|⟨_,_⟩
  ·exact⟨hdom q2.1,hK true _ _ _ (λ_=>rfl) (λ_=>rfl) (.inr ⟨.map [] 0,rfl⟩) q2.2⟩
  ·exact q2.1.elim
 |_=>simp [Io.cat]at hcat
theorem swap{x y:Z9}{K:AS->Prop}(hap:Apart x y)(hcat:EK x.k.cat y.k.cat=true)(kx:kpOK kp x)(ky:kpOK kp y)(hrel:x.k.cat=2->y.k.cat=2->GN x.k≠GN y.k)(hsafe:Np y s)(hK:∀a b,SEq kp a b->K a->K b)
  (h:AU P Qp base x (AU P Qp base y K) s):AU P Qp base y (AU P Qp base x K) s:=by
 have hxc5:x.k.cat≠5:=by intro e;rw[e]at hcat;cases hy:y.k.cat<;>simp [EK,hy]at hcat
 obtain⟨H',gx,vx,hy,hre,hgx,hH1,hH2,hH4⟩:=Cu hxc5 h;have ndst:∀d,x.dst=some d->y.dst≠some d:=λd hd=>(hap.xy d hd).2.2
 have lookY:∀{s:AS} {H:AC} {g:Bool} {v:Fs},Look y ({s with H:=H}.put x.dst g v).env s.env:=λ{s H g v}=>CE (s:={s with H:=H}) (λi e=>⟨(hap.xy i e).1,(hap.xy i e).2.1⟩)
 have lookX:∀{s:AS} {H:AC} {n:Nat} {g:Bool} {v:Fs},Look x s.env ({s with H:=H,n:=n}.put y.dst g v).env:=λ{s H n g v}=>(CE (s:={s with H:=H,n:=n}) (hap.yx)).symm
 by_cases hyv:y.k.cat=0\/y.k.cat=1\/y.k.cat=3
 ·
  refine CR hyv lookY (λhgy hoy=>?_) (λgy vy vy' hvy hgy hk=>?_) hy
  ·rw[Ba,Dj];by_cases hxc:x.k.cat=0\/x.k.cat=1\/x.k.cat=3
   ·rw[hH1 hxc];exact LW _ _ _
   ·rcases hyv with hy0|hy1|hy3
    ·exact Mi hy0 _ _ _ _ _
    ·obtain⟨sz,ag,ad,hyk⟩:=P7 hy1;have hsf:=hsafe sz ag ad hyk (by rw[hyk]at hoy;exact hoy.1);have hxc24:x.k.cat=2\/x.k.cat=4:=by
      rw[hy1]at hcat;generalize x.k.cat=c at hcat hxc hxc5
      match c with
      |0|1|3=>simp at hxc
      |2=>exact .inl rfl
      |4=>exact .inr rfl
      |5=>simp at hxc5
      |c+6=>simp [EK]at hcat
     show Ew y H' s.H s.n s.n (lkv s.env);unfold Ew;rw[hyk];show(Ay H' sz ag (lkv s.env ad)).1->Ay H' sz ag (lkv s.env ad)=Ay s.H sz ag (lkv s.env ad);intro q;rcases hxc24 with e|e
     ·rcases hH2 e with rfl|⟨id,ob,p1,rfl⟩
      ·rfl
      ·exact Gz hsf p1
     ·rcases hH4 e with rfl|⟨tok,id,p1,p2,rfl⟩
      ·rfl
      ·exact JC q
    ·simp_all [EK]
  ·
   have:=hre (λs'=>s'={s with H:=H'}.put x.dst gx vx) rfl;refine BX (lookX (s:=s) (H:=s.H) (n:=s.n)) (by rw[Ba]) (by rw[Dj]) (λH n g v v' hv _ hg he=>?_) this;have e1:({s.put y.dst gy vy' with H:=H,n:=n}:AS).put x.dst g v'=(({s with H:=H,n:=n}:AS).put y.dst gy vy').put x.dst g v':=by cases y.dst<;>rfl
   rw[e1];refine hK _ _ ?_ hk;rw[<-he];exact Ej ndst hv hvy (kx.held hg) (ky.held hgy)
 ·
  have hxv:x.k.cat=0\/x.k.cat=1\/x.k.cat=3\/(x.k.cat=2/\y.k.cat=2):=by grind [EK]
  have fin:∀{H:AC} {n:Nat} {g g2:Bool} {v v' v2 v2':Fs},(g=true->v=v')->(y.guard=none->g=true)->(g2=true->v2=v2')->(x.guard=none->g2=true)->
    K ((({s with H:=H,n:=n}:AS).put x.dst g2 v2).put y.dst g v)->K ((({s with H:=H,n:=n}:AS).put y.dst g v').put x.dst g2 v2'):=λa1 a2 a3 a4 hk=>
   hK _ _ (Ej ndst a3 a1 (kx.held a4) (ky.held a2)) hk
  rcases hxv with hx0|hx1|hx3|⟨hx2,hy2⟩
  ·have eH:=hH1 (.inl hx0);subst eH;refine BX lookY (by rw[Ba]) (by rw[Dj]) (λH n g v v' hv _ hg hk=>?_) hy;have:=hre (λs'=>s'=s.put x.dst gx vx) rfl;refine CR (.inl hx0) (lookX (s:=s) (H:=H) (n:=n)) (λ_ _=>Mi hx0 _ _ _ _ _) (λg2 v2 v2' hv2 hg2 he=>?_) this;refine fin hv hg hv2 hg2 ?_;rw[Fc s,he];exact hk
  ·have eH:=hH1 (.inr (.inl hx1));subst eH;have hy24:y.k.cat=2\/y.k.cat=4:=by grind [EK]
   have hyc5:y.k.cat≠5:=by rcases hy24 with e|e<;>rw[e]<;>decide
   obtain⟨H2,gy,vy,hk,hreY,hgy,-,hR2,hR4⟩:=Cu hyc5 hy;rw[Ba]at hR2 hR4;obtain⟨sz,ag,ad,hxk⟩:=P7 hx1;refine BX lookY (by rw[Ba]) (by rw[Dj]) (λH n g v v' hv _ hg he=>?_) (hreY (λs'=>s'=({s.put x.dst gx vx with H:=H2}:AS).put y.dst gy vy) rfl);have e1:H=H2:=by have:=congrArg AS.H he;rwa[Ba,Ba]at this
   subst e1;rw[<-he]at hk;have:=hre (λs'=>s'=s.put x.dst gx vx) rfl;refine CR (.inr (.inl hx1)) (lookX (s:=s) (H:=H) (n:=n)) (λ_ _=>?_) (λg2 v2 v2' hv2 hg2 he2=>?_) this
   ·rw[Ba,Dj];unfold Ew;rw[hxk];show(Ay s.H sz ag _).1->Ay s.H sz ag _=Ay H sz ag _;intro q;rcases hy24 with e|e
    ·rcases hR2 e with rfl|⟨id,ob,p1,rfl⟩
     ·rfl
     ·exact(Gz (IL q) p1).symm
    ·rcases hR4 e with rfl|⟨tok,id,p1,p2,rfl⟩
     ·rfl
     ·exact P6 p1 p2 q
   ·refine fin hv hg hv2 hg2 ?_;rw[Fc s,he2];exact hk
  ·simp_all [EK]
  ·refine KG hy2 lookY (by rw[Dj]) (λq=>?_) (λg v v' u hv hg hu hk=>?_) hy
   ·rw[Ba]at q;rcases hH2 hx2 with rfl|⟨id,ob,p1,rfl⟩
    ·exact q
    ·rw[AJ]at q;split at q
     ·cases q
     ·exact q
   ·have:=hre (λs'=>s'={s with H:=H'}.put x.dst gx vx) rfl;refine KG hx2 (lookX (s:=s) (H:=u s.H) (n:=s.n)) (by rw[Dj]) (λq=>?_) (λg2 v2 v2' u2 hv2 hg2 hu2 he=>?_) this
    ·rw[Ba];rcases hu with rfl|⟨ob,rfl⟩
     ·exact q
     ·have:=hrel hx2 hy2;rw[AA _ _ _ _ zo];exact q
    ·rw[Ba];have e1:({({s with H:=u s.H}:AS).put y.dst g v' with H:=u2 (u s.H)}:AS).put x.dst g2 v2'=(({s with H:=u2 (u s.H),n:=s.n}:AS).put y.dst g v').put x.dst g2 v2':=by
      cases y.dst<;>rfl
     rw[e1];refine fin hv hg hv2 hg2 ?_;rw[Ba]at hk;have e2:H'=u2 s.H:=by have:=congrArg AS.H he;rw[Ba,Ba]at this;exact this.symm
     have e3:u H'=u2 (u s.H):=by
      rw[e2];rcases hu with rfl|⟨ob,rfl⟩<;>rcases hu2 with rfl|⟨ob2,rfl⟩<;>try rfl
      have:=hrel hx2 hy2;exact FP _ _ _ _ _ zo
     rw[<-e3];have e4:({({s with H:=H'}:AS).put x.dst gx vx with H:=u H'}:AS)=({s with H:=u H',n:=s.n}:AS).put x.dst g2 v2:=by
      have e5:=congrArg AS.env he;have e6:(({s with H:=u2 s.H}:AS).put x.dst g2 v2).env=(({s with H:=u H',n:=s.n}:AS).put x.dst g2 v2).env:=by cases x.dst<;>rfl
      have e7:∀(a b:AS),a.env=b.env->a.H=b.H->a.n=b.n->a=b:=by rintro⟨⟩ ⟨⟩ h1 h2 h3;simp at h1 h2 h3;simp [h1,h2,h3]
      refine e7 _ _ ?_ ?_ ?_
      ·rw[<-e6,e5]
      ·rw[Ba]
      ·show(({s with H:=H'}:AS).put x.dst gx vx).n=_;rw[Dj,Dj]
     rw[<-e4];exact hk
end
section
variable {P:Program} {Qp:Fs->AC->Nat->Prop} {base:Nat} {kp:List Nat}
variable {H:AC}
theorem SEq.put{a b:AS}{d:Option Nat}{n:Nat}{g:Bool}{v v':Fs}(h:SEq kp a b)(hv:g=true->v=v')(hk:∀i,d=some i->i∈kp->g=true):
  SEq kp (({a with H:=H,n:=n}:AS).put d g v) (({b with H:=H,n:=n}:AS).put d g v'):=by
 refine⟨λt=>?_,by rw[Ba,Ba],by rw[Dj,Dj]⟩;simp only[Dr];by_cases h1:d=some t
 ·rw[Vv h1,Vv h1];exact⟨⟨rfl,hv⟩,λm=>by rw[hv (hk t h1 m)]⟩
 ·rw[V5 h1,V5 h1];exact h.1 t
theorem G0{K:AS->Prop}(hK:∀a b,SEq kp a b->K a->K b):∀(L:List Z9),(∀x∈L,kpOK kp x)->∀a b,SEq kp a b->DA P Qp base L K a->DA P Qp base L K b
 |[],_,a,b,h,hh=>hK a b h hh
 |x::L,hk,a,b,h,hh=>BX (s1:=a) (s:=b) ⟨λi _=>(h.1 i).1,λi _ _=>(h.1 i).1⟩ h.2.1 h.2.2
   (λH n g v v' hv _ hg q=>G0 hK L (λy hy=>hk y (WJ _ hy)) _ _ (h.put hv ((hk x (Wu ..)).held hg)) q) hh
theorem G1{H':AC}(h:∀id,hget H id≠none->hget H' id≠none){a:Fs}(ha:adom H a):adom H' a:=by
 cases a<;>first|exact h _ ha|trivial
theorem Dt{i id:Nat}{ob:Z7}(h:hget H id≠none):hget (hset H i ob) id≠none:=by
 rw[AJ];split
 ·simp
 ·exact h
theorem front{y:Z9}{B:List Z9}{K:AS->Prop}(ky:kpOK kp y)(hB:∀x∈B,kpOK kp x)(hK:∀a b,SEq kp a b->K a->K b):∀(A:List Z9) (s:AS),
  (∀x∈A,Apart x y/\EK x.k.cat y.k.cat=true/\kpOK kp x/\(x.k.cat=2->y.k.cat=2->GN x.k≠GN y.k))->Np y s->
  DA P Qp base (A++y::B) K s->AU P Qp base y (DA P Qp base (A++B) K) s
 |[],_,_,_,h=>h
 |x::A,s,hA,hs,h=>by
  obtain⟨hap,hcat,kx,hrel⟩:=hA x (Wu ..);have hxc5:x.k.cat≠5:=by intro e;rw[e]at hcat;cases hy:y.k.cat<;>simp [EK,hy]at hcat
  obtain⟨H',gx,vx,h1,hre,-,hH1,hH2,hH4⟩:=Cu hxc5 h;have hs1:Np y ({s with H:=H'}.put x.dst gx vx):=by
   intro sz ag ad e i5;have hy1:y.k.cat=1:=by rw[e];rfl
   have hlk:lk ({s with H:=H'}.put x.dst gx vx).env ad=lk s.env ad:=by
    cases ad with
    |c v=>rfl
    |t i=>
     simp only[lk];rw[Dr,V5 (λq=>(hap.xy i q).1 (by rw[e];simp [Io.opds,Z1.opds]))]
   have hlv:lkv ({s with H:=H'}.put x.dst gx vx).env ad=lkv s.env ad:=by simp only[lkv,hlk]
   rw[hlv,Ba];rw[hlk]at i5;refine G1 (H:=s.H) (λid d7=>?_) (hs sz ag ad e i5);rw[hy1]at hcat;have hxc:(x.k.cat=0\/x.k.cat=1\/x.k.cat=3)\/x.k.cat=2\/x.k.cat=4:=by grind [EK]
   rcases hxc with e|e|e
   ·rw[hH1 e];exact d7
   ·rcases hH2 e with rfl|⟨i,ob,p1,rfl⟩
    ·exact d7
    ·exact Dt d7
   ·rcases hH4 e with rfl|⟨tok,i,p1,p2,rfl⟩
    ·exact d7
    ·refine Dt ?_;cases tok<;>first|exact d7|exact Dt d7
  have h2:=front ky hB hK A _ (λz hz=>hA z (WJ _ hz)) hs1 h1;have hAB:∀z∈A++B,kpOK kp z:=λz hz=>(WH.1 hz).elim (λq=>(hA z (WJ _ q)).2.2.1) (hB z)
  exact swap hap hcat kx ky hrel hs (G0 hK (A++B) hAB) (hre _ h2)
end
def E8{x y:Z9}(h:Jz x y=true):Apart x y:=by
 unfold Jz at h;rw[V7]at h;obtain⟨h1,h2⟩:=h;refine⟨λd hd=>?_,λd hd=>?_⟩
 ·grind
 ·grind
theorem Cc{P:Program}{N lo:Nat}{ops:Array Oper}{mkv imp:List Nat}:∀(L:List Oper) (i:Nat) (l:List Z9),cops P N lo ops mkv imp L i=some l->
  l.length=L.length/\∀(j:Nat) (o:Oper),L[j]?=some o->∃gd k,l[j]?=some ⟨o.dst,gd,k⟩/\Jy ops o.guard=some gd/\copK P (mkv.contains (i+j)) (imp.contains (i+j)) (i+j) o.op=some k/\∀d,o.dst=some d->d<N/\lo<=d
 |[],i,l,h=>by
  simp only[cops]at h;cases h;exact⟨rfl,λj o h=>by simp at h⟩
 |o::L,i,l,h=>by
  simp only[cops]at h;split at h
  ·rename_i gd k l' h1 h2 h3;split at h
   ·rename_i hd;cases h;obtain⟨q1,q2⟩:=Cc L (i+1) l' h3;refine⟨by simp [q1],λj o' hj=>?_⟩;cases j with
    |zero=>grind
    |succ j=>grind
   ·cases h
  ·cases h
def Ek{P:Program}{mkv imp:Bool}{i:Nat}{op:Op}{k:Io}(h:copK P mkv imp i op=some k)(hc:k.cat=2):GN k=i:=by
 have other:copK P mkv imp i op=(copk P mkv op).map .v->False:=by
  intro e;rw[e]at h;cases h1:copk P mkv op with
  |none=>simp [h1]at h
  |some k'=>simp [h1]at h;subst h;cases k'<;>simp [Io.cat]at hc
 cases op;case alloc t=>
  simp only[copK]at h;cases hz:Br P t with
  |none=>simp [hz]at h
  |some z=>simp [hz]at h;subst h;rfl
 case box t x=>
  simp only[copK]at h;split at h
  ·cases h;rfl
  ·cases h
 case pick c x y=>grind [copK,Io.cat]
 case store t ad x=>grind [copK,Io.cat]
 case slice t x lo hi mx=>grind [copK,Io.cat]
 case panic x=>
  simp only[copK]at h;cases hx:copd x with
  |none=>simp [hx]at h
  |some x'=>simp [hx]at h;subst h;simp [Io.cat]at hc
 case makeSlice t l c=>
  cases mkv with
  |true=>exact(other (by simp [copK])).elim
  |false=>
   cases l<;>cases c<;>(try (simp [copK]at h;done))
   ·simp only[copK,W5,Wf]at h;split at h
    ·split at h
     ·split at h
      ·cases h;rfl
      ·cases h
     ·cases h
    ·cases h
   ·rename_i l c;cases l<;>(try (simp [copK]at h;done));rename_i kl nl;cases kl<;>(try (simp [copK]at h;done));cases c<;>(try (simp [copK]at h;done));rename_i kc nc;cases kc<;>(try (simp [copK]at h;done));simp only[copK,W5,Wf]at h;split at h
    ·split at h
     ·split at h
      ·cases h;rfl
      ·cases h
     ·cases h
    ·split at h
     ·split at h
      ·split at h
       ·cases h;rfl
       ·cases h
      ·cases h
     ·cases h
 case call c=>
  obtain⟨callee,args,ts⟩:=c;cases callee;case invoke rv mt=>simp [copK,copk]at h
  case value f=>
   simp only[copK]at h;split at h
   ·cases mkv<;>cases imp<;>simp at h<;>subst h<;>simp [Io.cat]at hc
   ·cases h
  case builtin b=>
   cases b;case append=>grind [copK,Io.cat]
   case len=>
    simp only[copK]at h;split at h
    ·split at h
     ·cases hx:copd ‹Operand› with
      |none=>simp [hx]at h
      |some x'=>simp [hx]at h;subst h;simp [Io.cat]at hc
     ·cases h1:copk P mkv (.call {callee:=.builtin .len,args,argTypes:=ts})with
      |none=>simp [h1]at h
      |some k'=>simp [h1]at h;subst h;cases k'<;>simp [Io.cat]at hc
    ·cases h
   case copy=>grind [copK,Io.cat]
   all_goals exact(other (by first|rfl|simp [copK])).elim
 case buildSlice t len parts=>
  simp only[copK]at h;split at h
  ·split at h
   ·split at h
    ·cases h;rfl
    ·cases h
   ·cases h
  ·cases h1:copk P mkv (.buildSlice t len parts)with
   |none=>simp [h1]at h
   |some k'=>simp [h1]at h;subst h;cases k'<;>simp [Io.cat]at hc
 case makeMap t r=>
  cases r with
  |some r=>simp [copK,copk]at h
  |none=>
   simp only[copK]at h;split at h
   ·cases h;rfl
   ·cases h
 case lookup t x ix ok=>
  simp only[copK]at h;split at h
  ·split at h
   ·cases h;simp [Io.cat]at hc
   ·cases h
  ·cases h
 case mapUpdate t mm kk x=>
  simp only[copK,cput]at h;split at h
  ·simp only[WY]at h;obtain⟨_,_,rfl⟩:=h;simp [Io.cat]at hc
  ·cases h
 case insert t mm kk x=>
  simp only[copK,cput]at h;split at h
  ·simp only[WY]at h;obtain⟨_,_,rfl⟩:=h;simp [Io.cat]at hc
  ·cases h
 case range t x=>
  simp only[copK]at h;split at h
  ·cases h;simp [Io.cat]at hc
  ·cases h;simp [Io.cat]at hc
  ·cases h
 case next x b=>
  cases b with
  |false=>
   simp only[copK]at h;cases hx:copd x with
   |none=>simp [hx]at h
   |some x'=>simp [hx]at h;subst h;simp [Io.cat]at hc
  |true=>
   simp only[copK]at h;cases hx:copd x with
   |none=>simp [hx]at h
   |some x'=>simp [hx]at h;subst h;simp [Io.cat]at hc
 case entry x=>
  simp only[copK]at h;cases hx:copd x with
  |none=>simp [hx]at h
  |some x'=>simp [hx]at h;subst h;simp [Io.cat]at hc
 case convert sT dT x=>
  simp only[copK]at h;split at h
  ·cases hx:copd x with
   |none=>simp [hx]at h
   |some x'=>simp [hx]at h;subst h;simp [Io.cat]at hc
  ·cases h1:copk P mkv (.convert sT dT x)with
   |none=>simp [h1]at h
   |some k'=>simp [h1]at h;subst h;cases k'<;>simp [Io.cat]at hc
 case binOp bo t X Y yt=>
  cases bo<;>cases Y<;>first
   |exact(other rfl).elim
   |(simp only[copK]at h
     split at h
     ·simp only[WY]at h;obtain⟨_,_,rfl⟩:=h;simp [Io.cat]at hc
     ·split at h
      ·grind [Option.map_eq_some_iff,Io.cat]
      ·simp only[WY]at h;obtain⟨k',_,rfl⟩:=h;cases k'<;>simp [Io.cat]at hc
     done)
   |exact(other (by simp only[copK])).elim
 case typeAssert x xt t ok=>
  simp only[copK]at h;split at h
  ·cases h
  ·split at h
   ·cases h;simp [Io.cat]at hc
   ·cases h
 all_goals exact(other (by first|rfl|simp [copK])).elim
theorem E9{base:Nat}{cx:Nat->Fs}{ρ ρ':Yy->Fs}:∀(f:Nat) (k:Io),(∀a∈k.opds,ρ a=ρ' a)->BS base cx ρ f k->BS base cx ρ' f k
 |0,_,_,_=>trivial
 |1,.v (.ld _ _ a),h,q=>by simp only[BS]at q⊢;rw[<-h a (by simp [Io.opds,Z1.opds])];exact q
 |2,.st _ a _,h,q=>by simp only[BS]at q⊢;rw[<-h a (by simp [Io.opds])];exact q
 |f+3,.v k,h,q=>by
  cases k with
  |ld sz ag a=>simp only[BS]at q⊢;rw[<-h a (by simp [Io.opds,Z1.opds])];exact q
  |_=>simp only[BS]at q
 |f+3,.st _ a _,h,q=>by simp only[BS]at q⊢;rw[<-h a (by simp [Io.opds])];exact q
 |f+3,.pick ..,_,q|f+3,.alloc ..,_,q|f+3,.box ..,_,q|f+3,.app ..,_,q|f+3,.mks ..,_,q|f+3,.call true ..,_,q|f+3,.pan ..,_,q|f+3,.slA ..,_,q|f+3,.ext ..,_,q|f+3,.appR ..,_,q|f+3,.appZ ..,_,q|f+3,.nils ..,_,q|f+3,.cpu ..,_,q|f+3,.mnx ..,_,q=>by simp only[BS]at q
 |f+3,.call false ..,_,q=>by simp only[BS]at q⊢;exact q
 |2,.appR ..,_,q=>trivial
 |1,.pick ..,_,q|1,.alloc ..,_,q|1,.box ..,_,q|1,.app ..,_,q|1,.mks ..,_,q|1,.call ..,_,q|1,.pan ..,_,q|1,.st ..,_,q=>by simp only[BS]at q
 |2,.v k,h,q=>by
  cases k with
  |ld sz ag a=>simp only[BS]at q⊢;rw[<-h a (by simp [Io.opds,Z1.opds])];exact q
  |_=>simp only[BS]at q
 |2,.pick ..,_,q|2,.alloc ..,_,q|2,.box ..,_,q|2,.app ..,_,q|2,.mks ..,_,q|2,.call ..,_,q|2,.pan ..,_,q=>by simp only[BS]at q
 |1,.v k,h,q=>by
  cases k with
  |ld sz ag a=>simp only[BS]at q⊢;rw[<-h a (by simp [Io.opds,Z1.opds])];exact q
  |_=>simp only[BS]at q
def Mj{H:AC}{id sz:Nat}{ag:Bool}{ob:Z7}{a:Fs}(h:¬addr id a):Ay (hset H id ob) sz ag a=Ay H sz ag a:=by
 cases a<;>try rfl
 ·rename_i i off;simp only[Ay,AA _ _ _ _ (λe=>h (Eq.symm e))]
 ·rename_i i esz j off;simp only[Ay,AA _ _ _ _ (λe=>h (Eq.symm e))]
def IN{base id:Nat}{a b:Fs}(h1:Hh base a)(h2:addr id a)(h3:Fu base b):¬addr id b:=by
 intro h4;have e1:base<=id:=by cases a<;>simp only[Hh,addr]at h1 h2<;>omega
 have e2:id<base:=by cases b<;>simp only[Fu,addr]at h3 h4<;>omega
 omega
section
variable {P:Program} {Qp:Fs->AC->Nat->Prop} {base:Nat} {cx:Nat->Fs} {kp:List Nat}
variable {o y:Z9} {s:AS} {K:AS->Prop} {a:Fs} {ag:Bool} {sz f base m:Nat} {x:Nat×Z9} {ax:Yy}
theorem KH{a x:Yy}(hk:o.k= .st sz a x)(h:AU P Qp base o K s):
  ∃H' g v,K ({s with H:=H'}.put o.dst g v)/\(∀K2:AS->Prop,K2 ({s with H:=H'}.put o.dst g v)->AU P Qp base o K2 s)/\(o.guard=none->g=true)/\
   (H'=s.H\/(gvb s.env o.guard=true/\∃id ob,addr id (lkv s.env a)/\H'=hset s.H id ob)):=by
 obtain⟨dst,guard,k⟩:=o;simp only at hk;subst hk;obtain⟨h0,h1⟩:=h;simp only at h1;by_cases hg:gvb s.env guard=true
 ·obtain⟨p0,p1,p2,p3⟩:=h1.1 hg;have fin:∀(H':AC) (id:Nat) (ob:Z7),addr id (lkv s.env a)->H'=hset s.H id ob->K ({s with H:=H'}.put dst true (.tup []))->
    (∀K2:AS->Prop,K2 ({s with H:=H'}.put dst true (.tup []))->A5 P Qp base ⟨dst,guard,.st sz a x⟩ K2 s)->_:=λH' id ob q1 q2 q3 q4=>
   (⟨H',true,.tup [],q3,λK2 hk=>⟨h0,λ_=>⟨p0,q4 K2 hk⟩,λq=>by rw[hg]at q;cases q⟩,λ_=>rfl,.inr ⟨hg,id,ob,q1,q2⟩⟩:
    ∃H' g v,K ({s with H:=H'}.put dst g v)/\(∀K2:AS->Prop,K2 ({s with H:=H'}.put dst g v)->AU P Qp base ⟨dst,guard,.st sz a x⟩ K2 s)/\(guard=none->g=true)/\
     (H'=s.H\/(gvb s.env guard=true/\∃id ob,addr id (lkv s.env a)/\H'=hset s.H id ob)))
  generalize hav:lkv s.env a=av at p3 fin;cases av<;>(try simp only[]at p3)<;>first|exact p3.elim|skip
  ·split at p3
   ·rename_i id off _ cs hh;refine fin _ id _ rfl rfl p3.2 λK2 hk=>⟨p1,p2,?_⟩
    simp only[hav,hh];exact⟨p3.1,hk⟩
   ·exact p3.elim
  ·split at p3
   ·rename_i id esz i off _ e l hh;obtain⟨r1,r2,r3,r5⟩:=p3;refine fin _ id _ rfl rfl r5 λK2 hk=>⟨p1,p2,?_⟩
    simp only[hav,hh];exact⟨r1,r2,r3,hk⟩
   ·exact p3.elim
 ·have hg:gvb s.env guard=false:=by simpa using hg
  exact⟨s.H,false,.tup [],h1.2 hg,λK2 hk=>⟨h0,λq=>(by rw[hg]at q;cases q),λ_=>hk⟩,λq=>(by subst q;cases hg),.inl rfl⟩
theorem G2{d:Option Nat}{g:Bool}{v:Fs}{a:Yy}(h:∀i,d=some i->a≠ .t i):lkv (s.put d g v).env a=lkv s.env a:=by
 cases a with
 |c v=>rfl
 |t i=>simp only[lkv,lk];rw[Dr,V5 (λe=>h i e rfl)]
theorem TO{x:Z9}{sz':Nat}{ay vy0:Yy}(hxk:x.k= .v (.ld sz ag ax))(hyk:y.k= .st sz' ay vy0)(hap:Apart x y)(kx:kpOK kp x)(ky:kpOK kp y)
  (hne:gvb s.env x.guard=true->gvb s.env y.guard=true->∀id,addr id (lkv s.env ay)->¬addr id (lkv s.env ax)) (hK:∀a b,SEq kp a b->K a->K b)
  (h:AU P Qp base x (AU P Qp base y K) s):AU P Qp base y (AU P Qp base x K) s:=by
 have hx1:x.k.cat=1:=by rw[hxk];rfl
 obtain⟨H',gx,vx,hy,hre,hgx,hH1,-,-⟩:=Cu (by rw[hx1];decide) h;have eH:=hH1 (.inr (.inl hx1));subst eH;have ndst:∀d,x.dst=some d->y.dst≠some d:=λd hd=>(hap.xy d hd).2.2
 have lookY:∀{s:AS} {H:AC} {g:Bool} {v:Fs},Look y ({s with H:=H}.put x.dst g v).env s.env:=λ{s H g v}=>CE (s:={s with H:=H}) (λi e=>⟨(hap.xy i e).1,(hap.xy i e).2.1⟩)
 have lookX:∀{s:AS} {H:AC} {n:Nat} {g:Bool} {v:Fs},Look x s.env ({s with H:=H,n:=n}.put y.dst g v).env:=λ{s H n g v}=>(CE (s:={s with H:=H,n:=n}) (hap.yx)).symm
 obtain⟨H2,gy,vy,hk,hreY,hgy,hS⟩:=KH hyk hy;refine BX lookY (by rw[Ba]) (by rw[Dj]) (λH n g v v' hv _ hg he=>?_) (hreY (λs'=>s'=({s.put x.dst gx vx with H:=H2}:AS).put y.dst gy vy) rfl);have e1:H=H2:=by have:=congrArg AS.H he;rwa[Ba,Ba]at this
 subst e1;rw[<-he]at hk;have:=hre (λs'=>s'=s.put x.dst gx vx) rfl;refine CR (.inr (.inl hx1)) (lookX (s:=s) (H:=H) (n:=n)) (λq1 _=>?_) (λg2 v2 v2' hv2 hg2 he2=>?_) this
 ·rw[Ba,Dj];have ex:lkv (({s with H:=H,n:=n}:AS).put y.dst g v').env ax=lkv s.env ax:=G2 (s:={s with H:=H,n:=n}) (λi e=>λe'=>(hap.yx i e).1 (by rw[hxk,e'];simp [Io.opds,Z1.opds]));rw[<-Ct (lookX (s:=s) (H:=H) (n:=n) (g:=g) (v:=v'))]at q1;unfold Ew;rw[hxk];show(Ay s.H sz ag _).1->Ay s.H sz ag _=Ay H sz ag _;intro _;rw[ex];rcases hS with e|⟨p1,id,ob,p2,p3⟩
  ·rw[e,Ba]
  ·rw[p3,Ba,Mj];have ey:lkv (s.put x.dst gx vx).env ay=lkv s.env ay:=G2 (λi e=>λe'=>(hap.xy i e).1 (by rw[hyk,e'];simp [Io.opds]));rw[ey]at p2;have gy':gvb s.env y.guard=true:=by rw[<-Ct (lookY (s:=s) (H:=s.H) (g:=gx) (v:=vx))];exact p1
   exact hne q1 gy' _ p2
 ·refine hK _ _ (Ej ndst hv2 hv (kx.held hg2) (ky.held hg)) ?_;rw[Fc s,he2];exact hk
theorem TP{x:Z9}{sz':Nat}{ay vy0:Yy}(hxk:x.k= .st sz' ax vy0)(hyk:y.k= .v (.ld sz ag ay))(hap:Apart x y)(kx:kpOK kp x)(ky:kpOK kp y)
  (hne:gvb s.env x.guard=true->gvb s.env y.guard=true->∀id,addr id (lkv s.env ax)->¬addr id (lkv s.env ay)) (hK:∀a b,SEq kp a b->K a->K b)
  (h:AU P Qp base x (AU P Qp base y K) s):AU P Qp base y (AU P Qp base x K) s:=by
 have hy1:y.k.cat=1:=by rw[hyk];rfl
 obtain⟨H',gx,vx,hy,hre,hgx,hS⟩:=KH hxk h;have ndst:∀d,x.dst=some d->y.dst≠some d:=λd hd=>(hap.xy d hd).2.2
 have lookY:∀{s:AS} {H:AC} {g:Bool} {v:Fs},Look y ({s with H:=H}.put x.dst g v).env s.env:=λ{s H g v}=>CE (s:={s with H:=H}) (λi e=>⟨(hap.xy i e).1,(hap.xy i e).2.1⟩)
 have lookX:∀{s:AS} {H:AC} {n:Nat} {g:Bool} {v:Fs},Look x s.env ({s with H:=H,n:=n}.put y.dst g v).env:=λ{s H n g v}=>(CE (s:={s with H:=H,n:=n}) (hap.yx)).symm
 refine CR (.inr (.inl hy1)) lookY (λhgy hoy=>?_) (λgy vy vy' hvy hgy hk=>?_) hy
 ·rw[Ba,Dj];unfold Ew;rw[hyk];show(Ay H' sz ag (lkv s.env ay)).1->Ay H' sz ag (lkv s.env ay)=Ay s.H sz ag (lkv s.env ay);intro _;rcases hS with e|⟨p1,id,ob,p2,p3⟩
  ·rw[e]
  ·rw[p3,Mj];exact hne p1 hgy _ p2
 ·have:=hre (λs'=>s'={s with H:=H'}.put x.dst gx vx) rfl;refine BX (lookX (s:=s) (H:=s.H) (n:=s.n)) (by rw[Ba]) (by rw[Dj]) (λH n g v v' hv _ hg he=>?_) this;have e1:({s.put y.dst gy vy' with H:=H,n:=n}:AS).put x.dst g v'=(({s with H:=H,n:=n}:AS).put y.dst gy vy').put x.dst g v':=by cases y.dst<;>rfl
  rw[e1];refine hK _ _ ?_ hk;rw[<-he];exact Ej ndst hv hvy (kx.held hg) (ky.held hgy)
theorem Mk{H:AC}{n:Nat}{d:Option Nat}{g:Bool}{v:Fs}(h:∀i,d=some i->Yy.t i∉o.k.opds/\∀w,o.guard≠some (i,w)):
  Fv base cx f o ({s with H:=H,n:=n}.put d g v)↔Fv base cx f o s:=by
 have hl:Look o ({s with H:=H,n:=n}.put d g v).env s.env:=CE (s:={s with H:=H,n:=n}) h;have hg:=Ct hl;have ha:∀a∈o.k.opds,lkv ({s with H:=H,n:=n}.put d g v).env a=lkv s.env a:=λa hm=>G2 (s:={s with H:=H,n:=n}) (λi e e'=>(h i e).1 (e'▸hm))
 unfold Fv;rw[hg];exact⟨λq e=>E9 f o.k ha (q e),λq e=>E9 f o.k (λa hm=>(ha a hm).symm) (q e)⟩
theorem El(h:Ro x=true):x.1=1/\∃sz ag a,x.2.k= .v (.ld sz ag a):=by
 obtain⟨f,d,g,k⟩:=x;unfold Ro at h;simp only[V7,Y6]at h;refine⟨h.1,?_⟩;cases k with
 |v k=>cases k with
  |ld sz ag a=>exact⟨_,_,_,rfl⟩
  |_=>exact absurd h.2 zw
 |_=>exact absurd h.2 zw
theorem C0(h:Rp x=true):x.1=2/\∃sz a v,x.2.k= .st sz a v:=by
 obtain⟨f,d,g,k⟩:=x;unfold Rp at h;simp only[V7,Y6]at h;refine⟨h.1,?_⟩;cases k with
 |st sz a v=>exact⟨_,_,_,rfl⟩
 |_=>exact absurd h.2 zw
theorem CS(h:PU x=true):∃m,x.1=m+3/\∃sz ag a,x.2.k= .v (.ld sz ag a):=by
 obtain⟨f,d,g,k⟩:=x;unfold PU at h;simp only[V7,Nat.ble_eq]at h;refine⟨f-3,by simp only;omega,?_⟩;cases k with
 |v k=>cases k with
  |ld sz ag a=>exact⟨_,_,_,rfl⟩
  |_=>exact absurd h.2 zw
 |_=>exact absurd h.2 zw
theorem C1(h:Rq x=true):∃m,x.1=m+3/\∃sz a v,x.2.k= .st sz a v:=by
 obtain⟨f,d,g,k⟩:=x;unfold Rq at h;simp only[V7,Nat.ble_eq]at h;refine⟨f-3,by simp only;omega,?_⟩;cases k with
 |st sz a v=>exact⟨_,_,_,rfl⟩
 |_=>exact absurd h.2 zw
theorem Ml{x y:Nat}(h:apK x y=true):(x≠y/\x<=1002/\y<=1002)\/(1003<=x/\x % 2=1/\y=x+1)\/(1003<=y/\y % 2=1/\x=y+1)\/(x≠y/\1003<=x/\x<=300002/\x % 2=1/\1003<=y/\y<=300002/\y % 2=1):=by
 unfold apK at h;simp only[Wd,V7,bne_iff_ne,Nat.ble_eq,Y6]at h;omega
theorem R9{x y:Nat}(h:apK x y=true):apK y x=true:=by
 have:=Ml h;unfold apK;simp only[Wd,V7,bne_iff_ne,Nat.ble_eq,Y6];omega
theorem GB(h:LG x=true):∃m,x.1=m+3/\300000<=m/\m % 2=0/\∃f xs,x.2.k= .call false f xs:=by
 obtain⟨f,d,g,k⟩:=x;unfold LG at h;simp only[V7,Nat.ble_eq,Y6]at h;refine⟨f-3,by simp only;omega,zo,zo,?_⟩;cases k with
 |call q f xs=>cases q with
  |true=>exact absurd h.2 zw
  |false=>exact⟨_,_,rfl⟩
 |_=>exact absurd h.2 zw
theorem P8{id:Nat}(h1:atK base cx m a)(h2:addr id a):atN base cx m id:=by
 cases a<;>simp only[atK,addr]at h1 h2
 ·subst h2;exact h1
 ·subst h2;exact h1.2
theorem atN_ne{m':Nat}{i:Nat}(k1:atN base cx m i)(k2:atN base cx m' i)(hne:apK (m+3) (m'+3)=true):False:=by
 have hk:=Ml hne;have pair:∀a:Nat,1000<=a->a % 2=0->atN base cx a i->atN base cx (a+1) i->False:=by
  intro a h0 h1 q1 q2;unfold atN at q1 q2;by_cases hb:a<300000
  ·grind
  ·grind
 rcases hk with⟨h1,h2,h3⟩|⟨h1,h2,h3⟩|⟨h1,h2,h3⟩|⟨h1,h2,h3,h4,h5,h6,h7⟩
 ·unfold atN at k1 k2;rw[Vv zo]at k1 k2;omega
 ·grind
 ·grind
 ·unfold atN at k1 k2;rw[V5 zo,Vv zo,Vv zo]at k1 k2;omega
theorem Mm{id m':Nat}{b:Fs}(h1:atK base cx m a)(h2:addr id a)(h3:atK base cx m' b)(hne:apK (m+3) (m'+3)=true):¬addr id b:=
 λh4=>atN_ne (P8 h1 h2) (P8 h3 h4) hne
theorem Fz(h:Ur x=true):x.1=2/\∃sz ag a,x.2.k= .v (.ld sz ag a):=by
 obtain⟨f,d,g,k⟩:=x;unfold Ur at h;simp only[V7,Y6]at h;refine⟨h.1,?_⟩;cases k with
 |v k=>cases k with
  |ld sz ag a=>exact⟨_,_,_,rfl⟩
  |_=>exact absurd h.2 zw
 |_=>exact absurd h.2 zw
theorem IP(h:Us x=true):x.1=2/\∃rel esz bytes z a v str,x.2.k= .appR rel esz bytes z a v str:=by
 obtain⟨f,d,g,k⟩:=x;unfold Us at h;simp only[V7,Y6]at h;refine⟨h.1,?_⟩;cases k with
 |appR rel esz bytes z a v str=>exact⟨_,_,_,_,_,_,_,rfl⟩
 |_=>exact absurd h.2 zw
theorem Em{k:Io}{H H':AC}(h:k.cat≠5):EJ cx f k H H':=by
 unfold EJ;split
 ·exact absurd rfl h
 ·exact absurd rfl h
 ·trivial
theorem swapLG{x:Z9}(hxk:x.k= .v (.ld sz ag ax))(hap:Apart x y)(kx:kpOK kp x)(ky:kpOK kp y)
  (hne:gvb s.env x.guard=true->∀s',K s'->(Ay s.H sz ag (lkv s.env ax)).1->Ay s.H sz ag (lkv s.env ax)=Ay s'.H sz ag (lkv s.env ax)) (hK:∀a b,SEq kp a b->K a->K b)
  (h:AU P Qp base x (AU P Qp base y K) s):AU P Qp base y (AU P Qp base x K) s:=by
 have hx1:x.k.cat=1:=by rw[hxk];rfl
 obtain⟨H',gx,vx,hy,hre,hgx,hH1,-,-⟩:=Cu (by rw[hx1];decide) h;have eH:=hH1 (.inr (.inl hx1));subst eH;have ndst:∀d,x.dst=some d->y.dst≠some d:=λd hd=>(hap.xy d hd).2.2
 have lookY:∀{s:AS} {H:AC} {g:Bool} {v:Fs},Look y ({s with H:=H}.put x.dst g v).env s.env:=λ{s H g v}=>CE (s:={s with H:=H}) (λi e=>⟨(hap.xy i e).1,(hap.xy i e).2.1⟩)
 have lookX:∀{s:AS} {H:AC} {n:Nat} {g:Bool} {v:Fs},Look x s.env ({s with H:=H,n:=n}.put y.dst g v).env:=λ{s H n g v}=>(CE (s:={s with H:=H,n:=n}) (hap.yx)).symm
 refine BX lookY (by rw[Ba]) (by rw[Dj]) (λH n g v v' hv _ hg hk=>?_) hy;have:=hre (λs'=>s'=s.put x.dst gx vx) rfl;refine CR (.inr (.inl hx1)) (lookX (s:=s) (H:=H) (n:=n)) (λq1 _=>?_) (λg2 v2 v2' hv2 hg2 he2=>?_) this
 ·rw[Ba,Dj];have ex:lkv (({s with H:=H,n:=n}:AS).put y.dst g v').env ax=lkv s.env ax:=G2 (s:={s with H:=H,n:=n}) (λi e=>λe'=>(hap.yx i e).1 (by rw[hxk,e'];simp [Io.opds,Z1.opds]));rw[<-Ct (lookX (s:=s) (H:=H) (n:=n) (g:=g) (v:=v'))]at q1;unfold Ew;rw[hxk];show(Ay s.H sz ag _).1->Ay s.H sz ag _=Ay H sz ag _;rw[ex];intro q;have:=hne q1 _ hk q;rw[Ba]at this;exact this
 ·refine hK _ _ (Ej ndst hv2 hv (kx.held hg2) (ky.held hg)) ?_;rw[Fc s,he2];exact hk
theorem swapLC{x:Z9}(hxk:x.k= .v (.ld sz ag ax))(hap:Apart x y)(kx:kpOK kp x)(ky:kpOK kp y)
  (hne:gvb s.env x.guard=true->∀id,addr id (lkv s.env ax)->¬addr id a) (hK:∀a b,SEq kp a b->K a->K b) (hkeep:∀s',K s'->FW a s.H s'.H)
  (h:AU P Qp base x (AU P Qp base y K) s):AU P Qp base y (AU P Qp base x K) s:=by
 have hx1:x.k.cat=1:=by rw[hxk];rfl
 obtain⟨H',gx,vx,hy,hre,hgx,hH1,-,-⟩:=Cu (by rw[hx1];decide) h;have eH:=hH1 (.inr (.inl hx1));subst eH;have ndst:∀d,x.dst=some d->y.dst≠some d:=λd hd=>(hap.xy d hd).2.2
 have lookY:∀{s:AS} {H:AC} {g:Bool} {v:Fs},Look y ({s with H:=H}.put x.dst g v).env s.env:=λ{s H g v}=>CE (s:={s with H:=H}) (λi e=>⟨(hap.xy i e).1,(hap.xy i e).2.1⟩)
 have lookX:∀{s:AS} {H:AC} {n:Nat} {g:Bool} {v:Fs},Look x s.env ({s with H:=H,n:=n}.put y.dst g v).env:=λ{s H n g v}=>(CE (s:={s with H:=H,n:=n}) (hap.yx)).symm
 refine BX lookY (by rw[Ba]) (by rw[Dj]) (λH n g v v' hv _ hg hk=>?_) hy;have hkp:=hkeep _ hk;rw[Ba]at hkp;have:=hre (λs'=>s'=s.put x.dst gx vx) rfl;refine CR (.inr (.inl hx1)) (lookX (s:=s) (H:=H) (n:=n)) (λq1 _=>?_) (λg2 v2 v2' hv2 hg2 he2=>?_) this
 ·rw[Ba,Dj];have ex:lkv (({s with H:=H,n:=n}:AS).put y.dst g v').env ax=lkv s.env ax:=G2 (s:={s with H:=H,n:=n}) (λi e=>λe'=>(hap.yx i e).1 (by rw[hxk,e'];simp [Io.opds,Z1.opds]));rw[<-Ct (lookX (s:=s) (H:=H) (n:=n) (g:=g) (v:=v'))]at q1;unfold Ew;rw[hxk];show(Ay s.H sz ag _).1->Ay s.H sz ag _=Ay H sz ag _;rw[ex];intro q;have hn:=hne q1;have hd:=IL q;generalize lkv s.env ax=av at q hn hd;cases av<;>try rfl
  ·rename_i i off;simp only[Ay,hkp i (hn i rfl) hd]
  ·rename_i i esz j off;simp only[Ay,hkp i (hn i rfl) hd]
 ·refine hK _ _ (Ej ndst hv2 hv (kx.held hg2) (ky.held hg)) ?_;rw[Fc s,he2];exact hk
theorem swapX{y:Nat×Z9}(hap:Apart x.2 y.2)(hcat:catX x y=true)(kx:kpOK kp x.2)(ky:kpOK kp y.2)(hrel:x.2.k.cat=2->y.2.k.cat=2->GN x.2.k≠GN y.2.k)(hsafe:Np y.2 s)(hK:∀a b,SEq kp a b->K a->K b)
  (hc5:x.2.k.cat≠5)
  (h:Jr P Qp base cx x (Jr P Qp base cx y K) s):Jr P Qp base cx y (Jr P Qp base cx x K) s:=by
 obtain⟨fx,x⟩:=x;obtain⟨fy,y⟩:=y;obtain⟨sx,h⟩:=h;simp only at*;have hyx:∀i,y.dst=some i->Yy.t i∉x.k.opds/\∀w,x.guard≠some (i,w):=λi e=>hap.yx i e
 have i6:∀i,x.dst=some i->Yy.t i∉y.k.opds/\∀w,y.guard≠some (i,w):=λi e=>⟨(hap.xy i e).1,(hap.xy i e).2.1⟩
 have hx01:y.k.cat=5->x.k.cat=0\/x.k.cat=1:=by
  intro e;unfold catX at hcat;rw[Wd,Wd,Wd,Wd,Wd,Wd]at hcat;simp only[V7]at hcat;rcases hcat with(((((q|q)|q)|q)|q)|q)|q
  ·grind [EK]
  ·obtain⟨-,_,_,_,e2⟩:=C0 q.2;rw[e2]at e;cases e
  ·obtain⟨-,_,_,_,e2⟩:=El q.2;rw[e2]at e;cases e
  ·obtain⟨_,-,_,_,_,e2⟩:=C1 q.2;rw[e2]at e;cases e
  ·obtain⟨_,-,_,_,_,e2⟩:=CS q.2;rw[e2]at e;cases e
  ·obtain⟨_,-,_,_,_,e2⟩:=CS q.1.1;right;simp only at e2;rw[e2];rfl
  ·obtain⟨-,_,_,_,e2⟩:=Fz q.1;right;simp only at e2;rw[e2];rfl
 let Ky:AS->Prop:=λs2=>EJ cx fy y.k s.H s2.H/\K s2
 have hKy:∀a b,SEq kp a b->Ky a->Ky b:=λa b e q=>⟨by rw[<-e.2.1];exact q.1,hK a b e q.2⟩
 obtain⟨sy,h'⟩:Fv base cx fy y s/\AU P Qp base x (AU P Qp base y Ky) s:=by
  obtain⟨H',g,v,k1,hre,-,hH1,-,-⟩:=Cu hc5 h;refine⟨(Mk (H:=H') (n:=s.n) i6).1 k1.2.1,hre _ (Ds (λs2 k=>⟨?_,k.2⟩) k1.2.2)⟩;by_cases e:y.k.cat=5
  ·grind [Ba]
  ·exact Em e
 have fin:AU P Qp base y (AU P Qp base x Ky) s->Jr P Qp base cx (fy,y) (Jr P Qp base cx (fx,x) K) s:=λq=>
  ⟨sy,BX (s:=s) ⟨λ_ _=>EEq.rfl' _,λ_ _ _=>EEq.rfl' _⟩ rfl rfl (λH n g v v' h1 h2 h3 h4=>by
   rw[<-h2 rfl];refine⟨?_,(Mk (H:=H) (n:=n) hyx).2 sx,Ds (λs' k=>⟨Em hc5,k.2⟩) h4⟩;by_cases e:y.k.cat=5
   ·obtain⟨H',g',v',k1,-,-,hH1,-,-⟩:=Cu hc5 h4;have eH:=hH1 ((hx01 e).imp id .inl);have:=k1.1;rw[Ba,eH]at this;exact this
   ·exact Em e) q⟩
 unfold catX at hcat;rw[Wd,Wd,Wd,Wd,Wd,Wd]at hcat;rcases hcat with(((((hcat|hcat)|hcat)|hcat)|hcat)|hcat)|hcat
 ·exact fin (swap hap hcat kx ky hrel hsafe hKy h')
 ·rw[V7]at hcat;obtain⟨e1,sz,ag,a,e2⟩:=El hcat.1;obtain⟨e3,sz',a',v',e4⟩:=C0 hcat.2;simp only at e1 e2 e3 e4;unfold Fv at sx sy;rw[e1,e2]at sx;rw[e3,e4]at sy;exact fin (TO e2 e4 hap kx ky (λqx qy _ p=>IN (sy qy) p (sx qx)) hKy h')
 ·rw[V7]at hcat;obtain⟨e1,sz,a,v,e2⟩:=C0 hcat.1;obtain⟨e3,sz',ag,a',e4⟩:=El hcat.2;simp only at e1 e2 e3 e4;unfold Fv at sx sy;rw[e1,e2]at sx;rw[e3,e4]at sy;exact fin (TP e2 e4 hap kx ky (λqx qy _ p=>IN (sx qx) p (sy qy)) hKy h')
 ·rw[V7,V7]at hcat;obtain⟨m,e1,sz,ag,a,e2⟩:=CS hcat.1.2;obtain⟨m',e3,sz',a',v',e4⟩:=C1 hcat.2;have hne:=hcat.1.1;simp only at e1 e2 e3 e4 hne;rw[e1,e3]at hne;unfold Fv at sx sy;rw[e1,e2]at sx;rw[e3,e4]at sy;exact fin (TO e2 e4 hap kx ky (λqx qy _ p=>Mm (sy qy) p (sx qx) (R9 hne)) hKy h')
 ·rw[V7,V7]at hcat;obtain⟨m,e1,sz,a,v,e2⟩:=C1 hcat.1.2;obtain⟨m',e3,sz',ag,a',e4⟩:=CS hcat.2;have hne:=hcat.1.1;simp only at e1 e2 e3 e4 hne;rw[e1,e3]at hne;unfold Fv at sx sy;rw[e1,e2]at sx;rw[e3,e4]at sy;exact fin (TP e2 e4 hap kx ky (λqx qy _ p=>Mm (sx qx) p (sy qy) hne) hKy h')
 ·rw[V7,V7]at hcat;obtain⟨m,e1,sz,ag,a,e2⟩:=CS hcat.1.1;obtain⟨m',e3,hm1,hm2,f,xs,e4⟩:=GB hcat.1.2;have hmm:m=m'+1:=by simp_all
  subst hmm;simp only at e1 e2 e3 e4;unfold Fv at sx;rw[e1,e2]at sx;refine fin (swapLC (a:=cx ((m'-300000)/2)) e2 hap kx ky (λqx id p q=>?_) hKy (λs' k=>?_) h')
  ·have h1:atN base cx (m'+1) id:=P8 (sx qx) p;unfold atN at h1;rw[V5 zo,V5 zo,V5 zo,show(m'+1-300000)/2=(m'-300000)/2 by omega]at h1;exact h1 q
  ·have:=k.1;rw[e3,e4]at this;exact this
 ·rw[V7]at hcat;obtain⟨e1,sz,ag,a,e2⟩:=Fz hcat.1;obtain⟨e3,rel,esz,bytes,z,a',v',str,e4⟩:=IP hcat.2;simp only at e1 e2 e3 e4;unfold Fv at sx;rw[e1,e2]at sx;refine fin (swapLG e2 hap kx ky (λqx s' k q=>?_) hKy h');have hp:isP (lkv s.env a):=sx qx;have hk:=k.1;rw[e3,e4]at hk;have hk':MO s.H s'.H:=hk;generalize lkv s.env a=av at q hp;cases av<;>simp only[isP]at hp;rename_i i off;simp only[Ay]at q⊢;split at q
  ·rename_i cs hh;rw[hk' i cs hh]
  ·exact q.elim
theorem P9{a b:AS}(h:SEq kp a b)(hs:Fv base cx f o a)(hh:AU P Qp base o K a):Fv base cx f o b:=by
 have hl:Look o a.env b.env:=⟨λi _=>(h.1 i).1,λi _ _=>(h.1 i).1⟩;intro hg;rw[<-Ct hl]at hg;have hs:=hs hg;have key:oks a.env o.k.opds\/BS base cx (lkv b.env) f o.k:=by
  obtain⟨dst,guard,k⟩:=o;obtain⟨h0,h1⟩:=hh;cases k with
  |v k=>exact .inl (h1.1 hg).1
  |st sz a x=>exact .inl (h1.1 hg).1
  |call q g xs=>match f,q with
   |0,_=>exact .inr trivial
   |1,_|2,_|f+3,true=>simp only[BS]at hs
   |f+3,false=>exact .inr hs
  |appR rel esz bytes z x y str=>match f with
   |0=>exact .inr trivial
   |2=>exact .inr trivial
   |1|f+3=>simp only[BS]at hs
  |_=>match f with
   |0=>exact .inr trivial
   |1|2|f+3=>simp only[BS]at hs
 rcases key with ok|q
 ·exact E9 f o.k (λx hx=>(Cs hl hx).2 (Gy ok x hx)) hs
 ·exact q
theorem KI(hK:∀a b,SEq kp a b->K a->K b):∀(L:List (Nat×Z9)),(∀x∈L,kpOK kp x.2)->∀a b,SEq kp a b->runX P Qp base cx L K a->runX P Qp base cx L K b
 |[],_,a,b,h,hh=>hK a b h hh
 |x::L,hk,a,b,h,hh=>⟨P9 h hh.1 hh.2,BX (s1:=a) (s:=b) ⟨λi _=>(h.1 i).1,λi _ _=>(h.1 i).1⟩ h.2.1 h.2.2
   (λH n g v v' hv _ hg q=>⟨by have:=q.1;rw[Ba,h.2.1]at this;rw[Ba];exact this,KI hK L (λy hy=>hk y (WJ _ hy)) _ _ (h.put hv ((hk x (Wu ..)).held hg)) q.2⟩) hh.2⟩
theorem QA{y:Nat×Z9}{B:List (Nat×Z9)}(ky:kpOK kp y.2)(hB:∀x∈B,kpOK kp x.2)(hK:∀a b,SEq kp a b->K a->K b):∀(A:List (Nat×Z9)) (s:AS),
  (∀x∈A,Apart x.2 y.2/\catX x y=true/\kpOK kp x.2/\(x.2.k.cat=2->y.2.k.cat=2->GN x.2.k≠GN y.2.k))->Np y.2 s->
  runX P Qp base cx (A++y::B) K s->Jr P Qp base cx y (runX P Qp base cx (A++B) K) s
 |[],_,_,_,h=>h
 |x::A,s,hA,hs,h=>by
  obtain⟨hap,hcat,kx,hrel⟩:=hA x (Wu ..);have hxc5:x.2.k.cat≠5:=by
   intro e;unfold catX at hcat;rw[e]at hcat;have h0:EK 5 y.2.k.cat=false:=by cases hy:y.2.k.cat<;>simp [EK]
   rw[h0,Xx,Wd,Wd,Wd,Wd,Wd]at hcat;simp only[V7]at hcat;rcases hcat with((((q|q)|q)|q)|q)|q
   ·obtain⟨-,sz,ag,a,e2⟩:=El q.1;rw[e2]at e;cases e
   ·obtain⟨-,sz,a,v,e2⟩:=C0 q.1;rw[e2]at e;cases e
   ·obtain⟨m,-,sz,ag,a,e2⟩:=CS q.1.2;rw[e2]at e;cases e
   ·obtain⟨m,-,sz,a,v,e2⟩:=C1 q.1.2;rw[e2]at e;cases e
   ·obtain⟨m,-,sz,ag,a,e2⟩:=CS q.1.1;rw[e2]at e;cases e
   ·obtain⟨-,sz,ag,a,e2⟩:=Fz q.1;rw[e2]at e;cases e
  obtain⟨sx,hx⟩:=h;obtain⟨H',gx,vx,⟨-,h1⟩,hre,-,hH1,hH2,hH4⟩:=Cu hxc5 hx;have hs1:Np y.2 ({s with H:=H'}.put x.2.dst gx vx):=by
   intro sz ag ad e i5;have hy1:y.2.k.cat=1:=by rw[e];rfl
   have hlk:lk ({s with H:=H'}.put x.2.dst gx vx).env ad=lk s.env ad:=by
    cases ad with
    |c v=>rfl
    |t i=>
     simp only[lk];rw[Dr,V5 (λq=>(hap.xy i q).1 (by rw[e];simp [Io.opds,Z1.opds]))]
   have hlv:lkv ({s with H:=H'}.put x.2.dst gx vx).env ad=lkv s.env ad:=by simp only[lkv,hlk]
   rw[hlv,Ba];rw[hlk]at i5;have h0:=hs sz ag ad e i5;by_cases hst:∃sz a v,x.2.k= .st sz a v
   ·obtain⟨sz',a',v',ex⟩:=hst;obtain⟨H2,g2,v2,-,hre2,-,hS⟩:=KH ex hx;have e5:=KH ex (hre2 (λs'=>s'=({s with H:=H2}:AS).put x.2.dst g2 v2) rfl);obtain⟨H3,g3,v3,k3,-,-,hS3⟩:=KH ex (hre (λs'=>s'=({s with H:=H'}:AS).put x.2.dst gx vx) rfl);have e6:H3=H':=by have:=congrArg AS.H k3;rwa[Ba,Ba]at this
    subst e6;refine G1 (H:=s.H) (λid d7=>?_) h0;rcases hS3 with e|⟨_,i,ob,_,e⟩
    ·rw[e];exact d7
    ·rw[e];exact Dt d7
   ·have hcat':EK x.2.k.cat y.2.k.cat=true:=by
     unfold catX at hcat;rw[Wd,Wd,Wd,Wd,Wd,Wd]at hcat;simp only[V7]at hcat;rcases hcat with(((((q|q)|q)|q)|q)|q)|q
     ·exact q
     ·obtain⟨-,sz',a',v',e2⟩:=C0 q.2;rw[e2]at e;cases e
     ·obtain⟨-,sz',a',v',e2⟩:=C0 q.1;exact absurd ⟨_,_,_,e2⟩ hst
     ·obtain⟨m,-,sz',a',v',e2⟩:=C1 q.2;rw[e2]at e;cases e
     ·obtain⟨m,-,sz',a',v',e2⟩:=C1 q.1.2;exact absurd ⟨_,_,_,e2⟩ hst
     ·obtain⟨m,-,-,-,f',xs',e2⟩:=GB q.1.2;rw[e2]at e;cases e
     ·obtain⟨-,rel,esz,bytes,z,a',v',str,e2⟩:=IP q.2;rw[e2]at e;cases e
    refine G1 (H:=s.H) (λid d7=>?_) h0;rw[hy1]at hcat';have hxc:(x.2.k.cat=0\/x.2.k.cat=1\/x.2.k.cat=3)\/x.2.k.cat=2\/x.2.k.cat=4:=by grind [EK]
    rcases hxc with e|e|e
    ·rw[hH1 e];exact d7
    ·rcases hH2 e with rfl|⟨i,ob,p1,rfl⟩
     ·exact d7
     ·exact Dt d7
    ·rcases hH4 e with rfl|⟨tok,i,p1,p2,rfl⟩
     ·exact d7
     ·refine Dt ?_;cases tok<;>first|exact d7|exact Dt d7
  have h2:=QA ky hB hK A _ (λz hz=>hA z (WJ _ hz)) hs1 h1;have hAB:∀z∈A++B,kpOK kp z.2:=λz hz=>(WH.1 hz).elim (λq=>(hA z (WJ _ q)).2.2.1) (hB z)
  exact swapX hap hcat kx ky hrel hs (KI hK (A++B) hAB) hxc5 ⟨sx,hre _ ⟨Em hxc5,h2⟩⟩
end
def remL(ops:Array Oper)(listed:Array Bool):List Nat:=(List.range ops.size).filter λi=>!listed.getD i true
def EO(l:List Z9)(L:List Nat):List Z9:=L.map (opAt l)
def LX(l:List Z9):EO l (List.range l.length)=l:=by
 apply List.ext_getElem
 ·simp [EO]
 ·intro i h1 h2;simp [EO,opAt,h2]
def Du(l:List Z9):Bool:=l.any λo=>o.k.news
section
variable {P:Program} {r:Option Nat} {m N lo:Nat} {g0:Yx} {H0:AC} {w0:World} {D:DP} {ops:Array Oper} {l:List Z9} {mkv imp:List Nat}
variable {Qp:Fs->AC->Nat->Prop} {base:Nat} {kp:List Nat} {Qc:Exit->Act->World->Prop}
variable {K:AS->Prop} {listed:Array Bool} {i:Nat}
theorem JD{Kc:Act->World->Prop}{s:AS}{a:Act}{w:World}(hl:cops P N lo ops mkv imp ops.toList 0=some l)(hlo:D.lo<=lo)(hi:i<ops.size)(hstep:AU P Qp base (opAt l i) K s)
  (hsim:Sim m g0 H0 w0 N D s a w) (hb:m<=base) (hbump:Du l=true->base+ops.size<=s.n)
  (hK:∀s' a' w',K s'->Sim m g0 H0 w0 N D s' a' w'->s.n<=s'.n->Kc a' w')
  (hQ:∀v H' n' chain a' w',Qp v H' n'->PSim m g0 H0 w0 D a'.defers a'.tmps v H' n' chain w'->Qc (.panic chain) a' w'):wpOpIn (FR r) 0 P ops Qc i Kc a w:=by
 obtain⟨h1,h2⟩:=Cc _ _ _ hl;have ho:ops[i]?=some ops[i]:=by simp [hi]
 obtain⟨gd,k,q1,q2,q3,q4⟩:=h2 i ops[i] (by simp [hi]);rw[Wr]at q3;have e:opAt l i=⟨ops[i].dst,gd,k⟩:=by simp [opAt,q1]
 rw[e]at hstep;refine IJ ho q2 q3 hstep hsim hb (λhc=>?_) (λd e=>⟨(q4 d e).1,WD hlo (q4 d e).2⟩) hK hQ;have:Du l=true:=by
  unfold Du;rw[List.any_eq_true];refine⟨_,XE q1,?_⟩;exact hc
 have:=hbump this;omega
theorem KJ(hl:cops P N lo ops mkv imp ops.toList 0=some l)(hlo:D.lo<=lo)(hb:m<=base)
  (hQ:∀v H' n' chain a' w',Qp v H' n'->PSim m g0 H0 w0 D a'.defers a'.tmps v H' n' chain w'->Qc (.panic chain) a' w')
  (hK:∀s' a' w',K s'->Sim m g0 H0 w0 N D s' a' w'->Qc .normal a' w'):
  ∀(L:List Nat) (s:AS) (a:Act) (w:World),(∀i∈L,i<ops.size)->DA P Qp base (EO l L) K s->Sim m g0 H0 w0 N D s a w->(Du l=true->base+ops.size<=s.n)->
   wpOpsIn (FR r) 0 P ops Qc L a w
 |[],s,a,w,_,h,hs,_=>by simp only[wpOpsIn];exact hK s a w h hs
 |i::L,s,a,w,hi,h,hs,hbump=>by
  rw[wpOpsIn_cons];refine JD hl hlo (hi i (Wu ..)) (K:=DA P Qp base (EO l L) K) h hs hb hbump (λs' a' w' hk hs' hn=>?_) hQ;exact KJ hl hlo hb hQ hK L s' a' w' (λj hj=>hi j (WJ _ hj)) hk hs' (λq=>WD (hbump q) hn)
def JE(ops:Array Oper)(listed:Array Bool):Prop:=∀(j:Nat) (o:Oper),listed.getD j false=true->ops[j]?=some o->∀e∈o.after,Region.binds .any e=true->listed.getD e.on false=true
theorem GC{α:Type}{f:α->Nat}{x:Nat}:∀(l:List α) (m:Nat),(l.foldl (λm e=>m|||f e) m).testBit x=true->m.testBit x=true\/∃e∈l,(f e).testBit x=true
 |[],m,h=>.inl h
 |a::l,m,h=>by
  rcases GC l _ h with h|⟨e,he,h⟩
  ·grind
  ·exact .inr ⟨e,WJ _ he,h⟩
theorem Nq{acc:List Nat}{o:Oper}{x:Nat}(h:(Gn acc o).testBit x=true):∃e∈o.after,Region.binds .any e=true/\(x=e.on\/(acc.getD e.on 0).testBit x=true):=by
 unfold Gn at h;have e1:(λ(m:Nat) (e:Edge)=>m|||(1<<<e.on)|||acc.getD e.on 0)=λm e=>m|||((1<<<e.on)|||acc.getD e.on 0):=by
  funext m e;rw[Nat.or_assoc]
 rw[e1]at h;rcases GC _ _ h with h|⟨e,he,h⟩
 ·simp at h
 ·simp only[Xb,Y4]at he;refine⟨e,he.1,he.2,?_⟩;rw[Nat.testBit_or,Wd]at h;rcases h with h|h
  ·simp_all [Nat.one_shiftLeft,Nat.testBit_two_pow]
  ·exact .inr h
def QB(ops:List Oper)(ms:List Nat):Prop:=∀k x,(ms.getD k 0).testBit x=true->∃o,ops[k]?=some o/\∃e∈o.after,Region.binds .any e=true/\(x=e.on\/(e.on<k/\(ms.getD e.on 0).testBit x=true))
theorem Mn:∀(r pre:List Oper) (acc:List Nat),acc.length=pre.length->QB (pre++r) acc->QB (pre++r) (Gp r acc)
 |[],pre,acc,_,h=>h
 |o::r,pre,acc,hl,h=>by
  have e:pre++o::r=(pre++[o])++r:=zw
  rw[e]at h⊢;refine Mn r (pre++[o]) (acc++[Gn acc o]) (by simp [hl]) ?_;intro k x hb;have old:∀j,j<acc.length->(acc++[Gn acc o]).getD j 0=acc.getD j 0:=λj hj=>by
   simp [WM,WI hj]
  by_cases hk:k<acc.length
  ·rw[old k hk]at hb;obtain⟨o',h1,e',h2,h3,h4⟩:=h k x hb;refine⟨o',h1,e',h2,h3,h4.imp id λ⟨a,b⟩=>⟨a,by rw[old _ zo];exact b⟩⟩
  ·by_cases hk2:k=acc.length
   ·subst hk2;have e2:(acc++[Gn acc o]).getD acc.length 0=Gn acc o:=by simp [WM]
    rw[e2]at hb;obtain⟨e',h2,h3,h4⟩:=Nq hb;refine⟨o,by rw[hl];simp,e',h2,h3,h4.imp id λb=>?_⟩;have c6:e'.on<acc.length:=by
     apply Nat.lt_of_not_le;intro hge;rw[WM,XU hge]at b;simp at b
    exact⟨c6,by rw[old _ c6];exact b⟩
   ·exfalso;rw[WM,XU (by simp;omega)]at hb;simp at hb
theorem FA(hc:JE ops listed):∀(k:Nat),(∀o,ops[k]?=some o->∀e∈o.after,Region.binds .any e=true->listed.getD e.on false=true)->∀x,((Gp ops.toList []).getD k 0).testBit x=true->listed.getD x false=true:=by
 have hm:QB ops.toList (Gp ops.toList []):=Mn ops.toList [] [] rfl (λk x h=>by simp at h);intro k;induction k using Nat.strongRecOn with
 |_ k ih=>
  intro hi x hb;obtain⟨o,h1,e,h2,h3,h4⟩:=hm k x hb;have ho:ops[k]?=some o:=by simpa using h1
  have hl:=hi o ho e h2 h3;rcases h4 with rfl|⟨c6,h4⟩
  ·exact hl
  ·exact ih e.on c6 (λo' ho'=>hc e.on o' hl ho') x h4
theorem BM:i∈remL ops listed↔i<ops.size/\listed.getD i true=false:=by
 simp [remL]
theorem Dv(listed:Array Bool):(remL ops listed).Pairwise (· < ·):=List.Pairwise.filter _ XL
theorem Mo(hi:i<listed.size):remL ops (listed.setIfInBounds i true)=(remL ops listed).filter (· !=i):=by
 unfold remL;rw[Yr];apply Yj;intro j hj;by_cases h:i=j
 ·subst h;simp [hi]
 ·rw[getD_set_ne true h];simp [Ne.symm h]
theorem GD{A B:List Nat}(h:(A++i::B).Pairwise (· < ·)):(A++i::B).filter (· !=i)=A++B/\∀x∈A,x<i:=by
 rw[List.pairwise_append]at h;obtain⟨_,h2,h3⟩:=h;rw[Xq]at h2;refine⟨?_,λx hx=>h3 x hx i (Wu ..)⟩;rw[Xh,X7];simp only[bne_self_eq_false,W5,Wf];congr 1
 ·apply Yd.2;intro x hx;have:=h3 x hx i (Wu ..);simp;omega
 ·apply Yd.2;intro x hx;have:=h2.1 x hx;simp;omega
theorem Nr(hl:cops P N lo ops mkv imp ops.toList 0=some l)(hlo:D.lo<=lo)(hd:PT ops l=true)(hkp:∀x∈l,kpOK kp x)(hKr:∀a b,SEq kp a b->K a->K b)(hb:m<=base)
  (hQ:∀v H' n' chain a' w',Qp v H' n'->PSim m g0 H0 w0 D a'.defers a'.tmps v H' n' chain w'->Qc (.panic chain) a' w')
  (hK:∀s' a' w',K s'->Sim m g0 H0 w0 N D s' a' w'->Qc .normal a' w'):
  ∀(fuel:Nat) (listed:Array Bool) (s:AS) (a:Act) (w:World),(remL ops listed).length=fuel->listed.size=ops.size->JE ops listed->DA P Qp base (EO l (remL ops listed)) K s->Sim m g0 H0 w0 N D s a w->
   (Du l=true->base+ops.size<=s.n)->wpAnyIn (FR r) 0 P .any ops Qc fuel listed a w:=by
 obtain⟨d6,hspec⟩:=Cc _ _ _ hl;have d6:l.length=ops.size:=by rw[d6,Ws]
 unfold PT PS at hd;rw[V7,V7]at hd;obtain⟨⟨hed,hld⟩,hd⟩:=hd;have opAt_mem:∀i,i<ops.size->opAt l i∈l:=λi hi=>by
  have i8:i<l.length:=zo
  simp [opAt,i8]
 have ready_nil:∀listed:Array Bool,Region.ready .any ops listed=[]->listed.size=ops.size->remL ops listed=[]:=by
  intro listed hr hsz;cases hrem:remL ops listed with
  |nil=>rfl
  |cons i B=>
   exfalso;have hi:i∈remL ops listed:=by rw[hrem];exact Wu ..
   obtain⟨hi1,hi2⟩:=BM.1 hi;have:i∈Region.ready .any ops listed:=by
    refine mem_ready.2 ⟨hi2,ops[i],by simp [hi1],λe he hbd=>?_⟩;unfold I1 at hed;rw[W4]at hed;have h1:=hed i (Wy.2 hi1);have ho:ops[i]?=some ops[i]:=by simp [hi1]
    rw[ho]at h1;simp only[W4,Y4]at h1;have h2:=h1 e he;rw[hbd]at h2;simp only[V3,Xx,Vu]at h2;by_cases h3:listed.getD e.on false=true
    ·exact h3
    ·exfalso;have h4:e.on∈remL ops listed:=BM.2 ⟨zo,by
      have:e.on<listed.size:=zo
      simp [this]at h3⊢;exact h3⟩
     rw[hrem]at h4;have hs:=Dv (ops:=ops) listed;rw[hrem,Xq]at hs;rcases Wp.1 h4 with h5|h5
     ·omega
     ·have:=hs.1 _ h5;omega
   rw[hr]at this;cases this
 intro fuel;induction fuel with
 |zero=>
  intro listed s a w hf hsz hc h hs hbump;have hnil:remL ops listed=[]:=X1.1 hf;refine⟨?_,?_⟩
  ·cases hr:Region.ready .any ops listed with
   |nil=>rfl
   |cons i B=>
    have hi:i∈Region.ready .any ops listed:=by rw[hr];exact Wu ..
    obtain⟨h1,o,h2,-⟩:=mem_ready.1 hi;have:i∈remL ops listed:=BM.2 ⟨(Wc.1 h2).1,h1⟩;rw[hnil]at this;cases this
  ·rw[hnil]at h;exact hK s a w h hs
 |succ fuel ih=>
  intro listed s a w hf hsz hc h hs hbump;refine⟨λhr=>?_,λi hi=>?_⟩
  ·rw[ready_nil listed hr hsz]at hf;cases hf
  ·obtain⟨h1,o,h2,hedge⟩:=mem_ready.1 hi;have hi1:i<ops.size:=(Wc.1 h2).1;have hir:i∈remL ops listed:=BM.2 ⟨hi1,h1⟩;obtain⟨A,B,hAB⟩:=List.append_of_mem hir;have hsort:=Dv (ops:=ops) listed;rw[hAB]at hsort;obtain⟨e9,c6⟩:=GD hsort;have hset:remL ops (listed.setIfInBounds i true)=A++B:=by rw[Mo zo,hAB,e9]
   have hanc:∀x,((Gp ops.toList []).getD i 0).testBit x=true->listed.getD x false=true:=FA hc i (λo' ho'=>by rw[h2]at ho';cases ho';exact hedge);have hlti:i<l.length:=zo
   have d5:=front (P:=P) (Qp:=Qp) (base:=base) (y:=opAt l i) (B:=EO l B) (K:=K) (kp:=kp) (hkp _ (opAt_mem i hi1))
    (λx hx=>by
     obtain⟨j,hj,rfl⟩:=WL.1 hx;exact hkp _ (opAt_mem j (BM.1 (show j∈remL ops listed by rw[hAB];simp [hj])).1)) hKr (EO l A) s
    (λx hx=>by
     obtain⟨j,hj,rfl⟩:=WL.1 hx;have hji:=c6 j hj;obtain⟨hj1,hj2⟩:=BM.1 (show j∈remL ops listed by rw[hAB];simp [hj]);rw[W4]at hd;have hd1:=hd i (Wy.2 hlti);rw[W4]at hd1;have o9:=hd1 j (Wy.2 hji);have hltj:j<l.length:=zo
     have e1:l[j]?=some (opAt l j):=by simp [opAt,hltj]
     have e2:l[i]?=some (opAt l i):=by simp [opAt,hlti]
     rw[e1,e2]at o9;simp only[Wd,V7]at o9;rcases o9 with⟨d1,d2⟩|d3
     ·refine⟨E8 d1,d2,hkp _ (opAt_mem j hj1),λc1 c2=>?_⟩;obtain⟨gd,k,q1,q2,q3,q4⟩:=hspec i ops[i] (by simp [hi1]);obtain⟨gd',k',q1',q2',q3',q4'⟩:=hspec j ops[j] (by simp [hj1]);have e3:opAt l i=⟨ops[i].dst,gd,k⟩:=by simp [opAt,q1]
      have e4:opAt l j=⟨ops[j].dst,gd',k'⟩:=by simp [opAt,q1']
      rw[e3]at c2⊢;rw[e4]at c1⊢;have r1:=Ek q3 c2;have r2:=Ek q3' c1;simp only[r1,r2];omega
     ·exfalso;have:=hanc j d3;have hjs:j<listed.size:=zo
      simp [hjs]at this hj2;rw[this]at hj2;cases hj2)
    (by
     intro sz ag ad e i5;have hld1:ldOK (opAt l i)=true:=(W4.1 hld) _ (opAt_mem i hi1);obtain⟨g,hR,hE,-⟩:=hs;cases ad with
     |c v=>
      unfold ldOK at hld1;rw[e]at hld1;simp only[lkv,lk];cases v<;>first|trivial|(simp at hld1;done)
     |t t=>
      simp only[lk,lkv]at i5⊢;cases hg:eget s.env t with
      |none=>simp [hg]at i5
      |some gv=>
       obtain⟨gd,v⟩:=gv;simp only[hg]at i5⊢;obtain⟨x,-,p2,-⟩:=hE t gd v hg;have hv:=p2 i5;cases v<;>first|trivial|skip
       ·obtain⟨L,q1,-⟩:=hv;exact(hR.dom _ _ q1).1
       ·obtain⟨L,q1,-⟩:=hv;exact(hR.dom _ _ q1).1)
    (by
     have e:EO l A++opAt l i::EO l B=EO l (remL ops listed):=by rw[hAB];simp [EO]
     rw[e];exact h)
   have e2:EO l A++EO l B=EO l (remL ops (listed.setIfInBounds i true)):=by rw[hset];simp [EO]
   rw[e2]at d5;refine JD hl hlo hi1 d5 hs hb hbump (λs' a' w' hk hs' hn=>?_) hQ;refine ih _ s' a' w' ?_ (by simp [hsz]) ?_ hk hs' (λq=>WD (hbump q) hn)
   ·rw[hset];rw[hAB]at hf;simp at hf⊢;omega
   ·intro j o' hj ho' e he hbd;by_cases hij:i=j
    ·subst hij;rw[h2]at ho';cases ho';exact getD_set_true (hedge e he hbd)
    ·rw[getD_set_ne false hij]at hj;exact getD_set_true (hc j o' hj ho' e he hbd)
def remO(ord:List Nat)(listed:Array Bool):List Nat:=ord.filter λi=>!listed.getD i true
theorem G3{p:Nat->Nat->Bool}:∀{l:List Nat},GV p l=true->l.Pairwise λj i=>p j i=true
 |[],_=>List.Pairwise.nil
 |j::r,h=>by
  simp only[GV,V7,W4]at h;exact Xq.2 ⟨h.1,G3 h.2⟩
theorem SA{ord:List Nat}(hi:i<listed.size):remO ord (listed.setIfInBounds i true)=(remO ord listed).filter (· !=i):=by
 unfold remO;rw[Yr];apply Yj;intro j hj;by_cases h:i=j
 ·subst h;simp [hi]
 ·rw[getD_set_ne true h];simp [Ne.symm h]
theorem SB{R:Nat->Nat->Prop}(hR:∀x y,R x y->x≠y){A B:List Nat}(h:(A++i::B).Pairwise R):(A++i::B).filter (· !=i)=A++B/\∀x∈A,R x i:=by
 rw[List.pairwise_append]at h;obtain⟨_,h2,h3⟩:=h;rw[Xq]at h2;refine⟨?_,λx hx=>h3 x hx i (Wu ..)⟩;rw[Xh,X7];simp only[bne_self_eq_false,W5,Wf];congr 1
 ·simp_all
 ·apply Yd.2;intro x hx;have:=hR _ _ (h2.1 x hx);simpa using λe=>this e.symm
theorem G4{ops:Array Oper}{T:List Nat}:∀(S seen:List Nat),J0 ops seen (S++i::T)=true->∀o,ops[i]?=some o->∀e∈o.after,Region.binds .any e=true->e.on∈S\/e.on∈seen
 |[],seen,h,o,ho,e,he,hb=>by
  simp only[Wi,J0,V7,ho,W4,Y4]at h;have:=h.1 e he;rw[hb]at this;exact .inr (by simpa using this)
 |j::S,seen,h,o,ho,e,he,hb=>by
  simp only[Ww,J0,V7]at h;rcases G4 S (j::seen) h.2 o ho e he hb with q|q
  ·exact .inl (by simp [q])
  ·grind
theorem LY{fz:List (Nat×Nat)}{cx:Nat->Fs}(hl:cops P N lo ops mkv imp ops.toList 0=some l)(hlo:D.lo<=lo)(hd:LH fz ops l=true)(hkp:∀x∈l,kpOK kp x)(hKr:∀a b,SEq kp a b->K a->K b)(hb:m<=base)
  (hQ:∀v H' n' chain a' w',Qp v H' n'->PSim m g0 H0 w0 D a'.defers a'.tmps v H' n' chain w'->Qc (.panic chain) a' w')
  (hK:∀s' a' w',K s'->Sim m g0 H0 w0 N D s' a' w'->Qc .normal a' w'):
  ∀(fuel:Nat) (listed:Array Bool) (s:AS) (a:Act) (w:World),(remL ops listed).length=fuel->listed.size=ops.size->JE ops listed->runX P Qp base cx (xAt fz l (remL ops listed)) K s->Sim m g0 H0 w0 N D s a w->
   (Du l=true->base+ops.size<=s.n)->wpAnyIn (FR r) 0 P .any ops Qc fuel listed a w:=by
 obtain⟨d6,hspec⟩:=Cc _ _ _ hl;have d6:l.length=ops.size:=by rw[d6,Ws]
 unfold LH MU at hd;rw[V7,V7]at hd;obtain⟨⟨hed,hld⟩,hd⟩:=hd;have opAt_mem:∀i,i<ops.size->opAt l i∈l:=λi hi=>by
  have i8:i<l.length:=zo
  simp [opAt,i8]
 have ready_nil:∀listed:Array Bool,Region.ready .any ops listed=[]->listed.size=ops.size->remL ops listed=[]:=by
  intro listed hr hsz;cases hrem:remL ops listed with
  |nil=>rfl
  |cons i B=>
   exfalso;have hi:i∈remL ops listed:=by rw[hrem];exact Wu ..
   obtain⟨hi1,hi2⟩:=BM.1 hi;have:i∈Region.ready .any ops listed:=by
    refine mem_ready.2 ⟨hi2,ops[i],by simp [hi1],λe he hbd=>?_⟩;unfold I1 at hed;rw[W4]at hed;have h1:=hed i (Wy.2 hi1);have ho:ops[i]?=some ops[i]:=by simp [hi1]
    rw[ho]at h1;simp only[W4,Y4]at h1;have h2:=h1 e he;rw[hbd]at h2;simp only[V3,Xx,Vu]at h2;by_cases h3:listed.getD e.on false=true
    ·exact h3
    ·exfalso;have h4:e.on∈remL ops listed:=BM.2 ⟨zo,by
      have:e.on<listed.size:=zo
      simp [this]at h3⊢;exact h3⟩
     rw[hrem]at h4;have hs:=Dv (ops:=ops) listed;rw[hrem,Xq]at hs;rcases Wp.1 h4 with h5|h5
     ·omega
     ·have:=hs.1 _ h5;omega
   rw[hr]at this;cases this
 intro fuel;induction fuel with
 |zero=>
  intro listed s a w hf hsz hc h hs hbump;have hnil:remL ops listed=[]:=X1.1 hf;refine⟨?_,?_⟩
  ·cases hr:Region.ready .any ops listed with
   |nil=>rfl
   |cons i B=>
    have hi:i∈Region.ready .any ops listed:=by rw[hr];exact Wu ..
    obtain⟨h1,o,h2,-⟩:=mem_ready.1 hi;have:i∈remL ops listed:=BM.2 ⟨(Wc.1 h2).1,h1⟩;rw[hnil]at this;cases this
  ·rw[hnil]at h;exact hK s a w h hs
 |succ fuel ih=>
  intro listed s a w hf hsz hc h hs hbump;refine⟨λhr=>?_,λi hi=>?_⟩
  ·rw[ready_nil listed hr hsz]at hf;cases hf
  ·obtain⟨h1,o,h2,hedge⟩:=mem_ready.1 hi;have hi1:i<ops.size:=(Wc.1 h2).1;have hir:i∈remL ops listed:=BM.2 ⟨hi1,h1⟩;obtain⟨A,B,hAB⟩:=List.append_of_mem hir;have hsort:=Dv (ops:=ops) listed;rw[hAB]at hsort;obtain⟨e9,c6⟩:=GD hsort;have hset:remL ops (listed.setIfInBounds i true)=A++B:=by rw[Mo zo,hAB,e9]
   have hanc:∀x,((Gp ops.toList []).getD i 0).testBit x=true->listed.getD x false=true:=FA hc i (λo' ho'=>by rw[h2]at ho';cases ho';exact hedge);have hlti:i<l.length:=zo
   have d5:=QA (P:=P) (Qp:=Qp) (base:=base) (cx:=cx) (y:=(I3 fz (I2 l) (opAt l i),opAt l i)) (B:=xAt fz l B) (K:=K) (kp:=kp) (hkp _ (opAt_mem i hi1))
    (λx hx=>by
     obtain⟨j,hj,rfl⟩:=WL.1 hx;exact hkp _ (opAt_mem j (BM.1 (show j∈remL ops listed by rw[hAB];simp [hj])).1)) hKr (xAt fz l A) s
    (λx hx=>by
     obtain⟨j,hj,rfl⟩:=WL.1 hx;have hji:=c6 j hj;obtain⟨hj1,hj2⟩:=BM.1 (show j∈remL ops listed by rw[hAB];simp [hj]);rw[W4]at hd;have hd1:=hd i (Wy.2 hlti);rw[W4]at hd1;have o9:=hd1 j (Wy.2 hji);have hltj:j<l.length:=zo
     have e1:l[j]?=some (opAt l j):=by simp [opAt,hltj]
     have e2:l[i]?=some (opAt l i):=by simp [opAt,hlti]
     rw[e1,e2]at o9;simp only[Wd,V7]at o9;rcases o9 with⟨d1,d2⟩|d3
     ·refine⟨E8 d1,d2,hkp _ (opAt_mem j hj1),λc1 c2=>?_⟩;obtain⟨gd,k,q1,q2,q3,q4⟩:=hspec i ops[i] (by simp [hi1]);obtain⟨gd',k',q1',q2',q3',q4'⟩:=hspec j ops[j] (by simp [hj1]);have e3:opAt l i=⟨ops[i].dst,gd,k⟩:=by simp [opAt,q1]
      have e4:opAt l j=⟨ops[j].dst,gd',k'⟩:=by simp [opAt,q1']
      rw[e3]at c2⊢;rw[e4]at c1⊢;have r1:=Ek q3 c2;have r2:=Ek q3' c1;simp only[r1,r2];omega
     ·exfalso;have:=hanc j d3;have hjs:j<listed.size:=zo
      simp [hjs]at this hj2;rw[this]at hj2;cases hj2)
    (by
     intro sz ag ad e i5;have hld1:ldOK (opAt l i)=true:=(W4.1 hld) _ (opAt_mem i hi1);obtain⟨g,hR,hE,-⟩:=hs;cases ad with
     |c v=>
      unfold ldOK at hld1;rw[e]at hld1;simp only[lkv,lk];cases v<;>first|trivial|(simp at hld1;done)
     |t t=>
      simp only[lk,lkv]at i5⊢;cases hg:eget s.env t with
      |none=>simp [hg]at i5
      |some gv=>
       obtain⟨gd,v⟩:=gv;simp only[hg]at i5⊢;obtain⟨x,-,p2,-⟩:=hE t gd v hg;have hv:=p2 i5;cases v<;>first|trivial|skip
       ·obtain⟨L,q1,-⟩:=hv;exact(hR.dom _ _ q1).1
       ·obtain⟨L,q1,-⟩:=hv;exact(hR.dom _ _ q1).1)
    (by
     have e:xAt fz l A++(I3 fz (I2 l) (opAt l i),opAt l i)::xAt fz l B=xAt fz l (remL ops listed):=by rw[hAB];simp [xAt]
     rw[e];exact h)
   have e2:xAt fz l A++xAt fz l B=xAt fz l (remL ops (listed.setIfInBounds i true)):=by rw[hset];simp [xAt]
   rw[e2]at d5;refine JD hl hlo hi1 d5.2 hs hb hbump (λs' a' w' hk hs' hn=>?_) hQ;refine ih _ s' a' w' ?_ (by simp [hsz]) ?_ hk.2 hs' (λq=>WD (hbump q) hn)
   ·rw[hset];rw[hAB]at hf;simp at hf⊢;omega
   ·intro j o' hj ho' e he hbd;by_cases hij:i=j
    ·subst hij;rw[h2]at ho';cases ho';exact getD_set_true (hedge e he hbd)
    ·rw[getD_set_ne false hij]at hj;exact getD_set_true (hc j o' hj ho' e he hbd)
theorem LZ{fz:List (Nat×Nat)}{ord:List Nat}{cx:Nat->Fs}(hl:cops P N lo ops mkv imp ops.toList 0=some l)(hlo:D.lo<=lo)(hd:J1 fz ord ops l=true)(hkp:∀x∈l,kpOK kp x)(hKr:∀a b,SEq kp a b->K a->K b)(hb:m<=base)
  (hQ:∀v H' n' chain a' w',Qp v H' n'->PSim m g0 H0 w0 D a'.defers a'.tmps v H' n' chain w'->Qc (.panic chain) a' w')
  (hK:∀s' a' w',K s'->Sim m g0 H0 w0 N D s' a' w'->Qc .normal a' w'):
  ∀(fuel:Nat) (listed:Array Bool) (s:AS) (a:Act) (w:World),(remO ord listed).length=fuel->listed.size=ops.size->JE ops listed->runX P Qp base cx (xAt fz l (remO ord listed)) K s->Sim m g0 H0 w0 N D s a w->
   (Du l=true->base+ops.size<=s.n)->wpAnyIn (FR r) 0 P .any ops Qc fuel listed a w:=by
 obtain⟨d6,hspec⟩:=Cc _ _ _ hl;have d6:l.length=ops.size:=by rw[d6,Ws]
 unfold J1 at hd;simp only[V7]at hd;obtain⟨⟨⟨⟨⟨-,ho1⟩,ho2⟩,hld⟩,hed⟩,hd⟩:=hd;have hmem:∀i,i∈ord↔i<ops.size:=λi=>⟨λh=>by simpa using(W4.1 ho1) i h,λh=>by simpa using(W4.1 ho2) i (Wy.2 h)⟩
 have hpw:=G3 hd;have BM:∀{listed:Array Bool} {i:Nat},i∈remO ord listed↔i<ops.size/\listed.getD i true=false:=λ{listed i}=>by simp [remO,hmem]
 have opAt_mem:∀i,i<ops.size->opAt l i∈l:=λi hi=>by
  have i8:i<l.length:=zo
  simp [opAt,i8]
 have ready_nil:∀listed:Array Bool,Region.ready .any ops listed=[]->listed.size=ops.size->remO ord listed=[]:=by
  intro listed hr hsz;cases hrem:remO ord listed with
  |nil=>rfl
  |cons i B=>
   exfalso;have hi:i∈remO ord listed:=by rw[hrem];exact Wu ..
   obtain⟨hi1,hi2⟩:=BM.1 hi;have:i∈Region.ready .any ops listed:=by
    refine mem_ready.2 ⟨hi2,ops[i],by simp [hi1],λe he hbd=>?_⟩;obtain⟨S,T,hST,hS,-,-⟩:=List.filter_eq_cons_iff.1 hrem;have h1:=G4 S [] (by rw[hST]at hed;exact hed) ops[i] (by simp [hi1]) e he hbd;simp only[Xz,or_false]at h1;have h2:listed.getD e.on true=true:=by simpa using hS _ h1
    have h3:e.on<listed.size:=by rw[hsz];exact(hmem _).1 (by rw[hST];simp [h1])
    simp [h3]at h2⊢;exact h2
   rw[hr]at this;cases this
 intro fuel;induction fuel with
 |zero=>
  intro listed s a w hf hsz hc h hs hbump;have hnil:remO ord listed=[]:=X1.1 hf;refine⟨?_,?_⟩
  ·cases hr:Region.ready .any ops listed with
   |nil=>rfl
   |cons i B=>
    have hi:i∈Region.ready .any ops listed:=by rw[hr];exact Wu ..
    obtain⟨h1,o,h2,-⟩:=mem_ready.1 hi;have:i∈remO ord listed:=BM.2 ⟨(Wc.1 h2).1,h1⟩;rw[hnil]at this;cases this
  ·rw[hnil]at h;exact hK s a w h hs
 |succ fuel ih=>
  intro listed s a w hf hsz hc h hs hbump;refine⟨λhr=>?_,λi hi=>?_⟩
  ·rw[ready_nil listed hr hsz]at hf;cases hf
  ·obtain⟨h1,o,h2,hedge⟩:=mem_ready.1 hi;have hi1:i<ops.size:=(Wc.1 h2).1;have hir:i∈remO ord listed:=BM.2 ⟨hi1,h1⟩;obtain⟨A,B,hAB⟩:=List.append_of_mem hir;have hsort:(remO ord listed).Pairwise λj i=>Rr fz l (Gp ops.toList []) j i=true:=hpw.filter _
   rw[hAB]at hsort;obtain⟨e9,c6⟩:=SB (λx y h=>by unfold Rr at h;rw[V7]at h;simpa using h.1) hsort;have hset:remO ord (listed.setIfInBounds i true)=A++B:=by rw[SA zo,hAB,e9]
   have hanc:∀x,((Gp ops.toList []).getD i 0).testBit x=true->listed.getD x false=true:=FA hc i (λo' ho'=>by rw[h2]at ho';cases ho';exact hedge);have hlti:i<l.length:=zo
   have d5:=QA (P:=P) (Qp:=Qp) (base:=base) (cx:=cx) (y:=(I3 fz (I2 l) (opAt l i),opAt l i)) (B:=xAt fz l B) (K:=K) (kp:=kp) (hkp _ (opAt_mem i hi1))
    (λx hx=>by
     obtain⟨j,hj,rfl⟩:=WL.1 hx;exact hkp _ (opAt_mem j (BM.1 (show j∈remO ord listed by rw[hAB];simp [hj])).1)) hKr (xAt fz l A) s
    (λx hx=>by
     obtain⟨j,hj,rfl⟩:=WL.1 hx;obtain⟨hj1,hj2⟩:=BM.1 (show j∈remO ord listed by rw[hAB];simp [hj]);have o9:=c6 j hj;have hltj:j<l.length:=zo
     have e1:l[j]?=some (opAt l j):=by simp [opAt,hltj]
     have e2:l[i]?=some (opAt l i):=by simp [opAt,hlti]
     unfold Rr at o9;rw[V7,e1,e2]at o9;have hji:j≠i:=by simpa using o9.1
     replace o9:=o9.2;simp only[Wd,V7]at o9;rcases o9 with⟨d1,d2⟩|d3
     ·refine⟨E8 d1,d2,hkp _ (opAt_mem j hj1),λc1 c2=>?_⟩;obtain⟨gd,k,q1,q2,q3,q4⟩:=hspec i ops[i] (by simp [hi1]);obtain⟨gd',k',q1',q2',q3',q4'⟩:=hspec j ops[j] (by simp [hj1]);have e3:opAt l i=⟨ops[i].dst,gd,k⟩:=by simp [opAt,q1]
      have e4:opAt l j=⟨ops[j].dst,gd',k'⟩:=by simp [opAt,q1']
      rw[e3]at c2⊢;rw[e4]at c1⊢;have r1:=Ek q3 c2;have r2:=Ek q3' c1;simp only[r1,r2];omega
     ·exfalso;have:=hanc j d3;have hjs:j<listed.size:=zo
      simp [hjs]at this hj2;rw[this]at hj2;cases hj2)
    (by
     intro sz ag ad e i5;have hld1:ldOK (opAt l i)=true:=(W4.1 hld) _ (opAt_mem i hi1);obtain⟨g,hR,hE,-⟩:=hs;cases ad with
     |c v=>
      unfold ldOK at hld1;rw[e]at hld1;simp only[lkv,lk];cases v<;>first|trivial|(simp at hld1;done)
     |t t=>
      simp only[lk,lkv]at i5⊢;cases hg:eget s.env t with
      |none=>simp [hg]at i5
      |some gv=>
       obtain⟨gd,v⟩:=gv;simp only[hg]at i5⊢;obtain⟨x,-,p2,-⟩:=hE t gd v hg;have hv:=p2 i5;cases v<;>first|trivial|skip
       ·obtain⟨L,q1,-⟩:=hv;exact(hR.dom _ _ q1).1
       ·obtain⟨L,q1,-⟩:=hv;exact(hR.dom _ _ q1).1)
    (by
     have e:xAt fz l A++(I3 fz (I2 l) (opAt l i),opAt l i)::xAt fz l B=xAt fz l (remO ord listed):=by rw[hAB];simp [xAt]
     rw[e];exact h)
   have e2:xAt fz l A++xAt fz l B=xAt fz l (remO ord (listed.setIfInBounds i true)):=by rw[hset];simp [xAt]
   rw[e2]at d5;refine JD hl hlo hi1 d5.2 hs hb hbump (λs' a' w' hk hs' hn=>?_) hQ;refine ih _ s' a' w' ?_ (by simp [hsz]) ?_ hk.2 hs' (λq=>WD (hbump q) hn)
   ·rw[hset];rw[hAB]at hf;simp at hf⊢;omega
   ·intro j o' hj ho' e he hbd;by_cases hij:i=j
    ·grind
    ·rw[getD_set_ne false hij]at hj;exact getD_set_true (hc j o' hj ho' e he hbd)
end
def QM(m:Nat)(g0:Yx)(H0:AC)(w0:World)(N:Nat)(D:DP)(Q:Z3->AS->Prop):Exit->Act->World->Prop
 | .normal,a,w=>∃s,Q .normal s/\Sim m g0 H0 w0 N D s a w
 | .exit i,a,w=>∃s,Q (.exit i) s/\Sim m g0 H0 w0 N D s a w
 | .ret,a,w=>∃s,Q .ret s/\Sim m g0 H0 w0 N D s a w
 | .panic chain,a,w=>∃v H n,Q (.pan v) ⟨[],H,n⟩/\PSim m g0 H0 w0 D a.defers a.tmps v H n chain w
 |_,_,_=>False
def Sim.drawn{m:Nat}{g0:Yx}{H0:AC}{w0:World}{N:Nat}{D:DP}{s:AS}{a:Act}{w:World}(h:Sim m g0 H0 w0 N D s a w)(k:Nat):Sim m g0 H0 w0 N D s a {w with drawn:=k}:=by
 obtain⟨g,hR,hE,hT,hm,hN,hD⟩:=h;refine⟨g,⟨hR.σw,λid ob ho=>?_,hR.dom,hR.hd,hR.ap,hR.un,hR.gl,hR.gz⟩,hE,⟨hT.le,hT.βn,hT.os,hT.tape,hT.output,hT.size,hT.kept,hT.now,hT.nσ⟩,hm,hN,DOK.heap (w:=w) (w':={w with drawn:=k}) rfl hD⟩;have:=hR.obj id ob ho;cases ob<;>exact this
def Sim.trans{m m1:Nat}{g0 g1:Yx}{H0 H1:AC}{w0 w1:World}{N:Nat}{D:DP}{s':AS}{a':Act}{w':World}(hT:Yv m g0 H0 w0 g1 H1 w1)(hm:m<=m1)(h:Sim m1 g1 H1 w1 N D s' a' w'):
  Sim m g0 H0 w0 N D s' a' w':=by
 obtain⟨g,hR,hE,hT',hm',hN,hD⟩:=h;exact⟨g,hR,hE,hT.trans (hT'.floor hm),zo,hN,hD⟩
def PSim.trans{m m1:Nat}{D:DP}{ds:List Deferred}{tm:Array Value}{g0 g1:Yx}{H0 H1:AC}{w0 w1:World}{v:Fs}{H:AC}{n:Nat}{chain:List PanicEntry}{w':World}(hT:Yv m g0 H0 w0 g1 H1 w1)(hm:m<=m1)(h:PSim m1 g1 H1 w1 D ds tm v H n chain w'):
  PSim m g0 H0 w0 D ds tm v H n chain w':=by
 obtain⟨g,x,hR,hT',hm',hc,hv⟩:=h;exact⟨g,x,hR,hT.trans (hT'.floor hm),zo,hc,hv⟩
theorem G5{env:List (Nat×Bool×Fs)}:∀{env2:List (Nat×Bool×Fs)},PI env env2->∀{t:Nat} {gd:Bool} {v:Fs},eget env2 t=some (gd,v)->∃v',eget env t=some (gd,v')/\Wk v' v
 |[],_,t,gd,v,h=>by simp [eget]at h
 |(i,g,x)::r,⟨h1,h2⟩,t,gd,v,h=>by
  simp only[eget]at h;split at h
  ·rename_i e;subst e;cases h;exact h1
  ·exact G5 h2 h
theorem GE{n:Nat}:∀{env2:List (Nat×Bool×Fs)},GU n env2->∀{t:Nat} {gd:Bool} {v:Fs},eget env2 t=some (gd,v)->v.under n
 |[],_,t,gd,v,h=>by simp [eget]at h
 |(i,g,x)::r,⟨h1,h2⟩,t,gd,v,h=>by
  simp only[eget]at h;split at h
  ·cases h;exact h1
  ·exact GE h2 h
def Ns{m:Nat}{g0 g1:Yx}{H0:AC}{w0 w1:World}{N:Nat}{D:DP}{s1 s' s2:AS}{a':Act}{w':World}(hR:Z2 g1 s1.H s1.n w1)(hT:Yv m g0 H0 w0 g1 s1.H w1)(hm:m<=s1.n)
  (h:Sim s1.n g1 s1.H w1 N D s' a' w') (hw:H8 s1 s' s2):Sim m g0 H0 w0 N D s2 a' w':=by
 rcases hw with rfl|hw
 ·exact h.trans hT hm
 obtain⟨g,hR',hE,hT',hm',hN,hD⟩:=h;obtain⟨we,⟨e1,e2⟩|⟨e2,hf,hu⟩⟩:=hw
 ·refine⟨g,by rw[e1,e2];exact hR',λt gd v hg=>?_,by rw[e1];exact hT.trans (hT'.floor hm),by rw[e2];omega,hN,by rw[e1];exact hD⟩;obtain⟨v',p1,p2⟩:=G5 we hg;obtain⟨x,q1,q2,q3⟩:=hE t gd v' p1;exact⟨x,q1,λk=>p2 _ _ (q2 k),q3⟩
 ·obtain⟨r2,t2,ag⟩:=forget hR hR' hT' hf;refine⟨⟨g1.β,g.σ⟩,by rw[e2];exact r2,λt gd v hg=>?_,hT.trans (t2.floor hm),by rw[e2];omega,hN,hD.own λb=>NQ hT' hf⟩;obtain⟨v',p1,p2⟩:=G5 we hg;obtain⟨x,q1,q2,q3⟩:=hE t gd v' p1;exact⟨x,q1,λk=>VRel.agree ag v x (GE hu hg) (p2 _ _ (q2 k)),q3⟩
theorem G6(s:AS):∀(l:List Nat) (t:Nat),eget (l.filterMap λt=>(eget s.env t).map λx=>(t,x)) t=if t∈l then eget s.env t else none
 |[],t=>by simp [eget]
 |i::l,t=>by
  rw[List.filterMap_cons];cases h:eget s.env i with
  |none=>
   simp only[X4];rw[G6 s l t];by_cases e:t=i
   ·subst e;simp [h]
   ·simp [e]
  |some x=>
   simp only[Wt,eget];rw[G6 s l t];by_cases e:i=t
   ·subst e;simp [h]
   ·simp [e,Ne.symm e]
def Sim.keep{m:Nat}{g0:Yx}{H0:AC}{w0:World}{N:Nat}{D:DP}{s:AS}{a:Act}{w:World}(h:Sim m g0 H0 w0 N D s a w)(l:List Nat):Sim m g0 H0 w0 N D (s.keep l) a w:=by
 obtain⟨g,hR,hE,rest⟩:=h;refine⟨g,hR,λt gd v hg=>?_,rest⟩;simp only[AS.keep]at hg;rw[G6]at hg;split at hg
 ·exact hE t gd v hg
 ·cases hg
def La{kp:List Nat}{a b:AS}(h:SEq kp a b):a.keep kp=b.keep kp:=by
 obtain⟨h1,h2,h3⟩:=h;obtain⟨e1,H1,n1⟩:=a;obtain⟨e2,H2,n2⟩:=b;simp only at h1 h2 h3;subst h2;subst h3;simp only[AS.keep,AS.mk.injEq,Xk];have:∀l:List Nat,(∀t∈l,t∈kp)->(l.filterMap λt=>(eget e1 t).map λx=>(t,x))=l.filterMap λt=>(eget e2 t).map λx=>(t,x):=by
  intro l;induction l with
  |nil=>intro _;rfl
  |cons t l ih=>grind
 exact this kp λ_ h=>h
def SC{g:Yx}{env:List (Nat×Bool×Fs)}{a:Act}(hgl:Dg g)(he:BU g env a.tmps){x:Operand}{x':Yy}(h:copd x=some x')(i5:(lk env x').1=true)(hb:isB (lkv env x')):a.eval x= .bool (toB (lkv env x')):=by
 have:=CY hgl he h i5;generalize lkv env x'=v at this hb⊢;cases v<;>simp only[isB]at hb;exact this
def CU{P:Program}{b:Frame}{a:Act}{k:List Item}{cs:List Frame}{w:World}{c:Code}:step P (lone (b.atR a (.code (.scope c)::k)) cs w)= .next (lone (b.atR a (.code c:: .inScope c::k)) cs w):=
 step_lone_go (by simp [stepG,stepG.exec,Frame.atR])
def JF{P:Program}{b:Frame}{a:Act}{k:List Item}{cs:List Frame}{w:World}{c:Code}:step P (lone (b.atR a (.inScope c::k)) cs w)= .next (lone (b.atR a k) cs w):=
 step_lone_go (by simp [stepG,stepG.exec,Frame.atR])
theorem Nt{F:Fence}{n:Nat}{P:Program}{Q:Exit->Act->World->Prop}{a:Act}{w:World}{c:Code}(h:c.wpIn F n P (λe a w=>match e with
  | .goto _=>False
  |e=>Q e a w) a w):(Code.scope c).wpIn F n P Q a w:=by
 intro b k cs hro hb hr;have h0:(lone (b.atR a (.code (.scope c)::k)) cs w).fenced P F:=fenced_calm hb hr rfl;obtain⟨e,a₁,w₁,hq,harr⟩:=h b (.inScope c::k) cs hro hb hr;cases e with
 |normal=>exact⟨.normal,a₁,w₁,hq,.head h0 CU (StepsIn.trans harr (.one (fenced_calm hb hr rfl) JF))⟩
 |exit id=>exact⟨_,a₁,w₁,hq,λk' hk=>.head h0 CU (harr.1 k' (by simp [exitTo,hk])),λhr' hk=>let ⟨k₁,h1,h2⟩:=harr.2 hr' (by simp [exitTo,hk]);⟨k₁,h1,.head h0 CU h2⟩⟩
 |goto l=>exact hq.elim
 |ret=>exact⟨_,a₁,w₁,hq,.of_steps (.one h0 CU) harr⟩
 |panic ch=>exact⟨_,a₁,w₁,hq,.of_steps (.one h0 CU) harr⟩
 |outgrown=>exact⟨_,a₁,w₁,hq,.of_steps (.one h0 CU) harr⟩
def Nu(p:Nat->Prop)(h:∃k,p k):∃k,p k/\∀j,p j->k<=j:=by
 obtain⟨k,hk⟩:=h;induction k using Nat.strongRecOn with
 |_ k ih=>grind
section
variable {P:Program} {r:Option Nat} {N:Nat} {D:DP} {fz im:List (Nat×Nat)} {kp:Nat->List Nat}
theorem Nv{g:Operand}{g':Yy}{ps:Array Tmp}{asg body:Code}{Q:Z3->AS->Prop}{m:Nat}{g0:Yx}{H0:AC}{w0:World}{s:AS}{a:Act}{w:World}(hg:copd g=some g')
  (i5:(lk s.env g').1=true) (h:Fw P s Q ps N asg body (lkv s.env g')) (hs:Sim m g0 H0 w0 N D s a w) (hDw:D.fl<=w0.heap.size) (i7:D.no=false):(Code.rangeFunc g ps asg body).wpIn (FR none) 0 P (QM m g0 H0 w0 N D Q) a w:=by
 obtain⟨gh,hR,hE,hT,hm,hN,hD⟩:=hs;have hv:=CY hR.gl hE hg i5;generalize lkv s.env g'=gv at h hv;cases gv<;>simp only[Fw]at h;rename_i ff first cap
 cases ff<;>simp only at h;rename_i fid;obtain⟨fv,cv,e1,k1,k2⟩:=hv;refine wpIn_rangeFunc λfn hfn=>?_
 have hl:=h (w.heap.size+1);obtain⟨hcb,hc⟩:=hl;have hcb':=hcb;obtain⟨fn',c1,c2,c3⟩:=hcb';have c3':¬fn'.name= "runtime.NumGoroutine" :=by simpa using c3
 have c4:¬fn'.body=none:=by cases hb:fn'.body<;>simp_all
 let rec0:Loop:={state:=.ready,pending:=none,fn:=fn,tmps:=a.tmps,params:=ps,assign:=asg,body:=body,defers:=w.heap.size}
 let wa:World:=w.alloc (.deferred (some []))
 let wb:World:=wa.alloc (.loop rec0)
 have hxa:HExt w wa:=HExt.push (w:=w) (w':=wa) rfl;have hRa:Z2 ⟨gh.β,gh.σ⟩ s.H s.n wa:=hR.grow hxa (λ_ _ _ x=>x) (λ_ _ _ x=>.inl x);have hTa:Yv s.n gh s.H w ⟨gh.β,gh.σ⟩ s.H wa:=Yv.grow hxa rfl rfl rfl (λ_ _ _ x=>x) (λ_ _ _ x=>.inl x);have hRa1:Z2 ⟨gh.β,gh.σ⟩ s.H (s.n+1) wa:=⟨hRa.σw,hRa.obj,hRa.dom,λid ob q=>Nat.lt_succ_of_lt (hRa.hd id ob q),hRa.ap,hRa.un,hRa.gl,hRa.gz⟩;have hnone:hget s.H s.n=none:=by
  cases q:hget s.H s.n with
  |none=>rfl
  |some ob=>exact absurd (hR.hd _ _ q) (Nat.lt_irrefl _)
 have hsza:wa.heap.size=w.heap.size+1:=World.size_alloc ..;have hgle:gh.le ⟨λi=>if i=s.n then some ⟨w.heap.size+1,0,1⟩else gh.β i,gh.σ⟩:=⟨λi L q=>by
  have:i≠s.n:=by rintro rfl;exact absurd hnone ((hR.dom _ _ q).1)
  simp [this,q],λ_ _ _ q=>q⟩
 obtain⟨hRb,hTb,hle⟩:=hRa1.new (m:=s.n) (w':=wb) (x:=Obj.loop rec0) rfl rfl rfl rfl hnone (Nat.lt_succ_self _) (V4 _) (L:=⟨w.heap.size+1,0,1⟩) hsza.symm
  (ob:=.lp ⟨w.heap.size+1,.ready,none,N,s.env,ps,asg,body⟩)
  ⟨⟨w.heap.size+1,0,1⟩,zw,rfl,rfl,rfl,rec0,by rw[<-hsza];exact World.alloc_heap_new wa _,rfl,rfl,rfl,rfl,rfl,hE.mono hgle,hN⟩
 have hT1:=hTa.trans hTb
 have hmark:∀b ob,hget (hset s.H s.n ob) b≠none->True:=λ_ _ _=>trivial
 obtain⟨ms,hms,hMOK,-⟩:=hD;have hDb:DOK D ⟨λi=>if i=s.n then some ⟨w.heap.size+1,0,1⟩else gh.β i,gh.σ⟩ (hset s.H s.n (.lp ⟨w.heap.size+1,.ready,none,N,s.env,ps,asg,body⟩)) ([{target:=.collected w.heap.size,args:= #[]}]++a.defers) a.tmps wb:=by
  refine⟨{target:=.collected w.heap.size,args:= #[]}::ms,by rw[hms];rfl,⟨⟨w.heap.size,rfl,WD hDw hT.size,?_,?_,?_⟩,?_⟩,λh=>by rw[i7]at h;cases h⟩
  ·exact HExt.push (w:=wa) (w':=wb) rfl _ _ (World.alloc_heap_new w _)
  ·rintro⟨id,ob,L,q1,q2,q3,q4,q5,q6⟩;by_cases e:id=s.n
   ·subst e;simp at q3;subst q3;simp at q4
   ·simp only[V5 e]at q3;rw[AA _ _ _ _ (Ne.symm e)]at q1;have:=(hR.dom id L q3).2 zo;omega
  ·intro d hd e;obtain⟨b,q1,q2⟩:=MOK.blk hMOK d hd;rw[q1]at e;have:b=w.heap.size:=by simpa using e
   omega
  ·exact MOK.step hT1 hMOK
 have hargs:VRels ⟨λi=>if i=s.n then some ⟨w.heap.size+1,0,1⟩else gh.β i,gh.σ⟩ (first++[.fn (.yield (w.heap.size+1)) [] []]++cap) (fv++ #[Value.func (.yield (w.heap.size+1)) #[] #[]]++cv).toList:=by
  simp only[Array.toList_append];refine VRels.append' (VRels.append' (VRels.mono hgle _ _ k1) ?_) (VRels.mono hgle _ _ k2);exact⟨_,_,rfl,⟨#[], #[],rfl,rfl,rfl⟩,rfl⟩
 have hcalls:=hc _ wb _ hRb hargs;simp only[Y3]at hcalls;refine⟨w.heap.size+1,[{target:=.collected w.heap.size,args:= #[]}],wb,⟨.fn (.func fid) cv,fv++ #[Value.func (.yield (w.heap.size+1)) #[] #[]]⟩,wb,fid,fv++ #[Value.func (.yield (w.heap.size+1)) #[] #[]]++cv,wb,run_enterLoop_outer fn a.tmps ps asg body,?_,λ_ _=>trivial,?_,by simp [FR,Fence.wide],?_⟩
 ·have ev:a.eval (.const (.func (.yield (w.heap.size+1)) #[] #[]))=Value.func (.yield (w.heap.size+1)) #[] #[]:=rfl;simp [resolve,e1,Deferred.ofValue,ev]
 ·simp [invoke,callFunc,c1,c3',c4]
 refine(callsIn_wide (n:=0-1)).2 (hcalls.mono ?_);rintro e w' ⟨g',out,H',n',hq,he,r1,hn',t1⟩;have hT2:Yv s.n gh s.H w g' H' w':=hT1.trans (t1.floor zo);have hD':DOK D g' H' ([{target:=.collected w.heap.size,args:= #[]}]++a.defers) a.tmps w':=hDb.step t1;cases e with
 |outgrown=>cases out<;>exact he.elim
 |panicked ch=>
  cases out with
  |ret v=>exact he.elim
  |pan v=>
   obtain⟨x,rfl,k⟩:=he;exact⟨v,H',n',hq,g',x,r1,hT.trans (hT2.floor hm),zo,rfl,k,hD'⟩
 |returned x=>
  cases out with
  |pan v=>exact he.elim
  |ret v=>
   simp only[Gl]at hq;cases ho:hget H' s.n with
   |none=>simp [ho]at hq
   |some ob=>
    cases ob<;>simp only[ho]at hq;rename_i y;obtain⟨hbusy,hq⟩:=hq;obtain⟨L,q1,q2,q3,q4,r,p1,p2,p3,p4⟩:=r1.obj _ _ ho;have hL:L=⟨w.heap.size+1,0,1⟩:=by
     have:=t1.le.β s.n ⟨w.heap.size+1,0,1⟩ zw;rw[q1]at this;exact Option.some.inj this
    subst hL;simp only at p1 q4;have hend:(Instr.endLoop (w.heap.size+1)).run P w'= .ok y.pend (w'.putObj (w.heap.size+1) (.loop {r with state:=.exhausted})):=by
     rw[<-p3];exact run_endLoop (P:=P) p1 (by rw[p2];exact hbusy)
    have c6:w.heap.size+1<w'.heap.size:=(Wc.1 p1).1
    obtain⟨rk,tk⟩:=r1.kill (m:=s.n) ho;have hup:=r1.upd (m:=s.n) (w':=w'.putObj (w.heap.size+1) (.loop {r with state:=.exhausted})) (ob':=.dead) ho rfl q1 rfl rfl rfl (by simp [World.putObj]) (λb hb=>by simp [World.putObj,WX (Ne.symm hb)])
     (.inr ⟨rfl,rfl,_,p1,zw⟩) trivial
    obtain⟨rk',tk'⟩:=hup;have hsim:∀s',s'=({s with H:=hset H' s.n .dead,n:=n'}:AS)->Sim m g0 H0 w0 N D s' {a with defers:=[{target:=.collected w.heap.size,args:= #[]}]++a.defers} (w'.putObj (w.heap.size+1) (.loop {r with state:=.exhausted})):=by
     rintro _ rfl;exact⟨g',rk',hE.mono (hgle.trans t1.le),(hT.trans (hT2.floor hm)).trans (tk'.floor hm),zp,hN,hD'.step tk'⟩
    generalize w'.putObj (w.heap.size+1) (.loop {r with state:=.exhausted})=W at hend hsim;refine⟨y.pend,W,hend,?_⟩;cases hp:y.pend with
    |none=>simp only[hp]at hq;exact⟨_,hq,hsim _ rfl⟩
    |some c=>
     simp only[hp]at hq;cases c<;>simp only at hq
     ·exact wpIn_exit ⟨_,hq,hsim _ rfl⟩
     ·exact wpIn_ret ⟨_,hq,hsim _ rfl⟩
theorem Sim.freeze{m:Nat}{g0:Yx}{H0:AC}{w0:World}{s:AS}{a:Act}{w:World}{t:Nat}{Q:Z3->AS->Prop}(h:frzA Q s t (eget s.env t))(hs:Sim m g0 H0 w0 N D s a w):∃s',Q .normal s'/\Sim m g0 H0 w0 N D s' a w:=by
 obtain⟨g,hR,hE,hT,hm,hN,hD⟩:=hs;unfold frzA at h;split at h;case h_3=>exact h.elim
 case h_2=>
  split at h
  ·rename_i ho;obtain⟨rfl,h1,hQ⟩:=h;obtain⟨r1,t1⟩:=hR.rebox (m:=m) ho h1;exact⟨_,hQ,g,r1,hE,hT.trans t1,hm,hN,hD.step t1⟩
  ·exact⟨_,h,g,hR,hE,hT,hm,hN,hD⟩
  ·exact h.elim
 rename_i id e off len cap heg;obtain⟨x,x1,x2,-⟩:=hE t true _ heg;obtain⟨L,k1,k2,rfl⟩:=x2 rfl
 have val:∀(g':Yx) (H':AC) (l:List Fs),g.le g'->ORel g' w id (.frz e l)->off+len<=l.length->len<=cap->VRel g' (.sl (if len=cap then .exact e else .none e) ((l.drop off).take len)) (.slice (some ⟨L.blk,off*e,none⟩) len cap):=by
  intro g' H' l hle ho h1 h2;obtain⟨L',j1,j2,j3⟩:=ho;rw[hle.β _ _ k1]at j1;cases j1;have d6:((l.drop off).take len).length=len:=by simp;omega
  have hst:=Stab.take len _ _ (Stab.drop off _ _ j3);rw[Wr]at hst;by_cases hc:len=cap
  ·rw[Vv hc];exact .inr ⟨trivial,L.blk,off*e,cap,⟨none,by rw[d6],.inl rfl⟩,by rw[d6];exact h2,hst,by rw[d6];exact hc.symm⟩
  ·rw[V5 hc];exact .inr ⟨trivial,L.blk,off*e,cap,⟨none,by rw[d6],.inl rfl⟩,by rw[d6];exact h2,hst,trivial⟩
 have env:∀(g':Yx) (v:Fs),g.le g'->VRel g' v (.slice (some ⟨L.blk,off*e,none⟩) len cap)->BU g' ((t,true,v)::s.env) a.tmps:=by
  intro g' v hle hv t' gd v' hg;simp only[eget]at hg;split at hg
  ·simp_all
  ·exact(hE.mono hle) t' gd v' hg
 split at h
 ·rename_i e' l ho;obtain⟨rfl,h1,h2,hQ⟩:=h;obtain⟨σ',r1,t1⟩:=hR.freeze (m:=m) ho;exact⟨_,hQ,_,r1,env _ _ t1.le (val _ H0 l t1.le (r1.obj id _ (AB ..)) h1 h2),hT.trans t1,hm,hN,hD.step t1⟩
 ·rename_i e' l ho;obtain⟨rfl,h1,h2,hQ⟩:=h;exact⟨_,hQ,g,hR,env g _ (.refl g) (val g H0 l (.refl g) (hR.obj id _ ho) h1 h2),hT,hm,hN,hD⟩
 ·exact h.elim
theorem Sim.freezeo{m:Nat}{g0:Yx}{H0:AC}{w0:World}{s:AS}{a:Act}{w:World}{t:Nat}{Q:Z3->AS->Prop}(h:FX Q s t (eget s.env t))(hs:Sim m g0 H0 w0 N D s a w):∃s',Q .normal s'/\Sim m g0 H0 w0 N D s' a w:=by
 obtain⟨g,hR,hE,hT,hm,hN,hD⟩:=hs;unfold FX at h;split at h;case h_3=>exact h.elim
 case h_2 tok l heg=>
  obtain⟨x,x1,x2,-⟩:=hE t true _ heg;refine⟨_,h,g,hR,?_,hT,hm,hN,hD⟩;intro t' gd v' hg;simp only[eget]at hg;split at hg
  ·simp_all
  ·exact hE t' gd v' hg
 case h_1 id e off len cap heg=>
  obtain⟨x,x1,x2,-⟩:=hE t true _ heg;split at h;case h_2=>exact h.elim
  rename_i e' l ho;obtain⟨rfl,rfl,h1,h2,hQ⟩:=h;obtain⟨g',v1,r1,t1⟩:=hR.own (m:=m) ho hm h1 h2 (x2 rfl);refine⟨_,hQ,g',r1,?_,hT.trans t1,zp,hN,hD.step t1⟩;intro t' gd v' hg;simp only[eget]at hg;split at hg
  ·simp_all
  ·exact(hE.mono t1.le) t' gd v' hg
theorem Cv{m:Nat}{g0:Yx}{H0:AC}{w0:World}{c:Code}{a:Act}{w:World}{s:AS}{P:Program}{r:Option Nat}:∀(l:List Nat) (ac:Yw) (Q:Z3->AS->Prop),awp P (l.foldl (λc t=>.seq c (if Nat.ble 5000 t then .frzo (t-5000)else .frz (t-1000))) ac) Q s->
  (∀Q',awp P ac Q' s->c.wpIn (FR r) 0 P (QM m g0 H0 w0 N D Q') a w)->c.wpIn (FR r) 0 P (QM m g0 H0 w0 N D Q) a w
 |[],ac,Q,h,hc=>hc Q h
 |t::l,ac,Q,h,hc=>Cv l (.seq ac (if Nat.ble 5000 t then .frzo (t-5000)else .frz (t-1000))) Q h λQ' h'=>by
  refine wpIn_mono (hc _ h') λe a' w' hq=>?_
  cases e with
  |normal=>
   obtain⟨s',q1,q2⟩:=hq;by_cases ht:Nat.ble 5000 t=true
   ·simp only[ht,WB]at q1;exact Sim.freezeo q1 q2
   ·simp only[ht]at q1;exact Sim.freeze q1 q2
  |exit i=>exact hq
  |ret=>exact hq
  |panic c=>exact hq
  |goto l=>exact hq
  |outgrown=>exact hq
theorem BY:∀(c:Code) {ac:Yw} {Q:Z3->AS->Prop} {m:Nat} {g0:Yx} {H0:AC} {w0:World} {s:AS} {a:Act} {w:World},Aw P N fz im kp c=some ac->(r=none/\D.no=false)\/ac.plain=true->D.fl<=w0.heap.size/\D.lo<=loF fz->awp P ac Q s->Sim m g0 H0 w0 N D s a w->
  c.wpIn (FR r) 0 P (QM m g0 H0 w0 N D Q) a w
 | .skip,ac,Q,m,g0,H0,w0,s,a,w,hc,hp,hDw,h,hs=>by
  simp only[Aw]at hc;cases hc;exact wpIn_skip ⟨s,h,hs⟩
 | .label l,ac,Q,m,g0,H0,w0,s,a,w,hc,hp,hDw,h,hs=>by
  simp only[Aw]at hc;cases hc;exact wpIn_label ⟨s,h,hs⟩
 | .exit i,ac,Q,m,g0,H0,w0,s,a,w,hc,hp,hDw,h,hs=>by
  simp only[Aw]at hc;cases hc;exact wpIn_exit ⟨s,h,hs⟩
 | .ret,ac,Q,m,g0,H0,w0,s,a,w,hc,hp,hDw,h,hs=>by
  simp only[Aw]at hc;cases hc;exact wpIn_ret ⟨s,h,hs⟩
 | .seq x y,ac,Q,m,g0,H0,w0,s,a,w,hc,hp,hDw,h,hs=>by
  simp only[Aw]at hc;split at hc
  ·rename_i ax ay h1 h2;cases hc;have hp':((r=none/\D.no=false)\/ax.plain=true)/\((r=none/\D.no=false)\/ay.plain=true):=by
    rcases hp with e|e
    ·exact⟨.inl e,.inl e⟩
    ·simp_all [Yw.plain,V7]
   refine wpIn_seq (wpIn_mono (BY x h1 hp'.1 hDw h hs) λe a' w' hq=>?_);cases e with
   |normal=>obtain⟨s',q1,q2⟩:=hq;exact BY y h2 hp'.2 hDw q1 q2
   |exit i=>exact hq
   |ret=>exact hq
   |panic c=>exact hq
   |goto l=>exact hq
   |outgrown=>exact hq
  ·cases hc
 | .block id x,ac,Q,m,g0,H0,w0,s,a,w,hc,hp,hDw,h,hs=>by
  simp only[Aw]at hc;cases h1:Aw P N fz im kp x with
  |none=>simp [h1]at hc
  |some ax=>
   simp [h1]at hc;subst hc;refine wpIn_block (wpIn_mono (BY x h1 hp hDw h hs) λe a' w' hq=>?_);cases e with
   |normal=>exact hq
   |exit i=>
    obtain⟨s',q1,q2⟩:=hq;simp only[Exit.inBlock]at q1⊢;split
    ·rename_i e;rw[Vv e]at q1;exact⟨s',q1,q2⟩
    ·rename_i e;rw[V5 e]at q1;exact⟨s',q1,q2⟩
   |ret=>exact hq
   |panic c=>exact hq
   |goto l=>exact hq
   |outgrown=>exact hq
 | .cond c x y,ac,Q,m,g0,H0,w0,s,a,w,hc,hp,hDw,h,hs=>by
  simp only[Aw]at hc;split at hc
  ·rename_i c' ax ay h1 h2 h3;cases hc;obtain⟨q1,q2,q3,q4⟩:=h;obtain⟨g,hR,hE,rest⟩:=hs;have e:=SC hR.gl hE h1 q1 q2;have hp':((r=none/\D.no=false)\/ax.plain=true)/\((r=none/\D.no=false)\/ay.plain=true):=by
    rcases hp with e|e
    ·exact⟨.inl e,.inl e⟩
    ·simp_all [Yw.plain,V7]
   refine wpIn_cond_split e (λht=>BY x h2 hp'.1 hDw (q3 ht) ⟨g,hR,hE,rest⟩) (λht=>BY y h3 hp'.2 hDw (q4 ht) ⟨g,hR,hE,rest⟩)
  ·cases hc
 | .loop x,ac,Q,m,g0,H0,w0,s,a,w,hc,hp,hDw,h,hs=>by
  simp only[Aw]at hc;cases h1:Aw P N fz im kp x with
  |none=>simp [h1]at hc
  |some ax=>
   simp [h1]at hc;subst hc;obtain⟨I,μ,hI,hround⟩:=h
   classical
   let J:Act->World->Nat->Prop:=λa w k=>∃s,I s/\Sim m g0 H0 w0 N D s a w/\μ s=k
   let μ':Act->World->Nat:=λa w=>if hx:∃k,J a w k then Classical.choose (Nu _ hx)else 0
   have hμ':∀a w,(∃k,J a w k)->J a w (μ' a w)/\∀j,J a w j->μ' a w<=j:=by
    intro a w hx;have e:μ' a w=Classical.choose (Nu _ hx):=by simp only[μ'];rw[dif_pos hx]
    rw[e];exact Classical.choose_spec (Nu _ hx)
   refine wpIn_loop (λa w=>∃k,J a w k) μ' ⟨_,s,hI,hs,rfl⟩ ?_;rintro a1 w1 hx;obtain⟨⟨s1,hI1,hs1,hμ1⟩,-⟩:=hμ' a1 w1 hx;obtain⟨g1,hR1,hE1,hT1,hm1,hN1,hD1⟩:=hs1;have j8:Sim s1.n g1 s1.H w1 N D s1 a1 w1:=⟨g1,hR1,hE1,Yv.refl _ _ _ _,V4 _,hN1,hD1⟩;refine wpIn_mono (BY x h1 hp ⟨WD hDw.1 hT1.size,hDw.2⟩ (hround s1 hI1) j8) λe a' w' hq=>?_
   cases e with
   |normal=>
    obtain⟨s',⟨s2,q1,q2,q3⟩,q4⟩:=hq;have hs2:=Ns hR1 hT1 hm1 q4 q1;have hx':∃k,J a' w' k:=⟨_,s2,q2,hs2,rfl⟩;refine⟨hx',?_⟩;have e3:=(hμ' a' w' hx').2 _ ⟨s2,q2,hs2,rfl⟩;omega
   |exit i=>obtain⟨s',q1,q2⟩:=hq;exact⟨s',q1,q2.trans hT1 hm1⟩
   |ret=>obtain⟨s',q1,q2⟩:=hq;exact⟨s',q1,q2.trans hT1 hm1⟩
   |panic c=>obtain⟨v,H,n,q1,q2⟩:=hq;exact⟨v,H,n,q1,q2.trans hT1 hm1⟩
   |goto l=>exact hq
   |outgrown=>exact hq
 | .region id ops draw,ac,Q,m,g0,H0,w0,s,a,w,hc,hp,hDw,h,hs=>by
  simp only[Aw]at hc;split at hc
  ·rename_i l hl;split at hc
   ·rename_i hd;cases hc;refine Cv (P:=P) (c:=.region id ops draw) _ _ _ h λQ h=>?_
    have hmb:m<=s.n:=by obtain⟨g,_,_,_,hm,_⟩:=hs;exact hm
    have hs1:Sim m g0 H0 w0 N D {s with n:=s.n+(if Du l=true then ops.size else 0)} a w:=by
     obtain⟨g,hR,hE,hT,hm,rest⟩:=hs;exact⟨g,⟨hR.σw,hR.obj,hR.dom,λid ob ho=>X6 (hR.hd id ob ho) (Wx _ _),hR.ap,hR.un,hR.gl,hR.gz⟩,hE,hT,WD hm (Wx _ _),rest⟩
    have hbump:Du l=true->s.n+ops.size<=({s with n:=s.n+(if Du l=true then ops.size else 0)}:AS).n:=λq=>by simp [q]
    have d6:l.length=ops.size:=by rw[(Cc _ _ _ hl).1,Ws]
    have hrun:DA P (λv H n=>Q (.pan v) ⟨[],H,n⟩) s.n (EO l (List.range ops.size)) (λs'=>Q .normal (s'.keep (kp id))) {s with n:=s.n+(if Du l=true then ops.size else 0)}:=by
     rw[<-d6,LX];rw[d6];exact h
    cases draw with
    |false=>
     refine wpIn_region (KJ hl hDw.2 hmb (λv H' n' chain a' w' q1 q2=>⟨v,H',n',q1,q2⟩) (λs' a' w' q1 q2=>⟨_,q1,q2.keep _⟩) _ _ a w (λi hi=>Wy.1 hi) hrun hs1 hbump)
    |true=>
     obtain⟨d1,d2,d3⟩:=hd.resolve_left zw;have hrem:remL ops (Array.replicate ops.size false)=List.range ops.size:=by simp_all [remL]
     refine wpIn_region_any d3 (Nr (kp:=kp id) hl hDw.2 d1 (λx hx=>?_) (λa b hab hk=>?_) hmb (λv H' n' chain a' w' q1 q2=>⟨v,H',n',q1,q2⟩) (λs' a' w' q1 q2=>⟨_,q1,q2.keep _⟩)
      _ _ _ a _ (by rw[hrem];simp) zw (λj o hj=>?_) (by rw[hrem];exact hrun) (hs1.drawn _) hbump)
     ·unfold IC at d2;have:=(W4.1 d2) x hx;rw[Wd]at this;rcases this with e|e
      ·left;simpa using e
      ·right;intro d hd';rw[hd']at e;simpa using e
     ·rw[<-La hab];exact hk
     ·exfalso;by_cases hjs:j<ops.size
      ·simp [hjs]at hj
      ·simp [hjs]at hj
   ·rename_i m0;split at hc
    ·rename_i hd;cases hc;refine Cv (P:=P) (c:=.region id ops draw) _ _ _ h λQ h=>?_
     have hmb:m<=s.n:=by obtain⟨g,_,_,_,hm,_⟩:=hs;exact hm
     have hs1:Sim m g0 H0 w0 N D {s with n:=s.n+(if Du l=true then ops.size else 0)} a w:=by
      obtain⟨g,hR,hE,hT,hm,rest⟩:=hs;exact⟨g,⟨hR.σw,hR.obj,hR.dom,λid ob ho=>X6 (hR.hd id ob ho) (Wx _ _),hR.ap,hR.un,hR.gl,hR.gz⟩,hE,hT,WD hm (Wx _ _),rest⟩
     have hbump:Du l=true->s.n+ops.size<=({s with n:=s.n+(if Du l=true then ops.size else 0)}:AS).n:=λq=>by simp [q]
     have d6:l.length=ops.size:=by rw[(Cc _ _ _ hl).1,Ws]
     have hrun:runX P (λv H n=>Q (.pan v) ⟨[],H,n⟩) s.n (cxOf s.env s.n) (xAt fz l (List.range ops.size)) (λs'=>Q .normal (s'.keep (kp id))) {s with n:=s.n+(if Du l=true then ops.size else 0)}:=by
      rw[<-d6];rw[d6];rw[d6]at h;exact h
     have hdr:draw=true:=by cases draw<;>simp_all
     subst hdr;obtain⟨d1,d2,d3⟩:=hd;have hrem:remL ops (Array.replicate ops.size false)=List.range ops.size:=by simp_all [remL]
     refine wpIn_region_any d3 (LY (kp:=kp id) hl hDw.2 d1 (λx hx=>?_) (λa b hab hk=>?_) hmb (λv H' n' chain a' w' q1 q2=>⟨v,H',n',q1,q2⟩) (λs' a' w' q1 q2=>⟨_,q1,q2.keep _⟩)
      _ _ _ a _ (by rw[hrem];simp) zw (λj o hj=>?_) (by rw[hrem];exact hrun) (hs1.drawn _) hbump)
     ·unfold IC at d2;have:=(W4.1 d2) x hx;rw[Wd]at this;rcases this with e|e
      ·left;simpa using e
      ·right;intro d hd';rw[hd']at e;simpa using e
     ·rw[<-La hab];exact hk
     ·exfalso;by_cases hjs:j<ops.size
      ·simp [hjs]at hj
      ·simp [hjs]at hj
    ·rename_i hnd2;split at hc
     ·rename_i hd;cases hc;refine Cv (P:=P) (c:=.region id ops draw) _ _ _ h λQ h=>?_
      have hmb:m<=s.n:=by obtain⟨g,_,_,_,hm,_⟩:=hs;exact hm
      have hs1:Sim m g0 H0 w0 N D {s with n:=s.n+(if Du l=true then ops.size else 0)} a w:=by
       obtain⟨g,hR,hE,hT,hm,rest⟩:=hs;exact⟨g,⟨hR.σw,hR.obj,hR.dom,λid ob ho=>X6 (hR.hd id ob ho) (Wx _ _),hR.ap,hR.un,hR.gl,hR.gz⟩,hE,hT,WD hm (Wx _ _),rest⟩
      have hbump:Du l=true->s.n+ops.size<=({s with n:=s.n+(if Du l=true then ops.size else 0)}:AS).n:=λq=>by simp [q]
      have d6:l.length=ops.size:=by rw[(Cc _ _ _ hl).1,Ws]
      have hrun:runX P (λv H n=>Q (.pan v) ⟨[],H,n⟩) s.n (cxOf s.env s.n) (xAt fz l (PV fz id)) (λs'=>Q .normal (s'.keep (kp id))) {s with n:=s.n+(if Du l=true then ops.size else 0)}:=by
       exact h
      have hdr:draw=true:=by cases draw<;>simp_all
      subst hdr;obtain⟨d1,d2,d3⟩:=hd;have hrem:remO (PV fz id) (Array.replicate ops.size false)=PV fz id:=by
       unfold remO;apply Yd.2;intro i hi;have:=d1;unfold J1 at this;simp only[V7]at this;have:=(W4.1 this.1.1.1.1.2) i hi;simp at this;simp [this]
      refine wpIn_region_any d3 (LZ (kp:=kp id) hl hDw.2 d1 (λx hx=>?_) (λa b hab hk=>?_) hmb (λv H' n' chain a' w' q1 q2=>⟨v,H',n',q1,q2⟩) (λs' a' w' q1 q2=>⟨_,q1,q2.keep _⟩)
       _ _ _ a _ (by rw[hrem];have:=d1;unfold J1 at this;simp only[V7,Vu]at this;exact this.1.1.1.1.1) zw (λj o hj=>?_) (by rw[hrem];exact hrun) (hs1.drawn _) hbump)
      ·unfold IC at d2;have:=(W4.1 d2) x hx;rw[Wd]at this;rcases this with e|e
       ·left;simpa using e
       ·right;intro d hd';rw[hd']at e;simpa using e
      ·rw[<-La hab];exact hk
      ·exfalso;by_cases hjs:j<ops.size
       ·simp [hjs]at hj
       ·simp [hjs]at hj
     ·cases hc
  ·cases hc
 | .goto l,ac,Q,m,g0,H0,w0,s,a,w,hc,hp,hDw,h,hs=>by simp [Aw]at hc
 | .scope x,ac,Q,m,g0,H0,w0,s,a,w,hc,hp,hDw,h,hs=>by
  simp only[Aw]at hc;refine Nt (wpIn_mono (BY x hc hp hDw h hs) λe a' w' hq=>?_);cases e with
  |goto l=>exact hq.elim
  |normal=>exact hq
  |exit i=>exact hq
  |ret=>exact hq
  |panic c=>exact hq
  |outgrown=>exact hq
 | .rangeFunc g ps asg body,ac,Q,m,g0,H0,w0,s,a,w,hc,hp,hDw,h,hs=>by
  simp only[Aw]at hc;cases h1:copd g with
  |none=>simp [h1]at hc
  |some g'=>
   simp [h1]at hc;subst hc;rcases hp with e|e
   ·obtain⟨rfl,e⟩:=e;exact Nv h1 h.1 h.2 hs hDw.1 e
   ·cases e
 | .refuse l,ac,Q,m,g0,H0,w0,s,a,w,hc,hp,hDw,h,hs=>by simp [Aw]at hc
end
end Go.AM
