/-
  Parts of the proof. Conditions: none.
-/
import Derived.Test.YtabcmhkkohbdeaaGreatB3
import Derived.ControlIn
import Derived.RangeFuncRecord
import Derived.RangeFuncIn
set_option maxRecDepth 20000
set_option linter.all false
namespace Go.AM
section
variable {P:Program} {Qp:Fs->AB->Nat->Prop} {base:Nat} {kp:List Nat}
def HR(H H':AB):Prop:=H'=H\/∃id ob,AD H id=none/\H'=hset H id ob
def HA(H H':AB):Prop:=H'=H\/∃tok id,AD H id=none/\(∀i e,tok= .own i e->AD H i=some .tok)/\H'=hset (AU H tok) id .tok
def XOp.free:XOp->Prop
 | .nileq .. | .tas .. =>True
 |_=>False
variable {H:AB} {l:List Fs} {b:Nat}
theorem Qm{x:XOp}(hx:x.free):(xE b x H l).2.1=H:=by
 cases x<;>first|exact hx.elim|skip
 ·rename_i kd q;rcases kd with _|_|_|kd<;>rcases l with _|⟨v,_|⟨v2,l⟩⟩<;>first|rfl|(cases v<;>rfl)
 ·rename_i t ok z;rcases ok with _|_<;>rcases l with _|⟨v,_|⟨v2,l⟩⟩<;>first|rfl|(cases v<;>rfl)
theorem V2{x:XOp}{H':AB}(hx:x.free):(xE b x H l).1=(xE b x H' l).1/\(xE b x H l).2.2=(xE b x H' l).2.2:=by
 cases x<;>first|exact hx.elim|skip
 ·rename_i kd q;rcases kd with _|_|_|kd<;>rcases l with _|⟨v,_|⟨v2,l⟩⟩<;>first|exact⟨rfl,rfl⟩|(cases v<;>exact⟨rfl,rfl⟩)
 ·rename_i t ok z;rcases ok with _|_<;>rcases l with _|⟨v,_|⟨v2,l⟩⟩<;>first|exact⟨rfl,rfl⟩|(cases v<;>exact⟨rfl,rfl⟩)
theorem Ir{kt:KT}{z:Fs}{ok:Bool}:(xE b (.look kt z ok) H l).2.1=H:=by
 rcases l with _|⟨v,_|⟨v2,_|⟨v3,l⟩⟩⟩<;>try rfl
 ·cases v<;>rfl
 ·cases v<;>try rfl
  simp only[xE];split<;>rfl
 ·cases v<;>rfl
theorem Ef{o:xz}{K:AS->Prop}{s:AS}(hc:o.k.cat≠5)(h:Ae P Qp base o K s):
  ∃H' g v,K ({s with H:=H'}.put o.dst g v)/\(∀K2:AS->Prop,K2 ({s with H:=H'}.put o.dst g v)->Ae P Qp base o K2 s)/\(o.guard=none->g=true)/\
   (o.k.cat=0\/o.k.cat=1\/o.k.cat=3->H'=s.H)/\(o.k.cat=2->HR s.H H')/\(o.k.cat=4->HA s.H H'):=by
 obtain⟨dst,guard,k⟩:=o;obtain⟨h0,h1⟩:=h;have hgn:guard=none->Bh s.env guard=true:=by rintro rfl;rfl
 have eff:∀{k:Io},(∀K2:AS->Prop,(Bh s.env guard=true->C6 s.env k.opds/\BP P Qp base ⟨dst,guard,k⟩ K2 s)/\(Bh s.env guard=false->K2 (s.put dst false (.tup [])))->Ae P Qp base ⟨dst,guard,k⟩ K2 s)->
   (Bh s.env guard=true->C6 s.env k.opds/\BP P Qp base ⟨dst,guard,k⟩ K s)/\(Bh s.env guard=false->K (s.put dst false (.tup [])))->
   (C6 s.env k.opds->BP P Qp base ⟨dst,guard,k⟩ K s->∃H' v,K ({s with H:=H'}.put dst true v)/\(∀K2:AS->Prop,K2 ({s with H:=H'}.put dst true v)->BP P Qp base ⟨dst,guard,k⟩ K2 s)/\(k.cat=0\/k.cat=1\/k.cat=3->H'=s.H)/\(k.cat=2->HR s.H H')/\(k.cat=4->HA s.H H'))->
   ∃H' g v,K ({s with H:=H'}.put dst g v)/\(∀K2:AS->Prop,K2 ({s with H:=H'}.put dst g v)->Ae P Qp base ⟨dst,guard,k⟩ K2 s)/\(guard=none->g=true)/\
    (k.cat=0\/k.cat=1\/k.cat=3->H'=s.H)/\(k.cat=2->HR s.H H')/\(k.cat=4->HA s.H H'):=by
  intro k hst hh he;by_cases hg:Bh s.env guard=true
  ·grind
  ·have hg:Bh s.env guard=false:=by simpa using hg
   exact⟨s.H,false,.tup [],hh.2 hg,λK2 hk=>hst K2 ⟨λq=>(by rw[hg]at q;cases q),λ_=>hk⟩,λq=>(by have:=hgn q;rw[hg]at this;cases this),λ_=>rfl,λ_=>.inl rfl,λ_=>.inl rfl⟩
 cases k with
 |v k=>exact⟨s.H,_,_,h1.2,λK2 hk=>⟨h0,h1.1,hk⟩,hgn,λ_=>rfl,λ_=>.inl rfl,λ_=>.inl rfl⟩
 |pick c a b=>exact⟨s.H,_,_,h1.2,λK2 hk=>⟨h0,h1.1,hk⟩,hgn,λ_=>rfl,λ_=>.inl rfl,λ_=>.inl rfl⟩
 |call qt f args=>
  cases qt with
  |true=>obtain⟨r,h1,h2⟩:=h1;exact⟨s.H,_,_,h2,λK2 hk=>⟨h0,r,h1,hk⟩,hgn,λ_=>rfl,λ_=>.inl rfl,λ_=>.inl rfl⟩
  |false=>exact absurd rfl hc
 |pan x=>exact absurd rfl hc
 |slA nn x lo hi=>exact absurd rfl hc
 |ext x xs=>
  cases x<;>first
   |exact absurd rfl hc
   |(refine eff (λK2 q=>⟨h0,q⟩) h1 λq1 q2=>?_
     obtain⟨p1,p2⟩:=q2;rw[Ir]at p2;exact⟨_,_,p2,λK2 hk=>⟨p1,by rw[Ir];exact hk⟩,λ_=>rfl,by simp [Io.cat],by simp [Io.cat]⟩)
   |(refine eff (λK2 q=>⟨h0,q⟩) h1 λq1 q2=>?_
     rename_i rel;obtain⟨p1,p2⟩:=q2;rcases xs with _|⟨_,_⟩
     ·exact⟨_,_,p2,λK2 hk=>⟨p1,hk⟩,by simp [Io.cat],λ_=>.inr ⟨_,_,p1,rfl⟩,by simp [Io.cat]⟩
     ·exact p1.elim)
   |(refine eff (λK2 q=>⟨h0,q⟩) h1 λq1 q2=>?_
     obtain⟨⟨p0,p1⟩,p2⟩:=q2;exact⟨_,_,p2,λK2 hk=>⟨⟨p0,p1⟩,hk⟩,by simp [Io.cat],λ_=>.inr ⟨_,_,p0,rfl⟩,by simp [Io.cat]⟩)
   |(refine eff (λK2 q=>⟨h0,q⟩) h1 λq1 q2=>?_
     obtain⟨p1,p2⟩:=q2;rw[Qm (by trivial)]at p2;exact⟨_,_,p2,λK2 hk=>⟨p1,by rw[Qm (by trivial)];exact hk⟩,λ_=>rfl,by simp [Io.cat],by simp [Io.cat]⟩)
 |appR rel esz bytes zero x y str=>exact absurd rfl hc
 |nils nq x=>exact absurd rfl hc
 |mnx x=>exact absurd rfl hc
 |cpu f args=>
  refine eff (λK2 q=>⟨h0,q⟩) h1 λq1 q2=>?_
  simp only[BP]at q2⊢;generalize AX s.env f=fv at q2⊢;cases fv<;>(try simp only[]at q2)<;>first|exact q2.elim|skip
  rename_i ff first cap
  cases ff<;>(try simp only[]at q2)<;>first|exact q2.elim|skip
  obtain⟨r,p1,p2⟩:=q2;exact⟨s.H,r,p2,λK2 hk=>⟨r,p1,hk⟩,λ_=>rfl,λ_=>.inl rfl,λ_=>.inl rfl⟩
 |alloc rel cs=>
  refine eff (λK2 q=>⟨h0,q⟩) h1 λq1 q2=>?_
  exact⟨_,_,q2.2,λK2 hk=>⟨q2.1,hk⟩,by simp [Io.cat],λ_=>.inr ⟨_,_,q2.1,rfl⟩,by simp [Io.cat]⟩
 |box rel sz x=>
  refine eff (λK2 q=>⟨h0,q⟩) h1 λq1 q2=>?_
  exact⟨_,_,q2.2.2.2,λK2 hk=>⟨q2.1,q2.2.1,q2.2.2.1,hk⟩,by simp [Io.cat],λ_=>.inr ⟨_,_,q2.1,rfl⟩,by simp [Io.cat]⟩
 |mks rel esz bytes zero x=>
  refine eff (λK2 q=>⟨h0,q⟩) h1 λq1 q2=>?_
  obtain⟨p1,p2,p3,p4,p5,p6,p7⟩:=q2;exact⟨_,_,p7,λK2 hk=>⟨p1,p2,p3,p4,p5,p6,hk⟩,by simp [Io.cat],λ_=>.inr ⟨_,_,p1,rfl⟩,by simp [Io.cat]⟩
 |st sz a x=>
  refine eff (λK2 q=>⟨h0,q⟩) h1 λq1 q2=>?_
  obtain⟨p1,p2,p3⟩:=q2;simp only[BP,p1,p2,tL];generalize AX s.env a=av at p3⊢;cases av<;>(try simp only[]at p3)<;>first|exact p3.elim|skip
  ·split at p3
   ·grind [Io.cat]
   ·exact p3.elim
  ·split at p3
   ·grind [Io.cat]
   ·exact p3.elim
 |app rel esz bytes x y str=>
  refine eff (λK2 q=>⟨h0,q⟩) h1 λq1 q2=>?_
  simp only[BP]at q2⊢;generalize AX s.env x=av at q2⊢;generalize CD s.H (AX s.env) esz y str=bv at q2⊢;cases av<;>(try simp only[]at q2)<;>first|exact q2.elim|skip
  rename_i tok l;cases bv<;>(try simp only[]at q2)<;>first|exact q2.elim|skip
  simp only[]at q2⊢;obtain⟨p1,p2,p3,p4,p5,p6⟩:=q2;refine⟨_,_,p6,λK2 hk=>⟨p1,p2,p3,p4,p5,hk⟩,by simp [Io.cat],by simp [Io.cat],λ_=>.inr ⟨tok,_,p1,?_,rfl⟩⟩;rintro i e rfl;exact p2.2
def Gj(o:xz)(H H':AB)(n n':Nat)(ρ:zz->Fs):Prop:=match o.k with
 | .v k=>(Bb H ρ k).1->Bb H ρ k=Bb H' ρ k
 | .call true _ _=>H=H'/\n=n'
 | .ext (.look ..) _=>H=H'
 |_=>True
theorem EE{o:xz}{K K':AS->Prop}{s1 s:AS}(hcat:o.k.cat=0\/o.k.cat=1\/o.k.cat=3)(hl:Fp o s1.env s.env)
  (hc:Bh s.env o.guard=true->C6 s.env o.k.opds->Gj o s1.H s.H s1.n s.n (AX s.env))
  (hK:∀g v v',(g=true->v=v')->(o.guard=none->g=true)->K (s1.put o.dst g v)->K' (s.put o.dst g v')):
  Ae P Qp base o K s1->Ae P Qp base o K' s:=by
 obtain⟨dst,guard,k⟩:=o;have hg:=Ee hl;have hgn:guard=none->Bh s1.env guard=true:=by rintro rfl;rfl
 simp only at hg hK;have rho:C6 s1.env k.opds->∀x∈k.opds,AX s1.env x=AX s.env x:=λh=>Nf hl (l:=k.opds) (λx hx=>hx) h
 have oksT:C6 s1.env k.opds->C6 s.env k.opds:=Nd hl (l:=k.opds) (λx hx=>hx);cases k with
 |v k=>
  rintro⟨h0,h1,h2⟩;have e:Bh s1.env guard=true->Bb s1.H (AX s1.env) k=Bb s.H (AX s.env) k:=λq=>by
   have e1:=Po (H:=s1.H) k (rho (h1 q).1);rw[e1];exact hc (hg▸q) (oksT (h1 q).1) (e1▸(h1 q).2)
  refine⟨DM hl h0,λq=>?_,?_⟩
  ·have q:Bh s1.env guard=true:=hg▸q;exact⟨oksT (h1 q).1,e q▸(h1 q).2⟩
  ·grind
 |pick c a b=>
  rintro⟨h0,h1,h2⟩;have l1:=Ed hl (x:=c) (by simp [Io.opds]);have l2:=Ed hl (x:=a) (by simp [Io.opds]);have l3:=Ed hl (x:=b) (by simp [Io.opds]);have ec:Bh s1.env guard=true->AX s1.env c=AX s.env c:=λq=>l1.2 (h1 q).1
  have hsel:∀(t:Bool) (x y x' y':Fs),(t=true->x=x')->(t=false->y=y')->Lq t x y=Lq t x' y':=by
   intro t x y x' y' p1 p2;cases t with
   |true=>have:=p1 rfl;subst this;cases x<;>cases y<;>cases y'<;>rfl
   |false=>have:=p2 rfl;subst this;cases y<;>cases x<;>cases x'<;>rfl
  refine⟨DM hl h0,λq=>?_,?_⟩
  ·simp_all
  ·show K' (s.put dst (Bh s.env guard) _);rw[<-hg];refine hK _ _ _ (λq=>?_) hgn h2;rw[<-ec q];obtain⟨q1,q2,q3,q4⟩:=h1 q;exact hsel _ _ _ _ _ (λp=>l2.2 (q3 p)) (λp=>l3.2 (q4 p))
 |call qt f args=>
  cases qt with
  |false=>simp [Io.cat]at hcat
  |true=>
   rintro⟨h0,r,h1,h2⟩;refine⟨DM hl h0,r,λq=>?_,?_⟩
   ·have q':Bh s1.env guard=true:=hg▸q;obtain⟨q1,q2,q3⟩:=h1 q';have q5:C6 s1.env (Io.call true f args).opds:=⟨q1,q2⟩;have rh:=rho q5;have e1:AX s1.env f=AX s.env f:=rh f (by simp [Io.opds]);have e2:args.map (AX s1.env)=args.map (AX s.env):=sY λx hx=>rh x (by simp [Io.opds,hx])
    obtain⟨c1,c2⟩:=hc q (oksT q5);refine⟨(oksT q5).1,(oksT q5).2,?_⟩;rw[e1,e2,c1,c2]at q3;exact q3
   ·grind
 |ext x xs=>
  have free:x.free->Ae P Qp base ⟨dst,guard,.ext x xs⟩ K s1->Ae P Qp base ⟨dst,guard,.ext x xs⟩ K' s:=by
   rintro hx ⟨h0,h1,h2⟩;refine⟨DM hl h0,λq=>?_,λq=>?_⟩
   ·have q':Bh s1.env guard=true:=hg▸q;obtain⟨q1,q2,q3⟩:=h1 q';have e2:xs.map (AX s1.env)=xs.map (AX s.env):=sY λx hx=>rho q1 x hx
    refine⟨oksT q1,?_,?_⟩
    ·show(xE base x s.H (xs.map (AX s.env))).1;rw[<-e2,<-(V2 (b:=base) (l:=xs.map (AX s1.env)) (H:=s1.H) (H':=s.H) hx).1];exact q2
    ·show K' ({s with H:=(xE base x s.H (xs.map (AX s.env))).2.1}.put dst true (xE base x s.H (xs.map (AX s.env))).2.2);have q3':K ({s1 with H:=(xE base x s1.H (xs.map (AX s1.env))).2.1}.put dst true (xE base x s1.H (xs.map (AX s1.env))).2.2):=q3;rw[Qm hx]at q3'⊢;exact hK true _ _ (λ_=>by rw[<-e2];exact(V2 hx).2) (λ_=>rfl) q3'
   ·grind
  cases x<;>first|(simp [Io.cat]at hcat;done)|exact free trivial|skip
  rintro⟨h0,h1,h2⟩;refine⟨DM hl h0,λq=>?_,λq=>?_⟩
  ·have q':Bh s1.env guard=true:=hg▸q;obtain⟨q1,q2,q3⟩:=h1 q';have e2:xs.map (AX s1.env)=xs.map (AX s.env):=sY λx hx=>rho q1 x hx
   have hH:s1.H=s.H:=hc q (oksT q1);simp only[Ir]at q3⊢;rw[e2,hH]at q2;refine⟨oksT q1,q2,?_⟩;rename_i kt z ok;have q3':K (s1.put dst true (xE base (.look kt z ok) s1.H (xs.map (AX s1.env))).2.2):=q3;have:=hK true _ (xE base (.look kt z ok) s.H (xs.map (AX s.env))).2.2 (λ_=>by rw[e2,hH]) (λ_=>rfl) q3';show K' ({s with H:=(xE base (.look kt z ok) s.H (xs.map (AX s.env))).2.1}.put dst true (xE base (.look kt z ok) s.H (xs.map (AX s.env))).2.2);rw[Ir];exact this
  ·grind
 |cpu f args=>
  rintro⟨h0,h1,h2⟩;refine⟨DM hl h0,λq=>?_,λq=>?_⟩
  ·have q':Bh s1.env guard=true:=hg▸q;obtain⟨q1,q3⟩:=h1 q';have e1:AX s1.env f=AX s.env f:=rho q1 f (by simp [Io.opds]);have e2:args.map (AX s1.env)=args.map (AX s.env):=sY λx hx=>rho q1 x (by simp [Io.opds,hx])
   refine⟨oksT q1,?_⟩;simp only[BP]at q3⊢;rw[e1,e2]at q3;generalize AX s.env f=fv at q3⊢;cases fv<;>(try simp only[]at q3)<;>first|exact q3.elim|skip
   rename_i ff first cap
   cases ff<;>(try simp only[]at q3)<;>first|exact q3.elim|skip
   obtain⟨r,p1,p2⟩:=q3;exact⟨r,p1,hK true _ _ (λ_=>rfl) (λ_=>rfl) p2⟩
  ·grind
 |_=>simp [Io.cat]at hcat
end
section
variable {P:Program} {Qp:Fs->AB->Nat->Prop} {base:Nat} {kp:List Nat}
theorem IG(s:AS)(H:AB)(n:Nat)(d:Option Nat)(g:Bool)(v:Fs):({s with H:=H,n:=n}:AS).put d g v={s.put d g v with H:=H,n:=n}:=by cases d<;>rfl
variable {H:AB} {ob:xq} {o:xz} {s:AS} {a:Fs} {ag:Bool} {id sz:Nat} {tok:w8}
theorem G3{dx dy:Option Nat}{gx gy:Bool}{vx vx' vy vy':Fs}(hd:∀d,dx=some d->dy≠some d)(hx:gx=true->vx=vx')(hy:gy=true->vy=vy')
  (kx:∀d,dx=some d->d∈kp->gx=true) (ky:∀d,dy=some d->d∈kp->gy=true):
  OJ kp ((s.put dx gx vx).put dy gy vy) ((s.put dy gy vy').put dx gx vx'):=by
 refine⟨λt=>?_,by simp [Bw],by simp [EO]⟩;simp only[GE];by_cases h1:dy=some t
 ·have h2:dx≠some t:=λh=>hd t h h1
  rw[rt h1,rj h2,rt h1];exact⟨⟨rfl,hy⟩,λm=>by rw[hy (ky t h1 m)]⟩
 ·rw[rj h1];by_cases h2:dx=some t
  ·rw[rt h2,rt h2];exact⟨⟨rfl,hx⟩,λm=>by rw[hx (kx t h2 m)]⟩
  ·rw[rj h2,rj h2,rj h1];exact⟨Ob.rfl' _,λ_=>rfl⟩
def Xc(H:AB):Fs->Prop
 | .ptr id _| .ap id _ _ _=>AD H id≠none
 |_=>True
theorem Ly(h:Xc H a)(hn:AD H id=none):A7 (hset H id ob) sz ag a=A7 H sz ag a:=by
 cases a<;>try rfl
 ·rename_i i off;have:id≠i:=by rintro rfl;exact h hn
  simp only[A7,AA _ _ _ _ this]
 ·rename_i i esz j off;have:id≠i:=by rintro rfl;exact h hn
  simp only[A7,AA _ _ _ _ this]
theorem Ng(h:(A7 H sz ag a).1):Xc H a:=by
 cases a<;>simp only[Xc]
 ·intro hn;simp [A7,hn]at h
 ·intro hn;simp [A7,hn]at h
theorem Sd{i:Nat}(hn:AD H id=none)(ht:∀j e,tok= .own j e->AD H j=some .tok)(ho:AD H i=some ob)(s6:ob≠ .tok):
  AD (hset (AU H tok) id .tok) i=some ob:=by
 have h1:id≠i:=by rintro rfl;rw[hn]at ho;cases ho
 rw[AA _ _ _ _ h1];cases tok<;>try exact ho
 rename_i j e;have h2:j≠i:=by rintro rfl;rw[ht _ _ rfl]at ho;cases ho;exact s6 rfl
 simp only[AU];rw[AA _ _ _ _ h2];exact ho
theorem KF{i:Nat}(ho:AD (hset (AU H tok) id .tok) i=some ob)(s6:ob≠ .tok)(hne2:ob≠ .dead):AD H i=some ob:=by
 by_cases h1:id=i
 ·simp_all [AC]
 ·rw[AA _ _ _ _ h1]at ho;cases tok<;>try exact ho
  rename_i j e;simp only[AU]at ho;by_cases h2:j=i
  ·simp_all [AC]
  ·rw[AA _ _ _ _ h2]at ho;exact ho
theorem Xd(hn:AD H id=none)(ht:∀j e,tok= .own j e->AD H j=some .tok)(h:(A7 H sz ag a).1):
  A7 H sz ag a=A7 (hset (AU H tok) id .tok) sz ag a:=by
 cases a<;>try rfl
 ·grind [A7,Sd]
 ·grind [A7,Sd]
theorem Oc(h:(A7 (hset (AU H tok) id .tok) sz ag a).1):
  A7 (hset (AU H tok) id .tok) sz ag a=A7 H sz ag a:=by
 cases a<;>try rfl
 ·grind [A7,KF]
 ·grind [A7,KF]
theorem Se(h:o.k.cat=0)(H H':AB)(n n':Nat)(ρ:zz->Fs):Gj o H H' n n' ρ:=by
 obtain⟨dst,guard,k⟩:=o;cases k with
 |v k=>cases k<;>first|(simp [Io.cat]at h;done)|exact λ_=>rfl
 |pick c a b=>trivial
 |call q f args=>cases q<;>simp [Io.cat]at h
 |ext x xs=>cases x<;>first|trivial|(simp [Io.cat]at h;done)
 |_=>trivial
theorem Sf(H:AB)(n:Nat)(ρ:zz->Fs):Gj o H H n n ρ:=by
 obtain⟨dst,guard,k⟩:=o;cases k with
 |v k=>exact λ_=>rfl
 |call q f args=>cases q<;>first|exact⟨rfl,rfl⟩|trivial
 |ext x xs=>cases x<;>first|trivial|exact(rfl:H=H)
 |_=>trivial
theorem V3(h:o.k.cat=1):∃sz ag x,o.k= .v (.ld sz ag x):=by
 obtain⟨dst,guard,k⟩:=o;cases k with
 |v k=>cases k<;>first|exact⟨_,_,_,rfl⟩|(simp [Io.cat]at h;done)
 |call q f args=>cases q<;>simp [Io.cat]at h
 |ext x xs=>cases x<;>simp [Io.cat]at h
 |_=>simp [Io.cat]at h
def Pp(o:xz)(s:AS):Prop:=∀sz ag x,o.k= .v (.ld sz ag x)->(lk s.env x).1=true->Xc s.H (AX s.env x)
def Ey(kp:List Nat)(o:xz):Prop:=o.guard=none\/∀d,o.dst=some d->d∉kp
theorem Ey.held(h:Ey kp o){g:Bool}(hg:o.guard=none->g=true):∀d,o.dst=some d->d∈kp->g=true:=λd hd hm=>h.elim hg λk=>absurd hm (k d hd)
structure Apart(x y:xz):Prop where
 xy:∀d,x.dst=some d->zz.t d∉y.k.opds/\(∀w,y.guard≠some (d,w))/\y.dst≠some d
 yx:∀d,y.dst=some d->zz.t d∉x.k.opds/\∀w,x.guard≠some (d,w)
theorem Dd{d:Option Nat}{g:Bool}{v:Fs}(h:∀i,d=some i->zz.t i∉o.k.opds/\∀w,o.guard≠some (i,w)):Fp o (s.put d g v).env s.env:=by
 refine⟨λi hi=>?_,λi w hg=>?_⟩
 ·rw[GE,rj (λe=>(h i e).1 hi)];exact Ob.rfl' _
 ·rw[GE,rj (λe=>(h i e).2 w hg)];exact Ob.rfl' _
theorem Fp.symm{e e':List (Nat×Bool×Fs)}(h:Fp o e e'):Fp o e' e:=⟨λi hi=>(h.1 i hi).symm,λi w hw=>(h.2 i w hw).symm⟩
def Hi:Io->Nat
 | .alloc r _| .box r _ _| .mks r _ _ _ _| .ext (.mkm r) _| .ext (.bsm r ..) _=>r
 |_=>0
theorem Pq{K K':AS->Prop}{s1:AS}(hcat:o.k.cat=2)(hl:Fp o s1.env s.env)(hn:s1.n=s.n)(hdom:AD s1.H (base+Hi o.k)=none->AD s.H (base+Hi o.k)=none)
  (hK:∀g v v' (u:AB->AB),(g=true->v=v')->(o.guard=none->g=true)->((u=λH=>H)\/∃ob,u=λH=>hset H (base+Hi o.k) ob)->K ({s1 with H:=u s1.H}.put o.dst g v)->K' ({s with H:=u s.H}.put o.dst g v')):
  Ae P Qp base o K s1->Ae P Qp base o K' s:=by
 obtain⟨dst,guard,k⟩:=o;have hg:=Ee hl;have hgn:guard=none->Bh s1.env guard=true:=by rintro rfl;rfl
 simp only at hg hK;have rho:C6 s1.env k.opds->∀x∈k.opds,AX s1.env x=AX s.env x:=λh=>Nf hl (l:=k.opds) (λx hx=>hx) h
 have oksT:C6 s1.env k.opds->C6 s.env k.opds:=Nd hl (l:=k.opds) (λx hx=>hx);have skip:Bh s1.env guard=false->K (s1.put dst false (.tup []))->K' (s.put dst false (.tup [])):=λq hk=>
  hK false (.tup []) (.tup []) (λH=>H) zw (λq'=>by have:=hgn q';rw[q]at this;cases this) (.inl rfl) hk
 cases k with
 |alloc rel cs=>
  rintro⟨h0,h1⟩;refine⟨DM hl h0,?_⟩;simp only[]at h1⊢;rw[<-hg];refine⟨λq=>?_,λq=>skip q (h1.2 q)⟩;obtain⟨q1,q2⟩:=h1.1 q;refine⟨oksT q1,?_⟩;simp only[BP]at q2⊢;exact⟨hdom q2.1,hK true _ _ _ (λ_=>rfl) (λ_=>rfl) (.inr ⟨.box cs,rfl⟩) q2.2⟩
 |box rel sz x=>
  rintro⟨h0,h1⟩;refine⟨DM hl h0,?_⟩;simp only[]at h1⊢;rw[<-hg];refine⟨λq=>?_,λq=>skip q (h1.2 q)⟩;obtain⟨q1,q2⟩:=h1.1 q;have e1:AX s1.env x=AX s.env x:=rho q1 x (by simp [Io.opds]);refine⟨oksT q1,?_⟩;simp only[BP]at q2⊢;rw[e1]at q2;exact⟨hdom q2.1,q2.2.1,q2.2.2.1,hK true _ _ _ (λ_=>rfl) (λ_=>rfl) (.inr ⟨.box _,rfl⟩) q2.2.2.2⟩
 |mks rel esz bytes zero x=>
  rintro⟨h0,h1⟩;refine⟨DM hl h0,?_⟩;simp only[]at h1⊢;rw[<-hg];refine⟨λq=>?_,λq=>skip q (h1.2 q)⟩;obtain⟨q1,q2⟩:=h1.1 q;have e1:AX s1.env x=AX s.env x:=rho q1 x (by simp [Io.opds]);refine⟨oksT q1,?_⟩;simp only[BP]at q2⊢;rw[e1]at q2;obtain⟨p1,p2,p3,p4,p5,p6,p7⟩:=q2;exact⟨hdom p1,p2,p3,p4,p5,p6,hK true _ _ _ (λ_=>rfl) (λ_=>rfl) (.inr ⟨.arr _ _,rfl⟩) p7⟩
 |v k=>cases k<;>simp [Io.cat]at hcat
 |call q f args=>cases q<;>simp [Io.cat]at hcat
 |ext x xs=>
  cases x<;>first|(simp [Io.cat]at hcat;done)|skip
  rotate_left
  ·rename_i rel esz nn zero is;rintro⟨h0,h1⟩;refine⟨DM hl h0,?_⟩;simp only[]at h1⊢;rw[<-hg];refine⟨λq=>?_,λq=>skip q (h1.2 q)⟩;obtain⟨q1,q2⟩:=h1.1 q;have e2:xs.map (AX s1.env)=xs.map (AX s.env):=sY λx hx=>rho q1 x hx
   refine⟨oksT q1,?_⟩;simp only[BP]at q2⊢;rw[e2]at q2;obtain⟨⟨p1,p2⟩,p3⟩:=q2;exact⟨⟨hdom p1,p2⟩,hK true _ _ _ (λ_=>rfl) (λ_=>rfl) (.inr ⟨.arr _ _,rfl⟩) p3⟩
  rename_i rel;rintro⟨h0,h1⟩;refine⟨DM hl h0,?_⟩;simp only[]at h1⊢;rw[<-hg];refine⟨λq=>?_,λq=>skip q (h1.2 q)⟩;obtain⟨q1,q2⟩:=h1.1 q;refine⟨oksT q1,?_⟩;simp only[BP]at q2⊢;rcases xs with _|⟨_,_⟩
  ·exact⟨hdom q2.1,hK true _ _ _ (λ_=>rfl) (λ_=>rfl) (.inr ⟨.map [] 0,rfl⟩) q2.2⟩
  ·exact q2.1.elim
 |_=>simp [Io.cat]at hcat
theorem swap{x y:xz}{K:AS->Prop}(hap:Apart x y)(hcat:FM x.k.cat y.k.cat=true)(kx:Ey kp x)(ky:Ey kp y)(hrel:x.k.cat=2->y.k.cat=2->Hi x.k≠Hi y.k)(hsafe:Pp y s)(hK:∀a b,OJ kp a b->K a->K b)
  (h:Ae P Qp base x (Ae P Qp base y K) s):Ae P Qp base y (Ae P Qp base x K) s:=by
 have hxc5:x.k.cat≠5:=by intro e;rw[e]at hcat;cases hy:y.k.cat<;>simp [FM,hy]at hcat
 obtain⟨H',gx,vx,hy,hre,hgx,hH1,hH2,hH4⟩:=Ef hxc5 h;have ndst:∀d,x.dst=some d->y.dst≠some d:=λd hd=>(hap.xy d hd).2.2
 have lookY:∀{s:AS} {H:AB} {g:Bool} {v:Fs},Fp y ({s with H:=H}.put x.dst g v).env s.env:=λ{s H g v}=>Dd (s:={s with H:=H}) (λi e=>⟨(hap.xy i e).1,(hap.xy i e).2.1⟩)
 have lookX:∀{s:AS} {H:AB} {n:Nat} {g:Bool} {v:Fs},Fp x s.env ({s with H:=H,n:=n}.put y.dst g v).env:=λ{s H n g v}=>(Dd (s:={s with H:=H,n:=n}) (hap.yx)).symm
 by_cases hyv:y.k.cat=0\/y.k.cat=1\/y.k.cat=3
 ·
  refine EE hyv lookY (λhgy hoy=>?_) (λgy vy vy' hvy hgy hk=>?_) hy
  ·rw[Bw,EO];by_cases hxc:x.k.cat=0\/x.k.cat=1\/x.k.cat=3
   ·rw[hH1 hxc];exact Sf _ _ _
   ·rcases hyv with hy0|hy1|hy3
    ·exact Se hy0 _ _ _ _ _
    ·obtain⟨sz,ag,ad,hyk⟩:=V3 hy1;have hsf:=hsafe sz ag ad hyk (by rw[hyk]at hoy;exact hoy.1);have hxc24:x.k.cat=2\/x.k.cat=4:=by
      rw[hy1]at hcat;generalize x.k.cat=c at hcat hxc hxc5
      match c with
      |0|1|3=>simp at hxc
      |2=>exact .inl rfl
      |4=>exact .inr rfl
      |5=>simp at hxc5
      |c+6=>simp [FM]at hcat
     show Gj y H' s.H s.n s.n (AX s.env);unfold Gj;rw[hyk];show(A7 H' sz ag (AX s.env ad)).1->A7 H' sz ag (AX s.env ad)=A7 s.H sz ag (AX s.env ad);intro q;rcases hxc24 with e|e
     ·rcases hH2 e with rfl|⟨id,ob,p1,rfl⟩
      ·rfl
      ·exact Ly hsf p1
     ·rcases hH4 e with rfl|⟨tok,id,p1,p2,rfl⟩
      ·rfl
      ·exact Oc q
    ·simp_all [FM]
  ·
   have:=hre (λs'=>s'={s with H:=H'}.put x.dst gx vx) rfl;refine Ck (lookX (s:=s) (H:=s.H) (n:=s.n)) (by rw[Bw]) (by rw[EO]) (λH n g v v' hv _ hg he=>?_) this;have e1:({s.put y.dst gy vy' with H:=H,n:=n}:AS).put x.dst g v'=(({s with H:=H,n:=n}:AS).put y.dst gy vy').put x.dst g v':=by cases y.dst<;>rfl
   rw[e1];refine hK _ _ ?_ hk;rw[<-he];exact G3 ndst hv hvy (kx.held hg) (ky.held hgy)
 ·
  have hxv:x.k.cat=0\/x.k.cat=1\/x.k.cat=3\/(x.k.cat=2/\y.k.cat=2):=by grind [FM]
  have fin:∀{H:AB} {n:Nat} {g g2:Bool} {v v' v2 v2':Fs},(g=true->v=v')->(y.guard=none->g=true)->(g2=true->v2=v2')->(x.guard=none->g2=true)->
    K ((({s with H:=H,n:=n}:AS).put x.dst g2 v2).put y.dst g v)->K ((({s with H:=H,n:=n}:AS).put y.dst g v').put x.dst g2 v2'):=λa1 a2 a3 a4 hk=>
   hK _ _ (G3 ndst a3 a1 (kx.held a4) (ky.held a2)) hk
  rcases hxv with hx0|hx1|hx3|⟨hx2,hy2⟩
  ·have eH:=hH1 (.inl hx0);subst eH;refine Ck lookY (by rw[Bw]) (by rw[EO]) (λH n g v v' hv _ hg hk=>?_) hy;have:=hre (λs'=>s'=s.put x.dst gx vx) rfl;refine EE (.inl hx0) (lookX (s:=s) (H:=H) (n:=n)) (λ_ _=>Se hx0 _ _ _ _ _) (λg2 v2 v2' hv2 hg2 he=>?_) this;refine fin hv hg hv2 hg2 ?_;rw[IG s,he];exact hk
  ·have eH:=hH1 (.inr (.inl hx1));subst eH;have hy24:y.k.cat=2\/y.k.cat=4:=by grind [FM]
   have hyc5:y.k.cat≠5:=by rcases hy24 with e|e<;>rw[e]<;>decide
   obtain⟨H2,gy,vy,hk,hreY,hgy,-,hR2,hR4⟩:=Ef hyc5 hy;rw[Bw]at hR2 hR4;obtain⟨sz,ag,ad,hxk⟩:=V3 hx1;refine Ck lookY (by rw[Bw]) (by rw[EO]) (λH n g v v' hv _ hg he=>?_) (hreY (λs'=>s'=({s.put x.dst gx vx with H:=H2}:AS).put y.dst gy vy) rfl);have e1:H=H2:=by have:=congrArg AS.H he;rwa[Bw,Bw]at this
   subst e1;rw[<-he]at hk;have:=hre (λs'=>s'=s.put x.dst gx vx) rfl;refine EE (.inr (.inl hx1)) (lookX (s:=s) (H:=H) (n:=n)) (λ_ _=>?_) (λg2 v2 v2' hv2 hg2 he2=>?_) this
   ·rw[Bw,EO];unfold Gj;rw[hxk];show(A7 s.H sz ag _).1->A7 s.H sz ag _=A7 H sz ag _;intro q;rcases hy24 with e|e
    ·rcases hR2 e with rfl|⟨id,ob,p1,rfl⟩
     ·rfl
     ·exact(Ly (Ng q) p1).symm
    ·rcases hR4 e with rfl|⟨tok,id,p1,p2,rfl⟩
     ·rfl
     ·exact Xd p1 p2 q
   ·refine fin hv hg hv2 hg2 ?_;rw[IG s,he2];exact hk
  ·simp_all [FM]
  ·refine Pq hy2 lookY (by rw[EO]) (λq=>?_) (λg v v' u hv hg hu hk=>?_) hy
   ·rw[Bw]at q;rcases hH2 hx2 with rfl|⟨id,ob,p1,rfl⟩
    ·exact q
    ·rw[AT]at q;split at q
     ·cases q
     ·exact q
   ·have:=hre (λs'=>s'={s with H:=H'}.put x.dst gx vx) rfl;refine Pq hx2 (lookX (s:=s) (H:=u s.H) (n:=s.n)) (by rw[EO]) (λq=>?_) (λg2 v2 v2' u2 hv2 hg2 hu2 he=>?_) this
    ·rw[Bw];rcases hu with rfl|⟨ob,rfl⟩
     ·exact q
     ·have:=hrel hx2 hy2;rw[AA _ _ _ _ zo];exact q
    ·rw[Bw];have e1:({({s with H:=u s.H}:AS).put y.dst g v' with H:=u2 (u s.H)}:AS).put x.dst g2 v2'=(({s with H:=u2 (u s.H),n:=s.n}:AS).put y.dst g v').put x.dst g2 v2':=by
      cases y.dst<;>rfl
     rw[e1];refine fin hv hg hv2 hg2 ?_;rw[Bw]at hk;have e2:H'=u2 s.H:=by have:=congrArg AS.H he;rw[Bw,Bw]at this;exact this.symm
     have e3:u H'=u2 (u s.H):=by
      rw[e2];rcases hu with rfl|⟨ob,rfl⟩<;>rcases hu2 with rfl|⟨ob2,rfl⟩<;>try rfl
      have:=hrel hx2 hy2;exact W4 _ _ _ _ _ zo
     rw[<-e3];have e4:({({s with H:=H'}:AS).put x.dst gx vx with H:=u H'}:AS)=({s with H:=u H',n:=s.n}:AS).put x.dst g2 v2:=by
      have e5:=congrArg AS.env he;have e6:(({s with H:=u2 s.H}:AS).put x.dst g2 v2).env=(({s with H:=u H',n:=s.n}:AS).put x.dst g2 v2).env:=by cases x.dst<;>rfl
      have e7:∀(a b:AS),a.env=b.env->a.H=b.H->a.n=b.n->a=b:=by rintro⟨⟩ ⟨⟩ h1 h2 h3;simp at h1 h2 h3;simp [h1,h2,h3]
      refine e7 _ _ ?_ ?_ ?_
      ·rw[<-e6,e5]
      ·rw[Bw]
      ·show(({s with H:=H'}:AS).put x.dst gx vx).n=_;rw[EO,EO]
     rw[<-e4];exact hk
end
section
variable {P:Program} {Qp:Fs->AB->Nat->Prop} {base:Nat} {kp:List Nat}
variable {H:AB}
theorem OJ.put{a b:AS}{d:Option Nat}{n:Nat}{g:Bool}{v v':Fs}(h:OJ kp a b)(hv:g=true->v=v')(hk:∀i,d=some i->i∈kp->g=true):
  OJ kp (({a with H:=H,n:=n}:AS).put d g v) (({b with H:=H,n:=n}:AS).put d g v'):=by
 refine⟨λt=>?_,by rw[Bw,Bw],by rw[EO,EO]⟩;simp only[GE];by_cases h1:d=some t
 ·rw[rt h1,rt h1];exact⟨⟨rfl,hv⟩,λm=>by rw[hv (hk t h1 m)]⟩
 ·rw[rj h1,rj h1];exact h.1 t
theorem Lz{K:AS->Prop}(hK:∀a b,OJ kp a b->K a->K b):∀(L:List xz),(∀x∈L,Ey kp x)->∀a b,OJ kp a b->EC P Qp base L K a->EC P Qp base L K b
 |[],_,a,b,h,hh=>hK a b h hh
 |x::L,hk,a,b,h,hh=>Ck (s1:=a) (s:=b) ⟨λi _=>(h.1 i).1,λi _ _=>(h.1 i).1⟩ h.2.1 h.2.2
   (λH n g v v' hv _ hg q=>Lz hK L (λy hy=>hk y (tB _ hy)) _ _ (h.put hv ((hk x (sX ..)).held hg)) q) hh
theorem LC{H':AB}(h:∀id,AD H id≠none->AD H' id≠none){a:Fs}(ha:Xc H a):Xc H' a:=by
 cases a<;>first|exact h _ ha|trivial
theorem GF{i id:Nat}{ob:xq}(h:AD H id≠none):AD (hset H i ob) id≠none:=by
 rw[AT];split
 ·simp
 ·exact h
theorem jX{y:xz}{B:List xz}{K:AS->Prop}(ky:Ey kp y)(hB:∀x∈B,Ey kp x)(hK:∀a b,OJ kp a b->K a->K b):∀(A:List xz) (s:AS),
  (∀x∈A,Apart x y/\FM x.k.cat y.k.cat=true/\Ey kp x/\(x.k.cat=2->y.k.cat=2->Hi x.k≠Hi y.k))->Pp y s->
  EC P Qp base (A++y::B) K s->Ae P Qp base y (EC P Qp base (A++B) K) s
 |[],_,_,_,h=>h
 |x::A,s,hA,hs,h=>by
  obtain⟨hap,hcat,kx,hrel⟩:=hA x (sX ..);have hxc5:x.k.cat≠5:=by intro e;rw[e]at hcat;cases hy:y.k.cat<;>simp [FM,hy]at hcat
  obtain⟨H',gx,vx,h1,hre,-,hH1,hH2,hH4⟩:=Ef hxc5 h;have wn:Pp y ({s with H:=H'}.put x.dst gx vx):=by
   intro sz ag ad e s7;have hy1:y.k.cat=1:=by rw[e];rfl
   have wx:lk ({s with H:=H'}.put x.dst gx vx).env ad=lk s.env ad:=by
    cases ad with
    |c v=>rfl
    |t i=>
     simp only[lk];rw[GE,rj (λq=>(hap.xy i q).1 (by rw[e];simp [Io.opds,xx.opds]))]
   have wl:AX ({s with H:=H'}.put x.dst gx vx).env ad=AX s.env ad:=by simp only[AX,wx]
   rw[wl,Bw];rw[wx]at s7;refine LC (H:=s.H) (λid p9=>?_) (hs sz ag ad e s7);rw[hy1]at hcat;have hxc:(x.k.cat=0\/x.k.cat=1\/x.k.cat=3)\/x.k.cat=2\/x.k.cat=4:=by grind [FM]
   rcases hxc with e|e|e
   ·rw[hH1 e];exact p9
   ·rcases hH2 e with rfl|⟨i,ob,p1,rfl⟩
    ·exact p9
    ·exact GF p9
   ·rcases hH4 e with rfl|⟨tok,i,p1,p2,rfl⟩
    ·exact p9
    ·refine GF ?_;cases tok<;>first|exact p9|exact GF p9
  have h2:=jX ky hB hK A _ (λz hz=>hA z (tB _ hz)) wn h1;have hAB:∀z∈A++B,Ey kp z:=λz hz=>(ti.1 hz).elim (λq=>(hA z (tB _ q)).2.2.1) (hB z)
  exact swap hap hcat kx ky hrel hs (Lz hK (A++B) hAB) (hre _ h2)
end
def IH{x y:xz}(h:NQ x y=true):Apart x y:=by
 unfold NQ at h;rw[rl]at h;obtain⟨h1,h2⟩:=h;refine⟨λd hd=>?_,λd hd=>?_⟩
 ·grind
 ·grind
theorem EP{P:Program}{N lo:Nat}{ops:Array Oper}{mkv imp:List Nat}:∀(L:List Oper) (i:Nat) (l:List xz),OY P N lo ops mkv imp L i=some l->
  l.length=L.length/\∀(j:Nat) (o:Oper),L[j]?=some o->∃gd k,l[j]?=some ⟨o.dst,gd,k⟩/\NP ops o.guard=some gd/\BJ P (mkv.contains (i+j)) (imp.contains (i+j)) (i+j) o.op=some k/\∀d,o.dst=some d->d<N/\lo<=d
 |[],i,l,h=>by
  simp only[OY]at h;cases h;exact⟨rfl,λj o h=>by simp at h⟩
 |o::L,i,l,h=>by
  simp only[OY]at h;split at h
  ·rename_i gd k l' h1 h2 h3;split at h
   ·rename_i hd;cases h;obtain⟨q1,q2⟩:=EP L (i+1) l' h3;refine⟨by simp [q1],λj o' hj=>?_⟩;cases j with
    |zero=>grind
    |succ j=>grind
   ·cases h
  ·cases h
def G4{P:Program}{mkv imp:Bool}{i:Nat}{op:Op}{k:Io}(h:BJ P mkv imp i op=some k)(hc:k.cat=2):Hi k=i:=by
 have other:BJ P mkv imp i op=(CS P mkv op).map .v->False:=by
  intro e;rw[e]at h;cases h1:CS P mkv op with
  |none=>simp [h1]at h
  |some k'=>simp [h1]at h;subst h;cases k'<;>simp [Io.cat]at hc
 cases op;case alloc t=>
  simp only[BJ]at h;cases hz:Ci P t with
  |none=>simp [hz]at h
  |some z=>simp [hz]at h;subst h;rfl
 case box t x=>
  simp only[BJ]at h;split at h
  ·cases h;rfl
  ·cases h
 case pick c x y=>grind [BJ,Io.cat]
 case store t ad x=>grind [BJ,Io.cat]
 case slice t x lo hi mx=>grind [BJ,Io.cat]
 case panic x=>
  simp only[BJ]at h;cases hx:A4 x with
  |none=>simp [hx]at h
  |some x'=>simp [hx]at h;subst h;simp [Io.cat]at hc
 case makeSlice t l c=>
  cases mkv with
  |true=>exact(other (by simp [BJ])).elim
  |false=>
   cases l<;>cases c<;>(try (simp [BJ]at h;done))
   ·simp only[BJ,sr,sG]at h;split at h
    ·split at h
     ·split at h
      ·cases h;rfl
      ·cases h
     ·cases h
    ·cases h
   ·rename_i l c;cases l<;>(try (simp [BJ]at h;done));rename_i kl nl;cases kl<;>(try (simp [BJ]at h;done));cases c<;>(try (simp [BJ]at h;done));rename_i kc nc;cases kc<;>(try (simp [BJ]at h;done));simp only[BJ,sr,sG]at h;split at h
    ·split at h
     ·split at h
      ·cases h;rfl
      ·cases h
     ·cases h
    ·cases h
 case call c=>
  obtain⟨callee,args,ts⟩:=c;cases callee;case invoke rv mt=>simp [BJ,CS]at h
  case value f=>
   simp only[BJ]at h;split at h
   ·cases mkv<;>cases imp<;>simp at h<;>subst h<;>simp [Io.cat]at hc
   ·cases h
  case builtin b=>
   cases b;case append=>grind [BJ,Io.cat]
   case len=>
    simp only[BJ]at h;split at h
    ·split at h
     ·cases hx:A4 ‹Operand› with
      |none=>simp [hx]at h
      |some x'=>simp [hx]at h;subst h;simp [Io.cat]at hc
     ·cases h1:CS P mkv (.call {callee:=.builtin .len,args,argTypes:=ts})with
      |none=>simp [h1]at h
      |some k'=>simp [h1]at h;subst h;cases k'<;>simp [Io.cat]at hc
    ·cases h
   case copy=>grind [BJ,Io.cat]
   all_goals exact(other (by first|rfl|simp [BJ])).elim
 case buildSlice t len parts=>
  simp only[BJ]at h;split at h
  ·split at h
   ·split at h
    ·cases h;rfl
    ·cases h
   ·cases h
  ·cases h1:CS P mkv (.buildSlice t len parts)with
   |none=>simp [h1]at h
   |some k'=>simp [h1]at h;subst h;cases k'<;>simp [Io.cat]at hc
 case makeMap t r=>
  cases r with
  |some r=>simp [BJ,CS]at h
  |none=>
   simp only[BJ]at h;split at h
   ·cases h;rfl
   ·cases h
 case lookup t x ix ok=>
  simp only[BJ]at h;split at h
  ·split at h
   ·cases h;simp [Io.cat]at hc
   ·cases h
  ·cases h
 case mapUpdate t mm kk x=>
  simp only[BJ,XE]at h;split at h
  ·simp only[tO]at h;obtain⟨_,_,rfl⟩:=h;simp [Io.cat]at hc
  ·cases h
 case insert t mm kk x=>
  simp only[BJ,XE]at h;split at h
  ·simp only[tO]at h;obtain⟨_,_,rfl⟩:=h;simp [Io.cat]at hc
  ·cases h
 case range t x=>
  simp only[BJ]at h;split at h
  ·cases h;simp [Io.cat]at hc
  ·cases h;simp [Io.cat]at hc
  ·cases h
 case next x b=>
  cases b with
  |false=>
   simp only[BJ]at h;cases hx:A4 x with
   |none=>simp [hx]at h
   |some x'=>simp [hx]at h;subst h;simp [Io.cat]at hc
  |true=>
   simp only[BJ]at h;cases hx:A4 x with
   |none=>simp [hx]at h
   |some x'=>simp [hx]at h;subst h;simp [Io.cat]at hc
 case entry x=>
  simp only[BJ]at h;cases hx:A4 x with
  |none=>simp [hx]at h
  |some x'=>simp [hx]at h;subst h;simp [Io.cat]at hc
 case convert sT dT x=>
  simp only[BJ]at h;split at h
  ·cases hx:A4 x with
   |none=>simp [hx]at h
   |some x'=>simp [hx]at h;subst h;simp [Io.cat]at hc
  ·cases h1:CS P mkv (.convert sT dT x)with
   |none=>simp [h1]at h
   |some k'=>simp [h1]at h;subst h;cases k'<;>simp [Io.cat]at hc
 case binOp bo t X Y yt=>
  cases bo<;>cases Y<;>first
   |exact(other rfl).elim
   |(simp only[BJ]at h
     split at h
     ·simp only[tO]at h;obtain⟨_,_,rfl⟩:=h;simp [Io.cat]at hc
     ·split at h
      ·grind [Option.map_eq_some_iff,Io.cat]
      ·simp only[tO]at h;obtain⟨k',_,rfl⟩:=h;cases k'<;>simp [Io.cat]at hc
     done)
   |exact(other (by simp only[BJ])).elim
 case typeAssert x xt t ok=>
  simp only[BJ]at h;split at h
  ·cases h
  ·split at h
   ·cases h;simp [Io.cat]at hc
   ·cases h
 all_goals exact(other (by first|rfl|simp [BJ])).elim
theorem II{base:Nat}{cx:Nat->Fs}{ρ ρ':zz->Fs}:∀(f:Nat) (k:Io),(∀a∈k.opds,ρ a=ρ' a)->Bp base cx ρ f k->Bp base cx ρ' f k
 |0,_,_,_=>trivial
 |1,.v (.ld _ _ a),h,q=>by simp only[Bp]at q⊢;rw[<-h a (by simp [Io.opds,xx.opds])];exact q
 |2,.st _ a _,h,q=>by simp only[Bp]at q⊢;rw[<-h a (by simp [Io.opds])];exact q
 |f+3,.v k,h,q=>by
  cases k with
  |ld sz ag a=>simp only[Bp]at q⊢;rw[<-h a (by simp [Io.opds,xx.opds])];exact q
  |_=>simp only[Bp]at q
 |f+3,.st _ a _,h,q=>by simp only[Bp]at q⊢;rw[<-h a (by simp [Io.opds])];exact q
 |f+3,.pick ..,_,q|f+3,.alloc ..,_,q|f+3,.box ..,_,q|f+3,.app ..,_,q|f+3,.mks ..,_,q|f+3,.call true ..,_,q|f+3,.pan ..,_,q|f+3,.slA ..,_,q|f+3,.ext ..,_,q|f+3,.appR ..,_,q|f+3,.nils ..,_,q|f+3,.cpu ..,_,q|f+3,.mnx ..,_,q=>by simp only[Bp]at q
 |f+3,.call false ..,_,q=>by simp only[Bp]at q⊢;exact q
 |2,.appR ..,_,q=>trivial
 |1,.pick ..,_,q|1,.alloc ..,_,q|1,.box ..,_,q|1,.app ..,_,q|1,.mks ..,_,q|1,.call ..,_,q|1,.pan ..,_,q|1,.st ..,_,q=>by simp only[Bp]at q
 |2,.v k,h,q=>by
  cases k with
  |ld sz ag a=>simp only[Bp]at q⊢;rw[<-h a (by simp [Io.opds,xx.opds])];exact q
  |_=>simp only[Bp]at q
 |2,.pick ..,_,q|2,.alloc ..,_,q|2,.box ..,_,q|2,.app ..,_,q|2,.mks ..,_,q|2,.call ..,_,q|2,.pan ..,_,q=>by simp only[Bp]at q
 |1,.v k,h,q=>by
  cases k with
  |ld sz ag a=>simp only[Bp]at q⊢;rw[<-h a (by simp [Io.opds,xx.opds])];exact q
  |_=>simp only[Bp]at q
def Sg{H:AB}{id sz:Nat}{ag:Bool}{ob:xq}{a:Fs}(h:¬EW id a):A7 (hset H id ob) sz ag a=A7 H sz ag a:=by
 cases a<;>try rfl
 ·rename_i i off;simp only[A7,AA _ _ _ _ (λe=>h (Eq.symm e))]
 ·rename_i i esz j off;simp only[A7,AA _ _ _ _ (λe=>h (Eq.symm e))]
def Nh{base id:Nat}{a b:Fs}(h1:JB base a)(h2:EW id a)(h3:G1 base b):¬EW id b:=by
 intro h4;have e1:base<=id:=by cases a<;>simp only[JB,EW]at h1 h2<;>omega
 have e2:id<base:=by cases b<;>simp only[G1,EW]at h3 h4<;>omega
 omega
section
variable {P:Program} {Qp:Fs->AB->Nat->Prop} {base:Nat} {cx:Nat->Fs} {kp:List Nat}
variable {o y:xz} {s:AS} {K:AS->Prop} {a:Fs} {ag:Bool} {sz f base m:Nat} {x:Nat×xz} {ax:zz}
theorem Ni{a x:zz}(hk:o.k= .st sz a x)(h:Ae P Qp base o K s):
  ∃H' g v,K ({s with H:=H'}.put o.dst g v)/\(∀K2:AS->Prop,K2 ({s with H:=H'}.put o.dst g v)->Ae P Qp base o K2 s)/\(o.guard=none->g=true)/\
   (H'=s.H\/(Bh s.env o.guard=true/\∃id ob,EW id (AX s.env a)/\H'=hset s.H id ob)):=by
 obtain⟨dst,guard,k⟩:=o;simp only at hk;subst hk;obtain⟨h0,h1⟩:=h;simp only at h1;by_cases hg:Bh s.env guard=true
 ·obtain⟨p0,p1,p2,p3⟩:=h1.1 hg;have fin:∀(H':AB) (id:Nat) (ob:xq),EW id (AX s.env a)->H'=hset s.H id ob->K ({s with H:=H'}.put dst true (.tup []))->
    (∀K2:AS->Prop,K2 ({s with H:=H'}.put dst true (.tup []))->BP P Qp base ⟨dst,guard,.st sz a x⟩ K2 s)->_:=λH' id ob q1 q2 q3 q4=>
   (⟨H',true,.tup [],q3,λK2 hk=>⟨h0,λ_=>⟨p0,q4 K2 hk⟩,λq=>by rw[hg]at q;cases q⟩,λ_=>rfl,.inr ⟨hg,id,ob,q1,q2⟩⟩:
    ∃H' g v,K ({s with H:=H'}.put dst g v)/\(∀K2:AS->Prop,K2 ({s with H:=H'}.put dst g v)->Ae P Qp base ⟨dst,guard,.st sz a x⟩ K2 s)/\(guard=none->g=true)/\
     (H'=s.H\/(Bh s.env guard=true/\∃id ob,EW id (AX s.env a)/\H'=hset s.H id ob)))
  generalize hav:AX s.env a=av at p3 fin;cases av<;>(try simp only[]at p3)<;>first|exact p3.elim|skip
  ·split at p3
   ·rename_i id off _ cs hh;refine fin _ id _ rfl rfl p3.2 λK2 hk=>⟨p1,p2,?_⟩
    simp only[hav,hh];exact⟨p3.1,hk⟩
   ·exact p3.elim
  ·split at p3
   ·rename_i id esz i off _ e l hh;obtain⟨r1,r2,r3,r5⟩:=p3;refine fin _ id _ rfl rfl r5 λK2 hk=>⟨p1,p2,?_⟩
    simp only[hav,hh];exact⟨r1,r2,r3,hk⟩
   ·exact p3.elim
 ·have hg:Bh s.env guard=false:=by simpa using hg
  exact⟨s.H,false,.tup [],h1.2 hg,λK2 hk=>⟨h0,λq=>(by rw[hg]at q;cases q),λ_=>hk⟩,λq=>(by subst q;cases hg),.inl rfl⟩
theorem KG{d:Option Nat}{g:Bool}{v:Fs}{a:zz}(h:∀i,d=some i->a≠ .t i):AX (s.put d g v).env a=AX s.env a:=by
 cases a with
 |c v=>rfl
 |t i=>simp only[AX,lk];rw[GE,rj (λe=>h i e rfl)]
theorem aR{x:xz}{sz':Nat}{ay vy0:zz}(hxk:x.k= .v (.ld sz ag ax))(hyk:y.k= .st sz' ay vy0)(hap:Apart x y)(kx:Ey kp x)(ky:Ey kp y)
  (s6:Bh s.env x.guard=true->Bh s.env y.guard=true->∀id,EW id (AX s.env ay)->¬EW id (AX s.env ax)) (hK:∀a b,OJ kp a b->K a->K b)
  (h:Ae P Qp base x (Ae P Qp base y K) s):Ae P Qp base y (Ae P Qp base x K) s:=by
 have hx1:x.k.cat=1:=by rw[hxk];rfl
 obtain⟨H',gx,vx,hy,hre,hgx,hH1,-,-⟩:=Ef (by rw[hx1];decide) h;have eH:=hH1 (.inr (.inl hx1));subst eH;have ndst:∀d,x.dst=some d->y.dst≠some d:=λd hd=>(hap.xy d hd).2.2
 have lookY:∀{s:AS} {H:AB} {g:Bool} {v:Fs},Fp y ({s with H:=H}.put x.dst g v).env s.env:=λ{s H g v}=>Dd (s:={s with H:=H}) (λi e=>⟨(hap.xy i e).1,(hap.xy i e).2.1⟩)
 have lookX:∀{s:AS} {H:AB} {n:Nat} {g:Bool} {v:Fs},Fp x s.env ({s with H:=H,n:=n}.put y.dst g v).env:=λ{s H n g v}=>(Dd (s:={s with H:=H,n:=n}) (hap.yx)).symm
 obtain⟨H2,gy,vy,hk,hreY,hgy,hS⟩:=Ni hyk hy;refine Ck lookY (by rw[Bw]) (by rw[EO]) (λH n g v v' hv _ hg he=>?_) (hreY (λs'=>s'=({s.put x.dst gx vx with H:=H2}:AS).put y.dst gy vy) rfl);have e1:H=H2:=by have:=congrArg AS.H he;rwa[Bw,Bw]at this
 subst e1;rw[<-he]at hk;have:=hre (λs'=>s'=s.put x.dst gx vx) rfl;refine EE (.inr (.inl hx1)) (lookX (s:=s) (H:=H) (n:=n)) (λq1 _=>?_) (λg2 v2 v2' hv2 hg2 he2=>?_) this
 ·rw[Bw,EO];have ex:AX (({s with H:=H,n:=n}:AS).put y.dst g v').env ax=AX s.env ax:=KG (s:={s with H:=H,n:=n}) (λi e=>λe'=>(hap.yx i e).1 (by rw[hxk,e'];simp [Io.opds,xx.opds]));rw[<-Ee (lookX (s:=s) (H:=H) (n:=n) (g:=g) (v:=v'))]at q1;unfold Gj;rw[hxk];show(A7 s.H sz ag _).1->A7 s.H sz ag _=A7 H sz ag _;intro _;rw[ex];rcases hS with e|⟨p1,id,ob,p2,p3⟩
  ·rw[e,Bw]
  ·rw[p3,Bw,Sg];have ey:AX (s.put x.dst gx vx).env ay=AX s.env ay:=KG (λi e=>λe'=>(hap.xy i e).1 (by rw[hyk,e'];simp [Io.opds]));rw[ey]at p2;have gy':Bh s.env y.guard=true:=by rw[<-Ee (lookY (s:=s) (H:=s.H) (g:=gx) (v:=vx))];exact p1
   exact s6 q1 gy' _ p2
 ·refine hK _ _ (G3 ndst hv2 hv (kx.held hg2) (ky.held hg)) ?_;rw[IG s,he2];exact hk
theorem aS{x:xz}{sz':Nat}{ay vy0:zz}(hxk:x.k= .st sz' ax vy0)(hyk:y.k= .v (.ld sz ag ay))(hap:Apart x y)(kx:Ey kp x)(ky:Ey kp y)
  (s6:Bh s.env x.guard=true->Bh s.env y.guard=true->∀id,EW id (AX s.env ax)->¬EW id (AX s.env ay)) (hK:∀a b,OJ kp a b->K a->K b)
  (h:Ae P Qp base x (Ae P Qp base y K) s):Ae P Qp base y (Ae P Qp base x K) s:=by
 have hy1:y.k.cat=1:=by rw[hyk];rfl
 obtain⟨H',gx,vx,hy,hre,hgx,hS⟩:=Ni hxk h;have ndst:∀d,x.dst=some d->y.dst≠some d:=λd hd=>(hap.xy d hd).2.2
 have lookY:∀{s:AS} {H:AB} {g:Bool} {v:Fs},Fp y ({s with H:=H}.put x.dst g v).env s.env:=λ{s H g v}=>Dd (s:={s with H:=H}) (λi e=>⟨(hap.xy i e).1,(hap.xy i e).2.1⟩)
 have lookX:∀{s:AS} {H:AB} {n:Nat} {g:Bool} {v:Fs},Fp x s.env ({s with H:=H,n:=n}.put y.dst g v).env:=λ{s H n g v}=>(Dd (s:={s with H:=H,n:=n}) (hap.yx)).symm
 refine EE (.inr (.inl hy1)) lookY (λhgy hoy=>?_) (λgy vy vy' hvy hgy hk=>?_) hy
 ·rw[Bw,EO];unfold Gj;rw[hyk];show(A7 H' sz ag (AX s.env ay)).1->A7 H' sz ag (AX s.env ay)=A7 s.H sz ag (AX s.env ay);intro _;rcases hS with e|⟨p1,id,ob,p2,p3⟩
  ·rw[e]
  ·rw[p3,Sg];exact s6 p1 hgy _ p2
 ·have:=hre (λs'=>s'={s with H:=H'}.put x.dst gx vx) rfl;refine Ck (lookX (s:=s) (H:=s.H) (n:=s.n)) (by rw[Bw]) (by rw[EO]) (λH n g v v' hv _ hg he=>?_) this;have e1:({s.put y.dst gy vy' with H:=H,n:=n}:AS).put x.dst g v'=(({s with H:=H,n:=n}:AS).put y.dst gy vy').put x.dst g v':=by cases y.dst<;>rfl
  rw[e1];refine hK _ _ ?_ hk;rw[<-he];exact G3 ndst hv hvy (kx.held hg) (ky.held hgy)
theorem Si{H:AB}{n:Nat}{d:Option Nat}{g:Bool}{v:Fs}(h:∀i,d=some i->zz.t i∉o.k.opds/\∀w,o.guard≠some (i,w)):
  G2 base cx f o ({s with H:=H,n:=n}.put d g v)↔G2 base cx f o s:=by
 have hl:Fp o ({s with H:=H,n:=n}.put d g v).env s.env:=Dd (s:={s with H:=H,n:=n}) h;have hg:=Ee hl;have ha:∀a∈o.k.opds,AX ({s with H:=H,n:=n}.put d g v).env a=AX s.env a:=λa hm=>KG (s:={s with H:=H,n:=n}) (λi e e'=>(h i e).1 (e'▸hm))
 unfold G2;rw[hg];exact⟨λq e=>II f o.k ha (q e),λq e=>II f o.k (λa hm=>(ha a hm).symm) (q e)⟩
theorem HH(h:Vs x=true):x.1=1/\∃sz ag a,x.2.k= .v (.ld sz ag a):=by
 obtain⟨f,d,g,k⟩:=x;unfold Vs at h;simp only[rl,uY]at h;refine⟨h.1,?_⟩;cases k with
 |v k=>cases k with
  |ld sz ag a=>exact⟨_,_,_,rfl⟩
  |_=>exact absurd h.2 zw
 |_=>exact absurd h.2 zw
theorem Ez(h:Vt x=true):x.1=2/\∃sz a v,x.2.k= .st sz a v:=by
 obtain⟨f,d,g,k⟩:=x;unfold Vt at h;simp only[rl,uY]at h;refine⟨h.1,?_⟩;cases k with
 |st sz a v=>exact⟨_,_,_,rfl⟩
 |_=>exact absurd h.2 zw
theorem EF(h:SK x=true):∃m,x.1=m+3/\∃sz ag a,x.2.k= .v (.ld sz ag a):=by
 obtain⟨f,d,g,k⟩:=x;unfold SK at h;simp only[rl,Nat.ble_eq]at h;refine⟨f-3,by simp only;omega,?_⟩;cases k with
 |v k=>cases k with
  |ld sz ag a=>exact⟨_,_,_,rfl⟩
  |_=>exact absurd h.2 zw
 |_=>exact absurd h.2 zw
theorem E4(h:Vu x=true):∃m,x.1=m+3/\∃sz a v,x.2.k= .st sz a v:=by
 obtain⟨f,d,g,k⟩:=x;unfold Vu at h;simp only[rl,Nat.ble_eq]at h;refine⟨f-3,by simp only;omega,?_⟩;cases k with
 |st sz a v=>exact⟨_,_,_,rfl⟩
 |_=>exact absurd h.2 zw
theorem Sj{x y:Nat}(h:fF x y=true):(x≠y/\x<=1002/\y<=1002)\/(1003<=x/\x % 2=1/\y=x+1)\/(1003<=y/\y % 2=1/\x=y+1)\/(x≠y/\1003<=x/\x<=300002/\x % 2=1/\1003<=y/\y<=300002/\y % 2=1):=by
 unfold fF at h;simp only[sA,rl,bne_iff_ne,Nat.ble_eq,uY]at h;omega
theorem aT{x y:Nat}(h:fF x y=true):fF y x=true:=by
 have:=Sj h;unfold fF;simp only[sA,rl,bne_iff_ne,Nat.ble_eq,uY];omega
theorem KH(h:Qe x=true):∃m,x.1=m+3/\300000<=m/\m % 2=0/\∃f xs,x.2.k= .call false f xs:=by
 obtain⟨f,d,g,k⟩:=x;unfold Qe at h;simp only[rl,Nat.ble_eq,uY]at h;refine⟨f-3,by simp only;omega,zo,zo,?_⟩;cases k with
 |call q f xs=>cases q with
  |true=>exact absurd h.2 zw
  |false=>exact⟨_,_,rfl⟩
 |_=>exact absurd h.2 zw
theorem UO{id:Nat}(h1:PW base cx m a)(h2:EW id a):RN base cx m id:=by
 cases a<;>simp only[PW,EW]at h1 h2
 ·subst h2;exact h1
 ·subst h2;exact h1.2
theorem nw{m':Nat}{i:Nat}(k1:RN base cx m i)(k2:RN base cx m' i)(s6:fF (m+3) (m'+3)=true):False:=by
 have hk:=Sj s6;have pair:∀a:Nat,1000<=a->a % 2=0->RN base cx a i->RN base cx (a+1) i->False:=by
  intro a h0 h1 q1 q2;unfold RN at q1 q2;by_cases hb:a<300000
  ·grind
  ·grind
 rcases hk with⟨h1,h2,h3⟩|⟨h1,h2,h3⟩|⟨h1,h2,h3⟩|⟨h1,h2,h3,h4,h5,h6,h7⟩
 ·unfold RN at k1 k2;rw[rt zo]at k1 k2;omega
 ·grind
 ·grind
 ·unfold RN at k1 k2;rw[rj zo,rt zo,rt zo]at k1 k2;omega
theorem Sk{id m':Nat}{b:Fs}(h1:PW base cx m a)(h2:EW id a)(h3:PW base cx m' b)(s6:fF (m+3) (m'+3)=true):¬EW id b:=
 λh4=>nw (UO h1 h2) (UO h3 h4) s6
theorem JX(h:Z8 x=true):x.1=2/\∃sz ag a,x.2.k= .v (.ld sz ag a):=by
 obtain⟨f,d,g,k⟩:=x;unfold Z8 at h;simp only[rl,uY]at h;refine⟨h.1,?_⟩;cases k with
 |v k=>cases k with
  |ld sz ag a=>exact⟨_,_,_,rfl⟩
  |_=>exact absurd h.2 zw
 |_=>exact absurd h.2 zw
theorem Nj(h:Z9 x=true):x.1=2/\∃rel esz bytes z a v str,x.2.k= .appR rel esz bytes z a v str:=by
 obtain⟨f,d,g,k⟩:=x;unfold Z9 at h;simp only[rl,uY]at h;refine⟨h.1,?_⟩;cases k with
 |appR rel esz bytes z a v str=>exact⟨_,_,_,_,_,_,_,rfl⟩
 |_=>exact absurd h.2 zw
theorem HI{k:Io}{H H':AB}(h:k.cat≠5):Fh cx f k H H':=by
 unfold Fh;split
 ·exact absurd rfl h
 ·exact absurd rfl h
 ·trivial
theorem ny{x:xz}(hxk:x.k= .v (.ld sz ag ax))(hap:Apart x y)(kx:Ey kp x)(ky:Ey kp y)
  (s6:Bh s.env x.guard=true->∀s',K s'->(A7 s.H sz ag (AX s.env ax)).1->A7 s.H sz ag (AX s.env ax)=A7 s'.H sz ag (AX s.env ax)) (hK:∀a b,OJ kp a b->K a->K b)
  (h:Ae P Qp base x (Ae P Qp base y K) s):Ae P Qp base y (Ae P Qp base x K) s:=by
 have hx1:x.k.cat=1:=by rw[hxk];rfl
 obtain⟨H',gx,vx,hy,hre,hgx,hH1,-,-⟩:=Ef (by rw[hx1];decide) h;have eH:=hH1 (.inr (.inl hx1));subst eH;have ndst:∀d,x.dst=some d->y.dst≠some d:=λd hd=>(hap.xy d hd).2.2
 have lookY:∀{s:AS} {H:AB} {g:Bool} {v:Fs},Fp y ({s with H:=H}.put x.dst g v).env s.env:=λ{s H g v}=>Dd (s:={s with H:=H}) (λi e=>⟨(hap.xy i e).1,(hap.xy i e).2.1⟩)
 have lookX:∀{s:AS} {H:AB} {n:Nat} {g:Bool} {v:Fs},Fp x s.env ({s with H:=H,n:=n}.put y.dst g v).env:=λ{s H n g v}=>(Dd (s:={s with H:=H,n:=n}) (hap.yx)).symm
 refine Ck lookY (by rw[Bw]) (by rw[EO]) (λH n g v v' hv _ hg hk=>?_) hy;have:=hre (λs'=>s'=s.put x.dst gx vx) rfl;refine EE (.inr (.inl hx1)) (lookX (s:=s) (H:=H) (n:=n)) (λq1 _=>?_) (λg2 v2 v2' hv2 hg2 he2=>?_) this
 ·rw[Bw,EO];have ex:AX (({s with H:=H,n:=n}:AS).put y.dst g v').env ax=AX s.env ax:=KG (s:={s with H:=H,n:=n}) (λi e=>λe'=>(hap.yx i e).1 (by rw[hxk,e'];simp [Io.opds,xx.opds]));rw[<-Ee (lookX (s:=s) (H:=H) (n:=n) (g:=g) (v:=v'))]at q1;unfold Gj;rw[hxk];show(A7 s.H sz ag _).1->A7 s.H sz ag _=A7 H sz ag _;rw[ex];intro q;have:=s6 q1 _ hk q;rw[Bw]at this;exact this
 ·refine hK _ _ (G3 ndst hv2 hv (kx.held hg2) (ky.held hg)) ?_;rw[IG s,he2];exact hk
theorem nz{x:xz}(hxk:x.k= .v (.ld sz ag ax))(hap:Apart x y)(kx:Ey kp x)(ky:Ey kp y)
  (s6:Bh s.env x.guard=true->∀id,EW id (AX s.env ax)->¬EW id a) (hK:∀a b,OJ kp a b->K a->K b) (hkeep:∀s',K s'->ID a s.H s'.H)
  (h:Ae P Qp base x (Ae P Qp base y K) s):Ae P Qp base y (Ae P Qp base x K) s:=by
 have hx1:x.k.cat=1:=by rw[hxk];rfl
 obtain⟨H',gx,vx,hy,hre,hgx,hH1,-,-⟩:=Ef (by rw[hx1];decide) h;have eH:=hH1 (.inr (.inl hx1));subst eH;have ndst:∀d,x.dst=some d->y.dst≠some d:=λd hd=>(hap.xy d hd).2.2
 have lookY:∀{s:AS} {H:AB} {g:Bool} {v:Fs},Fp y ({s with H:=H}.put x.dst g v).env s.env:=λ{s H g v}=>Dd (s:={s with H:=H}) (λi e=>⟨(hap.xy i e).1,(hap.xy i e).2.1⟩)
 have lookX:∀{s:AS} {H:AB} {n:Nat} {g:Bool} {v:Fs},Fp x s.env ({s with H:=H,n:=n}.put y.dst g v).env:=λ{s H n g v}=>(Dd (s:={s with H:=H,n:=n}) (hap.yx)).symm
 refine Ck lookY (by rw[Bw]) (by rw[EO]) (λH n g v v' hv _ hg hk=>?_) hy;have hkp:=hkeep _ hk;rw[Bw]at hkp;have:=hre (λs'=>s'=s.put x.dst gx vx) rfl;refine EE (.inr (.inl hx1)) (lookX (s:=s) (H:=H) (n:=n)) (λq1 _=>?_) (λg2 v2 v2' hv2 hg2 he2=>?_) this
 ·rw[Bw,EO];have ex:AX (({s with H:=H,n:=n}:AS).put y.dst g v').env ax=AX s.env ax:=KG (s:={s with H:=H,n:=n}) (λi e=>λe'=>(hap.yx i e).1 (by rw[hxk,e'];simp [Io.opds,xx.opds]));rw[<-Ee (lookX (s:=s) (H:=H) (n:=n) (g:=g) (v:=v'))]at q1;unfold Gj;rw[hxk];show(A7 s.H sz ag _).1->A7 s.H sz ag _=A7 H sz ag _;rw[ex];intro q;have hn:=s6 q1;have hd:=Ng q;generalize AX s.env ax=av at q hn hd;cases av<;>try rfl
  ·rename_i i off;simp only[A7,hkp i (hn i rfl) hd]
  ·rename_i i esz j off;simp only[A7,hkp i (hn i rfl) hd]
 ·refine hK _ _ (G3 ndst hv2 hv (kx.held hg2) (ky.held hg)) ?_;rw[IG s,he2];exact hk
theorem swapX{y:Nat×xz}(hap:Apart x.2 y.2)(hcat:SL x y=true)(kx:Ey kp x.2)(ky:Ey kp y.2)(hrel:x.2.k.cat=2->y.2.k.cat=2->Hi x.2.k≠Hi y.2.k)(hsafe:Pp y.2 s)(hK:∀a b,OJ kp a b->K a->K b)
  (hc5:x.2.k.cat≠5)
  (h:Lt P Qp base cx x (Lt P Qp base cx y K) s):Lt P Qp base cx y (Lt P Qp base cx x K) s:=by
 obtain⟨fx,x⟩:=x;obtain⟨fy,y⟩:=y;obtain⟨sx,h⟩:=h;simp only at*;have hyx:∀i,y.dst=some i->zz.t i∉x.k.opds/\∀w,x.guard≠some (i,w):=λi e=>hap.yx i e
 have hxy:∀i,x.dst=some i->zz.t i∉y.k.opds/\∀w,y.guard≠some (i,w):=λi e=>⟨(hap.xy i e).1,(hap.xy i e).2.1⟩
 have hx01:y.k.cat=5->x.k.cat=0\/x.k.cat=1:=by
  intro e;unfold SL at hcat;rw[sA,sA,sA,sA,sA,sA]at hcat;simp only[rl]at hcat;rcases hcat with(((((q|q)|q)|q)|q)|q)|q
  ·grind [FM]
  ·obtain⟨-,_,_,_,e2⟩:=Ez q.2;rw[e2]at e;cases e
  ·obtain⟨-,_,_,_,e2⟩:=HH q.2;rw[e2]at e;cases e
  ·obtain⟨_,-,_,_,_,e2⟩:=E4 q.2;rw[e2]at e;cases e
  ·obtain⟨_,-,_,_,_,e2⟩:=EF q.2;rw[e2]at e;cases e
  ·obtain⟨_,-,_,_,_,e2⟩:=EF q.1.1;right;simp only at e2;rw[e2];rfl
  ·obtain⟨-,_,_,_,e2⟩:=JX q.1;right;simp only at e2;rw[e2];rfl
 let Ky:AS->Prop:=λs2=>Fh cx fy y.k s.H s2.H/\K s2
 have hKy:∀a b,OJ kp a b->Ky a->Ky b:=λa b e q=>⟨by rw[<-e.2.1];exact q.1,hK a b e q.2⟩
 obtain⟨sy,h'⟩:G2 base cx fy y s/\Ae P Qp base x (Ae P Qp base y Ky) s:=by
  obtain⟨H',g,v,k1,hre,-,hH1,-,-⟩:=Ef hc5 h;refine⟨(Si (H:=H') (n:=s.n) hxy).1 k1.2.1,hre _ (GU (λs2 k=>⟨?_,k.2⟩) k1.2.2)⟩;by_cases e:y.k.cat=5
  ·grind [Bw]
  ·exact HI e
 have fin:Ae P Qp base y (Ae P Qp base x Ky) s->Lt P Qp base cx (fy,y) (Lt P Qp base cx (fx,x) K) s:=λq=>
  ⟨sy,Ck (s:=s) ⟨λ_ _=>Ob.rfl' _,λ_ _ _=>Ob.rfl' _⟩ rfl rfl (λH n g v v' h1 h2 h3 h4=>by
   rw[<-h2 rfl];refine⟨?_,(Si (H:=H) (n:=n) hyx).2 sx,GU (λs' k=>⟨HI hc5,k.2⟩) h4⟩;by_cases e:y.k.cat=5
   ·obtain⟨H',g',v',k1,-,-,hH1,-,-⟩:=Ef hc5 h4;have eH:=hH1 ((hx01 e).imp id .inl);have:=k1.1;rw[Bw,eH]at this;exact this
   ·exact HI e) q⟩
 unfold SL at hcat;rw[sA,sA,sA,sA,sA,sA]at hcat;rcases hcat with(((((hcat|hcat)|hcat)|hcat)|hcat)|hcat)|hcat
 ·exact fin (swap hap hcat kx ky hrel hsafe hKy h')
 ·rw[rl]at hcat;obtain⟨e1,sz,ag,a,e2⟩:=HH hcat.1;obtain⟨e3,sz',a',v',e4⟩:=Ez hcat.2;simp only at e1 e2 e3 e4;unfold G2 at sx sy;rw[e1,e2]at sx;rw[e3,e4]at sy;exact fin (aR e2 e4 hap kx ky (λqx qy _ p=>Nh (sy qy) p (sx qx)) hKy h')
 ·rw[rl]at hcat;obtain⟨e1,sz,a,v,e2⟩:=Ez hcat.1;obtain⟨e3,sz',ag,a',e4⟩:=HH hcat.2;simp only at e1 e2 e3 e4;unfold G2 at sx sy;rw[e1,e2]at sx;rw[e3,e4]at sy;exact fin (aS e2 e4 hap kx ky (λqx qy _ p=>Nh (sx qx) p (sy qy)) hKy h')
 ·rw[rl,rl]at hcat;obtain⟨m,e1,sz,ag,a,e2⟩:=EF hcat.1.2;obtain⟨m',e3,sz',a',v',e4⟩:=E4 hcat.2;have s6:=hcat.1.1;simp only at e1 e2 e3 e4 s6;rw[e1,e3]at s6;unfold G2 at sx sy;rw[e1,e2]at sx;rw[e3,e4]at sy;exact fin (aR e2 e4 hap kx ky (λqx qy _ p=>Sk (sy qy) p (sx qx) (aT s6)) hKy h')
 ·rw[rl,rl]at hcat;obtain⟨m,e1,sz,a,v,e2⟩:=E4 hcat.1.2;obtain⟨m',e3,sz',ag,a',e4⟩:=EF hcat.2;have s6:=hcat.1.1;simp only at e1 e2 e3 e4 s6;rw[e1,e3]at s6;unfold G2 at sx sy;rw[e1,e2]at sx;rw[e3,e4]at sy;exact fin (aS e2 e4 hap kx ky (λqx qy _ p=>Sk (sx qx) p (sy qy) s6) hKy h')
 ·rw[rl,rl]at hcat;obtain⟨m,e1,sz,ag,a,e2⟩:=EF hcat.1.1;obtain⟨m',e3,hm1,xu,f,xs,e4⟩:=KH hcat.1.2;have hmm:m=m'+1:=by simp_all
  subst hmm;simp only at e1 e2 e3 e4;unfold G2 at sx;rw[e1,e2]at sx;refine fin (nz (a:=cx ((m'-300000)/2)) e2 hap kx ky (λqx id p q=>?_) hKy (λs' k=>?_) h')
  ·have h1:RN base cx (m'+1) id:=UO (sx qx) p;unfold RN at h1;rw[rj zo,rj zo,rj zo,show(m'+1-300000)/2=(m'-300000)/2 by omega]at h1;exact h1 q
  ·have:=k.1;rw[e3,e4]at this;exact this
 ·rw[rl]at hcat;obtain⟨e1,sz,ag,a,e2⟩:=JX hcat.1;obtain⟨e3,rel,esz,bytes,z,a',v',str,e4⟩:=Nj hcat.2;simp only at e1 e2 e3 e4;unfold G2 at sx;rw[e1,e2]at sx;refine fin (ny e2 hap kx ky (λqx s' k q=>?_) hKy h');have hp:fA (AX s.env a):=sx qx;have hk:=k.1;rw[e3,e4]at hk;have hk':QY s.H s'.H:=hk;generalize AX s.env a=av at q hp;cases av<;>simp only[fA]at hp;rename_i i off;simp only[A7]at q⊢;split at q
  ·rename_i cs hh;rw[hk' i cs hh]
  ·exact q.elim
theorem Xe{a b:AS}(h:OJ kp a b)(hs:G2 base cx f o a)(hh:Ae P Qp base o K a):G2 base cx f o b:=by
 have hl:Fp o a.env b.env:=⟨λi _=>(h.1 i).1,λi _ _=>(h.1 i).1⟩;intro hg;rw[<-Ee hl]at hg;have hs:=hs hg;have key:C6 a.env o.k.opds\/Bp base cx (AX b.env) f o.k:=by
  obtain⟨dst,guard,k⟩:=o;obtain⟨h0,h1⟩:=hh;cases k with
  |v k=>exact .inl (h1.1 hg).1
  |st sz a x=>exact .inl (h1.1 hg).1
  |call q g xs=>match f,q with
   |0,_=>exact .inr zt
   |1,_|2,_|f+3,true=>simp only[Bp]at hs
   |f+3,false=>exact .inr hs
  |appR rel esz bytes z x y str=>match f with
   |0=>exact .inr zt
   |2=>exact .inr zt
   |1|f+3=>simp only[Bp]at hs
  |_=>match f with
   |0=>exact .inr zt
   |1|2|f+3=>simp only[Bp]at hs
 rcases key with ok|q
 ·exact II f o.k (λx hx=>(Ed hl hx).2 (KE ok x hx)) hs
 ·exact q
theorem Pr(hK:∀a b,OJ kp a b->K a->K b):∀(L:List (Nat×xz)),(∀x∈L,Ey kp x.2)->∀a b,OJ kp a b->JR P Qp base cx L K a->JR P Qp base cx L K b
 |[],_,a,b,h,hh=>hK a b h hh
 |x::L,hk,a,b,h,hh=>⟨Xe h hh.1 hh.2,Ck (s1:=a) (s:=b) ⟨λi _=>(h.1 i).1,λi _ _=>(h.1 i).1⟩ h.2.1 h.2.2
   (λH n g v v' hv _ hg q=>⟨by have:=q.1;rw[Bw,h.2.1]at this;rw[Bw];exact this,Pr hK L (λy hy=>hk y (tB _ hy)) _ _ (h.put hv ((hk x (sX ..)).held hg)) q.2⟩) hh.2⟩
theorem UP{y:Nat×xz}{B:List (Nat×xz)}(ky:Ey kp y.2)(hB:∀x∈B,Ey kp x.2)(hK:∀a b,OJ kp a b->K a->K b):∀(A:List (Nat×xz)) (s:AS),
  (∀x∈A,Apart x.2 y.2/\SL x y=true/\Ey kp x.2/\(x.2.k.cat=2->y.2.k.cat=2->Hi x.2.k≠Hi y.2.k))->Pp y.2 s->
  JR P Qp base cx (A++y::B) K s->Lt P Qp base cx y (JR P Qp base cx (A++B) K) s
 |[],_,_,_,h=>h
 |x::A,s,hA,hs,h=>by
  obtain⟨hap,hcat,kx,hrel⟩:=hA x (sX ..);have hxc5:x.2.k.cat≠5:=by
   intro e;unfold SL at hcat;rw[e]at hcat;have h0:FM 5 y.2.k.cat=false:=by cases hy:y.2.k.cat<;>simp [FM]
   rw[h0,tH,sA,sA,sA,sA,sA]at hcat;simp only[rl]at hcat;rcases hcat with((((q|q)|q)|q)|q)|q
   ·obtain⟨-,sz,ag,a,e2⟩:=HH q.1;rw[e2]at e;cases e
   ·obtain⟨-,sz,a,v,e2⟩:=Ez q.1;rw[e2]at e;cases e
   ·obtain⟨m,-,sz,ag,a,e2⟩:=EF q.1.2;rw[e2]at e;cases e
   ·obtain⟨m,-,sz,a,v,e2⟩:=E4 q.1.2;rw[e2]at e;cases e
   ·obtain⟨m,-,sz,ag,a,e2⟩:=EF q.1.1;rw[e2]at e;cases e
   ·obtain⟨-,sz,ag,a,e2⟩:=JX q.1;rw[e2]at e;cases e
  obtain⟨sx,hx⟩:=h;obtain⟨H',gx,vx,⟨-,h1⟩,hre,-,hH1,hH2,hH4⟩:=Ef hxc5 hx;have wn:Pp y.2 ({s with H:=H'}.put x.2.dst gx vx):=by
   intro sz ag ad e s7;have hy1:y.2.k.cat=1:=by rw[e];rfl
   have wx:lk ({s with H:=H'}.put x.2.dst gx vx).env ad=lk s.env ad:=by
    cases ad with
    |c v=>rfl
    |t i=>
     simp only[lk];rw[GE,rj (λq=>(hap.xy i q).1 (by rw[e];simp [Io.opds,xx.opds]))]
   have wl:AX ({s with H:=H'}.put x.2.dst gx vx).env ad=AX s.env ad:=by simp only[AX,wx]
   rw[wl,Bw];rw[wx]at s7;have h0:=hs sz ag ad e s7;by_cases hst:∃sz a v,x.2.k= .st sz a v
   ·obtain⟨sz',a',v',ex⟩:=hst;obtain⟨H2,g2,v2,-,hre2,-,hS⟩:=Ni ex hx;have e5:=Ni ex (hre2 (λs'=>s'=({s with H:=H2}:AS).put x.2.dst g2 v2) rfl);obtain⟨H3,g3,v3,k3,-,-,hS3⟩:=Ni ex (hre (λs'=>s'=({s with H:=H'}:AS).put x.2.dst gx vx) rfl);have e6:H3=H':=by have:=congrArg AS.H k3;rwa[Bw,Bw]at this
    subst e6;refine LC (H:=s.H) (λid p9=>?_) h0;rcases hS3 with e|⟨_,i,ob,_,e⟩
    ·rw[e];exact p9
    ·rw[e];exact GF p9
   ·have hcat':FM x.2.k.cat y.2.k.cat=true:=by
     unfold SL at hcat;rw[sA,sA,sA,sA,sA,sA]at hcat;simp only[rl]at hcat;rcases hcat with(((((q|q)|q)|q)|q)|q)|q
     ·exact q
     ·obtain⟨-,sz',a',v',e2⟩:=Ez q.2;rw[e2]at e;cases e
     ·obtain⟨-,sz',a',v',e2⟩:=Ez q.1;exact absurd ⟨_,_,_,e2⟩ hst
     ·obtain⟨m,-,sz',a',v',e2⟩:=E4 q.2;rw[e2]at e;cases e
     ·obtain⟨m,-,sz',a',v',e2⟩:=E4 q.1.2;exact absurd ⟨_,_,_,e2⟩ hst
     ·obtain⟨m,-,-,-,f',xs',e2⟩:=KH q.1.2;rw[e2]at e;cases e
     ·obtain⟨-,rel,esz,bytes,z,a',v',str,e2⟩:=Nj q.2;rw[e2]at e;cases e
    refine LC (H:=s.H) (λid p9=>?_) h0;rw[hy1]at hcat';have hxc:(x.2.k.cat=0\/x.2.k.cat=1\/x.2.k.cat=3)\/x.2.k.cat=2\/x.2.k.cat=4:=by grind [FM]
    rcases hxc with e|e|e
    ·rw[hH1 e];exact p9
    ·rcases hH2 e with rfl|⟨i,ob,p1,rfl⟩
     ·exact p9
     ·exact GF p9
    ·rcases hH4 e with rfl|⟨tok,i,p1,p2,rfl⟩
     ·exact p9
     ·refine GF ?_;cases tok<;>first|exact p9|exact GF p9
  have h2:=UP ky hB hK A _ (λz hz=>hA z (tB _ hz)) wn h1;have hAB:∀z∈A++B,Ey kp z.2:=λz hz=>(ti.1 hz).elim (λq=>(hA z (tB _ q)).2.2.1) (hB z)
  exact swapX hap hcat kx ky hrel hs (Pr hK (A++B) hAB) hxc5 ⟨sx,hre _ ⟨HI hxc5,h2⟩⟩
end
def DN(ops:Array Oper)(listed:Array Bool):List Nat:=(List.range ops.size).filter λi=>!listed.getD i true
def FO(l:List xz)(L:List Nat):List xz:=L.map (CU l)
def Sl(l:List xz):FO l (List.range l.length)=l:=by
 apply List.ext_getElem
 ·simp [FO]
 ·intro i h1 h2;simp [FO,CU,h2]
def Eg(l:List xz):Bool:=l.any λo=>o.k.news
section
variable {P:Program} {r:Option Nat} {m N lo:Nat} {g0:q8} {H0:AB} {w0:World} {D:DP} {ops:Array Oper} {l:List xz} {mkv imp:List Nat}
variable {Qp:Fs->AB->Nat->Prop} {base:Nat} {kp:List Nat} {Qc:Exit->Act->World->Prop}
variable {K:AS->Prop} {listed:Array Bool} {i:Nat}
theorem Me{Kc:Act->World->Prop}{s:AS}{a:Act}{w:World}(hl:OY P N lo ops mkv imp ops.toList 0=some l)(hlo:D.lo<=lo)(hi:i<ops.size)(hstep:Ae P Qp base (CU l i) K s)
  (hsim:En m g0 H0 w0 N D s a w) (hb:m<=base) (hbump:Eg l=true->base+ops.size<=s.n)
  (hK:∀s' a' w',K s'->En m g0 H0 w0 N D s' a' w'->s.n<=s'.n->Kc a' w')
  (hQ:∀v H' n' chain a' w',Qp v H' n'->Oa m g0 H0 w0 D a'.defers a'.tmps v H' n' chain w'->Qc (.panic chain) a' w'):wpOpIn (FR r) 0 P ops Qc i Kc a w:=by
 obtain⟨h1,h2⟩:=EP _ _ _ hl;have ho:ops[i]?=some ops[i]:=by simp [hi]
 obtain⟨gd,k,q1,q2,q3,q4⟩:=h2 i ops[i] (by simp [hi]);rw[th]at q3;have e:CU l i=⟨ops[i].dst,gd,k⟩:=by simp [CU,q1]
 rw[e]at hstep;refine Nc ho q2 q3 hstep hsim hb (λhc=>?_) (λd e=>⟨(q4 d e).1,sO hlo (q4 d e).2⟩) hK hQ;have:Eg l=true:=by
  unfold Eg;rw[uF];refine⟨_,te q1,?_⟩;exact hc
 have:=hbump this;omega
theorem Ps(hl:OY P N lo ops mkv imp ops.toList 0=some l)(hlo:D.lo<=lo)(hb:m<=base)
  (hQ:∀v H' n' chain a' w',Qp v H' n'->Oa m g0 H0 w0 D a'.defers a'.tmps v H' n' chain w'->Qc (.panic chain) a' w')
  (hK:∀s' a' w',K s'->En m g0 H0 w0 N D s' a' w'->Qc .normal a' w'):
  ∀(L:List Nat) (s:AS) (a:Act) (w:World),(∀i∈L,i<ops.size)->EC P Qp base (FO l L) K s->En m g0 H0 w0 N D s a w->(Eg l=true->base+ops.size<=s.n)->
   wpOpsIn (FR r) 0 P ops Qc L a w
 |[],s,a,w,_,h,hs,_=>by simp only[wpOpsIn];exact hK s a w h hs
 |i::L,s,a,w,hi,h,hs,hbump=>by
  rw[wpOpsIn_cons];refine Me hl hlo (hi i (sX ..)) (K:=EC P Qp base (FO l L) K) h hs hb hbump (λs' a' w' hk hs' hn=>?_) hQ;exact Ps hl hlo hb hQ hK L s' a' w' (λj hj=>hi j (tB _ hj)) hk hs' (λq=>sO (hbump q) hn)
def Mf(ops:Array Oper)(listed:Array Bool):Prop:=∀(j:Nat) (o:Oper),listed.getD j false=true->ops[j]?=some o->∀e∈o.after,Region.binds .any e=true->listed.getD e.on false=true
theorem KI{α:Type}{f:α->Nat}{x:Nat}:∀(l:List α) (m:Nat),(l.foldl (λm e=>m|||f e) m).testBit x=true->m.testBit x=true\/∃e∈l,(f e).testBit x=true
 |[],m,h=>.inl h
 |a::l,m,h=>by
  rcases KI l _ h with h|⟨e,he,h⟩
  ·grind
  ·exact .inr ⟨e,tB _ he,h⟩
theorem UQ{acc:List Nat}{o:Oper}{x:Nat}(h:(JT acc o).testBit x=true):∃e∈o.after,Region.binds .any e=true/\(x=e.on\/(acc.getD e.on 0).testBit x=true):=by
 unfold JT at h;have e1:(λ(m:Nat) (e:Edge)=>m|||(1<<<e.on)|||acc.getD e.on 0)=λm e=>m|||((1<<<e.on)|||acc.getD e.on 0):=by
  funext m e;rw[Nat.or_assoc]
 rw[e1]at h;rcases KI _ _ h with h|⟨e,he,h⟩
 ·simp at h
 ·simp only[tV,vt]at he;refine⟨e,he.1,he.2,?_⟩;rw[Nat.testBit_or,sA]at h;rcases h with h|h
  ·simp_all [Nat.one_shiftLeft,Nat.testBit_two_pow]
  ·exact .inr h
def UR(ops:List Oper)(ms:List Nat):Prop:=∀k x,(ms.getD k 0).testBit x=true->∃o,ops[k]?=some o/\∃e∈o.after,Region.binds .any e=true/\(x=e.on\/(e.on<k/\(ms.getD e.on 0).testBit x=true))
theorem Sm:∀(r pre:List Oper) (acc:List Nat),acc.length=pre.length->UR (pre++r) acc->UR (pre++r) (IE r acc)
 |[],pre,acc,_,h=>h
 |o::r,pre,acc,hl,h=>by
  have e:pre++o::r=(pre++[o])++r:=zw
  rw[e]at h⊢;refine Sm r (pre++[o]) (acc++[JT acc o]) (by simp [hl]) ?_;intro k x hb;have old:∀j,j<acc.length->(acc++[JT acc o]).getD j 0=acc.getD j 0:=λj hj=>by
   simp [ur,tu hj]
  by_cases hk:k<acc.length
  ·rw[old k hk]at hb;obtain⟨o',h1,e',h2,h3,h4⟩:=h k x hb;refine⟨o',h1,e',h2,h3,h4.imp id λ⟨a,b⟩=>⟨a,by rw[old _ zo];exact b⟩⟩
  ·by_cases my:k=acc.length
   ·subst my;have e2:(acc++[JT acc o]).getD acc.length 0=JT acc o:=by simp [ur]
    rw[e2]at hb;obtain⟨e',h2,h3,h4⟩:=UQ hb;refine⟨o,by rw[hl];simp,e',h2,h3,h4.imp id λb=>?_⟩;have c9:e'.on<acc.length:=by
     apply Nat.lt_of_not_le;intro hge;rw[ur,uj hge]at b;simp at b
    exact⟨c9,by rw[old _ c9];exact b⟩
   ·exfalso;rw[ur,uj (by simp;omega)]at hb;simp at hb
theorem IJ(hc:Mf ops listed):∀(k:Nat),(∀o,ops[k]?=some o->∀e∈o.after,Region.binds .any e=true->listed.getD e.on false=true)->∀x,((IE ops.toList []).getD k 0).testBit x=true->listed.getD x false=true:=by
 have hm:UR ops.toList (IE ops.toList []):=Sm ops.toList [] [] rfl (λk x h=>by simp at h);intro k;induction k using Nat.strongRecOn with
 |_ k ih=>
  intro hi x hb;obtain⟨o,h1,e,h2,h3,h4⟩:=hm k x hb;have ho:ops[k]?=some o:=by simpa using h1
  have hl:=hi o ho e h2 h3;rcases h4 with rfl|⟨c9,h4⟩
  ·exact hl
  ·exact ih e.on c9 (λo' ho'=>hc e.on o' hl ho') x h4
theorem B4:i∈DN ops listed↔i<ops.size/\listed.getD i true=false:=by
 simp [DN]
theorem GW(listed:Array Bool):(DN ops listed).Pairwise (· < ·):=List.Pairwise.filter _ uQ
theorem Sn(hi:i<listed.size):DN ops (listed.setIfInBounds i true)=(DN ops listed).filter (· !=i):=by
 unfold DN;rw[List.filter_filter];apply List.filter_congr;intro j hj;by_cases h:i=j
 ·subst h;simp [hi]
 ·rw[getD_set_ne true h];simp [Ne.symm h]
theorem KJ{A B:List Nat}(h:(A++i::B).Pairwise (· < ·)):(A++i::B).filter (· !=i)=A++B/\∀x∈A,x<i:=by
 rw[List.pairwise_append]at h;obtain⟨_,h2,h3⟩:=h;rw[uz]at h2;refine⟨?_,λx hx=>h3 x hx i (sX ..)⟩;rw[tD,tI];simp only[bne_self_eq_false,sr,sG];congr 1
 ·apply uN.2;intro x hx;have:=h3 x hx i (sX ..);simp;omega
 ·apply uN.2;intro x hx;have:=h2.1 x hx;simp;omega
theorem US(hl:OY P N lo ops mkv imp ops.toList 0=some l)(hlo:D.lo<=lo)(hd:UA ops l=true)(hkp:∀x∈l,Ey kp x)(hKr:∀a b,OJ kp a b->K a->K b)(hb:m<=base)
  (hQ:∀v H' n' chain a' w',Qp v H' n'->Oa m g0 H0 w0 D a'.defers a'.tmps v H' n' chain w'->Qc (.panic chain) a' w')
  (hK:∀s' a' w',K s'->En m g0 H0 w0 N D s' a' w'->Qc .normal a' w'):
  ∀(fuel:Nat) (listed:Array Bool) (s:AS) (a:Act) (w:World),(DN ops listed).length=fuel->listed.size=ops.size->Mf ops listed->EC P Qp base (FO l (DN ops listed)) K s->En m g0 H0 w0 N D s a w->
   (Eg l=true->base+ops.size<=s.n)->wpAnyIn (FR r) 0 P .any ops Qc fuel listed a w:=by
 obtain⟨hlen,hspec⟩:=EP _ _ _ hl;have hlen:l.length=ops.size:=by rw[hlen,sW]
 unfold UA Vr at hd;rw[rl,rl]at hd;obtain⟨⟨hed,hld⟩,hd⟩:=hd;have opAt_mem:∀i,i<ops.size->CU l i∈l:=λi hi=>by
  have w9:i<l.length:=zo
  simp [CU,w9]
 have ready_nil:∀listed:Array Bool,Region.ready .any ops listed=[]->listed.size=ops.size->DN ops listed=[]:=by
  intro listed hr hsz;cases hrem:DN ops listed with
  |nil=>rfl
  |cons i B=>
   exfalso;have hi:i∈DN ops listed:=by rw[hrem];exact sX ..
   obtain⟨hi1,hi2⟩:=B4.1 hi;have:i∈Region.ready .any ops listed:=by
    refine mem_ready.2 ⟨hi2,ops[i],by simp [hi1],λe he hbd=>?_⟩;unfold Md at hed;rw[sg]at hed;have h1:=hed i (t9.2 hi1);have ho:ops[i]?=some ops[i]:=by simp [hi1]
    rw[ho]at h1;simp only[sg,vt]at h1;have h2:=h1 e he;rw[hbd]at h2;simp only[re,tH,rn]at h2;by_cases h3:listed.getD e.on false=true
    ·exact h3
    ·exfalso;have h4:e.on∈DN ops listed:=B4.2 ⟨zo,by
      have:e.on<listed.size:=zo
      simp [this]at h3⊢;exact h3⟩
     rw[hrem]at h4;have hs:=GW (ops:=ops) listed;rw[hrem,uz]at hs;rcases sP.1 h4 with h5|h5
     ·omega
     ·have:=hs.1 _ h5;omega
   rw[hr]at this;cases this
 intro fuel;induction fuel with
 |zero=>
  intro listed s a w hf hsz hc h hs hbump;have Ai:DN ops listed=[]:=tF.1 hf;refine⟨?_,?_⟩
  ·cases hr:Region.ready .any ops listed with
   |nil=>rfl
   |cons i B=>
    have hi:i∈Region.ready .any ops listed:=by rw[hr];exact sX ..
    obtain⟨h1,o,h2,-⟩:=mem_ready.1 hi;have:i∈DN ops listed:=B4.2 ⟨(sF.1 h2).1,h1⟩;rw[Ai]at this;cases this
  ·rw[Ai]at h;exact hK s a w h hs
 |succ fuel ih=>
  intro listed s a w hf hsz hc h hs hbump;refine⟨λhr=>?_,λi hi=>?_⟩
  ·rw[ready_nil listed hr hsz]at hf;cases hf
  ·obtain⟨h1,o,h2,hedge⟩:=mem_ready.1 hi;have hi1:i<ops.size:=(sF.1 h2).1;have hir:i∈DN ops listed:=B4.2 ⟨hi1,h1⟩;obtain⟨A,B,hAB⟩:=List.append_of_mem hir;have hsort:=GW (ops:=ops) listed;rw[hAB]at hsort;obtain⟨hf1,c9⟩:=KJ hsort;have hset:DN ops (listed.setIfInBounds i true)=A++B:=by rw[Sn zo,hAB,hf1]
   have hanc:∀x,((IE ops.toList []).getD i 0).testBit x=true->listed.getD x false=true:=IJ hc i (λo' ho'=>by rw[h2]at ho';cases ho';exact hedge);have hlti:i<l.length:=zo
   have l7:=jX (P:=P) (Qp:=Qp) (base:=base) (y:=CU l i) (B:=FO l B) (K:=K) (kp:=kp) (hkp _ (opAt_mem i hi1))
    (λx hx=>by
     obtain⟨j,hj,rfl⟩:=t7.1 hx;exact hkp _ (opAt_mem j (B4.1 (show j∈DN ops listed by rw[hAB];simp [hj])).1)) hKr (FO l A) s
    (λx hx=>by
     obtain⟨j,hj,rfl⟩:=t7.1 hx;have hji:=c9 j hj;obtain⟨hj1,hj2⟩:=B4.1 (show j∈DN ops listed by rw[hAB];simp [hj]);rw[sg]at hd;have hd1:=hd i (t9.2 hlti);rw[sg]at hd1;have hd2:=hd1 j (t9.2 hji);have hltj:j<l.length:=zo
     have e1:l[j]?=some (CU l j):=by simp [CU,hltj]
     have e2:l[i]?=some (CU l i):=by simp [CU,hlti]
     rw[e1,e2]at hd2;simp only[sA,rl]at hd2;rcases hd2 with⟨d1,d2⟩|d3
     ·refine⟨IH d1,d2,hkp _ (opAt_mem j hj1),λc1 c2=>?_⟩;obtain⟨gd,k,q1,q2,q3,q4⟩:=hspec i ops[i] (by simp [hi1]);obtain⟨gd',k',q1',q2',q3',q4'⟩:=hspec j ops[j] (by simp [hj1]);have e3:CU l i=⟨ops[i].dst,gd,k⟩:=by simp [CU,q1]
      have e4:CU l j=⟨ops[j].dst,gd',k'⟩:=by simp [CU,q1']
      rw[e3]at c2⊢;rw[e4]at c1⊢;have r1:=G4 q3 c2;have r2:=G4 q3' c1;simp only[r1,r2];omega
     ·exfalso;have:=hanc j d3;have hjs:j<listed.size:=zo
      simp [hjs]at this hj2;rw[this]at hj2;cases hj2)
    (by
     intro sz ag ad e s7;have hld1:Qd (CU l i)=true:=(sg.1 hld) _ (opAt_mem i hi1);obtain⟨g,hR,hE,-⟩:=hs;cases ad with
     |c v=>
      unfold Qd at hld1;rw[e]at hld1;simp only[AX,lk];cases v<;>first|trivial|(simp at hld1;done)
     |t t=>
      simp only[lk,AX]at s7⊢;cases hg:BI s.env t with
      |none=>simp [hg]at s7
      |some gv=>
       obtain⟨gd,v⟩:=gv;simp only[hg]at s7⊢;obtain⟨x,-,p2,-⟩:=hE t gd v hg;have hv:=p2 s7;cases v<;>first|trivial|skip
       ·obtain⟨L,q1,-⟩:=hv;exact(hR.dom _ _ q1).1
       ·obtain⟨L,q1,-⟩:=hv;exact(hR.dom _ _ q1).1)
    (by
     have e:FO l A++CU l i::FO l B=FO l (DN ops listed):=by rw[hAB];simp [FO]
     rw[e];exact h)
   have e2:FO l A++FO l B=FO l (DN ops (listed.setIfInBounds i true)):=by rw[hset];simp [FO]
   rw[e2]at l7;refine Me hl hlo hi1 l7 hs hb hbump (λs' a' w' hk hs' hn=>?_) hQ;refine ih _ s' a' w' ?_ (by simp [hsz]) ?_ hk hs' (λq=>sO (hbump q) hn)
   ·rw[hset];rw[hAB]at hf;simp at hf⊢;omega
   ·intro j o' hj ho' e he hbd;by_cases hij:i=j
    ·subst hij;rw[h2]at ho';cases ho';exact getD_set_true (hedge e he hbd)
    ·rw[getD_set_ne false hij]at hj;exact getD_set_true (hc j o' hj ho' e he hbd)
def Gk(ord:List Nat)(listed:Array Bool):List Nat:=ord.filter λi=>!listed.getD i true
theorem L3{p:Nat->Nat->Bool}:∀{l:List Nat},J7 p l=true->l.Pairwise λj i=>p j i=true
 |[],_=>List.Pairwise.nil
 |j::r,h=>by
  simp only[J7,rl,sg]at h;exact uz.2 ⟨h.1,L3 h.2⟩
theorem aU{ord:List Nat}(hi:i<listed.size):Gk ord (listed.setIfInBounds i true)=(Gk ord listed).filter (· !=i):=by
 unfold Gk;rw[List.filter_filter];apply List.filter_congr;intro j hj;by_cases h:i=j
 ·subst h;simp [hi]
 ·rw[getD_set_ne true h];simp [Ne.symm h]
theorem aV{R:Nat->Nat->Prop}(hR:∀x y,R x y->x≠y){A B:List Nat}(h:(A++i::B).Pairwise R):(A++i::B).filter (· !=i)=A++B/\∀x∈A,R x i:=by
 rw[List.pairwise_append]at h;obtain⟨_,h2,h3⟩:=h;rw[uz]at h2;refine⟨?_,λx hx=>h3 x hx i (sX ..)⟩;rw[tD,tI];simp only[bne_self_eq_false,sr,sG];congr 1
 ·simp_all
 ·apply uN.2;intro x hx;have:=hR _ _ (h2.1 x hx);simpa using λe=>this e.symm
theorem L4{ops:Array Oper}{T:List Nat}:∀(S seen:List Nat),NR ops seen (S++i::T)=true->∀o,ops[i]?=some o->∀e∈o.after,Region.binds .any e=true->e.on∈S\/e.on∈seen
 |[],seen,h,o,ho,e,he,hb=>by
  simp only[sj,NR,rl,ho,sg,vt]at h;have:=h.1 e he;rw[hb]at this;exact .inr (by simpa using this)
 |j::S,seen,h,o,ho,e,he,hb=>by
  simp only[si,NR,rl]at h;rcases L4 S (j::seen) h.2 o ho e he hb with q|q
  ·exact .inl (by simp [q])
  ·grind
theorem So{fz:List (Nat×Nat)}{cx:Nat->Fs}(hl:OY P N lo ops mkv imp ops.toList 0=some l)(hlo:D.lo<=lo)(hd:Qf fz ops l=true)(hkp:∀x∈l,Ey kp x)(hKr:∀a b,OJ kp a b->K a->K b)(hb:m<=base)
  (hQ:∀v H' n' chain a' w',Qp v H' n'->Oa m g0 H0 w0 D a'.defers a'.tmps v H' n' chain w'->Qc (.panic chain) a' w')
  (hK:∀s' a' w',K s'->En m g0 H0 w0 N D s' a' w'->Qc .normal a' w'):
  ∀(fuel:Nat) (listed:Array Bool) (s:AS) (a:Act) (w:World),(DN ops listed).length=fuel->listed.size=ops.size->Mf ops listed->JR P Qp base cx (Lu fz l (DN ops listed)) K s->En m g0 H0 w0 N D s a w->
   (Eg l=true->base+ops.size<=s.n)->wpAnyIn (FR r) 0 P .any ops Qc fuel listed a w:=by
 obtain⟨hlen,hspec⟩:=EP _ _ _ hl;have hlen:l.length=ops.size:=by rw[hlen,sW]
 unfold Qf SM at hd;rw[rl,rl]at hd;obtain⟨⟨hed,hld⟩,hd⟩:=hd;have opAt_mem:∀i,i<ops.size->CU l i∈l:=λi hi=>by
  have w9:i<l.length:=zo
  simp [CU,w9]
 have ready_nil:∀listed:Array Bool,Region.ready .any ops listed=[]->listed.size=ops.size->DN ops listed=[]:=by
  intro listed hr hsz;cases hrem:DN ops listed with
  |nil=>rfl
  |cons i B=>
   exfalso;have hi:i∈DN ops listed:=by rw[hrem];exact sX ..
   obtain⟨hi1,hi2⟩:=B4.1 hi;have:i∈Region.ready .any ops listed:=by
    refine mem_ready.2 ⟨hi2,ops[i],by simp [hi1],λe he hbd=>?_⟩;unfold Md at hed;rw[sg]at hed;have h1:=hed i (t9.2 hi1);have ho:ops[i]?=some ops[i]:=by simp [hi1]
    rw[ho]at h1;simp only[sg,vt]at h1;have h2:=h1 e he;rw[hbd]at h2;simp only[re,tH,rn]at h2;by_cases h3:listed.getD e.on false=true
    ·exact h3
    ·exfalso;have h4:e.on∈DN ops listed:=B4.2 ⟨zo,by
      have:e.on<listed.size:=zo
      simp [this]at h3⊢;exact h3⟩
     rw[hrem]at h4;have hs:=GW (ops:=ops) listed;rw[hrem,uz]at hs;rcases sP.1 h4 with h5|h5
     ·omega
     ·have:=hs.1 _ h5;omega
   rw[hr]at this;cases this
 intro fuel;induction fuel with
 |zero=>
  intro listed s a w hf hsz hc h hs hbump;have Ai:DN ops listed=[]:=tF.1 hf;refine⟨?_,?_⟩
  ·cases hr:Region.ready .any ops listed with
   |nil=>rfl
   |cons i B=>
    have hi:i∈Region.ready .any ops listed:=by rw[hr];exact sX ..
    obtain⟨h1,o,h2,-⟩:=mem_ready.1 hi;have:i∈DN ops listed:=B4.2 ⟨(sF.1 h2).1,h1⟩;rw[Ai]at this;cases this
  ·rw[Ai]at h;exact hK s a w h hs
 |succ fuel ih=>
  intro listed s a w hf hsz hc h hs hbump;refine⟨λhr=>?_,λi hi=>?_⟩
  ·rw[ready_nil listed hr hsz]at hf;cases hf
  ·obtain⟨h1,o,h2,hedge⟩:=mem_ready.1 hi;have hi1:i<ops.size:=(sF.1 h2).1;have hir:i∈DN ops listed:=B4.2 ⟨hi1,h1⟩;obtain⟨A,B,hAB⟩:=List.append_of_mem hir;have hsort:=GW (ops:=ops) listed;rw[hAB]at hsort;obtain⟨hf1,c9⟩:=KJ hsort;have hset:DN ops (listed.setIfInBounds i true)=A++B:=by rw[Sn zo,hAB,hf1]
   have hanc:∀x,((IE ops.toList []).getD i 0).testBit x=true->listed.getD x false=true:=IJ hc i (λo' ho'=>by rw[h2]at ho';cases ho';exact hedge);have hlti:i<l.length:=zo
   have l7:=UP (P:=P) (Qp:=Qp) (base:=base) (cx:=cx) (y:=(J6 fz (J5 l) (CU l i),CU l i)) (B:=Lu fz l B) (K:=K) (kp:=kp) (hkp _ (opAt_mem i hi1))
    (λx hx=>by
     obtain⟨j,hj,rfl⟩:=t7.1 hx;exact hkp _ (opAt_mem j (B4.1 (show j∈DN ops listed by rw[hAB];simp [hj])).1)) hKr (Lu fz l A) s
    (λx hx=>by
     obtain⟨j,hj,rfl⟩:=t7.1 hx;have hji:=c9 j hj;obtain⟨hj1,hj2⟩:=B4.1 (show j∈DN ops listed by rw[hAB];simp [hj]);rw[sg]at hd;have hd1:=hd i (t9.2 hlti);rw[sg]at hd1;have hd2:=hd1 j (t9.2 hji);have hltj:j<l.length:=zo
     have e1:l[j]?=some (CU l j):=by simp [CU,hltj]
     have e2:l[i]?=some (CU l i):=by simp [CU,hlti]
     rw[e1,e2]at hd2;simp only[sA,rl]at hd2;rcases hd2 with⟨d1,d2⟩|d3
     ·refine⟨IH d1,d2,hkp _ (opAt_mem j hj1),λc1 c2=>?_⟩;obtain⟨gd,k,q1,q2,q3,q4⟩:=hspec i ops[i] (by simp [hi1]);obtain⟨gd',k',q1',q2',q3',q4'⟩:=hspec j ops[j] (by simp [hj1]);have e3:CU l i=⟨ops[i].dst,gd,k⟩:=by simp [CU,q1]
      have e4:CU l j=⟨ops[j].dst,gd',k'⟩:=by simp [CU,q1']
      rw[e3]at c2⊢;rw[e4]at c1⊢;have r1:=G4 q3 c2;have r2:=G4 q3' c1;simp only[r1,r2];omega
     ·exfalso;have:=hanc j d3;have hjs:j<listed.size:=zo
      simp [hjs]at this hj2;rw[this]at hj2;cases hj2)
    (by
     intro sz ag ad e s7;have hld1:Qd (CU l i)=true:=(sg.1 hld) _ (opAt_mem i hi1);obtain⟨g,hR,hE,-⟩:=hs;cases ad with
     |c v=>
      unfold Qd at hld1;rw[e]at hld1;simp only[AX,lk];cases v<;>first|trivial|(simp at hld1;done)
     |t t=>
      simp only[lk,AX]at s7⊢;cases hg:BI s.env t with
      |none=>simp [hg]at s7
      |some gv=>
       obtain⟨gd,v⟩:=gv;simp only[hg]at s7⊢;obtain⟨x,-,p2,-⟩:=hE t gd v hg;have hv:=p2 s7;cases v<;>first|trivial|skip
       ·obtain⟨L,q1,-⟩:=hv;exact(hR.dom _ _ q1).1
       ·obtain⟨L,q1,-⟩:=hv;exact(hR.dom _ _ q1).1)
    (by
     have e:Lu fz l A++(J6 fz (J5 l) (CU l i),CU l i)::Lu fz l B=Lu fz l (DN ops listed):=by rw[hAB];simp [Lu]
     rw[e];exact h)
   have e2:Lu fz l A++Lu fz l B=Lu fz l (DN ops (listed.setIfInBounds i true)):=by rw[hset];simp [Lu]
   rw[e2]at l7;refine Me hl hlo hi1 l7.2 hs hb hbump (λs' a' w' hk hs' hn=>?_) hQ;refine ih _ s' a' w' ?_ (by simp [hsz]) ?_ hk.2 hs' (λq=>sO (hbump q) hn)
   ·rw[hset];rw[hAB]at hf;simp at hf⊢;omega
   ·intro j o' hj ho' e he hbd;by_cases hij:i=j
    ·subst hij;rw[h2]at ho';cases ho';exact getD_set_true (hedge e he hbd)
    ·rw[getD_set_ne false hij]at hj;exact getD_set_true (hc j o' hj ho' e he hbd)
theorem Sp{fz:List (Nat×Nat)}{ord:List Nat}{cx:Nat->Fs}(hl:OY P N lo ops mkv imp ops.toList 0=some l)(hlo:D.lo<=lo)(hd:NS fz ord ops l=true)(hkp:∀x∈l,Ey kp x)(hKr:∀a b,OJ kp a b->K a->K b)(hb:m<=base)
  (hQ:∀v H' n' chain a' w',Qp v H' n'->Oa m g0 H0 w0 D a'.defers a'.tmps v H' n' chain w'->Qc (.panic chain) a' w')
  (hK:∀s' a' w',K s'->En m g0 H0 w0 N D s' a' w'->Qc .normal a' w'):
  ∀(fuel:Nat) (listed:Array Bool) (s:AS) (a:Act) (w:World),(Gk ord listed).length=fuel->listed.size=ops.size->Mf ops listed->JR P Qp base cx (Lu fz l (Gk ord listed)) K s->En m g0 H0 w0 N D s a w->
   (Eg l=true->base+ops.size<=s.n)->wpAnyIn (FR r) 0 P .any ops Qc fuel listed a w:=by
 obtain⟨hlen,hspec⟩:=EP _ _ _ hl;have hlen:l.length=ops.size:=by rw[hlen,sW]
 unfold NS at hd;simp only[rl]at hd;obtain⟨⟨⟨⟨⟨-,ho1⟩,ho2⟩,hld⟩,hed⟩,hd⟩:=hd;have hmem:∀i,i∈ord↔i<ops.size:=λi=>⟨λh=>by simpa using(sg.1 ho1) i h,λh=>by simpa using(sg.1 ho2) i (t9.2 h)⟩
 have hpw:=L3 hd;have B4:∀{listed:Array Bool} {i:Nat},i∈Gk ord listed↔i<ops.size/\listed.getD i true=false:=λ{listed i}=>by simp [Gk,hmem]
 have opAt_mem:∀i,i<ops.size->CU l i∈l:=λi hi=>by
  have w9:i<l.length:=zo
  simp [CU,w9]
 have ready_nil:∀listed:Array Bool,Region.ready .any ops listed=[]->listed.size=ops.size->Gk ord listed=[]:=by
  intro listed hr hsz;cases hrem:Gk ord listed with
  |nil=>rfl
  |cons i B=>
   exfalso;have hi:i∈Gk ord listed:=by rw[hrem];exact sX ..
   obtain⟨hi1,hi2⟩:=B4.1 hi;have:i∈Region.ready .any ops listed:=by
    refine mem_ready.2 ⟨hi2,ops[i],by simp [hi1],λe he hbd=>?_⟩;obtain⟨S,T,hST,hS,-,-⟩:=List.filter_eq_cons_iff.1 hrem;have h1:=L4 S [] (by rw[hST]at hed;exact hed) ops[i] (by simp [hi1]) e he hbd;simp only[uE,vF]at h1;have h2:listed.getD e.on true=true:=by simpa using hS _ h1
    have h3:e.on<listed.size:=by rw[hsz];exact(hmem _).1 (by rw[hST];simp [h1])
    simp [h3]at h2⊢;exact h2
   rw[hr]at this;cases this
 intro fuel;induction fuel with
 |zero=>
  intro listed s a w hf hsz hc h hs hbump;have Ai:Gk ord listed=[]:=tF.1 hf;refine⟨?_,?_⟩
  ·cases hr:Region.ready .any ops listed with
   |nil=>rfl
   |cons i B=>
    have hi:i∈Region.ready .any ops listed:=by rw[hr];exact sX ..
    obtain⟨h1,o,h2,-⟩:=mem_ready.1 hi;have:i∈Gk ord listed:=B4.2 ⟨(sF.1 h2).1,h1⟩;rw[Ai]at this;cases this
  ·rw[Ai]at h;exact hK s a w h hs
 |succ fuel ih=>
  intro listed s a w hf hsz hc h hs hbump;refine⟨λhr=>?_,λi hi=>?_⟩
  ·rw[ready_nil listed hr hsz]at hf;cases hf
  ·obtain⟨h1,o,h2,hedge⟩:=mem_ready.1 hi;have hi1:i<ops.size:=(sF.1 h2).1;have hir:i∈Gk ord listed:=B4.2 ⟨hi1,h1⟩;obtain⟨A,B,hAB⟩:=List.append_of_mem hir;have hsort:(Gk ord listed).Pairwise λj i=>Vv fz l (IE ops.toList []) j i=true:=hpw.filter _
   rw[hAB]at hsort;obtain⟨hf1,c9⟩:=aV (λx y h=>by unfold Vv at h;rw[rl]at h;simpa using h.1) hsort;have hset:Gk ord (listed.setIfInBounds i true)=A++B:=by rw[aU zo,hAB,hf1]
   have hanc:∀x,((IE ops.toList []).getD i 0).testBit x=true->listed.getD x false=true:=IJ hc i (λo' ho'=>by rw[h2]at ho';cases ho';exact hedge);have hlti:i<l.length:=zo
   have l7:=UP (P:=P) (Qp:=Qp) (base:=base) (cx:=cx) (y:=(J6 fz (J5 l) (CU l i),CU l i)) (B:=Lu fz l B) (K:=K) (kp:=kp) (hkp _ (opAt_mem i hi1))
    (λx hx=>by
     obtain⟨j,hj,rfl⟩:=t7.1 hx;exact hkp _ (opAt_mem j (B4.1 (show j∈Gk ord listed by rw[hAB];simp [hj])).1)) hKr (Lu fz l A) s
    (λx hx=>by
     obtain⟨j,hj,rfl⟩:=t7.1 hx;obtain⟨hj1,hj2⟩:=B4.1 (show j∈Gk ord listed by rw[hAB];simp [hj]);have hd2:=c9 j hj;have hltj:j<l.length:=zo
     have e1:l[j]?=some (CU l j):=by simp [CU,hltj]
     have e2:l[i]?=some (CU l i):=by simp [CU,hlti]
     unfold Vv at hd2;rw[rl,e1,e2]at hd2;have hji:j≠i:=by simpa using hd2.1
     replace hd2:=hd2.2;simp only[sA,rl]at hd2;rcases hd2 with⟨d1,d2⟩|d3
     ·refine⟨IH d1,d2,hkp _ (opAt_mem j hj1),λc1 c2=>?_⟩;obtain⟨gd,k,q1,q2,q3,q4⟩:=hspec i ops[i] (by simp [hi1]);obtain⟨gd',k',q1',q2',q3',q4'⟩:=hspec j ops[j] (by simp [hj1]);have e3:CU l i=⟨ops[i].dst,gd,k⟩:=by simp [CU,q1]
      have e4:CU l j=⟨ops[j].dst,gd',k'⟩:=by simp [CU,q1']
      rw[e3]at c2⊢;rw[e4]at c1⊢;have r1:=G4 q3 c2;have r2:=G4 q3' c1;simp only[r1,r2];omega
     ·exfalso;have:=hanc j d3;have hjs:j<listed.size:=zo
      simp [hjs]at this hj2;rw[this]at hj2;cases hj2)
    (by
     intro sz ag ad e s7;have hld1:Qd (CU l i)=true:=(sg.1 hld) _ (opAt_mem i hi1);obtain⟨g,hR,hE,-⟩:=hs;cases ad with
     |c v=>
      unfold Qd at hld1;rw[e]at hld1;simp only[AX,lk];cases v<;>first|trivial|(simp at hld1;done)
     |t t=>
      simp only[lk,AX]at s7⊢;cases hg:BI s.env t with
      |none=>simp [hg]at s7
      |some gv=>
       obtain⟨gd,v⟩:=gv;simp only[hg]at s7⊢;obtain⟨x,-,p2,-⟩:=hE t gd v hg;have hv:=p2 s7;cases v<;>first|trivial|skip
       ·obtain⟨L,q1,-⟩:=hv;exact(hR.dom _ _ q1).1
       ·obtain⟨L,q1,-⟩:=hv;exact(hR.dom _ _ q1).1)
    (by
     have e:Lu fz l A++(J6 fz (J5 l) (CU l i),CU l i)::Lu fz l B=Lu fz l (Gk ord listed):=by rw[hAB];simp [Lu]
     rw[e];exact h)
   have e2:Lu fz l A++Lu fz l B=Lu fz l (Gk ord (listed.setIfInBounds i true)):=by rw[hset];simp [Lu]
   rw[e2]at l7;refine Me hl hlo hi1 l7.2 hs hb hbump (λs' a' w' hk hs' hn=>?_) hQ;refine ih _ s' a' w' ?_ (by simp [hsz]) ?_ hk.2 hs' (λq=>sO (hbump q) hn)
   ·rw[hset];rw[hAB]at hf;simp at hf⊢;omega
   ·intro j o' hj ho' e he hbd;by_cases hij:i=j
    ·grind
    ·rw[getD_set_ne false hij]at hj;exact getD_set_true (hc j o' hj ho' e he hbd)
end
def QM(m:Nat)(g0:q8)(H0:AB)(w0:World)(N:Nat)(D:DP)(Q:x6->AS->Prop):Exit->Act->World->Prop
 | .normal,a,w=>∃s,Q .normal s/\En m g0 H0 w0 N D s a w
 | .exit i,a,w=>∃s,Q (.exit i) s/\En m g0 H0 w0 N D s a w
 | .ret,a,w=>∃s,Q .ret s/\En m g0 H0 w0 N D s a w
 | .panic chain,a,w=>∃v H n,Q (.pan v) ⟨[],H,n⟩/\Oa m g0 H0 w0 D a.defers a.tmps v H n chain w
 |_,_,_=>False
def En.drawn{m:Nat}{g0:q8}{H0:AB}{w0:World}{N:Nat}{D:DP}{s:AS}{a:Act}{w:World}(h:En m g0 H0 w0 N D s a w)(k:Nat):En m g0 H0 w0 N D s a {w with drawn:=k}:=by
 obtain⟨g,hR,hE,hT,hm,hN,hD⟩:=h;refine⟨g,⟨hR.σw,λid ob ho=>?_,hR.dom,hR.hd,hR.ap,hR.un,hR.gl,hR.gz⟩,hE,⟨hT.le,hT.βn,hT.os,hT.tape,hT.output,hT.size,hT.kept,hT.now,hT.nσ⟩,hm,hN,Kk.heap (w:=w) (w':={w with drawn:=k}) rfl hD⟩;have:=hR.obj id ob ho;cases ob<;>exact this
def En.trans{m m1:Nat}{g0 g1:q8}{H0 H1:AB}{w0 w1:World}{N:Nat}{D:DP}{s':AS}{a':Act}{w':World}(hT:q9 m g0 H0 w0 g1 H1 w1)(hm:m<=m1)(h:En m1 g1 H1 w1 N D s' a' w'):
  En m g0 H0 w0 N D s' a' w':=by
 obtain⟨g,hR,hE,hT',hm',hN,hD⟩:=h;exact⟨g,hR,hE,hT.trans (hT'.floor hm),zo,hN,hD⟩
def Oa.trans{m m1:Nat}{D:DP}{ds:List Deferred}{tm:Array Value}{g0 g1:q8}{H0 H1:AB}{w0 w1:World}{v:Fs}{H:AB}{n:Nat}{chain:List PanicEntry}{w':World}(hT:q9 m g0 H0 w0 g1 H1 w1)(hm:m<=m1)(h:Oa m1 g1 H1 w1 D ds tm v H n chain w'):
  Oa m g0 H0 w0 D ds tm v H n chain w':=by
 obtain⟨g,x,hR,hT',hm',hc,hv⟩:=h;exact⟨g,x,hR,hT.trans (hT'.floor hm),zo,hc,hv⟩
theorem LD{env:List (Nat×Bool×Fs)}:∀{env2:List (Nat×Bool×Fs)},SB env env2->∀{t:Nat} {gd:Bool} {v:Fs},BI env2 t=some (gd,v)->∃v',BI env t=some (gd,v')/\Wk v' v
 |[],_,t,gd,v,h=>by simp [BI]at h
 |(i,g,x)::r,⟨h1,h2⟩,t,gd,v,h=>by
  simp only[BI]at h;split at h
  ·rename_i e;subst e;cases h;exact h1
  ·exact LD h2 h
theorem KK{n:Nat}:∀{env2:List (Nat×Bool×Fs)},J4 n env2->∀{t:Nat} {gd:Bool} {v:Fs},BI env2 t=some (gd,v)->v.under n
 |[],_,t,gd,v,h=>by simp [BI]at h
 |(i,g,x)::r,⟨h1,h2⟩,t,gd,v,h=>by
  simp only[BI]at h;split at h
  ·cases h;exact h1
  ·exact KK h2 h
def UT{m:Nat}{g0 g1:q8}{H0:AB}{w0 w1:World}{N:Nat}{D:DP}{s1 s' s2:AS}{a':Act}{w':World}(hR:x7 g1 s1.H s1.n w1)(hT:q9 m g0 H0 w0 g1 s1.H w1)(hm:m<=s1.n)
  (h:En s1.n g1 s1.H w1 N D s' a' w') (hw:K3 s1 s' s2):En m g0 H0 w0 N D s2 a' w':=by
 rcases hw with rfl|hw
 ·exact h.trans hT hm
 obtain⟨g,hR',hE,hT',hm',hN,hD⟩:=h;obtain⟨we,⟨e1,e2⟩|⟨e2,hf,hu⟩⟩:=hw
 ·refine⟨g,by rw[e1,e2];exact hR',λt gd v hg=>?_,by rw[e1];exact hT.trans (hT'.floor hm),by rw[e2];omega,hN,by rw[e1];exact hD⟩;obtain⟨v',p1,p2⟩:=LD we hg;obtain⟨x,q1,q2,q3⟩:=hE t gd v' p1;exact⟨x,q1,λk=>p2 _ _ (q2 k),q3⟩
 ·obtain⟨r2,t2,ag⟩:=forget hR hR' hT' hf;refine⟨⟨g1.β,g.σ⟩,by rw[e2];exact r2,λt gd v hg=>?_,hT.trans (t2.floor hm),by rw[e2];omega,hN,hD.own λb=>Tv hT' hf⟩;obtain⟨v',p1,p2⟩:=LD we hg;obtain⟨x,q1,q2,q3⟩:=hE t gd v' p1;exact⟨x,q1,λk=>AR.agree ag v x (KK hu hg) (p2 _ _ (q2 k)),q3⟩
theorem LE(s:AS):∀(l:List Nat) (t:Nat),BI (l.filterMap λt=>(BI s.env t).map λx=>(t,x)) t=if t∈l then BI s.env t else none
 |[],t=>by simp [BI]
 |i::l,t=>by
  rw[List.filterMap_cons];cases h:BI s.env i with
  |none=>
   simp only[tR];rw[LE s l t];by_cases e:t=i
   ·subst e;simp [h]
   ·simp [e]
  |some x=>
   simp only[sU,BI];rw[LE s l t];by_cases e:i=t
   ·subst e;simp [h]
   ·simp [e,Ne.symm e]
def En.keep{m:Nat}{g0:q8}{H0:AB}{w0:World}{N:Nat}{D:DP}{s:AS}{a:Act}{w:World}(h:En m g0 H0 w0 N D s a w)(l:List Nat):En m g0 H0 w0 N D (s.keep l) a w:=by
 obtain⟨g,hR,hE,rest⟩:=h;refine⟨g,hR,λt gd v hg=>?_,rest⟩;simp only[AS.keep]at hg;rw[LE]at hg;split at hg
 ·exact hE t gd v hg
 ·cases hg
def Qn{kp:List Nat}{a b:AS}(h:OJ kp a b):a.keep kp=b.keep kp:=by
 obtain⟨h1,h2,h3⟩:=h;obtain⟨e1,H1,n1⟩:=a;obtain⟨e2,H2,n2⟩:=b;simp only at h1 h2 h3;subst h2;subst h3;simp only[AS.keep,AS.mk.injEq,uo];have:∀l:List Nat,(∀t∈l,t∈kp)->(l.filterMap λt=>(BI e1 t).map λx=>(t,x))=l.filterMap λt=>(BI e2 t).map λx=>(t,x):=by
  intro l;induction l with
  |nil=>intro _;rfl
  |cons t l ih=>grind
 exact this kp λ_ h=>h
def aW{g:q8}{env:List (Nat×Bool×Fs)}{a:Act}(hgl:Et g)(he:Bz g env a.tmps){x:Operand}{x':zz}(h:A4 x=some x')(s7:(lk env x').1=true)(hb:J3 (AX env x')):a.eval x= .bool (Fg (AX env x')):=by
 have:=Dw hgl he h s7;generalize AX env x'=v at this hb⊢;cases v<;>simp only[J3]at hb;exact this
def EQ{P:Program}{b:Frame}{a:Act}{k:List Item}{cs:List Frame}{w:World}{c:Code}:step P (lone (b.atR a (.code (.scope c)::k)) cs w)= .next (lone (b.atR a (.code c:: .inScope c::k)) cs w):=
 step_lone_go (by simp [stepG,stepG.exec,Frame.atR])
def Od{P:Program}{b:Frame}{a:Act}{k:List Item}{cs:List Frame}{w:World}{c:Code}:step P (lone (b.atR a (.inScope c::k)) cs w)= .next (lone (b.atR a k) cs w):=
 step_lone_go (by simp [stepG,stepG.exec,Frame.atR])
theorem UU{F:Fence}{n:Nat}{P:Program}{Q:Exit->Act->World->Prop}{a:Act}{w:World}{c:Code}(h:c.wpIn F n P (λe a w=>match e with
  | .goto _=>False
  |e=>Q e a w) a w):(Code.scope c).wpIn F n P Q a w:=by
 intro b k cs hro hb hr;have h0:(lone (b.atR a (.code (.scope c)::k)) cs w).fenced P F:=fenced_calm hb hr rfl;obtain⟨e,a₁,w₁,hq,harr⟩:=h b (.inScope c::k) cs hro hb hr;cases e with
 |normal=>exact⟨.normal,a₁,w₁,hq,.head h0 EQ (StepsIn.trans harr (.one (fenced_calm hb hr rfl) Od))⟩
 |exit id=>exact⟨_,a₁,w₁,hq,λk' hk=>.head h0 EQ (harr.1 k' (by simp [exitTo,hk])),λhr' hk=>let ⟨k₁,h1,h2⟩:=harr.2 hr' (by simp [exitTo,hk]);⟨k₁,h1,.head h0 EQ h2⟩⟩
 |goto l=>exact hq.elim
 |ret=>exact⟨_,a₁,w₁,hq,.of_steps (.one h0 EQ) harr⟩
 |panic ch=>exact⟨_,a₁,w₁,hq,.of_steps (.one h0 EQ) harr⟩
 |outgrown=>exact⟨_,a₁,w₁,hq,.of_steps (.one h0 EQ) harr⟩
def Hj(p:Nat->Prop)(h:∃k,p k):∃k,p k/\∀j,p j->k<=j:=by
 obtain⟨k,hk⟩:=h;induction k using Nat.strongRecOn with
 |_ k ih=>grind
section
variable {P:Program} {r:Option Nat} {N:Nat} {D:DP} {fz im:List (Nat×Nat)} {kp:Nat->List Nat}
theorem UV{g:Operand}{g':zz}{ps:Array Tmp}{asg body:Code}{Q:x6->AS->Prop}{m:Nat}{g0:q8}{H0:AB}{w0:World}{s:AS}{a:Act}{w:World}(hg:A4 g=some g')
  (s7:(lk s.env g').1=true) (h:GB P s Q ps N asg body (AX s.env g')) (hs:En m g0 H0 w0 N D s a w) (hDw:D.fl<=w0.heap.size) (s8:D.no=false):(Code.rangeFunc g ps asg body).wpIn (FR none) 0 P (QM m g0 H0 w0 N D Q) a w:=by
 obtain⟨gh,hR,hE,hT,hm,hN,hD⟩:=hs;have hv:=Dw hR.gl hE hg s7;generalize AX s.env g'=gv at h hv;cases gv<;>simp only[GB]at h;rename_i ff first cap
 cases ff<;>simp only at h;rename_i s9;obtain⟨fv,cv,e1,k1,k2⟩:=hv;refine wpIn_rangeFunc λfn hfn=>?_
 have hl:=h (w.heap.size+1);obtain⟨wq,hc⟩:=hl;have hcb':=wq;obtain⟨fn',c1,c2,c3⟩:=hcb';have c3':¬fn'.name= "runtime.NumGoroutine" :=by simpa using c3
 have c4:¬fn'.body=none:=by cases hb:fn'.body<;>simp_all
 let rec0:Loop:={state:=.ready,pending:=none,fn:=fn,tmps:=a.tmps,params:=ps,assign:=asg,body:=body,defers:=w.heap.size}
 let wa:World:=w.alloc (.deferred (some []))
 let wb:World:=wa.alloc (.loop rec0)
 have hxa:JU w wa:=JU.push (w:=w) (w':=wa) rfl;have hRa:x7 ⟨gh.β,gh.σ⟩ s.H s.n wa:=hR.grow hxa (λ_ _ _ x=>x) (λ_ _ _ x=>.inl x);have hTa:q9 s.n gh s.H w ⟨gh.β,gh.σ⟩ s.H wa:=q9.grow hxa rfl rfl rfl (λ_ _ _ x=>x) (λ_ _ _ x=>.inl x);have hRa1:x7 ⟨gh.β,gh.σ⟩ s.H (s.n+1) wa:=⟨hRa.σw,hRa.obj,hRa.dom,λid ob q=>Nat.lt_succ_of_lt (hRa.hd id ob q),hRa.ap,hRa.un,hRa.gl,hRa.gz⟩;have hnone:AD s.H s.n=none:=by
  cases q:AD s.H s.n with
  |none=>rfl
  |some ob=>exact absurd (hR.hd _ _ q) (Nat.lt_irrefl _)
 have hsza:wa.heap.size=w.heap.size+1:=World.size_alloc ..;have hgle:gh.le ⟨λi=>if i=s.n then some ⟨w.heap.size+1,0,1⟩else gh.β i,gh.σ⟩:=⟨λi L q=>by
  have:i≠s.n:=by rintro rfl;exact absurd hnone ((hR.dom _ _ q).1)
  simp [this,q],λ_ _ _ q=>q⟩
 obtain⟨hRb,hTb,hle⟩:=hRa1.new (m:=s.n) (w':=wb) (x:=Obj.loop rec0) rfl rfl rfl rfl hnone (Nat.lt_succ_self _) (rq _) (L:=⟨w.heap.size+1,0,1⟩) hsza.symm
  (ob:=.lp ⟨w.heap.size+1,.ready,none,N,s.env,ps,asg,body⟩)
  ⟨⟨w.heap.size+1,0,1⟩,zw,rfl,rfl,rfl,rec0,by rw[<-hsza];exact World.alloc_heap_new wa _,rfl,rfl,rfl,rfl,rfl,hE.mono hgle,hN⟩
 have hT1:=hTa.trans hTb
 have hmark:∀b ob,AD (hset s.H s.n ob) b≠none->True:=λ_ _ _=>zt
 obtain⟨ms,xm,hMOK,-⟩:=hD;have hDb:Kk D ⟨λi=>if i=s.n then some ⟨w.heap.size+1,0,1⟩else gh.β i,gh.σ⟩ (hset s.H s.n (.lp ⟨w.heap.size+1,.ready,none,N,s.env,ps,asg,body⟩)) ([{target:=.collected w.heap.size,args:= #[]}]++a.defers) a.tmps wb:=by
  refine⟨{target:=.collected w.heap.size,args:= #[]}::ms,by rw[xm];rfl,⟨⟨w.heap.size,rfl,sO hDw hT.size,?_,?_,?_⟩,?_⟩,λh=>by rw[s8]at h;cases h⟩
  ·exact JU.push (w:=wa) (w':=wb) rfl _ _ (World.alloc_heap_new w _)
  ·rintro⟨id,ob,L,q1,q2,q3,q4,q5,q6⟩;by_cases e:id=s.n
   ·subst e;simp at q3;subst q3;simp at q4
   ·simp only[rj e]at q3;rw[AA _ _ _ _ (Ne.symm e)]at q1;have:=(hR.dom id L q3).2 zo;omega
  ·intro d hd e;obtain⟨b,q1,q2⟩:=OI.blk hMOK d hd;rw[q1]at e;have:b=w.heap.size:=by simpa using e
   omega
  ·exact OI.step hT1 hMOK
 have hargs:VRels ⟨λi=>if i=s.n then some ⟨w.heap.size+1,0,1⟩else gh.β i,gh.σ⟩ (first++[.fn (.yield (w.heap.size+1)) [] []]++cap) (fv++ #[Value.func (.yield (w.heap.size+1)) #[] #[]]++cv).toList:=by
  simp only[Array.toList_append];refine VRels.append' (VRels.append' (VRels.mono hgle _ _ k1) ?_) (VRels.mono hgle _ _ k2);exact⟨_,_,rfl,⟨#[], #[],rfl,rfl,rfl⟩,rfl⟩
 have hcalls:=hc _ wb _ hRb hargs;simp only[uX]at hcalls;refine⟨w.heap.size+1,[{target:=.collected w.heap.size,args:= #[]}],wb,⟨.fn (.func s9) cv,fv++ #[Value.func (.yield (w.heap.size+1)) #[] #[]]⟩,wb,s9,fv++ #[Value.func (.yield (w.heap.size+1)) #[] #[]]++cv,wb,run_enterLoop_outer fn a.tmps ps asg body,?_,λ_ _=>zt,?_,by simp [FR,Fence.wide],?_⟩
 ·have ev:a.eval (.const (.func (.yield (w.heap.size+1)) #[] #[]))=Value.func (.yield (w.heap.size+1)) #[] #[]:=rfl;simp [resolve,e1,Deferred.ofValue,ev]
 ·simp [invoke,callFunc,c1,c3',c4]
 refine(callsIn_wide (n:=0-1)).2 (hcalls.mono ?_);rintro e w' ⟨g',out,H',n',hq,he,r1,hn',t1⟩;have hT2:q9 s.n gh s.H w g' H' w':=hT1.trans (t1.floor zo);have hD':Kk D g' H' ([{target:=.collected w.heap.size,args:= #[]}]++a.defers) a.tmps w':=hDb.step t1;cases e with
 |outgrown=>cases out<;>exact he.elim
 |panicked ch=>
  cases out with
  |ret v=>exact he.elim
  |pan v=>
   obtain⟨x,rfl,k⟩:=he;exact⟨v,H',n',hq,g',x,r1,hT.trans (hT2.floor hm),zo,rfl,k,hD'⟩
 |returned x=>
  cases out with
  |pan v=>exact he.elim
  |ret v=>
   simp only[GA]at hq;cases ho:AD H' s.n with
   |none=>simp [ho]at hq
   |some ob=>
    cases ob<;>simp only[ho]at hq;rename_i y;obtain⟨hbusy,hq⟩:=hq;obtain⟨L,q1,q2,q3,q4,r,p1,p2,p3,p4⟩:=r1.obj _ _ ho;have hL:L=⟨w.heap.size+1,0,1⟩:=by
     have:=t1.le.β s.n ⟨w.heap.size+1,0,1⟩ zw;rw[q1]at this;exact Option.some.inj this
    subst hL;simp only at p1 q4;have hend:(Instr.endLoop (w.heap.size+1)).run P w'= .ok y.pend (w'.putObj (w.heap.size+1) (.loop {r with state:=.exhausted})):=by
     rw[<-p3];exact run_endLoop (P:=P) p1 (by rw[p2];exact hbusy)
    have c9:w.heap.size+1<w'.heap.size:=(sF.1 p1).1
    obtain⟨rk,tk⟩:=r1.kill (m:=s.n) ho;have hup:=r1.upd (m:=s.n) (w':=w'.putObj (w.heap.size+1) (.loop {r with state:=.exhausted})) (ob':=.dead) ho rfl q1 rfl rfl rfl (by simp [World.putObj]) (λb hb=>by simp [World.putObj,tN (Ne.symm hb)])
     (.inr ⟨rfl,rfl,_,p1,zw⟩) zt
    obtain⟨rk',tk'⟩:=hup;have hsim:∀s',s'=({s with H:=hset H' s.n .dead,n:=n'}:AS)->En m g0 H0 w0 N D s' {a with defers:=[{target:=.collected w.heap.size,args:= #[]}]++a.defers} (w'.putObj (w.heap.size+1) (.loop {r with state:=.exhausted})):=by
     rintro _ rfl;exact⟨g',rk',hE.mono (hgle.trans t1.le),(hT.trans (hT2.floor hm)).trans (tk'.floor hm),zp,hN,hD'.step tk'⟩
    generalize w'.putObj (w.heap.size+1) (.loop {r with state:=.exhausted})=W at hend hsim;refine⟨y.pend,W,hend,?_⟩;cases hp:y.pend with
    |none=>simp only[hp]at hq;exact⟨_,hq,hsim _ rfl⟩
    |some c=>
     simp only[hp]at hq;cases c<;>simp only at hq
     ·exact wpIn_exit ⟨_,hq,hsim _ rfl⟩
     ·exact wpIn_ret ⟨_,hq,hsim _ rfl⟩
theorem En.freeze{m:Nat}{g0:q8}{H0:AB}{w0:World}{s:AS}{a:Act}{w:World}{t:Nat}{Q:x6->AS->Prop}(h:I0 Q s t (BI s.env t))(hs:En m g0 H0 w0 N D s a w):∃s',Q .normal s'/\En m g0 H0 w0 N D s' a w:=by
 obtain⟨g,hR,hE,hT,hm,hN,hD⟩:=hs;unfold I0 at h;split at h;case h_2=>exact h.elim
 rename_i id e off len cap heg;obtain⟨x,x1,x2,-⟩:=hE t true _ heg;obtain⟨L,k1,k2,rfl⟩:=x2 rfl
 have val:∀(g':q8) (H':AB) (l:List Fs),g.le g'->FK g' w id (.frz e l)->off+len<=l.length->len<=cap->AR g' (.sl (if len=cap then .exact e else .none e) ((l.drop off).take len)) (.slice (some ⟨L.blk,off*e,none⟩) len cap):=by
  intro g' H' l hle ho h1 h2;obtain⟨L',j1,j2,j3⟩:=ho;rw[hle.β _ _ k1]at j1;cases j1;have hlen:((l.drop off).take len).length=len:=by simp;omega
  have hst:=Stab.take len _ _ (Stab.drop off _ _ j3);rw[th]at hst;by_cases hc:len=cap
  ·rw[rt hc];exact .inr ⟨zt,L.blk,off*e,cap,⟨none,by rw[hlen],.inl rfl⟩,by rw[hlen];exact h2,hst,by rw[hlen];exact hc.symm⟩
  ·rw[rj hc];exact .inr ⟨zt,L.blk,off*e,cap,⟨none,by rw[hlen],.inl rfl⟩,by rw[hlen];exact h2,hst,zt⟩
 have env:∀(g':q8) (v:Fs),g.le g'->AR g' v (.slice (some ⟨L.blk,off*e,none⟩) len cap)->Bz g' ((t,true,v)::s.env) a.tmps:=by
  intro g' v hle hv t' gd v' hg;simp only[BI]at hg;split at hg
  ·simp_all
  ·exact(hE.mono hle) t' gd v' hg
 split at h
 ·rename_i e' l ho;obtain⟨rfl,h1,h2,hQ⟩:=h;obtain⟨σ',r1,t1⟩:=hR.freeze (m:=m) ho;exact⟨_,hQ,_,r1,env _ _ t1.le (val _ H0 l t1.le (r1.obj id _ (AC ..)) h1 h2),hT.trans t1,hm,hN,hD.step t1⟩
 ·rename_i e' l ho;obtain⟨rfl,h1,h2,hQ⟩:=h;exact⟨_,hQ,g,hR,env g _ (.refl g) (val g H0 l (.refl g) (hR.obj id _ ho) h1 h2),hT,hm,hN,hD⟩
 ·exact h.elim
theorem En.freezeo{m:Nat}{g0:q8}{H0:AB}{w0:World}{s:AS}{a:Act}{w:World}{t:Nat}{Q:x6->AS->Prop}(h:GS Q s t (BI s.env t))(hs:En m g0 H0 w0 N D s a w):∃s',Q .normal s'/\En m g0 H0 w0 N D s' a w:=by
 obtain⟨g,hR,hE,hT,hm,hN,hD⟩:=hs;unfold GS at h;split at h;case h_3=>exact h.elim
 case h_2 tok l heg=>
  obtain⟨x,x1,x2,-⟩:=hE t true _ heg;refine⟨_,h,g,hR,?_,hT,hm,hN,hD⟩;intro t' gd v' hg;simp only[BI]at hg;split at hg
  ·simp_all
  ·exact hE t' gd v' hg
 case h_1 id e off len cap heg=>
  obtain⟨x,x1,x2,-⟩:=hE t true _ heg;split at h;case h_2=>exact h.elim
  rename_i e' l ho;obtain⟨rfl,rfl,h1,h2,hQ⟩:=h;obtain⟨g',v1,r1,t1⟩:=hR.own (m:=m) ho hm h1 h2 (x2 rfl);refine⟨_,hQ,g',r1,?_,hT.trans t1,zp,hN,hD.step t1⟩;intro t' gd v' hg;simp only[BI]at hg;split at hg
  ·simp_all
  ·exact(hE.mono t1.le) t' gd v' hg
theorem FF{m:Nat}{g0:q8}{H0:AB}{w0:World}{c:Code}{a:Act}{w:World}{s:AS}{P:Program}{r:Option Nat}:∀(l:List Nat) (ac:z8) (Q:x6->AS->Prop),Hu P (l.foldl (λc t=>.seq c (if Nat.ble 5000 t then .frzo (t-5000)else .frz (t-1000))) ac) Q s->
  (∀Q',Hu P ac Q' s->c.wpIn (FR r) 0 P (QM m g0 H0 w0 N D Q') a w)->c.wpIn (FR r) 0 P (QM m g0 H0 w0 N D Q) a w
 |[],ac,Q,h,hc=>hc Q h
 |t::l,ac,Q,h,hc=>FF l (.seq ac (if Nat.ble 5000 t then .frzo (t-5000)else .frz (t-1000))) Q h λQ' h'=>by
  refine wpIn_mono (hc _ h') λe a' w' hq=>?_
  cases e with
  |normal=>
   obtain⟨s',q1,q2⟩:=hq;by_cases ht:Nat.ble 5000 t=true
   ·simp only[ht,t8]at q1;exact En.freezeo q1 q2
   ·simp only[ht]at q1;exact En.freeze q1 q2
  |exit i=>exact hq
  |ret=>exact hq
  |panic c=>exact hq
  |goto l=>exact hq
  |outgrown=>exact hq
theorem Ce:∀(c:Code) {ac:z8} {Q:x6->AS->Prop} {m:Nat} {g0:q8} {H0:AB} {w0:World} {s:AS} {a:Act} {w:World},BO P N fz im kp c=some ac->(r=none/\D.no=false)\/ac.plain=true->D.fl<=w0.heap.size/\D.lo<=cW fz->Hu P ac Q s->En m g0 H0 w0 N D s a w->
  c.wpIn (FR r) 0 P (QM m g0 H0 w0 N D Q) a w
 | .skip,ac,Q,m,g0,H0,w0,s,a,w,hc,hp,hDw,h,hs=>by
  simp only[BO]at hc;cases hc;exact wpIn_skip ⟨s,h,hs⟩
 | .label l,ac,Q,m,g0,H0,w0,s,a,w,hc,hp,hDw,h,hs=>by
  simp only[BO]at hc;cases hc;exact wpIn_label ⟨s,h,hs⟩
 | .exit i,ac,Q,m,g0,H0,w0,s,a,w,hc,hp,hDw,h,hs=>by
  simp only[BO]at hc;cases hc;exact wpIn_exit ⟨s,h,hs⟩
 | .ret,ac,Q,m,g0,H0,w0,s,a,w,hc,hp,hDw,h,hs=>by
  simp only[BO]at hc;cases hc;exact wpIn_ret ⟨s,h,hs⟩
 | .seq x y,ac,Q,m,g0,H0,w0,s,a,w,hc,hp,hDw,h,hs=>by
  simp only[BO]at hc;split at hc
  ·rename_i ax ay h1 h2;cases hc;have hp':((r=none/\D.no=false)\/ax.plain=true)/\((r=none/\D.no=false)\/ay.plain=true):=by
    rcases hp with e|e
    ·exact⟨.inl e,.inl e⟩
    ·simp_all [z8.plain,rl]
   refine wpIn_seq (wpIn_mono (Ce x h1 hp'.1 hDw h hs) λe a' w' hq=>?_);cases e with
   |normal=>obtain⟨s',q1,q2⟩:=hq;exact Ce y h2 hp'.2 hDw q1 q2
   |exit i=>exact hq
   |ret=>exact hq
   |panic c=>exact hq
   |goto l=>exact hq
   |outgrown=>exact hq
  ·cases hc
 | .block id x,ac,Q,m,g0,H0,w0,s,a,w,hc,hp,hDw,h,hs=>by
  simp only[BO]at hc;cases h1:BO P N fz im kp x with
  |none=>simp [h1]at hc
  |some ax=>
   simp [h1]at hc;subst hc;refine wpIn_block (wpIn_mono (Ce x h1 hp hDw h hs) λe a' w' hq=>?_);cases e with
   |normal=>exact hq
   |exit i=>
    obtain⟨s',q1,q2⟩:=hq;simp only[Exit.inBlock]at q1⊢;split
    ·rename_i e;rw[rt e]at q1;exact⟨s',q1,q2⟩
    ·rename_i e;rw[rj e]at q1;exact⟨s',q1,q2⟩
   |ret=>exact hq
   |panic c=>exact hq
   |goto l=>exact hq
   |outgrown=>exact hq
 | .cond c x y,ac,Q,m,g0,H0,w0,s,a,w,hc,hp,hDw,h,hs=>by
  simp only[BO]at hc;split at hc
  ·rename_i c' ax ay h1 h2 h3;cases hc;obtain⟨q1,q2,q3,q4⟩:=h;obtain⟨g,hR,hE,rest⟩:=hs;have e:=aW hR.gl hE h1 q1 q2;have hp':((r=none/\D.no=false)\/ax.plain=true)/\((r=none/\D.no=false)\/ay.plain=true):=by
    rcases hp with e|e
    ·exact⟨.inl e,.inl e⟩
    ·simp_all [z8.plain,rl]
   refine wpIn_cond_split e (λht=>Ce x h2 hp'.1 hDw (q3 ht) ⟨g,hR,hE,rest⟩) (λht=>Ce y h3 hp'.2 hDw (q4 ht) ⟨g,hR,hE,rest⟩)
  ·cases hc
 | .loop x,ac,Q,m,g0,H0,w0,s,a,w,hc,hp,hDw,h,hs=>by
  simp only[BO]at hc;cases h1:BO P N fz im kp x with
  |none=>simp [h1]at hc
  |some ax=>
   simp [h1]at hc;subst hc;obtain⟨I,μ,hI,hround⟩:=h
   classical
   let J:Act->World->Nat->Prop:=λa w k=>∃s,I s/\En m g0 H0 w0 N D s a w/\μ s=k
   let μ':Act->World->Nat:=λa w=>if hx:∃k,J a w k then Classical.choose (Hj _ hx)else 0
   have hμ':∀a w,(∃k,J a w k)->J a w (μ' a w)/\∀j,J a w j->μ' a w<=j:=by
    intro a w hx;have e:μ' a w=Classical.choose (Hj _ hx):=by simp only[μ'];rw[dif_pos hx]
    rw[e];exact Classical.choose_spec (Hj _ hx)
   refine wpIn_loop (λa w=>∃k,J a w k) μ' ⟨_,s,hI,hs,rfl⟩ ?_;rintro a1 w1 hx;obtain⟨⟨s1,hI1,wn,hμ1⟩,-⟩:=hμ' a1 w1 hx;obtain⟨g1,hR1,hE1,hT1,hm1,hN1,hD1⟩:=wn;have wd:En s1.n g1 s1.H w1 N D s1 a1 w1:=⟨g1,hR1,hE1,q9.refl _ _ _ _,rq _,hN1,hD1⟩;refine wpIn_mono (Ce x h1 hp ⟨sO hDw.1 hT1.size,hDw.2⟩ (hround s1 hI1) wd) λe a' w' hq=>?_
   cases e with
   |normal=>
    obtain⟨s',⟨s2,q1,q2,q3⟩,q4⟩:=hq;have xi:=UT hR1 hT1 hm1 q4 q1;have hx':∃k,J a' w' k:=⟨_,s2,q2,xi,rfl⟩;refine⟨hx',?_⟩;have e3:=(hμ' a' w' hx').2 _ ⟨s2,q2,xi,rfl⟩;omega
   |exit i=>obtain⟨s',q1,q2⟩:=hq;exact⟨s',q1,q2.trans hT1 hm1⟩
   |ret=>obtain⟨s',q1,q2⟩:=hq;exact⟨s',q1,q2.trans hT1 hm1⟩
   |panic c=>obtain⟨v,H,n,q1,q2⟩:=hq;exact⟨v,H,n,q1,q2.trans hT1 hm1⟩
   |goto l=>exact hq
   |outgrown=>exact hq
 | .region id ops draw,ac,Q,m,g0,H0,w0,s,a,w,hc,hp,hDw,h,hs=>by
  simp only[BO]at hc;split at hc
  ·rename_i l hl;split at hc
   ·rename_i hd;cases hc;refine FF (P:=P) (c:=.region id ops draw) _ _ _ h λQ h=>?_
    have hmb:m<=s.n:=by obtain⟨g,_,_,_,hm,_⟩:=hs;exact hm
    have wn:En m g0 H0 w0 N D {s with n:=s.n+(if Eg l=true then ops.size else 0)} a w:=by
     obtain⟨g,hR,hE,hT,hm,rest⟩:=hs;exact⟨g,⟨hR.σw,hR.obj,hR.dom,λid ob ho=>ub (hR.hd id ob ho) (tt _ _),hR.ap,hR.un,hR.gl,hR.gz⟩,hE,hT,sO hm (tt _ _),rest⟩
    have hbump:Eg l=true->s.n+ops.size<=({s with n:=s.n+(if Eg l=true then ops.size else 0)}:AS).n:=λq=>by simp [q]
    have hlen:l.length=ops.size:=by rw[(EP _ _ _ hl).1,sW]
    have hrun:EC P (λv H n=>Q (.pan v) ⟨[],H,n⟩) s.n (FO l (List.range ops.size)) (λs'=>Q .normal (s'.keep (kp id))) {s with n:=s.n+(if Eg l=true then ops.size else 0)}:=by
     rw[<-hlen,Sl];rw[hlen];exact h
    cases draw with
    |false=>
     refine wpIn_region (Ps hl hDw.2 hmb (λv H' n' chain a' w' q1 q2=>⟨v,H',n',q1,q2⟩) (λs' a' w' q1 q2=>⟨_,q1,q2.keep _⟩) _ _ a w (λi hi=>t9.1 hi) hrun wn hbump)
    |true=>
     obtain⟨d1,d2,d3⟩:=hd.resolve_left zw;have hrem:DN ops (Array.replicate ops.size false)=List.range ops.size:=by simp_all [DN]
     refine wpIn_region_any d3 (US (kp:=kp id) hl hDw.2 d1 (λx hx=>?_) (λa b wv hk=>?_) hmb (λv H' n' chain a' w' q1 q2=>⟨v,H',n',q1,q2⟩) (λs' a' w' q1 q2=>⟨_,q1,q2.keep _⟩)
      _ _ _ a _ (by rw[hrem];simp) zw (λj o hj=>?_) (by rw[hrem];exact hrun) (wn.drawn _) hbump)
     ·unfold K6 at d2;have:=(sg.1 d2) x hx;rw[sA]at this;rcases this with e|e
      ·left;simpa using e
      ·right;intro d hd';rw[hd']at e;simpa using e
     ·rw[<-Qn wv];exact hk
     ·exfalso;by_cases hjs:j<ops.size
      ·simp [hjs]at hj
      ·simp [hjs]at hj
   ·rename_i hnd;split at hc
    ·rename_i hd;cases hc;refine FF (P:=P) (c:=.region id ops draw) _ _ _ h λQ h=>?_
     have hmb:m<=s.n:=by obtain⟨g,_,_,_,hm,_⟩:=hs;exact hm
     have wn:En m g0 H0 w0 N D {s with n:=s.n+(if Eg l=true then ops.size else 0)} a w:=by
      obtain⟨g,hR,hE,hT,hm,rest⟩:=hs;exact⟨g,⟨hR.σw,hR.obj,hR.dom,λid ob ho=>ub (hR.hd id ob ho) (tt _ _),hR.ap,hR.un,hR.gl,hR.gz⟩,hE,hT,sO hm (tt _ _),rest⟩
     have hbump:Eg l=true->s.n+ops.size<=({s with n:=s.n+(if Eg l=true then ops.size else 0)}:AS).n:=λq=>by simp [q]
     have hlen:l.length=ops.size:=by rw[(EP _ _ _ hl).1,sW]
     have hrun:JR P (λv H n=>Q (.pan v) ⟨[],H,n⟩) s.n (Ty s.env s.n) (Lu fz l (List.range ops.size)) (λs'=>Q .normal (s'.keep (kp id))) {s with n:=s.n+(if Eg l=true then ops.size else 0)}:=by
      rw[<-hlen];rw[hlen];rw[hlen]at h;exact h
     have hdr:draw=true:=by cases draw<;>simp_all
     subst hdr;obtain⟨d1,d2,d3⟩:=hd;have hrem:DN ops (Array.replicate ops.size false)=List.range ops.size:=by simp_all [DN]
     refine wpIn_region_any d3 (So (kp:=kp id) hl hDw.2 d1 (λx hx=>?_) (λa b wv hk=>?_) hmb (λv H' n' chain a' w' q1 q2=>⟨v,H',n',q1,q2⟩) (λs' a' w' q1 q2=>⟨_,q1,q2.keep _⟩)
      _ _ _ a _ (by rw[hrem];simp) zw (λj o hj=>?_) (by rw[hrem];exact hrun) (wn.drawn _) hbump)
     ·unfold K6 at d2;have:=(sg.1 d2) x hx;rw[sA]at this;rcases this with e|e
      ·left;simpa using e
      ·right;intro d hd';rw[hd']at e;simpa using e
     ·rw[<-Qn wv];exact hk
     ·exfalso;by_cases hjs:j<ops.size
      ·simp [hjs]at hj
      ·simp [hjs]at hj
    ·rename_i hnd2;split at hc
     ·rename_i hd;cases hc;refine FF (P:=P) (c:=.region id ops draw) _ _ _ h λQ h=>?_
      have hmb:m<=s.n:=by obtain⟨g,_,_,_,hm,_⟩:=hs;exact hm
      have wn:En m g0 H0 w0 N D {s with n:=s.n+(if Eg l=true then ops.size else 0)} a w:=by
       obtain⟨g,hR,hE,hT,hm,rest⟩:=hs;exact⟨g,⟨hR.σw,hR.obj,hR.dom,λid ob ho=>ub (hR.hd id ob ho) (tt _ _),hR.ap,hR.un,hR.gl,hR.gz⟩,hE,hT,sO hm (tt _ _),rest⟩
      have hbump:Eg l=true->s.n+ops.size<=({s with n:=s.n+(if Eg l=true then ops.size else 0)}:AS).n:=λq=>by simp [q]
      have hlen:l.length=ops.size:=by rw[(EP _ _ _ hl).1,sW]
      have hrun:JR P (λv H n=>Q (.pan v) ⟨[],H,n⟩) s.n (Ty s.env s.n) (Lu fz l (SN fz id)) (λs'=>Q .normal (s'.keep (kp id))) {s with n:=s.n+(if Eg l=true then ops.size else 0)}:=by
       exact h
      have hdr:draw=true:=by cases draw<;>simp_all
      subst hdr;obtain⟨d1,d2,d3⟩:=hd;have hrem:Gk (SN fz id) (Array.replicate ops.size false)=SN fz id:=by
       unfold Gk;apply uN.2;intro i hi;have:=d1;unfold NS at this;simp only[rl]at this;have:=(sg.1 this.1.1.1.1.2) i hi;simp at this;simp [this]
      refine wpIn_region_any d3 (Sp (kp:=kp id) hl hDw.2 d1 (λx hx=>?_) (λa b wv hk=>?_) hmb (λv H' n' chain a' w' q1 q2=>⟨v,H',n',q1,q2⟩) (λs' a' w' q1 q2=>⟨_,q1,q2.keep _⟩)
       _ _ _ a _ (by rw[hrem];have:=d1;unfold NS at this;simp only[rl,rn]at this;exact this.1.1.1.1.1) zw (λj o hj=>?_) (by rw[hrem];exact hrun) (wn.drawn _) hbump)
      ·unfold K6 at d2;have:=(sg.1 d2) x hx;rw[sA]at this;rcases this with e|e
       ·left;simpa using e
       ·right;intro d hd';rw[hd']at e;simpa using e
      ·rw[<-Qn wv];exact hk
      ·exfalso;by_cases hjs:j<ops.size
       ·simp [hjs]at hj
       ·simp [hjs]at hj
     ·cases hc
  ·cases hc
 | .goto l,ac,Q,m,g0,H0,w0,s,a,w,hc,hp,hDw,h,hs=>by simp [BO]at hc
 | .scope x,ac,Q,m,g0,H0,w0,s,a,w,hc,hp,hDw,h,hs=>by
  simp only[BO]at hc;refine UU (wpIn_mono (Ce x hc hp hDw h hs) λe a' w' hq=>?_);cases e with
  |goto l=>exact hq.elim
  |normal=>exact hq
  |exit i=>exact hq
  |ret=>exact hq
  |panic c=>exact hq
  |outgrown=>exact hq
 | .rangeFunc g ps asg body,ac,Q,m,g0,H0,w0,s,a,w,hc,hp,hDw,h,hs=>by
  simp only[BO]at hc;cases h1:A4 g with
  |none=>simp [h1]at hc
  |some g'=>
   simp [h1]at hc;subst hc;rcases hp with e|e
   ·obtain⟨rfl,e⟩:=e;exact UV h1 h.1 h.2 hs hDw.1 e
   ·cases e
 | .refuse l,ac,Q,m,g0,H0,w0,s,a,w,hc,hp,hDw,h,hs=>by simp [BO]at hc
end
end Go.AM
