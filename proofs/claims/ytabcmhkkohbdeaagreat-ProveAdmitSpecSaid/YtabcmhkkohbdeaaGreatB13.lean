/-
  Parts of the proof. Conditions: none.
-/
import Derived.Test.YtabcmhkkohbdeaaGreatB12
set_option maxRecDepth 20000
set_option linter.all false
namespace Go.AM
open Go.Lib Go.Proofs Go.Proofs.Tryz
section
abbrev clM(q:Nat):Fs:=.fn (.func 271) [] [.ptr q 0]
abbrev lP(q c:Nat):List (Nat×Bool×Fs):=[(2,true,.ptr c 0),(4,true,.sl .nil []),(6,true,clM q)]
structure ApM(q c L l':Nat)(H0:AB)(n0:Nat)(qs:List Int)(H:AB)(m:Nat):Prop where
 fr:AP H m
 lc:n0<=c
 cl:c<L
 lm:L<m
 hc:∃lv,AD H c=some (.box [lv])/\RO eI 1 (L+1) H lv qs
 hL:AD H L=some (.lp ⟨l',.ready,none,13,lP q c, #[7],GY,GZ⟩)
 kp:∀id ob,id<n0->AD H0 id=some ob->AD H id=some ob
variable {H:AB} {q clk n mp:Nat}
theorem y_apM{c L l':Nat}{H0:AB}{n0:Nat}{qs:List Int}{m:Nat}(F:ApM q c L l' H0 n0 qs H m)(x:Int)(hs:qs.length<1000000000){R:Bool->AB->Nat->Prop}
  (hR:∀H' m',ApM q c L l' H0 n0 (qs++[x]) H' m'->(∀j ob,j<m->j≠c->j≠L->(∀e Z,ob≠ .arr e Z)->AD H j=some ob->AD H' j=some ob)->m<=m'->R true H' m'):CV prog l' [eI x] H m R:=by
 obtain⟨fr,lc,cl,lm,⟨lv,hc,wl⟩,hL,kp⟩:=F;refine aw hL rfl (AI AH.tnil (AJ ?_));simp only[eE,eN,seval,Mh,Gl,um,uu,tM,uO];refine⟨_,hL,rfl,AI AH.tnil (AJ ?_)⟩;have y1:∀k,(L=m+k)=False:=λk=>ri zo
 have y2:(L=c)=False:=ri zo;have y3:(c=L)=False:=ri zo;simp only[eE,seval,Mg,hc,y2];have g1:∀k,AD (hset H L (.lp ⟨l',.busy,none,13,lP q c, #[7],GY,GZ⟩)) (m+k)=none:=λk=>by rw[AA _ _ _ _ zo];exact Bq fr k
 refine RE (enc:=eI) (lo:=L+1) (qs:=qs) (z0:=0) ?_ rfl zd rfl rfl (Ac zo zd) (g1 3) zo zo ?_
 ·rcases wl with h|⟨s6,id,rest,h1,h2,h3⟩
  ·exact .inl h
  ·exact .inr ⟨s6,id,rest,h1,h2,by rw[AA _ _ _ _ zo];exact h3⟩
 intro id rest hlo p9;have hidm:id<m+5:=by
  rcases p9 with rfl|⟨Z,h⟩
  ·omega
  ·apply Classical.byContradiction;intro z;obtain⟨k,rfl⟩:∃k,id=m+k:=⟨id-m,zo⟩;rw[g1]at h;cases h
 have hida:∀j ob,j<m->j≠L->(∀e Z,ob≠ .arr e Z)->AD H j=some ob->j≠id:=by grind [AA]
 have z1:(id=L)=False:=ri zo;have z2:(id=c)=False:=ri zo;have z3:(L=id)=False:=ri zo;have z4:(c=id)=False:=ri zo;have hidn:¬id<n0:=zo
 simp only[eE,eN,seval,FY,z2,y2,hc];refine⟨⟨l',.busy,none,13,lP q c, #[7],GY,GZ⟩,by simp only[AT,y3,z1,sG,t8],hR _ _ ⟨?_,lc,cl,zp,⟨_,by simp only[AT,y2,sG,t8],.inr ⟨zw,id,rest,rfl,hlo,by simp only[AT,z3,z4,sG,t8]⟩⟩,by simp only[AT,t8],?_⟩ ?_ (tt _ _)⟩
 ·intro j hj;have hj':m+5<=j:=hj;simp only[AT];repeat rw[rj zo]
  exact fr j zo
 ·intro j ob hj h0;simp only[AT];repeat rw[rj zo]
  exact kp j ob hj h0
 ·intro j ob hj hjc hjL hob h0;have:=hida j ob hj hjL hob h0;simp only[AT];repeat rw[rj zo]
  exact h0
theorem ApM.it{c L l':Nat}{H0:AB}{n0:Nat}{qs:List Int}{m it:Nat}{ob ob':xq}(F:ApM q c L l' H0 n0 qs H m)(h1:n0<=it)(h2:it≠c)(h3:it≠L)(h4:it<m)(h5:AD H it=some ob)(h6:∀e Z,ob≠ .arr e Z):ApM q c L l' H0 n0 qs (hset H it ob') m:=by
 obtain⟨fr,lc,cl,lm,⟨lv,hc,wl⟩,hL,kp⟩:=F;refine⟨fr.hset (rq _) h4,lc,cl,lm,⟨lv,by rw[AA _ _ _ _ h2];exact hc,?_⟩,by rw[AA _ _ _ _ h3];exact hL,λj o hj h0=>by rw[AA _ _ _ _ zo];exact kp j o hj h0⟩;rcases wl with h|⟨s6,id,rest,k1,k2,k3⟩
 ·exact .inl h
 ·exact .inr ⟨s6,id,rest,k1,k2,by rw[AA _ _ _ _ (λe=>by subst e;rw[h5]at k3;cases k3;exact h6 _ _ rfl)];exact k3⟩
theorem Kq{α:Type}[DecidableEq α]:∀{a b:List α},a.Nodup->(∀x∈a,x∈b)->a.length<=b.length
 |[],_,_,_=>rm _
 |x::a,b,hn,h=>by
  rw[ul]at hn;have hx:=h x (sX ..);have:=Kq (b:=b.erase x) hn.2 λy hy=>(List.mem_erase_of_ne (λe=>hn.1 (by rw[<-e];exact hy))).2 (h y (tB _ hy))
  rw[List.length_erase_of_mem hx]at this;have:=List.length_pos_of_mem hx;simp only[sC];omega
abbrev OH:=Fs×Fs×Nat
structure EsOK(es:List OH)(clk:Nat):Prop where
 key:∀e∈es,e.1=eI (A9 e.1)
 nd:(es.map (·.2.2)).Nodup
 lt:∀e∈es,e.2.2<clk
def Ki(es:List OH):List Int:=es.map λe=>A9 e.1
def M2(es:List OH)(b:Nat):Int:=match es.find? (λe=>decide (e.2.2=b))with
 |some e=>A9 e.1
 |none=>0
theorem Wi{es:List OH}(hn:(es.map (·.2.2)).Nodup){e:OH}(he:e∈es):es.find? (λx=>decide (x.2.2=e.2.2))=some e:=by
 induction es with
 |nil=>cases he
 |cons x r ih=>grind
theorem Wj{es:List OH}(hn:(es.map (·.2.2)).Nodup){e:OH}(he:e∈es):PU e.2.2 es=some (e.1,e.2.1):=by
 induction es with
 |nil=>cases he
 |cons x r ih=>
  obtain⟨k,v,b⟩:=x;rw[sw,ul]at hn;rw[PU];rcases sP.1 he with rfl|he
  ·rw[rt rfl]
  ·grind
theorem Oz{es:List OH}(h:EsOK es clk){e:OH}(he:e∈es):e.1=eI (M2 es e.2.2):=by
 unfold M2;rw[Wi h.nd he];exact h.key e he
theorem Wl{es:List OH}(h:EsOK es clk){seen:List Nat}(hn:seen.Nodup)(hs:∀b∈seen,b∈es.map (·.2.2))(hd:G0 es seen=[]):(seen.map (M2 es)).Perm (Ki es):=by
 have h1:seen.Perm (es.map (·.2.2)):=(vA hn h.nd).2 λb=>⟨hs b,λhb=>by
  obtain⟨e,he,rfl⟩:=t7.1 hb;apply Classical.byContradiction;intro hns;have:e∈G0 es seen:=tV.2 ⟨he,by simpa using hns⟩;rw[hd]at this;cases this⟩
 refine(h1.map (M2 es)).trans ?_;rw[ui];have:es.map (M2 es∘λx=>x.2.2)=Ki es:=sY λe he=>by
  have:=Oz h he;simp only[Function.comp];rw[this];rfl
 rw[this]
theorem Yq{es:List OH}{seen:List Nat}{e:OH}(h:e∈G0 es seen):(G0 es (seen++[e.2.2])).length<(G0 es seen).length:=by
 have e1:G0 es (seen++[e.2.2])=(G0 es seen).filter λx=>decide (x.2.2≠e.2.2):=by grind [G0,List.filter_filter]
 rw[e1,List.length_filter_lt_length_iff_exists];exact⟨e,h,zw⟩
structure VKm where
 seen:List Nat
 H:AB
 n:Nat
structure IKm(es:List OH)(clk q n mp l':Nat)(H:AB)(v:VKm):Prop where
 F:ApM q n (n+2) l' H n (v.seen.map (M2 es)) v.H v.n
 it:AD v.H (n+4)=some (.mit mp clk v.seen clk)
 lt:n+4<v.n
 nd:v.seen.Nodup
 rg:∀b∈v.seen,b∈es.map (·.2.2)
theorem t_apM{es:List OH}(ho:EsOK es clk)(hl:es.length<1000000)(hf:AP H n)(hq:AD H q=some (.box [.mp mp]))(hm:AD H mp=some (.map es clk)):
  AV prog 272 [.sl .nil [],clM q] H n λo H' n'=>∃lv qs,o= .ret lv/\qs.Perm (Ki es)/\RO eI 1 (n+3) H' lv qs/\AP H' n'/\n<=n'/\∀id ob,id<n->AD H id=some ob->AD H' id=some ob:=by
 have hqn:=hf.lt hq;have hmn:=hf.lt hm;refine a272 (AI AH.tnil (AJ ?_));simp only[eE,eN,seval,pM,S1 hf,GB];intro l';generalize hH1:hset (hset H n (.box [.sl .nil []])) (n+2) _=H1;have F0:ApM q n (n+2) l' H n [] H1 (n+3):=by
  subst hH1;refine⟨λj hj=>?_,rq _,zo,zo,⟨.sl .nil [],?_,.inl ⟨rfl,rfl⟩⟩,AC ..,λj ob hj h0=>?_⟩
  ·simp only[AT];repeat rw[rj zo]
   exact hf j zo
  ·simp only[AT];rw[rj zo,rt zt]
  ·simp only[AT];repeat rw[rj zo]
   exact h0
 have yf:AD H1 n=some (.box [.sl .nil []]):=by
  subst hH1;simp only[AT];rw[rj zo,rt zt]
 clear hH1;have hq1:=F0.kp q _ hqn hq;have hm1:=F0.kp mp _ hmn hm;have hfn:=Bq F0.fr;refine c271.a (AI AH.tnil (AJ ?_));simp only[eE,eN,seval,xE,c271,hq1,hm1];refine⟨hfn 1,?_⟩;refine AO (λv:VKm=>⟨[(0,true,.fn (.yield l') [] []),(5,true,.ptr (n+4) 0)],v.H,v.n⟩) (IKm es clk q n mp l' H) (λv=>(G0 es v.seen).length) ⟨[],hset H1 (n+4) (.mit mp clk [] clk),n+5⟩ rfl
  ⟨⟨F0.fr.hset (m:=n+5) zo zo,rq _,zo,zp,⟨.sl .nil [],by rw[AA _ _ _ _ zo];exact yf,.inl ⟨rfl,rfl⟩⟩,by rw[AA _ _ _ _ zo];exact F0.hL,λj o hj h0=>by rw[AA _ _ _ _ zo];exact F0.kp j o hj h0⟩,AC ..,zp,vH,λb hb=>(by cases hb)⟩ ?_
 rintro⟨seen,H2,m⟩ ⟨F,hit,c9,hnd,hrg⟩;simp only at F hit c9 hnd hrg;have ye:seen.length<=es.length:=by
  have:=Kq hnd hrg;simpa using this
 have xu:=F.kp mp _ hmn hm;have hq2:=F.kp q _ hqn hq;simp only[eE,eC,seval];rw[fX hit xu];refine⟨rq _,λe he=>ho.lt e he,λAi=>?_,λe he=>?_⟩
 ·have hp:=Wl ho hnd hrg Ai;obtain⟨fr,lc,cl,lm,⟨lv,hc,wl⟩,hL,kp⟩:=F;have y1:(n+2=n)=False:=ri zo;simp only[eZ,seval,eY,GA,hL,hc,y1];refine⟨lv,_,rfl,hp,?_,fr.hset (rq m) (show n+2<m by omega),zo,λid ob p9 h0=>by rw[rj zo];exact kp id ob p9 h0⟩;rcases wl with h|⟨s6,id,rest,h1,h2,h3⟩
  ·exact .inl h
  ·exact .inr ⟨s6,id,rest,h1,h2,by rw[AA _ _ _ _ zo];exact h3⟩
 ·obtain⟨he1,he2⟩:=tV.1 he;have b2:=Oz ho he1;have b3:=Wj ho.nd he1;have hns:e.2.2∉seen:=by simpa using he2
  have hst:NJ (hset H2 (n+4) (.mit mp clk (seen++[e.2.2]) clk)) mp (seen++[e.2.2])=some (e.1,e.2.1):=by grind [NJ,AA,List.getLast?_concat]
  have y0:(n+4=mp)=False:=ri zo;simp only[eZ,seval,xE,eY,y0,xu,hst,b2];refine y_apM (F.it zo zo zo c9 hit zw) (M2 es e.2.2) (by rw[r9];omega) λH' m' F' hk hmm=>?_
  simp only[eZ,seval,re,Og];refine⟨⟨seen++[e.2.2],H',m'⟩,.inr ⟨?_,.inl ⟨rfl,rfl⟩⟩,⟨by simp only[rz,sw,sI];exact F',hk _ _ c9 zo zo zw (AC ..),zp,?_,λb hb=>?_⟩,Yq he⟩
  ·exact⟨⟨_,rfl,Wk.refl _⟩,⟨_,rfl,Wk.refl _⟩,zt⟩
  ·grind
  ·grind
theorem dW{es:List OH}(ho:EsOK es clk)(hl:es.length<1000000)(hf:AP H n)(hq:AD H q=some (.box [.mp mp]))(hm:AD H mp=some (.map es clk)):
  AV prog 256 [clM q] H n λo H' n'=>∃lv qs,o= .ret lv/\qs.Perm (Ki es)/\RO eI 1 (n+3) H' lv qs/\AP H' n'/\n<=n'/\∀id ob,id<n->AD H id=some ob->AD H' id=some ob:=by
 refine gE.a (AI AH.tnil (AJ ?_));simp only[eE,eN,seval,gE];refine(t_apM ho hl hf hq hm).mono ?_;rintro o H' n' ⟨lv,qs,rfl,h1,h2,h3,h4,h5⟩;simp only[eE,eN,seval,BV];exact⟨lv,qs,rfl,h1,h2,h3,h4,h5⟩
theorem Wm{a b:List Int}(h:a.Perm b):a.mergeSort Fk=b.mergeSort Fk:=by
 refine List.Perm.eq_of_pairwise (le:=λx y=>x<=y) (λx y _ _ h k=>zo) (IS a) (IS b) ?_;exact(uy a Fk).trans (h.trans (uy b Fk).symm)
theorem lQ{es:List OH}(ho:EsOK es clk)(hl:es.length<1000000)(hf:AP H n)(hq:AD H q=some (.box [.mp mp]))(hm:AD H mp=some (.map es clk)):
  AV prog 239 [clM q] H n (Ub H (Am ((Ki es).mergeSort Fk))):=by
 have hel:(Ki es).length=es.length:=r9 ..;refine AV.out (AV.seal (R:=SrA (.arr 1) H (Ki es)) (R':=SrA (.frz 1) H (Ki es)) (Xj.a (AI AH.tnil (AJ ?_))) ?_) ?_
 ·simp only[eE,eN,seval,Xj];refine(dW ho hl hf hq hm).mono ?_;rintro o H1 n1 ⟨lv,qs,rfl,hp,wl,hf1,me,hk⟩;simp only[eE,eN,seval,BV];have hK:C5 H H1:=λid ob h0=>hk id ob (hf.lt h0) h0
  have hql:=hp.length_eq;rcases wl with⟨rfl,rfl⟩|⟨s6,id,rest,rfl,h2,h3⟩
  ·refine QA.mono ?_;rintro o H2 n2 ⟨rfl,rfl,rfl⟩;simp only[eE,eN,seval,BV];exact⟨hK,.inl ⟨hp.nil_eq.symm,rfl⟩⟩
  ·refine(RD h3 zw zo).mono ?_;rintro o H2 n2 ⟨rfl,rfl,rfl⟩;rw[vj,List.drop_left];simp only[eE,eN,seval,BV];refine⟨λi ob h0=>?_,.inr ⟨λe=>s6 (t6 (by rw[hql,e];rfl)),id,rest,by rw[hql],hf _ zo,by rw[AC,Wm hp]⟩⟩;rw[AA _ _ _ _ (λe=>by subst e;rw[hf _ zo]at h0;cases h0)];exact hK i ob h0
 ·rintro o H' n' ⟨hK,h⟩;rcases h with h|⟨s6,id,rest,h1,h2,h3⟩
  ·exact .inl ⟨hK,.inl h⟩
  ·refine .inr ⟨id,1,_,h3,λi ob h0=>?_,.inr ⟨s6,id,rest,h1,h2,AC ..⟩⟩;rw[AA _ _ _ _ (λe=>by subst e;rw[h2]at h0;cases h0)];exact hK i ob h0
 ·rintro o H' n' ⟨hK,h⟩;refine⟨.ret (Am ((Ki es).mergeSort Fk)),⟨⟨_,rfl,Wk.refl _⟩,hK⟩,λg w e hR he=>?_⟩;have hL:∃lv,o= .ret lv/\LF 1 lv H' (((Ki es).mergeSort Fk).map eI):=by
   rcases h with⟨h0,rfl⟩|⟨hz,id,rest,rfl,h2,h3⟩
   ·exact⟨_,rfl,.inl ⟨by rw[h0,List.mergeSort_nil];rfl,_,rfl,.inl rfl⟩⟩
   ·refine⟨_,rfl,?_⟩;have hl2:=Ep (Ki es);refine .inr ⟨λq=>hz (by rw[List.map_eq_nil_iff]at q;rw[q]at hl2;exact tF.1 hl2.symm),id,(Ki es).length+rest.length,rest.map eI,by rw[r9,hl2],by rw[h3,rz],by simp [hl2]⟩
  obtain⟨lv,rfl,hL⟩:=hL;cases e with
  |returned v=>exact LS hL hR he
  |panicked c=>exact he.elim
  |outgrown=>exact he.elim
theorem dY(hf:AP H n):AV prog 251 [.mp mp] H n λo H' n'=>o= .ret (clM n)/\H'=hset H n (.box [.mp mp])/\n'=n+2:=by
 refine c251.a (AI AH.tnil (AJ ?_));simp only[eE,eN,seval,c251,S1 hf]
end
section
theorem VG:∀{es:List OH},EM (.int .i64) es->∀e∈es,e.1=eI (A9 e.1)
 |[],_,_,h=>by cases h
 |(k,v,b)::r,hf,e,h=>by
  obtain⟨h1,h2⟩:=hf;rcases sP.1 h with rfl|h
  ·cases k<;>simp only[KT.is]at h1;subst h1;rfl
  ·exact VG h2 e h
theorem O0{z:Int}{v:Fs}{c:Nat}:∀{es:List OH},EM (.int .i64) es->Ki (EV (eI z) v c es)=(if(Bi (eI z) es).isSome=true then Ki es else Ki es++[z])/\(EV (eI z) v c es).map (λe=>e.2.2)=if(Bi (eI z) es).isSome=true then es.map (λe=>e.2.2)else es.map (λe=>e.2.2)++[c]
 |[],_=>⟨rfl,rfl⟩
 |(k,w,b)::r,hf=>by
  obtain⟨h1,h2⟩:=hf;have ih:=O0 (z:=z) (v:=v) (c:=c) h2;rw[EV,Bi];by_cases q:Ht (eI z) k=true
  ·rw[rt q,rt q];exact⟨rfl,rfl⟩
  ·rw[rj q,rj q];refine⟨?_,?_⟩
   ·show A9 k::Ki (EV (eI z) v c r)=_;rw[ih.1];split<;>rfl
   ·rw[sw,ih.2];split<;>rfl
theorem O1{z:Int}:∀{es:List OH},EM (.int .i64) es->((Bi (eI z) es).isSome=true↔z∈Ki es)
 |[],_=>by simp [Bi,Ki]
 |(k,w,b)::r,hf=>by
  obtain⟨h1,h2⟩:=hf;have ih:=O1 (z:=z) h2;cases k<;>simp only[KT.is]at h1;rename_i kk y;subst h1;rw[Bi,show Ki ((Fs.int .i64 y,w,b)::r)=y::Ki r from rfl,sP];by_cases q:z=y
  ·subst q;simp [Ht]
  ·simp only[Ht,q,vm,sr,sG,false_or];exact ih
section
variable (g:v7) (fn:BF->Option Int)
def Jo(i:Nat)(z:Int):List Int:=CQ i λc=>decide (fn (Dn g c)=some z)
variable {z:Int} {i:Nat}
theorem Yr(h:fn (Dn g i)=none)(z:Int):Jo g fn (i+1) z=Jo g fn i z:=by
 unfold Jo;rw[EU,h,rj zw]
theorem Ys(h:fn (Dn g i)=some z):Jo g fn (i+1) z=Jo g fn i z++[(i:Int)]:=by
 unfold Jo;rw[EU,h,rt zw]
theorem lR{w:Int}(h:fn (Dn g i)=some z)(hw:w≠z):Jo g fn (i+1) w=Jo g fn i w:=by
 unfold Jo;rw[EU,h,rj (by simp;exact λe=>hw e.symm)]
theorem dZ(i:Nat)(z:Int):(Jo g fn i z).length<=i:=C0 ..
theorem VH(z:Int):Jo g fn g.cells.length z=CL (Aa g.sh g.w g.cells) fn z:=by
 unfold Jo CL;rw[B8];refine EJ λc hc=>?_
 rw[D9 hc,vp]
structure LnE(lo i:Nat)(H:AB)(es:List OH)(clk:Nat)(tk:Int->Nat):Prop where
 fit:EM (.int .i64) es
 ok:EsOK es clk
 fnd:∀z,Bi (eI z) es=if Jo g fn i z=[]then none else some (.sl (.own (tk z) 1) ((Jo g fn i z).map eI))
 tok:∀z,Jo g fn i z≠[]->lo<=tk z/\AD H (tk z)=some .tok
 inj:∀z w,Jo g fn i z≠[]->Jo g fn i w≠[]->tk z=tk w->z=w
 knd:(Ki es).Nodup
 kmem:∀z,z∈Ki es↔Jo g fn i z≠[]
 len:es.length<=i
variable {g fn} {lo i:Nat} {H H':AB} {es:List OH} {clk:Nat} {tk:Int->Nat}
theorem LnE.skip(h:LnE g fn lo i H es clk tk)(hn:fn (Dn g i)=none)(hk:∀z,Jo g fn i z≠[]->AD H' (tk z)=some .tok):LnE g fn lo (i+1) H' es clk tk:=by
 obtain⟨h1,h2,h3,h4,h5,h6,h7,h8⟩:=h;have e:=Yr g fn hn;exact⟨h1,h2,λz=>by rw[e];exact h3 z,λz hz=>by rw[e]at hz;exact⟨(h4 z hz).1,hk z hz⟩,λz w hz hw=>by rw[e]at hz hw;exact h5 z w hz hw,h6,λz=>by rw[e];exact h7 z,zo⟩
theorem LnE.step(h:LnE g fn lo i H es clk tk)(hz:fn (Dn g i)=some z){t:Nat}(hlo:lo<=t)(ht:AD H t=none)(ht':AD H' t=some .tok)(hk:∀w,Jo g fn i w≠[]->w≠z->AD H' (tk w)=some .tok):
  LnE g fn lo (i+1) H' (EV (eI z) (.sl (.own t 1) ((Jo g fn i z++[(i:Int)]).map eI)) clk es) (if(Bi (eI z) es).isSome=true then clk else clk+1) (λw=>if w=z then t else tk w):=by
 obtain⟨h1,h2,h3,h4,h5,h6,h7,h8⟩:=h;have hs:=Ys g fn hz;have s6:=λw=>lR g fn (w:=w) hz
 have hfit:=LQ (y:=z) (v:=.sl (.own t 1) ((Jo g fn i z++[(i:Int)]).map eI)) (c:=clk) h1;obtain⟨k1,k2⟩:=O0 (z:=z) (v:=.sl (.own t 1) ((Jo g fn i z++[(i:Int)]).map eI)) (c:=clk) h1;have hkey:=O1 (z:=z) h1;generalize s5:EV (eI z) (.sl (.own t 1) ((Jo g fn i z++[(i:Int)]).map eI)) clk es=es' at hfit k1 k2;have hlen:es'.length=if(Bi (eI z) es).isSome=true then es.length else es.length+1:=by grind [List.length_map]
 refine⟨hfit,⟨VG hfit,?_,λe he=>?_⟩,λw=>?_,λw hw=>?_,λw w' hw hw'=>?_,?_,λw=>?_,by rw[hlen];split<;>omega⟩
 ·rw[k2];split
  ·exact h2.nd
  ·rw[ug];refine⟨h2.nd,zw,λa ha b hb=>?_⟩;rw[sZ.1 hb];obtain⟨e,he,rfl⟩:=t7.1 ha;have:=h2.lt e he;omega
 ·have hm:e.2.2∈es'.map (λe=>e.2.2):=t7.2 ⟨e,he,rfl⟩;rw[k2]at hm;split at hm
  ·rename_i q;obtain⟨e',he',e1⟩:=t7.1 hm;rw[rt q,<-e1];exact h2.lt e' he'
  ·rename_i q;rw[rj q];rcases ti.1 hm with hm|hm
   ·obtain⟨e',he',e1⟩:=t7.1 hm;have:=h2.lt e' he';omega
   ·rw[sZ.1 hm];omega
 ·rw[<-s5,LP h1];by_cases q:w=z
  ·subst q;rw[rt rfl,rt rfl,hs,rj zw]
  ·rw[rj q,rj q,h3 w,s6 w q]
 ·grind
 ·grind
 ·grind
 ·rw[k1];by_cases q:w=z
  ·subst q;rw[hs];split
   ·rename_i p;exact⟨λ_=>zw,λ_=>hkey.1 p⟩
   ·exact⟨λ_=>zw,λ_=>zw⟩
  ·rw[s6 w q,<-h7 w];split
   ·exact Iff.rfl
   ·simp [q]
end
def MM(o:Option Int):Fs:=.tup [.int .i64 (o.getD 0),.bool o.isSome]
def OO(cap:List Fs)(okH:AB->Prop)(okS:BF->Prop)(fn:BF->Option Int):List Fs->AB->Prop×Fs:=λa H=>match a with
 | .agg [.int .i64 x,.int .i64 y]::c=>(c=cap/\okH H/\okS (x,y),MM (fn (x,y)))
 |_=>(False,.tup [])
variable {H:AB} {f0:FuncId} {g:v7} {cap:List Fs} {n:Nat} {fn:BF->Option Int}
theorem rowPq{s9:FuncId}{okH:AB->Prop}{okS:BF->Prop}(h:∀s H n,okS s->okH H->Ao prog s9 (ON s::cap) H n (MM (fn s))):∀args H n,(OO cap okH okS fn args H).1->Ao prog s9 args H n (OO cap okH okS fn args H).2:=by
 intro args H n hh;unfold OO at hh⊢;split at hh
 ·obtain⟨rfl,h1,h2⟩:=hh;exact h _ H n h2 h1
 ·exact hh.elim
def Gu(H0:AB)(n:Nat)(H:AB):Prop:=∀id ob,id<n->AD H0 id=some ob->AD H id=some ob
abbrev eLn(n:Nat):List (Nat×Bool×Fs):=[(3,true,.ptr (n+1) 0),(4,true,.sl .nil []),(5,true,.ptr (n+4) 0),(14,true,clG (n+6))]
structure LnF(g:v7)(fn:BF->Option Int)(bv:Fs)(H0:AB)(n l':Nat)(i:Nat)(H:AB)(m:Nat):Prop where
 fr:AP H m
 lm:n+9<=m
 kp:Gu H0 n H
 h1:AD H (n+1)=some (.box [bv])
 h4:AD H (n+4)=some (.box [.mp (n+3)])
 hq:AD H (n+6)=some (.box (AE g.sh g.w g.h g.holes g.cells))
 hL:AD H (n+8)=some (.lp ⟨l',.ready,none,48,eLn n, #[15,16],HK,HL⟩)
 hm:∃es clk tk,AD H (n+3)=some (.map es clk)/\LnE g fn (n+9) i H es clk tk
theorem y_ln{H0:AB}{l' i:Nat}{T:Bc}(hT:AH prog T)(hTe:∀a H,T f0 a H=OO cap (Gu H0 n) (λs=>s∈Aa g.sh g.w g.cells) fn a H)
  (wo:g.cells.length<=256) (hi:i<g.cells.length) {m:Nat} (F:LnF g fn (.fn (.func f0) [] cap) H0 n l' i H m) {R:Bool->AB->Nat->Prop} (hR:∀H' m',LnF g fn (.fn (.func f0) [] cap) H0 n l' (i+1) H' m'->R true H' m'):
  CV prog l' [.int .i64 i,ON (Dn g i)] H m R:=by
 obtain⟨fr,lm,kp,h1,h4,hq,hL,es,clk,tk,hm,hE⟩:=F;refine qV hL rfl (AI AH.tnil (AJ ?_));simp only[eE,eN,seval,Q4,Gl,um,uu,tM,uO,S1 fr,AQ];refine⟨_,(AA _ _ _ _ zo).trans hL,rfl,AI hT (AJ ?_)⟩;have hmem:Dn g i∈Aa g.sh g.w g.cells:=te (D9 hi);have y1:(m=n+1)=False:=ri zo;have y2:(n+8=n+1)=False:=ri zo;have y3:(n+8=m)=False:=ri zo;have hk:Gu H0 n (hset (hset H m (.box [.int .i64 (Dn g i).1,.int .i64 (Dn g i).2])) (n+8) (.lp ⟨l',.busy,none,48,eLn n, #[15,16],HK,HL⟩)):=λid ob p9 h0=>by
  rw[AA _ _ _ _ zo,AA _ _ _ _ zo];exact kp id ob p9 h0
 generalize hs:Dn g i=s at hmem hk;have hmem':(s.1,s.2)∈Aa g.sh g.w g.cells:=hmem;cases hfn:fn s with
 |none=>
  have hfn':fn (s.1,s.2)=none:=hfn;simp only[eZ,seval,eY,KQ,h1,y1,y2,y3,hTe,OO,ra hk,ra hmem',hfn',MM];refine⟨⟨l',.busy,none,48,eLn n, #[15,16],HK,HL⟩,AC ..,hR _ _ ⟨?_,zp,λid ob p9 h0=>?_,?_,?_,?_,AC ..,es,clk,tk,?_,hE.skip (by rw[hs];exact hfn) λz hz=>?_⟩⟩
  ·exact((fr.hset (m:=m+2) zo zo).hset (m:=m+2) (rq _) zo).hset (rq _) (show n+8<m+2 by omega)
  ·rw[AA _ _ _ _ zo];exact hk id ob p9 h0
  ·repeat rw[AA _ _ _ _ zo]
   exact h1
  ·repeat rw[AA _ _ _ _ zo]
   exact h4
  ·repeat rw[AA _ _ _ _ zo]
   exact hq
  ·repeat rw[AA _ _ _ _ zo]
   exact hm
  ·obtain⟨t1,t2⟩:=hE.tok z hz;have:=fr.lt t2;repeat rw[AA _ _ _ _ zo]
   exact t2
 |some z=>
 have hfn':fn (s.1,s.2)=some z:=hfn;have y4:∀k,(n+8=n+k)=(8=k):=λk=>propext zo
 have y5:∀k,(m+k=n+3)=False:=λk=>ri zo
 have y6:(m=n+3)=False:=ri zo;have y7:(m=n+4)=False:=ri zo;have y8:∀k,(n+8=m+k)=False:=λk=>ri zo
 have am:=dZ g fn i z;have hfd:=hE.fnd z;have hkt:(KT.int IntKind.i64).is (.int .i64 z)=True:=ra rfl;by_cases hz:Jo g fn i z=[]
 ·rw[rt hz]at hfd;simp only[eZ,seval,xE,eY,KQ,h1,h4,hm,y1,y2,y3,y4,y5,y6,y7,y8,hTe,OO,ra hk,ra hmem',hfn',MM,C9,hfd,hkt,ra hE.fit,Bq fr,Al];have hst:=λH' ht' hkk=>hE.step (H':=H') (by rw[hs];exact hfn) (t:=m+9) zo (fr _ zo) ht' hkk
  simp only[hfd,Option.isSome_none,sr,sG,hz,sj,sw,sI]at hst;refine⟨⟨l',.busy,none,48,eLn n, #[15,16],HK,HL⟩,?_,hR _ _ ⟨?_,zp,λid ob p9 h0=>?_,?_,?_,?_,AC ..,_,_,_,?_,hst _ ?_ λw hw hwz=>?_⟩⟩
  ·grind [AA,AC]
  ·exact((((fr.hset (m:=m+11) zo zo).hset (m:=m+11) (rq _) zo).hset (m:=m+11) (rq _) zo).hset (m:=m+11) (rq _) zo).hset (rq _) (show n+8<m+11 by omega)
  ·rw[AA _ _ _ _ zo,AA _ _ _ _ zo,AA _ _ _ _ (by have:=hk id ob p9 h0;omega)];exact hk id ob p9 h0
  ·repeat rw[AA _ _ _ _ zo]
   exact h1
  ·repeat rw[AA _ _ _ _ zo]
   exact h4
  ·repeat rw[AA _ _ _ _ zo]
   exact hq
  ·rw[AA _ _ _ _ zo,AC]
  ·repeat rw[AA _ _ _ _ zo]
   exact AC ..
  ·obtain⟨t1,t2⟩:=hE.tok w hw;have:=fr.lt t2;repeat rw[AA _ _ _ _ zo]
   exact t2
 ·rw[rj hz]at hfd;obtain⟨z1,z2⟩:=hE.tok z hz;have z3:=fr.lt z2;have x1:(n+8=tk z)=False:=ri zo;have x2:(m=tk z)=False:=ri zo;have x3:(tk z=n+3)=False:=ri zo;have x4:∀k,(tk z=m+k)=False:=λk=>ri zo
  have q2:((Jo g fn i z).length+1<=35184372088832)=True:=ra zo;have q3:((Jo g fn i z).length<=35184372088831)=True:=ra zo;have q4:Al ((Jo g fn i z).length+1) 8=True:=ra (Ac zo zd);simp only[eZ,seval,xE,eY,KQ,h1,h4,hm,y1,y2,y3,y4,y5,y6,y7,y8,hTe,OO,ra hk,ra hmem',hfn',MM,C9,hfd,hkt,ra hE.fit,Bq fr,z2,x1,x2,x3,q2,q4];have hst:=λH' ht' hkk=>hE.step (H':=H') (by rw[hs];exact hfn) (t:=m+9) zo (fr _ zo) ht' hkk
  simp only[hfd,Option.isSome_some,t8,rz,sw,sI]at hst;refine⟨⟨l',.busy,none,48,eLn n, #[15,16],HK,HL⟩,?_,hR _ _ ⟨?_,zp,λid ob p9 h0=>?_,?_,?_,?_,AC ..,_,_,_,?_,hst _ ?_ λw hw hwz=>?_⟩⟩
  ·grind [AA,AC]
  ·exact(((((fr.hset (m:=m+11) zo zo).hset (m:=m+11) (rq _) zo).hset (m:=m+11) (rq _) zo).hset (m:=m+11) (rq _) zo).hset (m:=m+11) (rq _) zo).hset (rq _) (show n+8<m+11 by omega)
  ·repeat rw[AA _ _ _ _ zo]
   exact kp id ob p9 h0
  ·repeat rw[AA _ _ _ _ zo]
   exact h1
  ·repeat rw[AA _ _ _ _ zo]
   exact h4
  ·repeat rw[AA _ _ _ _ zo]
   exact hq
  ·rw[AA _ _ _ _ zo,AC]
  ·repeat rw[AA _ _ _ _ zo]
   exact AC ..
  ·obtain⟨t1,t2⟩:=hE.tok w hw;have:=fr.lt t2;have:tk z≠tk w:=λe=>hwz (hE.inj _ _ hz hw e).symm
   repeat rw[AA _ _ _ _ zo]
   exact t2
def EL:List Fs->List (List Int)->Prop
 |[],[]=>True
 |a::E,l::L=>(∃t,a= .sl t (l.map eI)/\(t.esz=1\/l=[]))/\EL E L
 |_,_=>False
theorem EL.wks:∀{E:List Fs} {L:List (List Int)},EL E L->Wks E (L.map Am)
 |[],[],_=>.nil
 |a::E,l::L,⟨⟨t,h1,h2⟩,h⟩=>by
  subst h1;exact .cons (Wk.sl (h2.imp (λz=>z) λq=>by rw[q];rfl)) (EL.wks h)
theorem EL.app:∀{E F:List Fs} {L M:List (List Int)},EL E L->EL F M->EL (E++F) (L++M)
 |[],_,[],_,_,h=>h
 |a::E,_,l::L,_,⟨h1,h⟩,k=>⟨h1,EL.app h k⟩
theorem EL.len:∀{E:List Fs} {L:List (List Int)},EL E L->E.length=L.length
 |[],[],_=>rfl
 |a::E,l::L,⟨_,h⟩=>by rw[sC,sC,EL.len h]
structure LnL(g:v7)(fn:BF->Option Int)(H0:AB)(n c:Nat)(Ks:List Int)(es:List OH)(clk:Nat)(v:VRg):Prop where
 hi:v.i<=Ks.length
 lm:c<=v.n
 fr:AP v.H v.n
 kp:Gu H0 n v.H
 h4:AD v.H (n+4)=some (.box [.mp (n+3)])
 hm:AD v.H (n+3)=some (.map es clk)
 tok:DA 1 c v.H v.tl
 es:v.tl.esz=1\/v.E=[]
 hE:EL v.E ((Ks.take v.i).map (CL (Aa g.sh g.w g.cells) fn))
def LnP(H:AB)(n:Nat)(L:List (List Int)):v8->AB->Nat->Prop:=λo H' n'=>
 ∃tl E,o= .ret (.sl tl E)/\DA 1 n H' tl/\(tl.esz=1\/E=[])/\EL E L/\Gu H n H'/\AP H' n'/\n<=n'
theorem VI(G:GrV g)(hf:AP H n)
  (hb:∀s H' m,s∈Aa g.sh g.w g.cells->Gu H n H'->Ao prog f0 (ON s::cap) H' m (MM (fn s))) (hbd:∀s∈Aa g.sh g.w g.cells,∀z,fn s=some z-> -16<=z/\z<=32):
  AV prog 227 [CK g,.fn (.func f0) [] cap] H n (LnP H n (CM (Aa g.sh g.w g.cells) fn)):=by
 have hT:AH prog (AG f0 (OO cap (Gu H n) (λs=>s∈Aa g.sh g.w g.cells) fn) tnil):=AH.tnil.add (rowPq λs H' m h1 h2=>hb s H' m h1 h2);have hTe:∀a H',AG f0 (OO cap (Gu H n) (λs=>s∈Aa g.sh g.w g.cells) fn) tnil f0 a H'=OO cap (Gu H n) (λs=>s∈Aa g.sh g.w g.cells) fn a H':=λa H'=>by unfold AG;rw[rt rfl]
 generalize AG f0 _ tnil=T at hT hTe;obtain⟨hr1,hr2,hr3⟩:=BX G.hG;refine a227 (AI hT (AJ ?_));simp only[eE,eN,seval,xE,c227,AE,S1 hf,Bq hf,AQ];generalize hH0:hset _ (n+4) (xq.box [Fs.mp (n+3)])=H0;have af:AP H0 (n+6):=by
  rw[<-hH0];exact(((hf.hset (m:=n+6) zo zo).hset (m:=n+6) (rq _) zo).hset (m:=n+6) (rq _) zo).hset (rq _) zo
 have ak:Gu H n H0:=λid ob p9 h0=>by
  rw[<-hH0];repeat rw[AA _ _ _ _ zo]
  exact h0
 have a1:AD H0 (n+1)=some (.box [.fn (.func f0) [] cap]):=by grind [AA,AC]
 have a3:AD H0 (n+3)=some (.map [] 0):=by rw[<-hH0,AA _ _ _ _ zo,AC]
 have a4:AD H0 (n+4)=some (.box [.mp (n+3)]):=by rw[<-hH0,AC]
 clear hH0;refine(M1 af).mono ?_;rintro o H1 n1 ⟨rfl,rfl,rfl⟩;simp only[eE,eN,seval,BV,GB];intro l';refine(Mv g G (J:=LnF g fn (.fn (.func f0) [] cap) H n l') (λi H n F=>F.hq) (λi H2 m hi F R hR=>y_ln hT hTe hr2 hi F hR) ?_).mono ?_
 ·refine⟨(af.hset (m:=n+9) zo zo).hset (rq _) zo,rq _,λid ob p9 h0=>?_,?_,?_,?_,AC ..,[],0,λ_=>0,?_,⟨zt,⟨zw,zw,zw⟩,λz=>?_,λz hz=>absurd rfl hz,λz w hz=>absurd rfl hz,by simp [Ki],λz=>⟨λh=>by simp [Ki]at h,λh=>absurd rfl h⟩,rq _⟩⟩
  ·repeat rw[AA _ _ _ _ zo]
   exact ak id ob p9 h0
  ·repeat rw[AA _ _ _ _ zo]
   exact a1
  ·repeat rw[AA _ _ _ _ zo]
   exact a4
  ·rw[AA _ _ _ _ zo,AC]
  ·repeat rw[AA _ _ _ _ zo]
   exact a3
  ·have:Jo g fn 0 z=[]:=rfl;rw[rt this];rfl
 rintro o H2 n2 ⟨rfl,F⟩;obtain⟨ffr,flm,fkp,f1,f4,fq,fL,es,clk,tk,fm,hE⟩:=F;have u1:(n+8=n+4)=False:=ri zo;simp only[eE,eN,seval,GA,fL,f4,u1];have gf:AP (hset H2 (n+8) .dead) n2:=ffr.hset (rq _) zo;have gk:Gu H n (hset H2 (n+8) .dead):=λid ob p9 h0=>by rw[AA _ _ _ _ zo];exact fkp id ob p9 h0
 have g4:AD (hset H2 (n+8) .dead) (n+4)=some (.box [.mp (n+3)]):=by rw[AA _ _ _ _ zo];exact f4
 have gm:AD (hset H2 (n+8) .dead) (n+3)=some (.map es clk):=by rw[AA _ _ _ _ zo];exact fm
 generalize hset H2 (n+8) .dead=H3 at gf gk g4 gm;refine(dY gf).mono ?_;rintro o H4 n4 ⟨rfl,rfl,rfl⟩;simp only[eE,seval,BV];have kf:AP (hset H3 n2 (.box [.mp (n+3)])) (n2+2):=gf.hset zo zo;have kk:Gu H n (hset H3 n2 (.box [.mp (n+3)])):=λid ob p9 h0=>by rw[AA _ _ _ _ zo];exact gk id ob p9 h0
 have k4:AD (hset H3 n2 (.box [.mp (n+3)])) (n+4)=some (.box [.mp (n+3)]):=by rw[AA _ _ _ _ zo];exact g4
 have km:AD (hset H3 n2 (.box [.mp (n+3)])) (n+3)=some (.map es clk):=by rw[AA _ _ _ _ zo];exact gm
 have kq:AD (hset H3 n2 (.box [.mp (n+3)])) n2=some (.box [.mp (n+3)]):=AC ..;generalize hset H3 n2 (.box [.mp (n+3)])=H5 at kf kk k4 km kq;have hesl:=hE.len;refine(Ao.of (n:=n2+2) Xj.l (AZ _ _) (λ_=>lQ hE.ok zo kf kq km)).mono ?_;rintro o H6 n6 ⟨rfl,rfl,rfl⟩;have hK:((Ki es).mergeSort Fk).map (CL (Aa g.sh g.w g.cells) fn)=CM (Aa g.sh g.w g.cells) fn:=by
  refine cE hE.knd (λz=>?_) hbd;rw[hE.kmem z,VH,<-RH,<-List.isEmpty_eq_false_iff]
 have hKl:((Ki es).mergeSort Fk).length<=g.cells.length:=by
  rw[Ep];show(es.map _).length<=_;rw[r9];exact hesl
 have hKm:∀z∈(Ki es).mergeSort Fk,Bi (eI z) es=some (.sl (.own (tk z) 1) ((CL (Aa g.sh g.w g.cells) fn z).map eI)):=λz hz=>by
  rw[List.mem_mergeSort]at hz;rw[hE.fnd z,rj ((hE.kmem z).1 hz),VH]
 rw[<-hK];generalize (Ki es).mergeSort Fk=Ks at hKl hKm;simp only[eE,eN,seval,r9,BV];refine AO (λv:VRg=>⟨[(4,true,.sl v.tl v.E),(5,true,.ptr (n+4) 0),(34,true,Am Ks),(35,true,.int .i64 Ks.length),(36,true,.int .i64 v.i)],v.H,v.n⟩) (LnL g fn H n (n2+2) Ks es clk) (λv=>Ks.length-v.i)
  ⟨0,[],.nil,H6,n2+2⟩ rfl ⟨rm _,rq _,kf,kk,k4,km,.inl rfl,.inr rfl,zt⟩ ?_
 rintro⟨j,E,tl,H7,m⟩ ⟨hj,hlm,l7,hkp,h4,hm,htl,s5,hWE⟩;simp only at hj hlm l7 hkp h4 hm htl s5 hWE;by_cases c9:j<Ks.length
 ·have hg:=rc c9;have e:=AK (k:=j) zo;have hfd:=hKm _ (rY c9);have l5:Ks.take (j+1)=Ks.take j++[Ks[j]]:=by rw[sf,hg];rfl
  generalize Ks[j]=z at hg hfd l5;have hkt:(KT.int IntKind.i64).is (.int .i64 z)=True:=ra rfl;have hEl:E.length=j:=by
   have:=hWE.len;rw[r9,sD]at this;omega
  have q1:BH H7 1 tl=True:=ra htl.app;have q2:(E.length<=35184372088831)=True:=ra zo;have q3:Al (E.length+1) 24=True:=ra (Ac zo zd);simp only[eZ,seval,xE,eY,AN c9,hg,h4,hm,hkt,ra hE.fit,C9,hfd,q1,q2,q3,Bq l7,e];refine .mk ⟨j+1,E++[.sl (.own (tk z) 1) ((CL (Aa g.sh g.w g.cells) fn z).map eI)],.own (m+5) 1,hset (AU H7 tl) (m+5) .tok,m+7⟩ rfl ⟨c9,zp,(Ab htl l7).hset (m:=m+7) zo zo,λid ob p9 h0=>?_,?_,?_,.inr (.inr ⟨m+5,rfl,zo,AC ..⟩),.inl rfl,?_⟩ zp
  ·rw[AA _ _ _ _ zo,Af htl (.inl zo)];exact hkp id ob p9 h0
  ·grind [AA,Af]
  ·grind [AA,Af]
  ·simp only[l5,rz,sw,sI]at hWE⊢;exact hWE.app ⟨⟨_,rfl,.inl rfl⟩,zt⟩
 obtain rfl:j=Ks.length:=zo
 rw[se]at hWE;simp only[eZ,seval,Ad c9];exact⟨tl,E,rfl,htl.imp id λq=>q.imp id λ⟨z,z1,z2,z3⟩=>⟨z,z1,zo,z3⟩,s5,hWE,hkp,l7,zo⟩
theorem Jp(G:GrV g)
  (hb:∀s H' m,s∈Aa g.sh g.w g.cells->Gu H n H'->Ao prog f0 (ON s::cap) H' m (MM (fn s))) (hbd:∀s∈Aa g.sh g.w g.cells,∀z,fn s=some z-> -16<=z/\z<=32):
  Ao prog 227 [CK g,.fn (.func f0) [] cap] H n (Bv (CM (Aa g.sh g.w g.cells) fn)):=
 Ao.of qW (BC n _) λhf=>(VI G hf hb hbd).mono λo H' n' ⟨tl,E,h1,h2,h3,h4,h5,h6,h7⟩=>⟨⟨_,h1,Wk.slx h3 h4.wks⟩,λid ob h0=>h5 id ob (hf.lt h0) h0⟩
end
section
def O2(H:AB)(av:Fs)(l:List Int):Prop:=(∃t,av= .sl t (l.map eI)/\(t.esz=1\/l=[]))\/∃id cap rest,av= .ref id 1 0 l.length cap/\AD H id=some (.arr 1 ((l++rest).map eI))/\l.length<=cap
def ClnP(H:AB)(n:Nat)(l:List Int):v8->AB->Nat->Prop:=λo H' n'=>
 (l=[]/\H'=H/\(n'=n\/n'=n+4)/\∃t,o= .ret (.sl t [])/\(t= .nil\/t= .exact 1))\/
 (l≠[]/\n'=n+4/\∃rest,o= .ret (.ref (n+2) 1 0 l.length (l.length+rest.length))/\H'=hset H (n+2) (.arr 1 ((l++rest).map eI)))
def Ta{H:AB}{n:Nat}{av:Fs}{l:List Int}(hr:O2 H av l)(hl:An l):AV prog 32 [av] H n (ClnP H n l):=by
 refine AV.fresh c32.l λhf=>?_
 have am:l.length<1000000000:=hl;have hrep:∀k,List.replicate k (Fs.int .i64 0)=(List.replicate k (0:Int)).map eI:=λk=>by rw[uc]
 rcases hr with⟨t,rfl,ht⟩|⟨id,cp,rest,rfl,ho,hc⟩
 ·refine AV.args (a:=[Am l]) ?_ λg vs ⟨v,r,h1,h2,h3⟩=>⟨v,r,h1,Wk.sl (ht.imp (λz=>z) λq=>by rw[q];rfl) _ _ h2,h3⟩
  refine bT.a (AI AH.tnil (AJ ?_));cases l with
  |nil=>
   simp only[eZ,seval,bT];refine⟨?_,?_⟩
   ·simp only[eZ,seval,Df,FY,Bq hf,Al,uI,rm];exact .inl ⟨rfl,rfl,.inr rfl,.exact 1,rfl,.inr rfl⟩
   ·simp only[eZ,seval,rf];exact .inl ⟨rfl,rfl,.inl rfl,.nil,rfl,.inl rfl⟩
  |cons x r=>
   rw[sC]at am;simp only[eZ,seval,r9,bT,Am,Df,FY,Bq hf];refine⟨Ac zo zd,zo,λcap hcap=>.inr ⟨zw,rfl,List.replicate (cap-(r.length+1)) 0,?_,?_⟩⟩
   ·simp_all
   ·rw[hrep];simp
 ·refine bT.a (AI AH.tnil (AJ ?_));have l5:List.take l.length ((l++rest).map eI)=l.map eI:=by rw[rz,List.take_left' (by rw[r9])]
  have hlen:(l.length<=(l++rest).length)=True:=ra zw;simp only[eZ,seval,r9,bT,ho,l5,hlen,Df,FY,Bq hf];refine⟨Ac zo zd,zo,λh0=>?_,λh0 cap hcap=>?_⟩
  ·exact .inl ⟨by simpa using h0,rfl,.inr rfl,.exact 1,rfl,.inr rfl⟩
  ·refine .inr ⟨by simpa using h0,rfl,List.replicate (cap-l.length) 0,?_,?_⟩
   ·simp_all
   ·rw[hrep];simp
def p228(s:BF):Aw prog 228 [ON s] (MM (some s.2)):=by
 refine .mk ⟨⟨zt,zt,zt⟩,zt⟩ ⟨zt,zt,zt⟩ (c228.a (AI AH.tnil (AJ ?_)));simp only[eE,eN,seval,Int.toNat_one,c228,Yn];exact Wk.refl _
def p229(s:BF):Aw prog 229 [ON s] (MM (some s.1)):=by
 refine .mk ⟨⟨zt,zt,zt⟩,zt⟩ ⟨zt,zt,zt⟩ (c229.a (AI AH.tnil (AJ ?_)));simp only[eE,eN,seval,eY,c229,Yn];exact Wk.refl _
variable {g:v7}
theorem Jq(G:GrV g){s:BF}(h:s∈Aa g.sh g.w g.cells): -16<=s.1/\s.1<=16/\0<=s.2/\s.2<=15/\ -16<=s.1+s.2/\s.1+s.2<=31:=by
 obtain⟨i,hi,rfl⟩:=sH.1 h;rw[B8]at hi;have e:=D9 hi;rw[rc (by rw[B8];exact hi)]at e;rw[Option.some.inj e];have gi:JK g (i:Int):=⟨zo,by rw[rr];exact hi⟩;obtain⟨k,hk,-,hg,hp,w1,w2,x1,x2,y1,y2,ey,xn⟩:=G.at gi;obtain rfl:k=i:=zo
 unfold Dn DX;split<;>simp only[]<;>omega
theorem p252(s:BF)(h: -16<=s.1+s.2/\s.1+s.2<=31):Aw prog 252 [ON s] (MM (some (s.1+s.2))):=by
 refine .mk ⟨⟨zt,zt,zt⟩,zt⟩ ⟨zt,zt,zt⟩ (c252.a (AI AH.tnil (AJ ?_)));have w:IntKind.wrap .i64 (s.1+s.2)=s.1+s.2:=A6 zo zo;simp only[eE,eN,seval,eY,c252,Yn,w];exact Wk.refl _
def Jr(s:BF):Option Int:=if s.1=s.2 then some 0 else none
def MN(w:Int)(s:BF):Option Int:=if s.1+s.2=w-1 then some 0 else none
theorem p253(s:BF):Aw prog 253 [ON s] (MM (Jr s)):=by
 refine .mk ⟨⟨zt,zt,zt⟩,zt⟩ ⟨zt,zt,zt⟩ (qX.a (AI AH.tnil (AJ ?_)));unfold Jr;by_cases h:s.1=s.2
 ·rw[rt h];simp only[eE,eN,seval,eY,qX,Yn,BS h];exact Wk.refl _
 ·rw[rj h];simp only[eE,eN,seval,eY,qX,Yn,A3 h];exact Wk.refl _
theorem p254(g:v7)(hw:0<=g.w/\g.w<=16)(s:BF)(h: -16<=s.1+s.2/\s.1+s.2<=31):Aw prog 254 [ON s,.ep (AE g.sh g.w g.h g.holes g.cells)] (MM (MN g.w s)):=by
 refine .mk ⟨⟨zt,zt,zt⟩,BL 0 ..,zt⟩ ⟨zt,zt,zt⟩ (qY.a (AI AH.tnil (AJ ?_)));have w:IntKind.wrap .i64 (s.1+s.2)=s.1+s.2:=A6 zo zo;have w2:IntKind.wrap .i64 (g.w-1)=g.w-1:=A6 zo zo;unfold MN;by_cases h:s.1+s.2=g.w-1
 ·rw[rt h];simp only[eE,eN,seval,eY,qY,AE,Yn,w,w2,BS h];exact Wk.refl _
 ·rw[rj h];simp only[eE,eN,seval,eY,qY,AE,Yn,w,w2,A3 h];exact Wk.refl _
section
variable {g:v7} (G:GrV g) (H:AB) (n:Nat)
include G
theorem q_ln1:Ao prog 227 [CK g,.fn (.func 228) [] []] H n (Bv (CM (Aa g.sh g.w g.cells) λs=>some s.2)):=
 Jp G (λs H' m _ _=>(p228 s).quiet H' m) λs hs z hz=>by have:=Jq G hs;have:=Option.some.inj hz;omega
theorem q_ln2:Ao prog 227 [CK g,.fn (.func 229) [] []] H n (Bv (CM (Aa g.sh g.w g.cells) λs=>some s.1)):=
 Jp G (λs H' m _ _=>(p229 s).quiet H' m) λs hs z hz=>by have:=Jq G hs;have:=Option.some.inj hz;omega
theorem q_ln3:Ao prog 227 [CK g,.fn (.func 252) [] []] H n (Bv (CM (Aa g.sh g.w g.cells) λs=>some (s.1+s.2))):=
 Jp G (λs H' m hs _=>(p252 s (by have:=Jq G hs;omega)).quiet H' m) λs hs z hz=>by have:=Jq G hs;have:=Option.some.inj hz;omega
theorem q_ln4:Ao prog 227 [CK g,.fn (.func 253) [] []] H n (Bv (CM (Aa g.sh g.w g.cells) Jr)):=
 Jp G (λs H' m hs _=>(p253 s).quiet H' m) λs hs z hz=>by
  unfold Jr at hz;split at hz
  ·have:=Option.some.inj hz;omega
  ·cases hz
theorem q_ln5{q:Nat}(hq:AD H q=some (.box (AE g.sh g.w g.h g.holes g.cells)))(hf:AP H n):Ao prog 227 [CK g,.fn (.func 254) [] [.ptr q 0]] H n (Bv (CM (Aa g.sh g.w g.cells) (MN g.w))):=by
 obtain⟨wn,xi⟩:=IT G.hG;refine Jp G (λs H' m hs hk=>(p254 g zo s (by have:=Jq G hs;omega)).view ⟨zt,zt,zt⟩ (.cons (.wk (Wk.refl _)) (.cons (View.ptr (off:=0) (hk q _ (hf.lt hq) hq)) .nil)) m) λs hs z hz=>?_
 unfold MN at hz;split at hz
 ·have:=Option.some.inj hz;omega
 ·cases hz
end
def Js(g:v7):List Fs->AB->Prop×Fs:=λa H=>match a with
 |[x,.fn (.func f) [] cap]=>(x=CK g/\((f=228\/f=229\/f=252\/f=253)/\cap=[]\/f=254/\∃q,cap=[.ptr q 0]/\AD H q=some (.box (AE g.sh g.w g.h g.holes g.cells))),
   Bv (CM (Aa g.sh g.w g.cells) (if f=228 then λs=>some s.2 else if f=229 then λs=>some s.1 else if f=252 then λs=>some (s.1+s.2)else if f=253 then Jr else MN g.w)))
 |_=>(False,.tup [])
theorem Yt(G:GrV g):∀args H n,(Js g args H).1->Ao prog 227 args H n (Js g args H).2:=by
 intro args H n hh;unfold Js at hh⊢;split at hh
 ·obtain⟨rfl,⟨h|h|h|h,rfl⟩|⟨rfl,q,rfl,hq⟩⟩:=hh
  ·subst h;exact q_ln1 G H n
  ·subst h;exact q_ln2 G H n
  ·subst h;exact q_ln3 G H n
  ·subst h;exact q_ln4 G H n
  ·refine⟨qW,?_⟩;exact(AV.fresh qW λhf=>q_ln5 G H n hq hf).2
 ·exact hh.elim
def Tdg(g:v7):Bc:=AG 227 (Js g) (AG 109 (s2 BA BA (λ_ b=>wide b) λa b=>.bool (decide (a=b))) tnil)
theorem lS(G:GrV g):AH prog (Tdg g):=(AH.tnil.add (q2 Xt)).add (Yt G)
theorem Kr{S:List BF}{fn:BF->Option Int}(h:∀s∈S,∀z,fn s=some z->z=0):CM S fn=if(CL S fn 0).isEmpty then[]else[CL S fn 0]:=by
 have he:∀z,z≠0->(CL S fn z).isEmpty=true:=λz hz=>by
  rw[<-vi];intro q;obtain⟨s,hs,e⟩:=RH.1 q;exact hz (h s hs z e)
 unfold CM Ka;rw[show List.range 49=List.range 16++(16::(List.range 32).map (· +17))from rfl];simp only[rz,sw,tD,ui];have z1:((List.range 16).map λk:Nat=>CL S fn ((k:Int)-16)).filter (λl=>!l.isEmpty)=[]:=by grind [List.filter_eq_nil_iff]
 have z2:((List.range 32).map λk:Nat=>CL S fn (((k+17:Nat):Int)-16)).filter (λl=>!l.isEmpty)=[]:=by grind [List.filter_eq_nil_iff]
 have z1':((List.range 16).map (CL S fn∘λk:Nat=>(k:Int)-16)).filter (λl=>!l.isEmpty)=[]:=z1;have z2':((List.range 32).map (CL S fn∘((λk:Nat=>(k:Int)-16)∘λx=>x+17))).filter (λl=>!l.isEmpty)=[]:=z2;rw[z1',sj,tI,z2'];have e0:(((16:Nat):Int)-16)=0:=rfl;rw[e0];cases (CL S fn 0).isEmpty<;>rfl
def dgP(g:v7):List (List Int):=if g.sh=2 then CM (Aa g.sh g.w g.cells) (λs=>some (s.1+s.2))else if g.w=g.h then MG g.w (Aa g.sh g.w g.cells)else[]
structure IDgp(LB D:List (List Int))(H0:AB)(n0:Nat)(tl0:w8)(E0:List Fs)(v:VRg):Prop where
 hi:v.i<=LB.length
 h0:v.i=0->v.E=E0/\v.tl=tl0/\v.H=H0/\v.n=n0
 h1:v.i=1->(v.tl.esz=1\/v.E=[])/\EL v.E D
theorem w01:IntKind.wrap .i64 (0+1)=1:=A6 zd zd
theorem Rg(S:List BF)(f:BF->Option Int)(z:Int):(CL S f z).length<=S.length:=C0 ..
theorem p230(g:v7)(G:GrV g):Aw prog 230 [CK g] (Bv (dgP g)):=by
 refine .mk ⟨BL 0 ..,zt⟩ (BC 0 _) (gV.a (AI (lS G) (AJ ?_)));unfold dgP;obtain⟨hr1,hr2,hr3⟩:=BX G.hG;by_cases h2:g.sh=2
 ·rw[rt h2];simp only[eZ,seval,gV,AE,BS h2,Tdg,Js,AG];exact Wk.refl _
 by_cases hw:g.w=g.h;case neg=>
  rw[rj h2,rj hw];simp only[eZ,seval,rf,gV,AE,A3 h2,A3 hw];exact Wk.sl (.inr rfl)
 rw[rj h2,rt hw];have wp:AP (hset Ai 0 (.box (AE g.sh g.w g.h g.holes g.cells))) 2:=AP.nil.hset (rm 2) zd;simp only[eZ,seval,re,gV,AE,A3 h2,BS hw];refine(VI G wp (λs H' m hs _=>(p253 s).quiet H' m) λs hs z hz=>by
  unfold Jr at hz;split at hz
  ·have:=Option.some.inj hz;omega
  ·cases hz).mono ?_
 rintro o H1 n1 ⟨tl,E,rfl,htl,s5,hEL,hk,hf1,me⟩;have h10:AD H1 0=some (.box (AE g.sh g.w g.h g.holes g.cells)):=hk 0 _ zd rfl;have hex:(∃q,[Fs.ptr 0 0]=[Fs.ptr q 0]/\AD H1 q=some (.box (AE g.sh g.w g.h g.holes g.cells)))=True:=ra ⟨0,rfl,h10⟩;simp only[AE]at h10 hex;have hD:MG g.w (Aa g.sh g.w g.cells)=(CM (Aa g.sh g.w g.cells) Jr)++(if(CL (Aa g.sh g.w g.cells) (MN g.w) 0).isEmpty||decide (CL (Aa g.sh g.w g.cells) Jr 0=CL (Aa g.sh g.w g.cells) (MN g.w) 0)then[]else[CL (Aa g.sh g.w g.cells) (MN g.w) 0]):=by
  rw[Kr (fn:=Jr) λs _ z hz=>by
   unfold Jr at hz;split at hz
   ·exact(Option.some.inj hz).symm
   ·cases hz]
  rfl
 have hLB:=Kr (S:=Aa g.sh g.w g.cells) (fn:=MN g.w) λs _ z hz=>by
  unfold MN at hz;split at hz
  ·exact(Option.some.inj hz).symm
  ·cases hz
 have hLA:=Kr (S:=Aa g.sh g.w g.cells) (fn:=Jr) λs _ z hz=>by
  unfold Jr at hz;split at hz
  ·exact(Option.some.inj hz).symm
  ·cases hz
 rw[hLA]at hEL hD;generalize MG g.w (Aa g.sh g.w g.cells)=D at hD;simp only[eE,eN,seval,r9,BV,h10,Tdg,Js,hex,AG];rw[hLB];have hBl:=Rg (Aa g.sh g.w g.cells) (MN g.w) 0;have hAl:=Rg (Aa g.sh g.w g.cells) Jr 0;rw[B8]at hBl hAl;generalize CL (Aa g.sh g.w g.cells) Jr 0=A at hEL hAl hD;generalize CL (Aa g.sh g.w g.cells) (MN g.w) 0=B at hBl hD;generalize hLAg:(if A.isEmpty=true then[]else[A])=LA at hEL hD;generalize hLBg:(if B.isEmpty=true then[]else[B])=LB;refine AO (λv:VRg=>⟨[(3,true,.sl v.tl v.E),(20,true,Bv LB),(21,true,.int .i64 LB.length),(22,true,.int .i64 v.i)],v.H,v.n⟩) (IDgp LB D H1 n1 tl E) (λv=>LB.length-v.i)
  ⟨0,E,tl,H1,n1⟩ rfl ⟨rm _,λ_=>⟨rfl,rfl,rfl,rfl⟩,λh=>by cases h⟩ ?_
 rintro⟨i,E2,tl2,H2,n2⟩ ⟨hi,i0,i1⟩;simp only at hi i0 i1;cases hB:B.isEmpty with
 |true=>
  rw[hB]at hLBg hD;rw[uZ,rt rfl,sE]at hD;rw[rt rfl]at hLBg;subst hLBg;subst hD;obtain rfl:i=0:=by simpa using hi
  obtain⟨rfl,rfl,rfl,rfl⟩:=i0 rfl;simp only[eZ,seval,eY];exact Wk.slx s5 hEL.wks
 |false=>
 rw[hB]at hLBg hD;rw[tH]at hD;rw[rj zd]at hLBg;subst hLBg;have w9:i=0\/i=1:=by simp at hi;omega
 rcases w9 with rfl|rfl
 case inr=>
  obtain⟨k1,k2⟩:=i1 rfl;simp only[eZ,seval,c1];exact Wk.slx k1 k2.wks
 obtain⟨rfl,rfl,rfl,rfl⟩:=i0 rfl;have hwB:wide B:=by show B.length<_;omega
 have c1n:((1:Nat):Int)=1:=rfl;cases hA:A.isEmpty with
 |true=>
  rw[hA,rt rfl]at hLAg;subst hLAg;have hE0:E2=[]:=t6 hEL.len;subst hE0;have hAB:decide (A=B)=false:=sa λe=>by rw[e,hB]at hA;cases hA
  rw[hAB,rj zd,sj]at hD;subst hD;have q1:BH H2 1 tl2=True:=ra htl.app;simp only[eZ,seval,re,eY,q1,Bq hf1,Al,c1n,w01];exact .mk ⟨1,[Am B],.own (n2+3) 1,_,n2+5⟩ rfl ⟨rq _,λh=>(by cases h),λ_=>⟨.inl rfl,⟨_,rfl,.inl rfl⟩,zt⟩⟩ (show 1-1<1-0 by decide)
 |false=>
  rw[hA,rj zd]at hLAg;subst hLAg;obtain⟨x,hx⟩:∃x,E2=[x]:=by
   have:=hEL.len
   match E2,this with
   |[x],_=>exact⟨x,rfl⟩
  subst hx;obtain⟨⟨t,rfl,ht⟩,-⟩:=hEL;have htl1:tl2.esz=1:=s5.resolve_right zw;have ka:BA.ok (.sl t (A.map eI))=True:=ra ⟨ht.imp (λz=>z) λq=>by rw[q];rfl,by rw[Ax]⟩;have kd:BA.dec (.sl t (A.map eI))=A:=Ax A;have q1:BH H2 1 tl2=True:=ra htl.app;by_cases hAB:A=B
  ·rw[sk hAB,rt rfl,sE]at hD;subst hD;simp only[eZ,seval,re,eY,c1n,w01,htl1,Tdg,s2,ka,kd,Ak,Ag,ra hwB,BS hAB,re,AG];exact .mk ⟨1,[.sl t (A.map eI)],tl2,H2,n2⟩ rfl ⟨rq _,λh=>(by cases h),λ_=>⟨.inl htl1,⟨t,rfl,ht⟩,zt⟩⟩ (show 1-1<1-0 by decide)
  ·rw[sa hAB,rj zd]at hD;subst hD;simp only[eZ,seval,rf,eY,q1,Bq hf1,Al,c1n,w01,htl1,Tdg,s2,ka,kd,Ak,Ag,ra hwB,A3 hAB,rf,AG];exact .mk ⟨1,[.sl t (A.map eI),Am B],.own (n2+3) 1,_,n2+5⟩ rfl ⟨rq _,λh=>(by cases h),λ_=>⟨.inl rfl,⟨t,rfl,ht⟩,⟨_,rfl,.inl rfl⟩,zt⟩⟩ (show 1-1<1-0 by decide)
end
def da(g:v7):Bc:=AG 156 (s1 DY (λg=>An g.holes/\An g.cells) Lg) (AG 227 (Js g) (AG 230 (s1 DY GrV λg=>Bv (dgP g)) tnil))
def lT{g:v7}(G:GrV g):AH prog (da g):=((AH.tnil.add (q1 p230)).add (Yt G)).add (q1 λg h=>p156 g h.1 h.2)
structure IFy(N:Nat)(L:Nat->List (List Int))(v:VRg):Prop where
 hi:v.i<=N
 hn:2<=v.n
 fr:AP v.H v.n
 tok:DA 1 2 v.H v.tl
 es:v.tl.esz=1\/v.E=[]
 hE:EL v.E (L v.i)
structure IFz(N:Nat)(v:VRg):Prop where
 hi:v.i<=N
 hn:2<=v.n
 fr:AP v.H v.n
 tok:DA 1 2 v.H v.tl
 es:v.tl.esz=1\/Hp v.i=[]
 hE:v.E=(Hp v.i).map eI
def Wn(sh:Int){S:List BF}(hd:S.Nodup){c:Nat}{s:BF}(hs:S[c]?=some s):(HX sh S s++[(c:Int)]).mergeSort Fk=CQ S.length λb=>decide (b=c)||((Fc sh).any λd=>decide (S[b]?=(S[c]?).map λs=>I2 s d)):=by
 have hself:(c:Int)∉HX sh S s:=by simp_all [cH,N6,cI]
 have wo:=(tA.1 hs).1;refine LZ ?_ (LY ..) λx=>?_
 ·rw[ug];refine⟨(LY ..).imp λq=>zo,zw,λa ha b hb e=>?_⟩;rw[sZ.1 hb]at e;exact hself (e▸ha)
 ·rw[ti,sZ,hs];unfold HX;rw[IY,IY];simp only[sU,sA,rn];constructor
  ·grind
  ·grind
def db{H H':AB}{n0 n' m:Nat}{x:List Int}{y:Int}{lv:Fs}{K:AB->Fs->Prop}(h:ClnP H n0 x (.ret lv) H' n')(hx:x.length<1000000)(hm:AD H' m=none)
  (hK:∀id (rest:List Int),(id=m\/id=n0+2/\n'=n0+4)->K (hset H' id (.arr 1 (((x++[y])++rest).map eI))) (.ref id 1 0 (x++[y]).length ((x++[y]).length+rest.length))):JE H' m 1 8 (.int .i64 0) K lv (some [eI y]):=by
 rcases h with⟨rfl,rfl,hn,t,ho,ht⟩|⟨s6,rfl,rest,ho,rfl⟩
 ·obtain rfl:=v8.ret.inj ho;rw[Df];refine⟨hm,zd,rfl,ht,by simp [Al],zw,(λe=>by cases e),λ_ cap hcap=>?_⟩;have:=hK m (List.replicate (cap-1) 0) (.inl rfl);simp only[sj,sw,sC,tn,tP,si,uc]at this hcap⊢;rw[show 0+1+(cap-1)=cap by omega]at this;exact this
 ·obtain rfl:=v8.ret.inj ho;have hg:AD (hset H (n0+2) (.arr 1 ((x++rest).map eI))) (n0+2)=some (.arr 1 ((x++rest).map eI)):=AC ..;generalize hset H (n0+2) (.arr 1 ((x++rest).map eI))=G at hg hm hK;rw[LI hg];have el:(x++[y]).length=x.length+1:=zw
  refine⟨hm,zd,rfl,rfl,rfl,Ac (by simp only[sC,tn];omega) zd,by simp only[sC,tn];omega,rfl,zw,zo,λhr=>?_,λhr cap' hc=>?_⟩
  ·have:=hK (n0+2) (rest.drop 1) (.inr ⟨rfl,rfl⟩);simp only[sC,tn]at hr⊢;have e1:List.take x.length ((x++rest).map eI)=x.map eI:=by rw[rz,uf zw,sQ zw]
   have e2:List.drop (x.length+(0+1)) ((x++rest).map eI)=(rest.drop 1).map eI:=by rw[rz,List.drop_append,ut zw];simp
   rw[e1,e2];rw[el,rz,rz,tK,show x.length+1+(rest.length-1)=x.length+rest.length by omega]at this;exact this
  ·have:=hK m (List.replicate (cap'-(x.length+1)) 0) (.inl rfl);simp only[sC,tn]at hr hc⊢;have e1:List.take x.length ((x++rest).map eI)=x.map eI:=by rw[rz,uf zw,sQ zw]
   rw[e1];rw[el,rz,rz,uc,tP,show x.length+1+(cap'-(x.length+1))=cap' by omega]at this;exact this
def Tb(x:List Int)(c j:Nat):List (List Int):=((x.take j).filter λb=>decide ((c:Int)<b)).map λb=>[(c:Int),b]
def Yu(x:List Int)(c:Nat){j:Nat}{b:Int}(h:x[j]?=some b):Tb x c (j+1)=Tb x c j++if(c:Int)<b then[[(c:Int),b]]else[]:=by
 unfold Tb;rw[sf,h,tD,rz];congr 1;by_cases q:(c:Int)<b<;>simp [q]
def VJ(x:List Int)(c j:Nat):(Tb x c j).length<=j:=by
 unfold Tb;rw[r9];refine sO (tg ..) ?_;rw[sD];omega
theorem c3n:((3:Nat):Int)=3:=rfl
theorem jA:((4:Nat):Int)=4:=rfl
theorem c5n:((5:Nat):Int)=5:=rfl
theorem c6n:((6:Nat):Int)=6:=rfl
theorem c7n:((7:Nat):Int)=7:=rfl
def p157(g:v7)(f:Nat)(G:GrV g)(hf:f<=7):Aw prog 157 [CK g,.int .i64 (f:Int)] (.tup [Bv (FA g.sh g.w g.h (Aa g.sh g.w g.cells) f),.int .i64 0]):=by
 refine .mk ⟨BL 0 ..,zt,zt⟩ ⟨BC 0 _,zt,zt⟩ (Q5.a (AI (lT G) (AJ ?_)));have f1:DY.ok (.agg (AE g.sh g.w g.h g.holes g.cells))=True:=EH g;have f2:DY.dec (.agg (AE g.sh g.w g.h g.holes g.cells))=g:=DG g;simp only[AE]at f1 f2;obtain⟨hr1,hr2,hr3⟩:=BX G.hG;have hc:An g.cells:=by show g.cells.length<_;omega
 have to:=Yi G;have hslen:=B8 g;obtain⟨wn,xi⟩:=IT G.hG;have hd:(Aa g.sh g.w g.cells).Nodup:=MH zo hr1 λp hp=>(hr3 p hp).1
 have hfrN:AP (hset Ai 0 (.box (AE g.sh g.w g.h g.holes g.cells))) 3:=AP.nil.hset (rm 3) zd;simp only[AE]at hfrN;rcases(by omega:f=0\/f=1\/f=2\/f=3\/f=4\/f=5\/f=6\/f=7)with rfl|rfl|rfl|rfl|rfl|rfl|rfl|rfl
 ·
  simp only[eZ,seval,re,eY,Q5,AE,da,s1,f1,f2,ra G.2,ra hc,to,AG];have hfam:FA g.sh g.w g.h (Aa g.sh g.w g.cells) 0=(List.range g.cells.length).map λ(c:Nat)=>[(c:Int)]:=by
   unfold FA;rw[rt rfl,TD,hslen,ui];rfl
  rw[hfam];refine AO (λv:VRg=>⟨[(4,true,.sl v.tl v.E),(30,true,.int .i64 g.cells.length),(31,true,.int .i64 v.i)],v.H,v.n⟩) (IFy g.cells.length λi=>(List.range i).map λ(c:Nat)=>[(c:Int)]) (λv=>g.cells.length-v.i)
   ⟨0,[],.nil,_,3⟩ rfl ⟨rm _,(show 2<=3 by decide),hfrN,.inl rfl,.inr rfl,zt⟩ ?_
  rintro⟨i,E,tl,H,n⟩ ⟨hi,hn,l7,htl,s5,hEL⟩;simp only at hi hn l7 htl s5 hEL;by_cases c9:i<g.cells.length
  ·have e:=AK (k:=i) zo;have hEl:E.length=i:=by rw[hEL.len,r9,uh]
   have q1:BH H 1 tl=True:=ra htl.app;have q2:(E.length<=35184372088831)=True:=ra zo;have q3:Al (E.length+1) 24=True:=ra (Ac zo zd);simp only[eZ,seval,AN c9,e,q1,q2,q3,Bq l7];refine .mk ⟨i+1,E++[.sl (.exact 1) [.int .i64 i]],.own (n+4) 1,hset (AU H tl) (n+4) .tok,n+6⟩ rfl ⟨c9,zp,(Ab htl l7).hset (m:=n+6) zo zo,.inr (.inr ⟨n+4,rfl,zo,AC ..⟩),.inl rfl,?_⟩ zp;simp only[tJ,rz,sw,sI];exact hEL.app ⟨⟨.exact 1,rfl,.inl rfl⟩,zt⟩
  obtain rfl:i=g.cells.length:=zo
  simp only[eZ,seval,Ad c9];exact Wk.tup (.cons (Wk.slx s5 hEL.wks) (.cons (Wk.refl _) .nil))
 ·simp only[eZ,seval,re,eY,Q5,AE,da,Js,s1,f1,f2,ra G.2,ra hc,to,AG];exact Wk.refl _
 ·simp only[eZ,seval,re,eY,Q5,AE,da,Js,s1,f1,f2,ra G.2,ra hc,to,Yn,AG];exact Wk.refl _
 ·simp only[eZ,seval,re,eY,Q5,AE,da,s1,f1,f2,ra G.2,ra hc,to,c3n,ra G,AG];exact Wk.refl _
 ·simp only[eZ,seval,re,eY,Q5,AE,da,s1,f1,f2,ra G.2,ra hc,to,jA,AG];exact Wk.refl _
 ·
  have hfam:FA g.sh g.w g.h (Aa g.sh g.w g.cells) 5=(List.range g.cells.length).map λ(c:Nat)=>(HX g.sh (Aa g.sh g.w g.cells) (Dn g c)++[(c:Int)]).mergeSort Fk:=by
   unfold FA;rw[rj zd,rj zd,rj zd,rj zd,rj zd,rt rfl,hslen];refine sY λc hcm=>?_
   rw[Wn g.sh hd (D9 (t9.1 hcm)),hslen]
  rw[hfam];simp only[eZ,seval,re,eY,Q5,AE,da,s1,f1,f2,ra G.2,ra hc,to,c5n,AG];have hnl:(El g.sh (Aa g.sh g.w g.cells)).length=g.cells.length:=by rw[El,r9,hslen]
  have hna:∀i,i<g.cells.length->(El g.sh (Aa g.sh g.w g.cells))[i]?=some (HX g.sh (Aa g.sh g.w g.cells) (Dn g i)):=λi hi=>by rw[El,sb,D9 hi];rfl
  have hnx:∀s,(HX g.sh (Aa g.sh g.w g.cells) s).length<=g.cells.length:=λs=>by rw[<-hslen];exact C0 ..
  generalize Aa g.sh g.w g.cells=S at hnl hna hnx;generalize hNB:El g.sh S=NB at hnl hna;refine AO (λv:VRg=>⟨[(4,true,.sl v.tl v.E),(57,true,Bv NB),(58,true,.int .i64 NB.length),(59,true,.int .i64 v.i)],v.H,v.n⟩) (IFy NB.length λi=>(List.range i).map λ(c:Nat)=>(HX g.sh S (Dn g c)++[(c:Int)]).mergeSort Fk) (λv=>NB.length-v.i)
   ⟨0,[],.nil,_,3⟩ rfl ⟨rm _,(show 2<=3 by decide),hfrN,.inl rfl,.inr rfl,zt⟩ ?_
  rintro⟨i,E,tl,H,n⟩ ⟨hi,hn,l7,htl,s5,hEL⟩;simp only at hi hn l7 htl s5 hEL;by_cases c9:i<NB.length;case neg=>
   obtain rfl:i=NB.length:=zo
   simp only[eZ,seval,Ad c9];rw[hnl]at hEL;exact Wk.tup (.cons (Wk.slx s5 hEL.wks) (.cons (Wk.refl _) .nil))
  have e:=AK (k:=i) zo;have hg:=hna i zo;have hxl:=hnx (Dn g i);have hEl:E.length=i:=by rw[hEL.len,r9,uh]
  generalize hx:HX g.sh S (Dn g i)=x at hg hxl;simp only[eZ,seval,eY,AN c9,hg];refine(Ta (.inl ⟨_,rfl,.inl rfl⟩) (show x.length<_ by omega)).mono ?_;intro o H1 n1 wo;have wl:∃lv,o= .ret lv:=by
   rcases wo with⟨-,-,-,t,ho,-⟩|⟨-,-,rest,ho,-⟩<;>exact⟨_,ho⟩
  obtain⟨lv,rfl⟩:=wl;have me:n+6<=n1/\n1<=n+10:=by rcases wo with⟨-,-,h,-⟩|⟨-,h,-⟩<;>omega
  have hf1:AP H1 n1:=by
   rcases wo with⟨-,rfl,-⟩|⟨-,rfl,rest,-,rfl⟩
   ·exact λj hj=>l7 j zo
   ·exact l7.hset zo zo
  have hk1:∀j,j<n+6->AD H1 j=AD H j:=λj hj=>by
   rcases wo with⟨-,rfl,-⟩|⟨-,rfl,rest,-,rfl⟩
   ·rfl
   ·rw[AA _ _ _ _ zo]
  have hm4:AD H1 (n+4)=none:=by rw[hk1 _ zo];exact l7 _ zo
  simp only[eE,seval,BV];refine db wo zo hm4 λid rest p9=>?_
  have hidn:n<=id/\id<n1:=zo
  simp only[eE,eN,seval,FY];refine(RD (AC ..) zw (by simp;omega)).mono ?_;rintro o H2 n2 ⟨rfl,rfl,rfl⟩;rw[vj,List.drop_left,AQ];have ye:((x++[(i:Int)]).mergeSort Fk).length=(x++[(i:Int)]).length:=Ep _;have htk2:List.take (x++[(i:Int)]).length (((x++[(i:Int)]).mergeSort Fk++rest).map eI)=((x++[(i:Int)]).mergeSort Fk).map eI:=by rw[rz,List.take_left' (by rw[r9,ye])]
  have hle:((x++[(i:Int)]).length<=(((x++[(i:Int)]).mergeSort Fk++rest)).length)=True:=ra (by have:=ye;simp only[sm]at this⊢;omega);have hle2:((x++[(i:Int)]).length<=(x++[(i:Int)]).length+rest.length)=True:=ra zo;have gt:DA 1 2 (hset H1 id (.frz 1 (((x++[(i:Int)]).mergeSort Fk++rest).map eI))) tl:=by
   rcases htl with h|h|⟨z,h1,h2,h3⟩
   ·exact .inl h
   ·exact .inr (.inl h)
   ·have:=l7.lt h3;exact .inr (.inr ⟨z,h1,h2,by rw[AA _ _ _ _ zo,hk1 z zo];exact h3⟩)
  have gf:AP (hset H1 id (.frz 1 (((x++[(i:Int)]).mergeSort Fk++rest).map eI))) n2:=hf1.hset (rq _) zo;have q1:=ra gt.app;have q2:(E.length<=35184372088831)=True:=ra zo;have q3:Al (E.length+1) 24=True:=ra (Ac zo zd);have hm3:=Bq gf 3;simp only[eE,eN,seval,r9,BV,LH,hle,hle2,htk2,AQ,q1,q2,q3,hm3,e];generalize hset H1 id (.frz 1 (((x++[(i:Int)]).mergeSort Fk++rest).map eI))=H5 at gt gf;refine .mk ⟨i+1,E++[.sl (if rest.length=0 then .exact 1 else .none 1) (((x++[(i:Int)]).mergeSort Fk).map eI)],.own (n2+3) 1,hset (AU H5 tl) (n2+3) .tok,n2+5⟩ rfl ⟨c9,zp,(Ab gt gf).hset (m:=n2+5) zo zo,.inr (.inr ⟨n2+3,rfl,zo,AC ..⟩),.inl rfl,?_⟩ zp
  ·simp only[tJ,rz,sw,sI];rw[hx];exact hEL.app ⟨⟨_,rfl,.inl (by split<;>rfl)⟩,zt⟩
 ·
  have hnl:(El g.sh (Aa g.sh g.w g.cells)).length=g.cells.length:=by rw[El,r9,hslen]
  have hna:∀i,i<g.cells.length->(El g.sh (Aa g.sh g.w g.cells))[i]?=some (HX g.sh (Aa g.sh g.w g.cells) (Dn g i)):=λi hi=>by rw[El,sb,D9 hi];rfl
  have hnx:∀s,(HX g.sh (Aa g.sh g.w g.cells) s).length<=g.cells.length:=λs=>by rw[<-hslen];exact C0 ..
  have hfam:FA g.sh g.w g.h (Aa g.sh g.w g.cells) 6=(List.range g.cells.length).flatMap λ(c:Nat)=>Tb (HX g.sh (Aa g.sh g.w g.cells) (Dn g c)) c (HX g.sh (Aa g.sh g.w g.cells) (Dn g c)).length:=by
   unfold FA;rw[rj zd,rj zd,rj zd,rj zd,rj zd,rj zd,rt rfl,hslen];rw[List.flatMap_def,List.flatMap_def];congr 1;refine sY λc hcm=>?_
   rw[hna c (t9.1 hcm),rZ];unfold Tb;rw[se]
  rw[hfam];simp only[eZ,seval,re,eY,Q5,AE,da,s1,f1,f2,ra G.2,ra hc,to,c6n,AG];generalize Aa g.sh g.w g.cells=S at hnl hna hnx;generalize hNB:El g.sh S=NB at hnl hna;have hLl:∀i,((List.range i).flatMap λ(c:Nat)=>Tb (HX g.sh S (Dn g c)) c (HX g.sh S (Dn g c)).length).length<=256*i:=λi=>by
   induction i with
   |zero=>simp
   |succ i ih=>
    rw[tJ,uM,sm];simp only[uJ,List.flatMap_nil,sE];have:=VJ (HX g.sh S (Dn g i)) i (HX g.sh S (Dn g i)).length;have:=hnx (Dn g i);omega
  refine AO (λv:VRg=>⟨[(4,true,.sl v.tl v.E),(78,true,Bv NB),(79,true,.int .i64 NB.length),(80,true,.int .i64 v.i)],v.H,v.n⟩) (IFy NB.length λi=>(List.range i).flatMap λ(c:Nat)=>Tb (HX g.sh S (Dn g c)) c (HX g.sh S (Dn g c)).length) (λv=>NB.length-v.i)
   ⟨0,[],.nil,_,3⟩ rfl ⟨rm _,(show 2<=3 by decide),hfrN,.inl rfl,.inr rfl,zt⟩ ?_
  rintro⟨i,E,tl,H,n⟩ ⟨hi,hn,l7,htl,s5,hEL⟩;simp only at hi hn l7 htl s5 hEL;by_cases c9:i<NB.length;case neg=>
   obtain rfl:i=NB.length:=zo
   simp only[eZ,seval,Ad c9];rw[hnl]at hEL;exact Wk.tup (.cons (Wk.slx s5 hEL.wks) (.cons (Wk.refl _) .nil))
  have e:=AK (k:=i) zo;have hg:=hna i zo;have hxl:=hnx (Dn g i);have hLi:=hLl i;have hstep:∀z,((List.range (i+1)).flatMap λ(c:Nat)=>Tb (HX g.sh S (Dn g c)) c (HX g.sh S (Dn g c)).length)=z->((List.range i).flatMap λ(c:Nat)=>Tb (HX g.sh S (Dn g c)) c (HX g.sh S (Dn g c)).length)++Tb (HX g.sh S (Dn g i)) i (HX g.sh S (Dn g i)).length=z:=λz hz=>by
   rw[<-hz,tJ,uM];simp only[uJ,List.flatMap_nil,sE]
  have hstep:=hstep _ rfl;generalize ((List.range i).flatMap λ(c:Nat)=>Tb (HX g.sh S (Dn g c)) c (HX g.sh S (Dn g c)).length)=L at hEL hLi hstep;generalize hx:HX g.sh S (Dn g i)=x at hg hxl hstep;simp only[eZ,seval,eY,AN c9,hg];refine AO (λv:VRg=>⟨[(4,true,.sl v.tl v.E),(11,true,.int .i64 i),(78,true,Bv NB),(79,true,.int .i64 NB.length),(80,true,.int .i64 i),(85,true,Am x),(86,true,.int .i64 x.length),(87,true,.int .i64 v.i)],v.H,v.n⟩) (IFy x.length λj=>L++Tb x i j) (λv=>x.length-v.i)
   ⟨0,E,tl,H,n⟩ rfl ⟨rm _,hn,l7,htl,s5,by rw[show Tb x i 0=[]from rfl,sE];exact hEL⟩ ?_
  rintro⟨j,E2,tl2,H2,n2⟩ ⟨hj,hn2,xl,htl2,hes2,hEL2⟩;simp only at hj hn2 xl htl2 hes2 hEL2;by_cases l9:j<x.length;case neg=>
   obtain rfl:j=x.length:=zo
   simp only[eZ,seval,Ad l9,e];rw[hstep]at hEL2;exact .mk ⟨i+1,E2,tl2,H2,n2⟩ rfl ⟨c9,hn2,xl,htl2,hes2,hEL2⟩ zp
  have ej:=AK (k:=j) zo;have hgj:=rc l9;have hsu:=Yu x i hgj;generalize x[j]=b at hgj hsu;by_cases hb:(i:Int)<b
  ·rw[rt hb]at hsu;have wu:=VJ x i j;have hEl:E2.length<=70000:=by rw[hEL2.len,sm];omega
   have q1:BH H2 1 tl2=True:=ra htl2.app;have q2:(E2.length<=35184372088831)=True:=ra zo;have q3:Al (E2.length+1) 24=True:=ra (Ac zo zd);simp only[eZ,seval,eY,AN l9,hgj,BS hb,ej,q1,q2,q3,Bq xl];refine .mk ⟨j+1,E2++[.sl (.exact 1) [.int .i64 i,.int .i64 b]],.own (n2+5) 1,hset (AU H2 tl2) (n2+5) .tok,n2+7⟩ rfl ⟨l9,zp,(Ab htl2 xl).hset (m:=n2+7) zo zo,.inr (.inr ⟨n2+5,rfl,zo,AC ..⟩),.inl rfl,?_⟩ zp;simp only[hsu];rw[<-sJ];exact hEL2.app ⟨⟨.exact 1,rfl,.inl rfl⟩,zt⟩
  ·rw[rj hb,sE]at hsu;simp only[eZ,seval,eY,AN l9,hgj,A3 hb,ej];exact .mk ⟨j+1,E2,tl2,H2,n2⟩ rfl ⟨l9,hn2,xl,htl2,hes2,by simp only[hsu];exact hEL2⟩ zp
 ·
  have hfam:FA g.sh g.w g.h (Aa g.sh g.w g.cells) 7=[Hp g.cells.length]:=by
   unfold FA;rw[rj zd,rj zd,rj zd,rj zd,rj zd,rj zd,rj zd,hslen];rfl
  rw[hfam];simp only[eZ,seval,re,eY,Q5,AE,da,s1,f1,f2,ra G.2,ra hc,to,c7n,AG];refine AO (λv:VRg=>⟨[(15,true,.sl v.tl v.E),(106,true,.int .i64 g.cells.length),(107,true,.int .i64 v.i)],v.H,v.n⟩) (IFz g.cells.length) (λv=>g.cells.length-v.i)
   ⟨0,[],.nil,_,3⟩ rfl ⟨rm _,(show 2<=3 by decide),hfrN,.inl rfl,.inr rfl,rfl⟩ ?_
  rintro⟨i,E,tl,H,n⟩ ⟨hi,hn,l7,htl,s5,hEL⟩;simp only at hi hn l7 htl s5 hEL;subst hEL;have hEl:(Hp i).length<=i:=C0 ..;by_cases c9:i<g.cells.length
  ·have e:=AK (k:=i) zo;have q1:BH H 1 tl=True:=ra htl.app;have q2:((Hp i).length<=35184372088831)=True:=ra zo;have q3:Al ((Hp i).length+1) 8=True:=ra (Ac zo zd);simp only[eZ,seval,r9,AN c9,e,q1,q2,q3,Bq l7];refine .mk ⟨i+1,(Hp i).map eI++[.int .i64 i],.own (n+3) 1,hset (AU H tl) (n+3) .tok,n+5⟩ rfl ⟨c9,zp,(Ab htl l7).hset (m:=n+5) zo zo,.inr (.inr ⟨n+3,rfl,zo,AC ..⟩),.inl rfl,?_⟩ zp;simp only[Ow,rz,sw,sI]
  obtain rfl:i=g.cells.length:=zo
  simp only[eZ,seval,Ad c9];exact Wk.tup (.cons (Wk.slx (m:=[Am (Hp g.cells.length)]) (.inl rfl) (.cons (Wk.sl (s5.imp (λz=>z) λq=>by rw[q];rfl)) .nil)) (.cons (Wk.refl _) .nil))
abbrev dd(d:xk):List Fs:=[.str d.nm,.int .i64 d.ver,.int .i64 d.sh,.int .i64 d.w,.int .i64 d.h,Am d.holes,IW d.syms,HP d.regs,E6 d.clus,Dr d.ruls,z0,z0,z0,zs,zs,zs,zs]
def rN:Bc:=AG 153 (s1 dD zk Cf) (AG 154 (s1 dD zk λd=>.int .i64 (D2 d)) (AG 155 cQ (AG 156 (s1 DY (λg=>An g.holes/\An g.cells) Lg) tnil)))
def gMk:∀args H n,(cQ args H).1->Ao prog 155 args H n (cQ args H).2:=by
 intro args H n hh;unfold cQ at hh⊢;split at hh
 ·obtain⟨h1,h2⟩:=hh;refine AV.args ((p155 _ _ _ _ h2).quiet H n) ?_;rintro g vs ⟨v,r,rfl,k1,v2,r2,rfl,k2,v3,r3,rfl,k3,v4,r4,rfl,k4,k5⟩;exact⟨v,_,rfl,k1,v2,_,rfl,k2,v3,_,rfl,k3,v4,_,rfl,BA.wk _ h1 _ _ k4,k5⟩
 ·exact hh.elim
def Tc:AH prog rN:=(((AH.tnil.add (q1 λg h=>p156 g h.1 h.2)).add gMk).add (q1 p154)).add (q1 p153)
theorem Tbs_m(sh w h:Int)(x:Fs)(H:AB):rN 155 [.int .i64 sh,.int .i64 w,.int .i64 h,x] H=(BA.ok x/\An (BA.dec x),Be sh w h (BA.dec x)):=rfl
theorem Tbs_n(a:List Fs)(H:AB):rN 156 a H=s1 DY (λg=>An g.holes/\An g.cells) Lg a H:=rfl
section
variable {H:AB} {n p:Nat} {d:xk}
theorem Rh(hd:zk d)(hp:AD H p=some (.box (dd d))):AV prog 105 [.ptr p 0] H n λo H' n'=>n'=n/\match CJ d with
  | .error e=>o= .ret (.int .i64 e)/\H'=hset H p (.box (dd KW))
  | .ok x=>o= .ret (.int .i64 0)/\H'=hset H p (.box (dd x)):=by
 refine qa.a (AI Tc (AJ ?_));have e1:dD.ok (.agg (AL d))=True:=BR d;have e2:dD.dec (.agg (AL d))=d:=Az d;simp only[AL]at e1 e2;cases hr:CJ d with
 |error e=>
  have hv:Cf d= .tup [B5 KW,.int .i64 e]:=by unfold Cf;rw[hr]
  simp only[eE,eN,seval,eY,qa,hp,rN,s1,e1,e2,ra hd,hv,AG]
 |ok x=>
  have hv:Cf d= .tup [B5 x,.int .i64 0]:=by unfold Cf;rw[hr]
  simp only[eE,eN,seval,eY,qa,hp,rN,s1,e1,e2,ra hd,hv,AG]
theorem Wo(hd:zk d)(hp:AD H p=some (.box (dd d))):AV prog 106 [.ptr p 0] H n λo H' n'=>o= .ret (.int .i64 (D2 d))/\H'=H/\n'=n:=by
 refine c106.a (AI Tc (AJ ?_));have e1:dD.ok (.agg (AL d))=True:=BR d;have e2:dD.dec (.agg (AL d))=d:=Az d;simp only[AL]at e1 e2;simp only[eE,eN,seval,c106,hp,rN,s1,e1,e2,ra hd,AG]
theorem Yv{cells:List Int}(hd:zk d)(hg:Av d.sh d.w d.h d.holes=some cells)(hp:AD H p=some (.box (dd d))):AV prog 107 [.ptr p 0] H n λo H' n'=>o= .ret (.int .i64 0)/\H'=hset H p (.box (Wb d cells zs))/\n'=n:=by
 refine c107.a (AI Tc (AJ ?_));have hm:Be d.sh d.w d.h d.holes= .tup [Ek d.sh d.w d.h d.holes cells,.int .i64 0]:=by unfold Be;rw[hg]
 have G:GrV (BE d cells):=⟨hg,hd.ho⟩;have g1:DY.ok (.agg [.int .i64 d.sh,.int .i64 d.w,.int .i64 d.h,Am d.holes,Am cells])=True:=EH (BE d cells);have g2:DY.dec (.agg [.int .i64 d.sh,.int .i64 d.w,.int .i64 d.h,Am d.holes,Am cells])=BE d cells:=DG (BE d cells);have hho:An (BE d cells).holes=True:=ra hd.ho;have hce:An (BE d cells).cells=True:=ra (by
  obtain⟨-,h2,-⟩:=BX hg;show cells.length<_;omega)
 have xb:Lg (BE d cells)= .tup [Bv (El d.sh (Aa d.sh d.w cells)),.int .i64 0]:=Yi G;simp only[eZ,seval,eY,c107,hp,Tbs_m,Tbs_n,s1,g1,g2,Ak,Ag,ra hd.ho,hho,hce,hm,xb,AQ]
end
def Tbc:Bc:=AG 157 (s2 DY dI (λg f=>GrV g/\0<=f/\f<=7) λg f=>.tup [Bv (FA g.sh g.w g.h (Aa g.sh g.w g.cells) f.toNat),.int .i64 0])
 (AG 158 (s2 DY N0 (λg l=>Av g.sh g.w g.h g.holes=some g.cells/\An g.holes/\B6 l) λg l=>EI g.cells l) tnil)
def lU:AH prog Tbc:=(AH.tnil.add (q2 λg l h=>p158 g l h.1 h.2.1 h.2.2)).add (q2 λg f h=>by
 have:=p157 g f.toNat h.1 zo;rw[Int.toNat_of_nonneg h.2.1]at this;exact this)
structure IBk(x:xk)(cells:List Int)(p n0:Nat)(H0:AB)(m:Nat)(L:Nat->List (List (List Int)))(v:VRg):Prop where
 hi:v.i<=m
 hn:n0<=v.n
 fr:AP v.H v.n
 kp:∀id ob,id≠p->id<n0->AD H0 id=some ob->AD v.H id=some ob
 hp:AD v.H p=some (.box (Wb x cells (.sl v.tl v.E)))
 tok:DA 1 n0 v.H v.tl
 es:v.tl.esz=1\/v.E=[]
 hE:Wks v.E ((L v.i).map Bv)
def Ri{x:xk}{cells:List Int}{H:AB}{n p:Nat}(hfx:zk x)(hc:D2 x=0)(hg:Av x.sh x.w x.h x.holes=some cells)(hf:AP H n)(hp:AD H p=some (.box (Wb x cells zs))):
  AV prog 108 [.ptr p 0] H n λo H' n'=>o= .ret (.int .i64 0)/\AP H' n'/\n<=n'/\(∀id ob,id≠p->id<n->AD H id=some ob->AD H' id=some ob)/\
   ∃tl E,AD H' p=some (.box (Wb x cells (.sl tl E)))/\(tl.esz=1\/E=[])/\Wks E ((((List.range 8).map λf=>FA x.sh x.w x.h (Aa x.sh x.w cells) f)++x.regs.map λr=>r.ls.map (Bk cells)).map Bv):=by
 have hpn:=hf.lt hp;refine c108.a (AI lU (AJ ?_));have G:GrV (BE x cells):=⟨hg,hfx.ho⟩;have g1:DY.ok (.agg [.int .i64 x.sh,.int .i64 x.w,.int .i64 x.h,Am x.holes,Am cells])=True:=EH (BE x cells);have g2:DY.dec (.agg [.int .i64 x.sh,.int .i64 x.w,.int .i64 x.h,Am x.holes,Am cells])=BE x cells:=DG (BE x cells);have hho:An (BE x cells).holes=True:=ra hfx.ho;simp only[eE,eN,seval,c108];refine AO (λv:VRg=>⟨[(0,true,.ptr p 0),(10,true,.int .i64 v.i)],v.H,v.n⟩) (IBk x cells p n H 8 λi=>(List.range i).map λf=>FA x.sh x.w x.h (Aa x.sh x.w cells) f) (λv=>8-v.i)
  ⟨0,[],.nil,H,n⟩ rfl ⟨rm _,rq _,hf,λid ob _ _ h=>h,hp,.inl rfl,.inr rfl,.nil⟩ ?_
 rintro⟨i,E,tl,H1,m⟩ hI;obtain⟨hi,hn,l7,hkp,hp1,htl,s5,hE⟩:=hI;simp only at hi hn l7 hkp hp1 htl s5 hE;by_cases c9:i<8
 ·have e:=AK (k:=i) zo;have hq:((i:Int)<8)=True:=ra zo;have hq7:((i:Int)<=7)=True:=ra zo;have hEl:E.length=i:=by
   have:=hE.len;rw[r9,r9,uh]at this;exact this
  have hfm:(BE x cells).sh=x.sh/\(BE x cells).w=x.w/\(BE x cells).h=x.h/\(BE x cells).cells=cells:=⟨rfl,rfl,rfl,rfl⟩;have q1:BH H1 1 tl=True:=ra htl.app;have q2:(E.length<=35184372088831)=True:=ra zo;have q3:Al (E.length+1) 24=True:=ra (Ac zo zd);have hkP:=Af htl (i:=p) (.inr ⟨_,hp1⟩);rw[hp1]at hkP;have y1:∀k,(p=m+k)=False:=λk=>ri zo
  have y2:∀k,(m+k=p)=False:=λk=>ri zo
  simp only[eZ,seval,re,eY,hp1,hq,hq7,Tbc,s2,g1,g2,BD,Au,ra G,hfm.1,hfm.2.1,hfm.2.2.1,hfm.2.2.2,e,q1,q2,q3,Bq l7,hkP,y2,AG];refine .mk ⟨i+1,E++[Bv (FA x.sh x.w x.h (Aa x.sh x.w cells) i)],.own (m+8) 1,hset (hset (AU H1 tl) (m+8) .tok) p (.box (Wb x cells (.sl (.own (m+8) 1) (E++[Bv (FA x.sh x.w x.h (Aa x.sh x.w cells) i)])))),m+13⟩ rfl ⟨c9,zp,((Ab htl l7).hset (m:=m+13) zo zo).hset (rq _) (show p<m+13 by omega),λid ob h1 h2 h3=>?_,AC ..,.inr (.inr ⟨m+8,rfl,zo,?_⟩),.inl rfl,?_⟩ zp
  ·grind [AA,Af]
  ·simp only[];rw[AA _ _ _ _ zo,AC]
  ·simp only[tJ,rz,sw,sI]at hE⊢;exact hE.app (.cons (Wk.refl _) .nil)
 obtain rfl:i=8:=zo
 have hq:(((8:Nat):Int)<8)=False:=ri zd;simp only[eZ,seval,r9,hq,hp1];refine AO (λv:VRg=>⟨[(0,true,.ptr p 0),(44,true,HP x.regs),(45,true,.int .i64 x.regs.length),(46,true,.int .i64 v.i)],v.H,v.n⟩) (IBk x cells p n H x.regs.length λi=>((List.range 8).map λf=>FA x.sh x.w x.h (Aa x.sh x.w cells) f)++(x.regs.take i).map λr=>r.ls.map (Bk cells)) (λv=>x.regs.length-v.i)
  ⟨0,E,tl,H1,m⟩ rfl ⟨rm _,hn,l7,hkp,hp1,htl,s5,by
   simp only[tX,sI,sE];exact hE⟩ ?_
 clear hE s5 htl hp1 hkp l7 hn hq c9 hi;rintro⟨i,E,tl,H1,m⟩ hI;obtain⟨hi,hn,l7,hkp,hp1,htl,s5,hE⟩:=hI;simp only at hi hn l7 hkp hp1 htl s5 hE;have hrl:x.regs.length<=4:=by simp_all [D2,KV,rl,rn]<;>omega
 by_cases c9:i<x.regs.length
 ·have e:=AK (k:=i) zo;have hgr:=rc c9;have hmem:x.regs[i]∈x.regs:=rY c9;have hrg:=VC hc hg hmem;have hfl:B6 x.regs[i].ls=True:=ra (hfx.rgs _ hmem);have l5:x.regs.take (i+1)=x.regs.take i++[x.regs[i]]:=by rw[sf,hgr];rfl
  generalize x.regs[i]=r at hgr hrg hfl l5;have hgc:(Av (BE x cells).sh (BE x cells).w (BE x cells).h (BE x cells).holes=some (BE x cells).cells)=True:=ra hg;have hgd:(Av (BE x cells).sh (BE x cells).w (BE x cells).h (BE x cells).holes=some cells)=True:=ra hg;have hgx:(BE x cells).cells=cells:=rfl;have hEl:E.length=8+i:=by
   have:=hE.len;rw[r9,sm,r9,r9,uh,sD]at this;omega
  have q1:BH (hset H1 (m+2) (.box [.str r.nm,Bv r.ls])) 1 tl=True:=ra ((htl.set (.inr (.inr (l7 _ zo)))).app);have gt:DA 1 n (hset H1 (m+2) (.box [.str r.nm,Bv r.ls])) tl:=htl.set (.inr (.inr (l7 _ zo)));have gf:AP (hset H1 (m+2) (.box [.str r.nm,Bv r.ls])) (m+4):=l7.hset (m:=m+4) zo zo;have gp:AD (hset H1 (m+2) (.box [.str r.nm,Bv r.ls])) p=some (.box (Wb x cells (.sl tl E))):=by rw[AA _ _ _ _ zo];exact hp1
  have q2:(E.length<=35184372088831)=True:=ra zo;have q3:Al (E.length+1) 24=True:=ra (Ac zo zd);have hkP:=Af gt (i:=p) (.inr ⟨_,gp⟩);rw[gp]at hkP;have y1:∀k,(p=m+k)=False:=λk=>ri zo
  have y2:∀k,(m+k=p)=False:=λk=>ri zo
  simp only[eZ,seval,re,eY,hp1,AN c9,hgr,Bq l7,AQ,Tbc,s2,g1,g2,Dj,Cz,hho,hgd,hgx,hfl,hrg,e,q1,q2,q3,hkP,y2,AG];refine .mk ⟨i+1,E++[Bv (r.ls.map (Bk cells))],.own (m+12) 1,hset (hset (AU (hset H1 (m+2) (.box [.str r.nm,Bv r.ls])) tl) (m+12) .tok) p (.box (Wb x cells (.sl (.own (m+12) 1) (E++[Bv (r.ls.map (Bk cells))])))),m+17⟩ rfl ⟨c9,zp,((Ab gt gf).hset (m:=m+17) zo zo).hset (rq _) (show p<m+17 by omega),λid ob h1 h2 h3=>?_,AC ..,.inr (.inr ⟨m+12,rfl,zo,?_⟩),.inl rfl,?_⟩ zp
  ·grind [AA,Af]
  ·simp only[];rw[AA _ _ _ _ zo,AC]
  ·simp only[l5,rz,sw,sI]at hE⊢;rw[<-sJ];exact hE.app (.cons (Wk.refl _) .nil)
 obtain rfl:i=x.regs.length:=zo
 rw[se]at hE;simp only[eZ,seval,Ad c9];exact⟨l7,hn,hkp,tl,E,hp1,s5,hE⟩
def stB(d:xk)(H:AB):Nat->Prop
 |0=>AD H 3=some (.box (dd d))
 |1=>∃x,CJ d= .ok x/\AD H 3=some (.box (dd x))
 |2=>∃x,CJ d= .ok x/\D2 x=0/\AD H 3=some (.box (dd x))
 |3=>∃x cells,CJ d= .ok x/\D2 x=0/\Av x.sh x.w x.h x.holes=some cells/\AD H 3=some (.box (Wb x cells zs))
 |_=>∃x cells tl E,CJ d= .ok x/\D2 x=0/\Av x.sh x.w x.h x.holes=some cells/\AD H 3=some (.box (Wb x cells (.sl tl E)))/\(tl.esz=1\/E=[])/\Wks E ((((List.range 8).map λf=>FA x.sh x.w x.h (Aa x.sh x.w cells) f)++x.regs.map λr=>r.ls.map (Bk cells)).map Bv)
structure IBu(d:xk)(v:VF):Prop where
 hi:v.i<=4
 hn:4<=v.n
 fr:AP v.H v.n
 h1:AD v.H 1=some (.box zKn)
 st:stB d v.H v.i
abbrev fB(f:FuncId):Fs:=.fn (.func f) [.ptr 3 0] []
def p73(d:xk)(hd:zk d):Aw prog 73 [B5 d] (C1 d):=by
 refine .mk ⟨As 0 d,zt⟩ (by unfold C1;split<;>exact⟨Aj 0 _,zt,zt⟩) (c73.a (AI AH.tnil (AJ ?_)));simp only[eE,eN,seval,c73,AL];refine AO (λv:VF=>⟨[(2,true,.ptr 1 0),(4,true,.ptr 3 0),(15,true,.sl (.exact 1) [fB 105,fB 106,fB 107,fB 108]),(16,true,.int .i64 4),(17,true,.int .i64 v.i)],v.H,v.n⟩) (IBu d) (λv=>4-v.i)
  ⟨0,_,4⟩ rfl ⟨zp,rq _,?_,rfl,?_⟩ ?_
 ·simp only[];repeat' (first|exact AP.nil|refine AP.hset ?_ (rq _) zd)
 ·rfl
 rintro⟨i,H,n⟩ ⟨hi,hn,l7,h1,hst⟩;simp only at hi hn l7 h1 hst;have w1':IntKind.wrap .i64 (1+1)=2:=A6 zd zd;have w2':IntKind.wrap .i64 (2+1)=3:=A6 zd zd;have w3':IntKind.wrap .i64 (3+1)=4:=A6 zd zd;rcases(by omega:i=0\/i=1\/i=2\/i=3\/i=4)with rfl|rfl|rfl|rfl|rfl
 ·simp only[eZ,seval,eY,jA];refine(Rh hd hst).mono ?_;rintro o H1 n1 ⟨rfl,hm⟩;cases hr:CJ d with
  |error e=>
   rw[hr]at hm;obtain⟨rfl,rfl⟩:=hm;have he:(e=0)=False:=ri (GQ hr);have hb:C1 d= .tup [A5 Wa,.int .i64 e]:=by unfold C1 EY;rw[hr]
   rw[hb];simp only[eZ,seval,rf,BG,BV,he,h1];exact QI e
  |ok x=>
   rw[hr]at hm;obtain⟨rfl,rfl⟩:=hm;simp only[eZ,seval,re,BV,w01];exact .mk ⟨1,hset H 3 (.box (dd x)),n1⟩ rfl ⟨zp,hn,l7.hset (rq _) (show 3<n1 by omega),by simp only[];rw[AA _ _ _ _ zd];exact h1,x,hr,AC ..⟩ zp
 ·obtain⟨x,hr,h3⟩:=hst;have hfx:=Ik hd hr;simp only[eZ,seval,eY,jA];refine(Wo hfx h3).mono ?_;rintro o H1 n1 ⟨rfl,rfl,rfl⟩;by_cases hc:D2 x=0
  ·simp only[eZ,seval,re,BV,BS hc,w1'];exact .mk ⟨2,H1,n1⟩ rfl ⟨zp,hn,l7,h1,x,hr,hc,h3⟩ zp
  ·have hb:C1 d= .tup [A5 Wa,.int .i64 (D2 x)]:=by unfold C1 EY;rw[hr];simp only[];rw[rt hc]
   rw[hb];simp only[eZ,seval,rf,BG,BV,A3 hc,h1];exact QI _
 ·obtain⟨x,hr,hc,h3⟩:=hst;have hfx:=Ik hd hr;obtain⟨cells,hg⟩:=RZ hc;simp only[eZ,seval,eY,Yn,jA];refine(Yv hfx hg h3).mono ?_;rintro o H1 n1 ⟨rfl,rfl,rfl⟩;simp only[eZ,seval,re,BV,w2'];exact .mk ⟨3,hset H 3 (.box (Wb x cells zs)),n1⟩ rfl ⟨zp,hn,l7.hset (rq _) (show 3<n1 by omega),by simp only[];rw[AA _ _ _ _ zd];exact h1,x,cells,hr,hc,hg,AC ..⟩ zp
 ·obtain⟨x,cells,hr,hc,hg,h3⟩:=hst;have hfx:=Ik hd hr;simp only[eZ,seval,eY,c3n,jA];refine(Ri hfx hc hg l7 h3).mono ?_;rintro o H1 n1 ⟨rfl,hf1,me,hk,tl,E,hp,s5,hE⟩;simp only[eZ,seval,re,BV,w3'];exact .mk ⟨4,H1,n1⟩ rfl ⟨rq _,zp,hf1,hk 1 _ zd zo h1,x,cells,tl,E,hr,hc,hg,hp,s5,hE⟩ zp
 ·obtain⟨x,cells,tl,E,hr,hc,hg,hp,s5,hE⟩:=hst;have hb:C1 d= .tup [A5 (YO x cells),.int .i64 0]:=by
   unfold C1 EY;rw[hr];simp only[];rw[rj (λz=>z hc),hg]
  rw[hb];simp only[eZ,seval,BG,jA,hp,h1];exact Wk.tup (.cons (Yj (d:=x) (g:=BE x cells) (Wk.refl _) (Wk.refl _) (Wk.refl _) (Wk.refl _) (Wk.refl _) (Wk.refl _) (Wk.refl _) (Wk.refl _) (Wk.slx s5 hE)) (.cons (Wk.refl _) .nil))
def VK{sh w h:Int}{S:List BF}(hS:S.length<=256)(f:Nat):B6 (FA sh w h S f):=by
 have hidx:∀p:Nat->Bool,(CQ S.length p).length<=256:=λp=>sO (C0 ..) hS
 have ww:∀f,B6 (CM S f):=λf=>by
  refine⟨?_,λx hx=>?_⟩
  ·have:(CM S f).length<=49:=sO (tg ..) (by simp [Ka]);show _<_;omega
  ·grind [CM,CL]
 have xb:∀s,(HX sh S s).length<=256:=λs=>hidx _
 have hmap:∀(l:List (List Int)),l.length<=256->(∀x∈l,x.length<=256)->B6 l:=λl h1 h2=>⟨show _<_ by omega,λx hx=>by
  have:=h2 x hx;show _<_;omega⟩
 unfold FA;split
 ·grind
 split
 ·exact ww _
 split
 ·exact ww _
 split
 ·split
  ·exact ww _
  ·split
   ·refine hmap _ ?_ λx hx=>?_
    ·unfold MG;simp only[sm];split<;>split<;>simp
    ·unfold MG at hx;rcases ti.1 hx with hx|hx
     ·split at hx
      ·cases hx
      ·rw[sZ.1 hx];exact hidx _
     ·split at hx
      ·cases hx
      ·rw[sZ.1 hx];exact hidx _
   ·exact hmap _ zw zw
 split
 ·grind [El,List.length_map]
 split
 ·grind
 split
 ·refine⟨?_,λx hx=>?_⟩
  ·have key:∀n,n<=S.length->((List.range n).flatMap λ(c:Nat)=>(((El sh S)[c]?.getD []).filter λb=>decide ((c:Int)<b)).map λb=>[(c:Int),b]).length<=256*n:=λn=>by
    induction n with
    |zero=>intro _;simp
    |succ n ih=>
     intro hn;rw[tJ,uM,sm];simp only[uJ,List.flatMap_nil,sE,r9];have h1:=ih zo;have h2:(((El sh S)[n]?.getD []).filter λb=>decide ((n:Int)<b)).length<=256:=by
      refine sO (tg ..) ?_;rw[El,sb];cases S[n]? with
      |none=>simp
      |some s=>exact xb s
     omega
   have:=key S.length (rq _);show _<_;omega
  ·grind
 ·grind
def Wp{d:xk}(hd:zk d){k:zx}(h:EY d= .ok k):FewKn k:=by
 obtain⟨x,cells,hr,hc,hg,rfl⟩:=Ms h;have hfx:=Ik hd hr;obtain⟨-,h2,-⟩:=BX hg;have hS:(Aa x.sh x.w cells).length<=256:=by unfold Aa;rw[r9];exact h2
 have hrl:x.regs.length<1000000000:=hfx.rg;have hrl4:x.regs.length<=4:=by simp_all [D2,KV,rl,rn]<;>omega
 refine⟨hfx,Dz hfx.ho,show cells.length<_ by omega,VK (w:=x.w) (h:=x.h) hS 4,?_,λl hl=>?_⟩
 ·show(((List.range 8).map _)++x.regs.map _).length<_;rw[sm,r9,r9,uh];omega
 ·rcases ti.1 hl with hl|hl
  ·obtain⟨f,-,rfl⟩:=t7.1 hl;exact VK hS f
  ·obtain⟨r,hr,rfl⟩:=t7.1 hl;have:=hfx.rgs r hr;refine⟨by show(r.ls.map _).length<_;rw[r9];exact this.1,λy hy=>?_⟩;obtain⟨z,hz,rfl⟩:=t7.1 hy;have:=this.2 z hz;show(z.map _).length<_;rw[r9];exact this
def Tkc:Bc:=AG 73 (s1 dD zk C1) (AG 74 (s2 B2 B2 (λ_ b=>FewKn b) λa b=>.bool (decide (a=b))) tnil)
def lV:AH prog Tkc:=(AH.tnil.add (q2 λa b h=>p74 a b h)).add (q1 λd h=>p73 d h)
def p43(k:zx)(h1:zk k.d):Aw prog 43 [A5 k] (.int .i64 (BM k)):=by
 refine .mk ⟨Aj 0 k,zt⟩ zt (c43.a (AI lV (AJ ?_)));have e1:dD.ok (.agg (AL k.d))=True:=BR k.d;have e2:dD.dec (.agg (AL k.d))=k.d:=Az k.d;have u1:B2.ok (.agg (AF k))=True:=CC k;have u2:B2.dec (.agg (AF k))=k:=Bm k;simp only[AL]at e1 e2;simp only[AF,AE,AL,si,sj]at u1 u2;unfold BM JH;cases hb:EY k.d with
 |error e=>
  have hv:C1 k.d= .tup [A5 Wa,.int .i64 e]:=by unfold C1;rw[hb]
  have he:(e=0)=False:=ri (Ox hb);simp only[eZ,seval,re,rf,eY,c43,AF,AE,AL,Tkc,s1,s2,e1,e2,u1,u2,ra h1,hv,he,AG]
 |ok x=>
 have hv:C1 k.d= .tup [A5 x,.int .i64 0]:=by unfold C1;rw[hb]
 have v1:B2.ok (.agg (AF x))=True:=CC x;have v2:B2.dec (.agg (AF x))=x:=Bm x;have h2:=Wp h1 hb;simp only[AF,AE,AL,si,sj]at v1 v2;simp only[];by_cases hx:k=x
 ·simp only[eZ,seval,re,eY,c43,AF,AE,AL,Tkc,s1,s2,e1,e2,u1,u2,v1,v2,ra h1,ra h2,hv,BS hx,AG]
 ·simp only[eZ,seval,re,rf,eY,c43,AF,AE,AL,Tkc,s1,s2,e1,e2,u1,u2,v1,v2,ra h1,ra h2,hv,A3 hx,AG]
section
def DS(A:List Fs)(c:AB->Prop)(r:Fs):List Fs->AB->Prop×Fs:=λa H=>(a=A/\c H,r)
variable {s9:FuncId} {cap:List Fs}
theorem Hf{A:List Fs}{c:AB->Prop}{r:Fs}(h:∀H n,c H->Ao prog s9 A H n r):∀args H n,(DS A c r args H).1->Ao prog s9 args H n (DS A c r args H).2:=by
 rintro args H n ⟨rfl,hc⟩;exact h H n hc
def Hx(cap:List Fs)(ok:Int->Prop)(f:Int->Fs):List Fs->AB->Prop×Fs:=λa _=>match a with
 | .int .i64 x::c=>(c=cap/\ok x,f x)
 |_=>(False,.tup [])
theorem Yw{ok:Int->Prop}{f:Int->Fs}(h:∀x,ok x->Aw prog s9 (eI x::cap) (f x)):∀args H n,(Hx cap ok f args H).1->Ao prog s9 args H n (Hx cap ok f args H).2:=by
 intro args H n hh;unfold Hx at hh⊢;split at hh
 ·obtain⟨rfl,h1⟩:=hh;exact(h _ h1).quiet H n
 ·exact hh.elim
def QN(cap:List Fs)(ok:Int->Int->Prop)(f:Int->Int->Fs):List Fs->AB->Prop×Fs:=λa _=>match a with
 | .int .i64 x:: .int .i64 y::c=>(c=cap/\ok x y,f x y)
 |_=>(False,.tup [])
theorem rowBq{ok:Int->Int->Prop}{f:Int->Int->Fs}(h:∀x y,ok x y->Aw prog s9 (eI x::eI y::cap) (f x y)):∀args H n,(QN cap ok f args H).1->Ao prog s9 args H n (QN cap ok f args H).2:=by
 intro args H n hh;unfold QN at hh⊢;split at hh
 ·obtain⟨rfl,h1⟩:=hh;exact(h _ _ h1).quiet H n
 ·exact hh.elim
theorem Yx(l:List Int)(s:Int):decide (0<=I3 l s)=l.contains s:=by
 unfold I3;cases h:l.findIdx? (λx=>decide (x=s))with
 |none=>grind
 |some k=>
  obtain⟨hl,h1,-⟩:=sM.1 h;have:l.contains s=true:=by grind
  rw[this];simp
def Tct:Bc:=AG 49 (s2 BA dI (λl _=>An l) λl x=>eI (I3 l x)) tnil
theorem lW:AH prog Tct:=AH.tnil.add (q2 pw49)
theorem p60(l:List Int)(x:Int)(hl:An l):Aw prog 60 [Am l,eI x] (.bool (l.contains x)):=by
 refine .mk ⟨AZ 0 l,zt,zt⟩ zt (c60.a (AI lW (AJ ?_)));simp only[eE,eN,seval,c60,Tct,s2,Ak,Ag,BD,Au,ra hl,Yx,AG]
def AW(k:zx):List Int:=k.d.syms.map (·.v)
theorem Jt{k:zx}{s:Int}{y:xv}(h:k.d.syms[s.toNat]?=some y):BW (AW k) s=y.v:=by
 unfold BW AW;rw[sb,h];rfl
abbrev DZ(k:zx)(s:Int):Prop:=0<=s/\s<(k.d.syms.length:Int)
theorem p144(k:zx)(s:Int)(h:DZ k s):Aw prog 144 [eI s,.ep (AF k)] (eI (BW (AW k) s)):=by
 refine .mk ⟨zt,Aj 0 k,zt⟩ zt (qD.a (AI AH.tnil (AJ ?_)));have c9:s.toNat<k.d.syms.length:=zo
 have hg:=rc c9;rw[Jt hg];generalize k.d.syms[s.toNat]=y at hg;simp only[eE,eN,seval,eY,qD,AF,AE,AL,ra h.1,ra h.2,hg]
abbrev Bu(k:zx)(cells letters:List Int)(n:Int):List Fs:=[.fn (.func 144) [] [.ep (AF k)],Am cells,Am letters,.int .i64 n]
theorem CO(k:zx)(cells letters:List Int)(n:Int):unders 0 (Bu k cells letters n):=⟨⟨zt,Aj 0 k,zt⟩,AZ 0 _,AZ 0 _,zt,zt⟩
theorem QO{f0:FuncId}{ok:Int->Prop}{bad:Int->Int->Bool}(k:zx)(cells letters:List Int)(n:Int)(hc:An cells)(hcap:unders 0 cap)
  (hq:∀a b,ok a/\ok b->Aw prog f0 (eI a::eI b::cap) (.bool (bad a b))) (s7:∀a∈cells,0<=a->ok a):
  Aw prog 186 [.agg (Bu k cells letters n),.fn (.func f0) [] cap] (.bool (Ba bad cells)):=by
 have hT:AH prog (AG f0 (QN cap (λa b=>ok a/\ok b) λa b=>.bool (bad a b)) tnil):=AH.tnil.add (rowBq hq);have hTe:∀a H,AG f0 (QN cap (λa b=>ok a/\ok b) λa b=>.bool (bad a b)) tnil f0 a H=QN cap (λa b=>ok a/\ok b) (λa b=>.bool (bad a b)) a H:=λa H=>by unfold AG;rw[rt rfl]
 generalize AG f0 (QN cap (λa b=>ok a/\ok b) λa b=>.bool (bad a b)) tnil=T at hT hTe;refine .mk ⟨CO k cells letters n,⟨zt,hcap⟩,zt⟩ zt (pp.a (AI hT (AJ ?_)));have wo:cells.length<1000000000:=hc;simp only[eE,eN,seval,r9,pp];refine AO (λi:Nat=>⟨[(1,true,.fn (.func f0) [] cap),(2,true,.ptr 0 0),(10,true,Am cells),(11,true,.int .i64 cells.length),(12,true,.int .i64 i)],hset Ai 0 (.box (Bu k cells letters n)),2⟩)
  (λi=>i<=cells.length/\Ba bad cells=Ba bad (cells.drop i)) (λi=>cells.length-i) 0 rfl ⟨rm _,rfl⟩ ?_
 rintro i ⟨hi,he⟩;by_cases c9:i<cells.length;case neg=>
  obtain rfl:i=cells.length:=zo
  rw[sK]at he;rw[he];simp only[eZ,seval,Ad c9];rfl
 have hg:=rc c9;have e:=AK (k:=i) zo;have hoa:=s7 _ (rY c9);rw[sn c9,Ba]at he;generalize cells[i]=a at hg he hoa;have hsub:∀b∈cells.drop (i+1),0<=b->ok b:=λb hb=>s7 b (vn hb)
 have hdr:List.drop (i+1) (cells.map eI)=(cells.drop (i+1)).map eI:=List.map_drop.symm;have htl:List.take cells.length (cells.map eI)=cells.map eI:=sQ zw;have hb1:(((i+1:Nat):Int)<=(cells.length:Int))=True:=ra zo;have hRl:(cells.drop (i+1)).length=cells.length-(i+1):=tK;simp only[eZ,seval,eY,AN c9,hg,e,hb1,htl,hdr];generalize hR:cells.drop (i+1)=R at he hsub hRl;obtain⟨p,hp⟩:∃p:Int->Bool,(λb=>decide (0<=a)&&decide (0<=b)&&bad a b)=p:=⟨_,rfl⟩;rw[hp]at he;have hpb:∀b,p b=(decide (0<=a)&&decide (0<=b)&&bad a b):=λb=>by rw[<-hp]
 refine AO (λj:Nat=>⟨[(1,true,.fn (.func f0) [] cap),(2,true,.ptr 0 0),(6,true,.int .i64 a),(10,true,Am cells),(11,true,.int .i64 cells.length),(12,true,.int .i64 i),(21,true,Am R),(22,true,.int .i64 R.length),(23,true,.int .i64 j)],hset Ai 0 (.box (Bu k cells letters n)),2⟩)
  (λj=>j<=R.length/\R.any p=(R.drop j).any p) (λj=>R.length-j) 0 rfl ⟨rm _,rfl⟩ ?_
 rintro j ⟨hj,hej⟩;by_cases l9:j<R.length;case neg=>
  obtain rfl:j=R.length:=zo
  rw[sK,List.any_nil]at hej;rw[hej,tH]at he;simp only[eZ,seval,Ad l9,e];exact .mk (i+1) rfl ⟨c9,by rw[hR];exact he⟩ zo
 have hgj:=rc l9;have ej:=AK (k:=j) zo;have hob:=hsub _ (rY l9);rw[sn l9,vz]at hej;generalize R[j]=b at hgj hej hob;rw[hpb b]at hej;by_cases ha:0<=a;case neg=>
  rw[A3 ha,sV,sV,tH]at hej;simp only[eZ,seval,eY,AN l9,hgj,ri ha,ej];exact .mk (j+1) rfl ⟨l9,hej⟩ zo
 by_cases hb:0<=b;case neg=>
  rw[A3 hb,uP,sV,tH]at hej;simp only[eZ,seval,eY,AN l9,hgj,ra ha,ri hb,ej];exact .mk (j+1) rfl ⟨l9,hej⟩ zo
 have hoo:(ok a/\ok b)=True:=ra ⟨hoa ha,hob hb⟩;rw[BS ha,BS hb,Bool.and_self,sS]at hej;cases hbd:bad a b with
 |true=>
  rw[hbd,uZ]at hej;have hR2:Ba bad cells=true:=by rw[he,hej];rfl
  rw[hR2];simp only[eZ,seval,eY,AN l9,hgj,ra ha,ra hb,hTe,QN,ra (hoa ha),ra (hob hb),hbd]
 |false=>
  rw[hbd,tH]at hej;simp only[eZ,seval,eY,AN l9,hgj,ra ha,ra hb,ej,hTe,QN,ra (hoa ha),ra (hob hb),hbd];exact .mk (j+1) rfl ⟨l9,hej⟩ zo
end
def VL(ls l:List Int)(s:Int):GJ ls (l++[s])=GJ ls l+if(decide (0<=s)&&ls.contains s)=true then 1 else 0:=by grind [GJ,List.length_append]
def VN(ls l:List Int)(s:Int):Jg ls (l++[s])=Jg ls l+if(decide (0<=s)&& !ls.contains s)=true then 1 else 0:=by grind [Jg,List.length_append]
def dg(l:List Int)(s:Int):Kd (l++[s])=Kd l+if s<0 then 1 else 0:=by grind [Kd,List.length_append]
def Td(ls l:List Int):GJ ls l<=l.length:=tg ..
def Yy(ls l:List Int):Jg ls l<=l.length:=tg ..
def lX(l:List Int):Kd l<=l.length:=tg ..
def Tco:Bc:=AG 60 (s2 BA dI (λl _=>An l) λl x=>.bool (l.contains x)) tnil
def lY:AH prog Tco:=AH.tnil.add (q2 p60)
abbrev Te(ls l:List Int):Fs:=.tup [.int .i64 (GJ ls l:Int),.int .i64 (Jg ls l:Int),.int .i64 (Kd l:Int)]
def p188(k:zx)(cells letters:List Int)(n:Int)(hc:An cells)(hl:An letters):Aw prog 188 [.agg (Bu k cells letters n)] (Te letters cells):=by
 refine .mk ⟨CO k cells letters n,zt⟩ ⟨zt,zt,zt,zt⟩ (pq.a (AI lY (AJ ?_)));have wo:cells.length<1000000000:=hc;simp only[eE,eN,seval,r9,pq];refine AO (λi:Nat=>⟨[(1,true,.ptr 0 0),(2,true,.int .i64 (GJ letters (cells.take i):Int)),(3,true,.int .i64 (Jg letters (cells.take i):Int)),(4,true,.int .i64 (Kd (cells.take i):Int)),(8,true,Am cells),(9,true,.int .i64 cells.length),(10,true,.int .i64 i)],hset Ai 0 (.box (Bu k cells letters n)),4⟩)
  (λi=>i<=cells.length) (λi=>cells.length-i) 0 rfl (rm _) ?_
 intro i hi;by_cases c9:i<cells.length;case neg=>
  obtain rfl:i=cells.length:=zo
  simp only[eZ,seval,Ad c9,se];exact Wk.refl _
 have hg:=rc c9;have e:=AK (k:=i) zo;have l5:cells.take (i+1)=cells.take i++[cells[i]]:=by rw[sf,hg];rfl
 have b1:=Td letters (cells.take i);have b2:=Yy letters (cells.take i);have b3:=lX (cells.take i);rw[sD]at b1 b2 b3;generalize cells[i]=s at hg l5;have o1:=VL letters (cells.take i) s;have o2:=VN letters (cells.take i) s;have o3:=dg (cells.take i) s;rw[<-l5]at o1 o2 o3;by_cases hs:s<0
 ·have hd:decide (0<=s)=false:=sa zo;rw[hd]at o1 o2;simp only[sV,sr,sG,tW]at o1 o2;rw[rt hs]at o3;simp only[eZ,seval,eY,AN c9,hg,e,ra hs,AK (k:=Kd (cells.take i)) zo];exact .mk (i+1) (by rw[o1,o2,o3]) c9 zo
 have hd:decide (0<=s)=true:=sk zo;rw[hd]at o1 o2;rw[rj hs]at o3;simp only[sS,tW]at o1 o2 o3;cases hcn:letters.contains s with
 |true=>
  rw[hcn]at o1 o2;simp only[t8,re,sr,sG,tW]at o1 o2;simp only[eZ,seval,eY,AN c9,hg,e,ri hs,Tco,s2,Ak,Ag,BD,Au,ra hl,hcn,AK (k:=GJ letters (cells.take i)) zo,AG];exact .mk (i+1) (by rw[o1,o2,o3]) c9 zo
 |false=>
  rw[hcn]at o1 o2;simp only[t8,rf,sr,sG,tW]at o1 o2;simp only[eZ,seval,eY,AN c9,hg,e,ri hs,Tco,s2,Ak,Ag,BD,Au,ra hl,hcn,AK (k:=Jg letters (cells.take i)) zo,AG];exact .mk (i+1) (by rw[o1,o2,o3]) c9 zo
structure VwOK(k:zx)(cells letters:List Int)(n:Int):Prop where
 c:An cells
 l:An letters
 sy:∀s∈cells,0<=s->DZ k s
 vl:∀y∈k.d.syms,0<=y.v/\y.v<=99
 n:0<=n/\n<=99
def VO{k:zx}(hv:∀y∈k.d.syms,0<=y.v/\y.v<=99){s:Int}(h:DZ k s):0<=BW (AW k) s/\BW (AW k) s<=99:=by
 have c9:s.toNat<k.d.syms.length:=zo
 rw[Jt (rc c9)];exact hv _ (rY c9)
def p187(a b:Int):Aw prog 187 [eI a,eI b] (.bool (decide (a=b))):=by
 refine .mk ⟨zt,zt,zt⟩ zt (pu.a (AI AH.tnil (AJ ?_)));simp only[eE,eN,seval,pu]
section
variable (k:zx) (cells letters:List Int) (n:Int)
theorem p138(h:VwOK k cells letters n):Aw prog 138 [.agg (Bu k cells letters n)] (.bool (CY (AW k) 1 n letters cells)):=by
 have hp:=QO (f0:=187) (cap:=[]) (ok:=λ_=>True) (bad:=λa b=>decide (a=b)) k cells letters n h.c zt (λa b _=>p187 a b) (λ_ _ _=>zt);have hT:AH prog (AG 186 (DS [.agg (Bu k cells letters n),.fn (.func 187) [] []] (λ_=>True) (.bool (Ba (λa b=>decide (a=b)) cells))) tnil):=AH.tnil.add (Hf λH n _=>hp.quiet H n);have hTe:∀a H,AG 186 (DS [.agg (Bu k cells letters n),.fn (.func 187) [] []] (λ_=>True) (.bool (Ba (λa b=>decide (a=b)) cells))) tnil 186 a H=(a=[.agg (Bu k cells letters n),.fn (.func 187) [] []]/\True,.bool (Ba (λa b=>decide (a=b)) cells)):=λ_ _=>rfl
 generalize AG 186 _ tnil=T at hT hTe;refine .mk ⟨CO k cells letters n,zt⟩ zt (pt.a (AI hT (AJ ?_)));simp only[eE,eN,seval,pt,hTe];exact⟨rfl,rfl⟩
theorem p189(h:VwOK k cells letters n)(a b:Int)(wv:DZ k a/\DZ k b):Aw prog 189 [eI a,eI b,.ep (Bu k cells letters n)] (.bool (decide (Us (BW (AW k) a-BW (AW k) b)<n))):=by
 have hT:AH prog (AG 144 (Hx [.ep (AF k)] (DZ k) λs=>eI (BW (AW k) s)) tnil):=AH.tnil.add (Yw λs hs=>p144 k s hs);have hTe:∀a H,AG 144 (Hx [.ep (AF k)] (DZ k) λs=>eI (BW (AW k) s)) tnil 144 a H=Hx [.ep (AF k)] (DZ k) (λs=>eI (BW (AW k) s)) a H:=λ_ _=>rfl
 generalize AG 144 _ tnil=T at hT hTe;refine .mk ⟨zt,zt,CO k cells letters n,zt⟩ zt (py.a (AI hT (AJ ?_)));have r1:=VO h.vl wv.1;have r2:=VO h.vl wv.2;generalize hva:BW (AW k) a=va at r1;generalize hvb:BW (AW k) b=vb at r2;have w1:IntKind.wrap .i64 (va-vb)=va-vb:=A6 zo zo;have w2:IntKind.wrap .i64 (0-(va-vb))= -(va-vb):=by rw[A6 zo zo];omega
 simp only[eE,eN,seval,py,hTe,Hx,hva,hvb,w1,w2];exact⟨wv.1,wv.2,rfl⟩
theorem p190(h:VwOK k cells letters n)(a b:Int)(wv:DZ k a/\DZ k b):Aw prog 190 [eI a,eI b,.ep (Bu k cells letters n)] (.bool (decide (BW (AW k) b<=BW (AW k) a))):=by
 have hT:AH prog (AG 144 (Hx [.ep (AF k)] (DZ k) λs=>eI (BW (AW k) s)) tnil):=AH.tnil.add (Yw λs hs=>p144 k s hs);have hTe:∀a H,AG 144 (Hx [.ep (AF k)] (DZ k) λs=>eI (BW (AW k) s)) tnil 144 a H=Hx [.ep (AF k)] (DZ k) (λs=>eI (BW (AW k) s)) a H:=λ_ _=>rfl
 generalize AG 144 _ tnil=T at hT hTe;refine .mk ⟨zt,zt,CO k cells letters n,zt⟩ zt (qA.a (AI hT (AJ ?_)));simp only[eE,eN,seval,qA,hTe,Hx];exact wv
theorem prQ{f0:FuncId}{bad:Int->Int->Bool}(hp:Aw prog 186 [.agg (Bu k cells letters n),.fn (.func f0) [] [.ep (Bu k cells letters n)]] (.bool (Ba bad cells)))(H:AB)(m:Nat)(q:Nat)(hq:AD H q=some (.box (Bu k cells letters n))):
  Ao prog 186 [.agg (Bu k cells letters n),.fn (.func f0) [] [.ptr q 0]] H m (.bool (Ba bad cells)):=
 hp.view zt (.cons (.wk (Wk.refl _)) (.cons (.fn .nil (.cons (View.ptr (off:=0) hq) .nil)) .nil)) m
theorem p140(h:VwOK k cells letters n):Aw prog 140 [.agg (Bu k cells letters n)] (.bool (CY (AW k) 3 n letters cells)):=by
 have hp:=QO (f0:=189) (cap:=[.ep (Bu k cells letters n)]) (ok:=DZ k) (bad:=λa b=>decide (Us (BW (AW k) a-BW (AW k) b)<n)) k cells letters n h.c ⟨CO k cells letters n,zt⟩ (λa b q=>p189 k cells letters n h a b q) h.sy;have hT:AH prog (AG 186 (DS [.agg (Bu k cells letters n),.fn (.func 189) [] [.ptr 0 0]] (λH=>AD H 0=some (.box (Bu k cells letters n))) (.bool (Ba (λa b=>decide (Us (BW (AW k) a-BW (AW k) b)<n)) cells))) tnil):=AH.tnil.add (Hf λH m hq=>prQ k cells letters n hp H m 0 hq);have hTe:∀a H,AG 186 (DS [.agg (Bu k cells letters n),.fn (.func 189) [] [.ptr 0 0]] (λH=>AD H 0=some (.box (Bu k cells letters n))) (.bool (Ba (λa b=>decide (Us (BW (AW k) a-BW (AW k) b)<n)) cells))) tnil 186 a H=(a=[.agg (Bu k cells letters n),.fn (.func 189) [] [.ptr 0 0]]/\AD H 0=some (.box (Bu k cells letters n)),.bool (Ba (λa b=>decide (Us (BW (AW k) a-BW (AW k) b)<n)) cells)):=λ_ _=>rfl
 generalize AG 186 _ tnil=T at hT hTe;refine .mk ⟨CO k cells letters n,zt⟩ zt (px.a (AI hT (AJ ?_)));simp only[eE,eN,seval,px,hTe];exact⟨rfl,rfl⟩
theorem p141(h:VwOK k cells letters n):Aw prog 141 [.agg (Bu k cells letters n)] (.bool (CY (AW k) 4 n letters cells)):=by
 have hp:=QO (f0:=190) (cap:=[.ep (Bu k cells letters n)]) (ok:=DZ k) (bad:=λa b=>decide (BW (AW k) b<=BW (AW k) a)) k cells letters n h.c ⟨CO k cells letters n,zt⟩ (λa b q=>p190 k cells letters n h a b q) h.sy;have hT:AH prog (AG 186 (DS [.agg (Bu k cells letters n),.fn (.func 190) [] [.ptr 0 0]] (λH=>AD H 0=some (.box (Bu k cells letters n))) (.bool (Ba (λa b=>decide (BW (AW k) b<=BW (AW k) a)) cells))) tnil):=AH.tnil.add (Hf λH m hq=>prQ k cells letters n hp H m 0 hq);have hTe:∀a H,AG 186 (DS [.agg (Bu k cells letters n),.fn (.func 190) [] [.ptr 0 0]] (λH=>AD H 0=some (.box (Bu k cells letters n))) (.bool (Ba (λa b=>decide (BW (AW k) b<=BW (AW k) a)) cells))) tnil 186 a H=(a=[.agg (Bu k cells letters n),.fn (.func 190) [] [.ptr 0 0]]/\AD H 0=some (.box (Bu k cells letters n)),.bool (Ba (λa b=>decide (BW (AW k) b<=BW (AW k) a)) cells)):=λ_ _=>rfl
 generalize AG 186 _ tnil=T at hT hTe;refine .mk ⟨CO k cells letters n,zt⟩ zt (pz.a (AI hT (AJ ?_)));simp only[eE,eN,seval,pz,hTe];exact⟨rfl,rfl⟩
theorem p142:Aw prog 142 [.agg (Bu k cells letters n)] (.bool (CY (AW k) 5 n letters cells)):=by
 refine .mk ⟨CO k cells letters n,zt⟩ zt (qC.a (AI AH.tnil (AJ ?_)));simp only[eE,eN,seval,qC];rfl
theorem p139(h:VwOK k cells letters n):Aw prog 139 [.agg (Bu k cells letters n)] (.bool (CY (AW k) 2 n letters cells)):=by
 have hT:AH prog (AG 188 (DS [.agg (Bu k cells letters n)] (λ_=>True) (Te letters cells)) tnil):=AH.tnil.add (Hf λH m _=>(p188 k cells letters n h.c h.l).quiet H m);have hTe:∀a H,AG 188 (DS [.agg (Bu k cells letters n)] (λ_=>True) (Te letters cells)) tnil 188 a H=(a=[.agg (Bu k cells letters n)]/\True,Te letters cells):=λ_ _=>rfl
 generalize AG 188 _ tnil=T at hT hTe;refine .mk ⟨CO k cells letters n,zt⟩ zt (bI.a (AI hT (AJ ?_)));have hR:CY (AW k) 2 n letters cells=(decide (GJ letters cells=0)&&decide (Kd cells=0)):=rfl;rw[hR];have e1:((GJ letters cells:Int)=0)=(GJ letters cells=0):=propext zo;have e2:((Kd cells:Int)=0)=(Kd cells=0):=propext zo;by_cases h1:GJ letters cells=0
 ·by_cases h2:Kd cells=0
  ·simp only[eZ,seval,eY,bI,hTe,e1,e2,ra h1,ra h2];exact rfl
  ·simp only[eZ,seval,eY,bI,hTe,e1,e2,ra h1,ri h2];exact rfl
 ·simp only[eZ,seval,eY,bI,hTe,e1,e2,ri h1];exact rfl
theorem p143(h:VwOK k cells letters n):Aw prog 143 [.agg (Bu k cells letters n)] (.bool (CY (AW k) 6 n letters cells)):=by
 have hT:AH prog (AG 188 (DS [.agg (Bu k cells letters n)] (λ_=>True) (Te letters cells)) tnil):=AH.tnil.add (Hf λH m _=>(p188 k cells letters n h.c h.l).quiet H m);have hTe:∀a H,AG 188 (DS [.agg (Bu k cells letters n)] (λ_=>True) (Te letters cells)) tnil 188 a H=(a=[.agg (Bu k cells letters n)]/\True,Te letters cells):=λ_ _=>rfl
 generalize AG 188 _ tnil=T at hT hTe;refine .mk ⟨CO k cells letters n,zt⟩ zt (gL.a (AI hT (AJ ?_)));have hR:CY (AW k) 6 n letters cells=(decide (n<(GJ letters cells:Int))||decide ((cells.length:Int)-n<(Jg letters cells:Int))):=rfl;rw[hR];have wo:cells.length<1000000000:=h.c;have hn:=h.n;have w1:IntKind.wrap .i64 ((cells.length:Int)-n)=(cells.length:Int)-n:=A6 zo zo;by_cases h1:n<(GJ letters cells:Int)
 ·simp only[eZ,seval,re,eY,gL,hTe,ra h1];exact rfl
 ·simp only[eZ,seval,eY,gL,hTe,ri h1,w1];exact rfl
end
def Iy(k:zx)(f:List Int->List Int->Int->Bool):List Fs->AB->Prop×Fs:=λa H=>match a with
 |[.agg [.fn (.func g) [] [.ptr q 0],.sl t1 L1,.sl t2 L2,.int .i64 n]]=>(g=144/\AD H q=some (.box (AF k))/\BA.ok (.sl t1 L1)/\BA.ok (.sl t2 L2)/\VwOK k (L1.map A9) (L2.map A9) n,.bool (f (L1.map A9) (L2.map A9) n))
 |_=>(False,.tup [])
def O3{k:zx}{s9:FuncId}{f:List Int->List Int->Int->Bool}(h:∀cells letters n,VwOK k cells letters n->Aw prog s9 [.agg (Bu k cells letters n)] (.bool (f cells letters n))):∀args H n,(Iy k f args H).1->Ao prog s9 args H n (Iy k f args H).2:=by
 intro args H m hh;unfold Iy at hh⊢;split at hh
 ·obtain⟨rfl,hq,k1,k2,k3⟩:=hh;exact(h _ _ _ k3).view zt (.cons (.agg (.cons (.fn .nil (.cons (View.ptr (off:=0) hq) .nil)) (.cons (.wk (BA.wk _ k1)) (.cons (.wk (BA.wk _ k2)) (.cons (.wk (Wk.refl _)) .nil))))) .nil) m
 ·exact hh.elim
def lZ(k:zx):Bc:=AG 138 (Iy k λc l n=>CY (AW k) 1 n l c) (AG 139 (Iy k λc l n=>CY (AW k) 2 n l c) (AG 140 (Iy k λc l n=>CY (AW k) 3 n l c)
 (AG 141 (Iy k λc l n=>CY (AW k) 4 n l c) (AG 142 (Iy k λc l n=>CY (AW k) 5 n l c) (AG 143 (Iy k λc l n=>CY (AW k) 6 n l c) tnil)))))
def lf(k:zx):AH prog (lZ k):=(((((AH.tnil.add (O3 λc l n h=>p143 k c l n h)).add (O3 λc l n h=>p142 k c l n)).add (O3 λc l n h=>p141 k c l n h)).add (O3 λc l n h=>p140 k c l n h)).add (O3 λc l n h=>p139 k c l n h)).add (O3 λc l n h=>p138 k c l n h)
theorem Tcq_1(k:zx)(a:List Fs)(H:AB):lZ k 138 a H=Iy k (λc l n=>CY (AW k) 1 n l c) a H:=rfl
theorem Tcq_2(k:zx)(a:List Fs)(H:AB):lZ k 139 a H=Iy k (λc l n=>CY (AW k) 2 n l c) a H:=rfl
theorem Tcq_3(k:zx)(a:List Fs)(H:AB):lZ k 140 a H=Iy k (λc l n=>CY (AW k) 3 n l c) a H:=rfl
theorem Tcq_4(k:zx)(a:List Fs)(H:AB):lZ k 141 a H=Iy k (λc l n=>CY (AW k) 4 n l c) a H:=rfl
theorem Tcq_5(k:zx)(a:List Fs)(H:AB):lZ k 142 a H=Iy k (λc l n=>CY (AW k) 5 n l c) a H:=rfl
theorem Tcq_6(k:zx)(a:List Fs)(H:AB):lZ k 143 a H=Iy k (λc l n=>CY (AW k) 6 n l c) a H:=rfl
structure ClOK(k:zx)(q:Cnd)(letters cells:List Int):Prop where
 kind:1<=q.k/\q.k<=6
 n:0<=q.n/\q.n<=99
 cs:An q.cs
 ci:∀c∈q.cs,0<=c/\c<(cells.length:Int)
 ls:An q.ls
 li:∀c∈q.ls,0<=c/\c<(letters.length:Int)
 sy:∀s∈cells,0<=s->DZ k s
 vl:∀y∈k.d.syms,0<=y.v/\y.v<=99
structure VCq where
 i:Nat
 tk:w8
 H:AB
 n:Nat
abbrev fnsC:List Fs:=[.nilfn,.fn (.func 138) [] [],.fn (.func 139) [] [],.fn (.func 140) [] [],.fn (.func 141) [] [],.fn (.func 142) [] [],.fn (.func 143) [] []]
abbrev Tf(q:Cnd):List Fs:=[.int .i64 q.k,Am q.cs,Am q.ls,.int .i64 q.n]
structure IC1(k:zx)(q:Cnd)(m:Nat)(X:Nat->List Int)(bx:Fs->List Fs)(v:VCq):Prop where
 hi:v.i<=m
 hn:12<=v.n
 fr:AP v.H v.n
 h0:AD v.H 0=some (.box (AF k))
 h1:AD v.H 1=some (.box (Tf q))
 h4:AD v.H 4=some (.box fnsC)
 h10:AD v.H 10=some (.box (bx (.sl v.tk ((X v.i).map eI))))
 tok:DA 1 11 v.H v.tk
 es:v.tk.esz=1\/X v.i=[]
def p93(k:zx)(q:Cnd)(letters cells:List Int)(h:ClOK k q letters cells):Aw prog 93 [A5 k,GK q,Am letters,Am cells] (.bool (Fd (AW k) q letters cells)):=by
 refine .mk ⟨Aj 0 k,⟨zt,AZ 0 _,AZ 0 _,zt,zt⟩,AZ 0 _,AZ 0 _,zt⟩ zt (c93.a (AI (lf k) (AJ ?_)));have wz:q.cs.length<1000000000:=h.cs;have xa:q.ls.length<1000000000:=h.ls;simp only[eE,eN,reduceCtorEq,Nat.reduceEqDiff,↓reduceIte,Nat.reduceAdd,Nat.reduceLeDiff,r9,c93];refine AO (λv:VCq=>⟨[(2,true,Am letters),(3,true,Am cells),(5,true,.ptr 1 0),(9,true,.ptr 4 0),(10,true,.ptr 10 0),(21,true,Am q.cs),(22,true,.int .i64 q.cs.length),(23,true,.int .i64 v.i)],v.H,v.n⟩)
  (IC1 k q q.cs.length (λi=>(q.cs.take i).map (BW cells)) λa=>[.fn (.func 144) [] [.ptr 0 0],a,.sl .nil [],.int .i64 q.n]) (λv=>q.cs.length-v.i)
  ⟨0,.nil,_,12⟩ rfl ?_ ?_
 ·refine⟨rm _,rq _,?_,rfl,rfl,rfl,rfl,.inl rfl,.inr rfl⟩;simp only[];repeat' (first|exact AP.nil.hset (m:=12) (rm _) zd|refine AP.hset ?_ (rq _) zd)
 rintro⟨i,tk,H,n⟩ ⟨hi,hn,l7,h0,h1,h4,h10,l5,s5⟩;simp only at hi hn l7 h0 h1 h4 h10 l5 s5;by_cases c9:i<q.cs.length
 ·have hg:=rc c9;have e:=AK (k:=i) zo;have hci:=h.ci _ (rY c9);have htake:q.cs.take (i+1)=q.cs.take i++[q.cs[i]]:=by rw[sf,hg];rfl
  generalize q.cs[i]=x at hg hci htake;have hgx:=CZ hci.1 hci.2;have hX:((q.cs.take i).map (BW cells)).length<=i:=by simp;omega
  have q1:BH H 1 tk=True:=ra l5.app;have q2:(((q.cs.take i).map (BW cells)).length<=35184372088831)=True:=ra zo;have q3:Al (((q.cs.take i).map (BW cells)).length+1) 8=True:=ra (Ac zo zd);have y1:∀k,(10=n+k)=False:=λk=>ri zo
  have y2:(n=3)=False:=ri zo;have y3:(3=n)=False:=ri zo;have hk10:=Af l5 (i:=10) (.inl zd);rw[h10]at hk10;generalize hXd:(q.cs.take i).map (BW cells)=X at hX q2 q3 h10 hk10 s5;simp only[eZ,reduceCtorEq,Nat.reduceEqDiff,↓reduceIte,Nat.reduceAdd,Nat.reduceLeDiff,Nat.reduceMul,Nat.reduceLT,Int.reduceEq,eY,AN c9,hg,h10,ra hci.1,ra hci.2,hgx,q1,q2,q3,Bq l7,hk10,y2,e];refine .mk ⟨i+1,.own (n+7) 1,hset (hset (AU H tk) (n+7) .tok) 10 (.box [.fn (.func 144) [] [.ptr 0 0],.sl (.own (n+7) 1) ((X++[BW cells x]).map eI),.sl .nil [],.int .i64 q.n]),n+10⟩ ?_ ⟨c9,zp,((Ab l5 l7).hset (m:=n+10) zo zo).hset (rq _) (show 10<n+10 by omega),?_,?_,?_,?_,.inr (.inr ⟨n+7,rfl,zo,?_⟩),.inl rfl⟩ zp
  ·simp only[rz,sw,sI]
  all_goals simp only[]
  ·grind [AA,Af]
  ·grind [AA,Af]
  ·grind [AA,Af]
  ·rw[AC];simp only[htake,rz,sw,sI,hXd]
  ·rw[AA _ _ _ _ zo,AC]
 obtain rfl:i=q.cs.length:=zo
 rw[se]at s5 h10;simp only[eZ,Nat.reduceEqDiff,↓reduceIte,Nat.reduceAdd,Nat.reduceLeDiff,r9,Ad c9,h1];generalize hXc:q.cs.map (BW cells)=XC at h10 s5;refine AO (λv:VCq=>⟨[(2,true,Am letters),(5,true,.ptr 1 0),(9,true,.ptr 4 0),(10,true,.ptr 10 0),(38,true,Am q.ls),(39,true,.int .i64 q.ls.length),(40,true,.int .i64 v.i)],v.H,v.n⟩)
  (IC1 k q q.ls.length (λi=>(q.ls.take i).map (BW letters)) λa=>[.fn (.func 144) [] [.ptr 0 0],.sl tk (XC.map eI),a,.int .i64 q.n]) (λv=>q.ls.length-v.i)
  ⟨0,.nil,H,n⟩ rfl ⟨rm _,hn,l7,h0,h1,h4,h10,.inl rfl,.inr rfl⟩ ?_
 rintro⟨j,tj,H1,n1⟩ ⟨hj,me,xg,wc,h11,h41,h101,htj,hej⟩;simp only at hj me xg wc h11 h41 h101 htj hej;by_cases l9:j<q.ls.length
 ·have hg:=rc l9;have e:=AK (k:=j) zo;have hci:=h.li _ (rY l9);have htake:q.ls.take (j+1)=q.ls.take j++[q.ls[j]]:=by rw[sf,hg];rfl
  generalize q.ls[j]=x at hg hci htake;have hgx:=CZ hci.1 hci.2;have hX:((q.ls.take j).map (BW letters)).length<=j:=by simp;omega
  have q1:BH H1 1 tj=True:=ra htj.app;have q2:(((q.ls.take j).map (BW letters)).length<=35184372088831)=True:=ra zo;have q3:Al (((q.ls.take j).map (BW letters)).length+1) 8=True:=ra (Ac zo zd);have y1:∀k,(10=n1+k)=False:=λk=>ri zo
  have y2:(n1=3)=False:=ri zo;have y3:(3=n1)=False:=ri zo;have hk10:=Af htj (i:=10) (.inl zd);rw[h101]at hk10;generalize hXd:(q.ls.take j).map (BW letters)=X at hX q2 q3 h101 hk10 hej;simp only[eZ,reduceCtorEq,Nat.reduceEqDiff,↓reduceIte,Nat.reduceAdd,Nat.reduceLeDiff,Nat.reduceMul,Nat.reduceLT,Int.reduceEq,eY,AN l9,hg,h101,ra hci.1,ra hci.2,hgx,q1,q2,q3,Bq xg,hk10,y2,e];refine .mk ⟨j+1,.own (n1+7) 1,hset (hset (AU H1 tj) (n1+7) .tok) 10 (.box [.fn (.func 144) [] [.ptr 0 0],.sl tk (XC.map eI),.sl (.own (n1+7) 1) ((X++[BW letters x]).map eI),.int .i64 q.n]),n1+10⟩ ?_ ⟨l9,zp,((Ab htj xg).hset (m:=n1+10) zo zo).hset (rq _) (show 10<n1+10 by omega),?_,?_,?_,?_,.inr (.inr ⟨n1+7,rfl,zo,?_⟩),.inl rfl⟩ zp
  ·simp only[rz,sw,sI]
  all_goals simp only[]
  ·grind [AA,Af]
  ·grind [AA,Af]
  ·grind [AA,Af]
  ·rw[AC];simp only[htake,rz,sw,sI,hXd]
  ·rw[AA _ _ _ _ zo,AC]
 obtain rfl:j=q.ls.length:=zo
 rw[se]at hej h101;generalize hXl:q.ls.map (BW letters)=XL at h101 hej;have hV:VwOK k XC XL q.n:=by
  refine⟨?_,?_,?_,h.vl,h.n⟩
  ·grind
  ·grind
  ·subst hXc;intro s hs h0;obtain⟨c,hc,rfl⟩:=t7.1 hs;have:=h.ci c hc;exact h.sy _ (te (CZ this.1 this.2)) h0
 have hB:Fd (AW k) q letters cells=CY (AW k) q.k q.n XL XC:=by unfold Fd;rw[hXc,hXl]
 rw[hB];have k1:BA.ok (.sl tk (XC.map eI))=True:=ra ⟨s5.imp id λq=>by rw[q];rfl,by rw[Ax]⟩;have k2:BA.ok (.sl tj (XL.map eI))=True:=ra ⟨hej.imp id λq=>by rw[q];rfl,by rw[Ax]⟩;have hk6:q.k=1\/q.k=2\/q.k=3\/q.k=4\/q.k=5\/q.k=6:=by have:=h.kind;omega
 rcases hk6 with hk|hk|hk|hk|hk|hk
 all_goals
  simp only[Tf,hk]at h11;rw[hk];simp only[eZ,Nat.reduceEqDiff,↓reduceIte,Nat.reduceAdd,Nat.reduceLeDiff,Nat.reduceMul,Int.reduceLE,Int.reduceToNat,Int.toNat_one,Ad l9,h11,h41,h101,wc,Tcq_1,Tcq_2,Tcq_3,Tcq_4,Tcq_5,Tcq_6,Iy,k1,k2,Ax,ra hV];decide
section
section
variable {P:Program} {T:Bc} {Q:x6->AS->Prop} {k:List Item} {s:AS} {b:Nat} {cx:Nat->Fs} {kp:List Nat} {rx:List (Nat×xz)}
variable {z:Fs} {w str:Bool} {xs:List zz} {t rel esz bytes:Nat} {x y f:zz} {d:Option Nat}
theorem VP{sz:Nat}{ag:Bool}:A8 P T b cx ((2,⟨d,some (t,w),.v (.ld sz ag x)⟩)::rx) kp k Q s=((Bh s.env (some (t,w))=true->fA (AX s.env x))/\GM s.env (some (t,w))/\(Bh s.env (some (t,w))=true->C6 s.env [x]/\(Bb s.H (AX s.env) (.ld sz ag x)).1)/\A8 P T b cx rx kp k Q (s.put d (Bh s.env (some (t,w))) (Bb s.H (AX s.env) (.ld sz ag x)).2)):=by
 rw[Sw,Mb];rfl
def M3(P:Program)(T:Bc)(b:Nat)(cx:Nat->Fs)(d:Option Nat)(rel esz bytes:Nat)(z:Fs)(x y:zz)(str:Bool)(rx:List (Nat×xz))(kp:List Nat)(k:List Item)(Q:x6->AS->Prop)(s:AS):Bool->Prop
 |true=>(lk s.env x).1=true/\(lk s.env y).1=true/\JE s.H (b+rel) esz bytes z (KM P T b cx d rx kp k Q s) (AX s.env x) (CD s.H (AX s.env) esz y str)
 |false=>A8 P T b cx rx kp k Q (s.put d false (.tup []))
theorem Rj:A8 P T b cx ((2,⟨d,some (t,w),.appR rel esz bytes z x y str⟩)::rx) kp k Q s=(GM s.env (some (t,w))/\M3 P T b cx d rel esz bytes z x y str rx kp k Q s (Bh s.env (some (t,w)))):=by
 simp only[A8,De,Bd,Bp,uD,tL,Ae,BP,Io.opds,Fh,Ns];cases Bh s.env (some (t,w))
 ·simp only[M3,sr,tY,tL,tE,A8,C6];refine congrArg _ ?_;refine propext ⟨λh=>h.2,λh=>⟨λ_ _ q=>q,h⟩⟩
 ·simp only[M3,tE,C6,uo,ud,seval,tY];rw[MA];rfl
theorem Yz:M3 P T b cx d rel esz bytes z x y str rx kp k Q s true=((lk s.env x).1=true/\(lk s.env y).1=true/\JE s.H (b+rel) esz bytes z (KM P T b cx d rx kp k Q s) (AX s.env x) (CD s.H (AX s.env) esz y str)):=rfl
theorem Y0:M3 P T b cx d rel esz bytes z x y str rx kp k Q s false=A8 P T b cx rx kp k Q (s.put d false (.tup [])):=rfl
def VQ(P:Program)(T:Bc)(b:Nat)(cx:Nat->Fs)(d:Option Nat)(r:List (Nat×xz))(kp:List Nat)(k:List Item)(Q:x6->AS->Prop)(s:AS):v8->AB->Nat->Prop
 | .ret v,H',n'=>A8 P T b cx r kp k Q ({s with H:=H',n:=n'}.put d true v)
 | .pan v,H',n'=>Cl P T Q k (.pan v) ⟨[],H',n'⟩
def jB(P:Program)(T:Bc)(b:Nat)(cx:Nat->Fs)(d:Option Nat)(r:List (Nat×xz))(kp:List Nat)(k:List Item)(Q:x6->AS->Prop)(s:AS)(x:Bool)(H':AB)(n':Nat):Prop:=A8 P T b cx r kp k Q ({s with H:=H',n:=n'}.put d true (.bool x))
def M4(P:Program)(T:Bc)(b:Nat)(cx:Nat->Fs)(d:Option Nat)(f:zz)(xs:List zz)(rx:List (Nat×xz))(kp:List Nat)(k:List Item)(Q:x6->AS->Prop)(s:AS):Bool->Prop
 |true=>(lk s.env f).1=true/\C6 s.env xs/\L9 P (xs.map (AX s.env)) s.H s.n (VQ P T b cx d rx kp k Q s) (jB P T b cx d rx kp k Q s) (AX s.env f)
 |false=>A8 P T b cx rx kp k Q (s.put d false (.tup []))
theorem M5:A8 P T b cx ((0,⟨d,some (t,w),.call false f xs⟩)::rx) kp k Q s=(GM s.env (some (t,w))/\M4 P T b cx d f xs rx kp k Q s (Bh s.env (some (t,w)))):=by
 simp only[A8,De,Bd,Ae,BP,C6,Io.opds,Bp,FC,uD,tL,ud];cases Bh s.env (some (t,w))
 ·simp only[M4,sr,tY,tL,tE];rfl
 ·simp only[M4,tE,seval,tY,uo];refine congrArg (λz=>GM s.env (some (t,w))/\(lk s.env f).1=true/\C6 s.env xs/\z) ?_;generalize AX s.env f=v;cases v<;>try rfl
  rename_i ff first cap
  cases ff<;>try rfl
  ·refine congrArg (AV P _ _ s.H s.n) ?_;funext o H' n';cases o<;>rfl
  ·cases first<;>cases cap<;>rfl
theorem Y1:M4 P T b cx d f xs rx kp k Q s true=((lk s.env f).1=true/\C6 s.env xs/\L9 P (xs.map (AX s.env)) s.H s.n (VQ P T b cx d rx kp k Q s) (jB P T b cx d rx kp k Q s) (AX s.env f)):=rfl
theorem Y2:M4 P T b cx d f xs rx kp k Q s false=A8 P T b cx rx kp k Q (s.put d false (.tup [])):=rfl
end
def rdL(H:AB):Fs->List Int
 | .sl _ L=>L.map A9
 | .ref id _ _ len _=>match AD H id with
  |some (.arr _ L)=>(L.take len).map A9
  |_=>[]
 |_=>[]
variable {H:AB} {av:Fs} {l:List Int} {n m:Nat} {F:Nat->Prop}
theorem I6(h:O2 H av l):rdL H av=l:=by
 rcases h with⟨t,rfl,-⟩|⟨id,cap,rest,rfl,h1,-⟩
 ·exact Ax l
 ·simp only[rdL,h1];rw[rz,List.take_left' (by rw[r9]),Ax]
theorem QP(h:O2 H av l):View H (Am l) av:=by
 rcases h with⟨t,rfl,ht⟩|⟨id,cap,rest,rfl,h1,h2⟩
 ·exact .wk (Wk.sl (ht.imp (λz=>z) λq=>by rw[q];rfl))
 ·have:=View.ref (H:=H) (id:=id) (e:=1) (off:=0) (len:=l.length) (cap:=cap) h1 zw h2;rw[vG,rz,List.take_left' (by rw[r9])]at this;exact this
theorem lg(h:O2 H av l)(hl:An l):Ao prog 32 [av] H n (Am l):=by
 refine Ao.of c32.l (AZ n l) λhf=>?_
 refine AV.out (R:=λo H' _=>∃lv,o= .ret lv/\LF 1 lv H' (l.map eI)/\C5 H H') (AV.seal (Ta h hl) ?_) ?_
 ·rintro o H' n' (⟨h1,rfl,-,t,rfl,ht⟩|⟨h1,-,rest,rfl,rfl⟩)
  ·exact .inl ⟨_,rfl,.inl ⟨by rw[h1];rfl,t,rfl,ht⟩,C5.refl _⟩
  ·refine .inr ⟨n+2,1,_,AC ..,_,rfl,.inr ⟨by simpa using h1,n+2,_,rest.map eI,by rw[r9],?_,zw⟩,λi ob h0=>?_⟩
   ·rw[AC,rz]
   ·have:=hf.lt h0;rw[AA _ _ _ _ zo,AA _ _ _ _ zo];exact h0
 ·rintro o H' n' ⟨lv,rfl,hL,hK⟩;refine⟨.ret (Am l),⟨⟨_,rfl,Wk.refl _⟩,hK⟩,λg w e hR he=>?_⟩;cases e with
  |returned v=>exact LS hL hR he
  |panicked c=>exact he.elim
  |outgrown=>exact he.elim
def Lk:List Fs->AB->Prop×Fs:=λa H=>match a with
 |[av]=>(O2 H av (rdL H av)/\An (rdL H av),Am (rdL H av))
 |_=>(False,.tup [])
theorem Y3:∀args H n,(Lk args H).1->Ao prog 32 args H n (Lk args H).2:=by
 intro args H n hh;unfold Lk at hh⊢;split at hh
 ·exact lg hh.1 hh.2
 ·exact hh.elim
def Cu:List Fs->AB->Prop×Fs:=λa H=>match a with
 |[av,.int .i64 x]=>(O2 H av (rdL H av)/\An (rdL H av),.bool ((rdL H av).contains x))
 |_=>(False,.tup [])
theorem MY:∀args H n,(Cu args H).1->Ao prog 60 args H n (Cu args H).2:=by
 intro args H n hh;unfold Cu at hh⊢;split at hh
 ·exact(p60 _ _ hh.2).view zt (.cons (QP hh.1) (.cons (.wk (Wk.refl _)) .nil)) n
 ·exact hh.elim
def Tgw:Bc:=AG 32 Lk (AG 60 Cu tnil)
theorem Y4:AH prog Tgw:=(AH.tnil.add MY).add Y3
structure Gen(A:List (List Int))(l':Nat)(J:(Nat->Prop)->List (List Int)->AB->Nat->Prop)(S:AB->Nat->Prop):Prop where
 fr:∀F D H m,J F D H m->AP H m
 frame:∀F F' D H H' m m',J F D H m->(∀i,F' i->F i\/m<=i)->(∀i,¬F' i->AD H' i=AD H i)->AP H' m'->m<=m'->J F' D H' m'
 yld:∀F D x H m (R:Bool->AB->Nat->Prop),J F D H m->(∀i,F i->i<m)->D++[x]<+:A->(∀H' m',J F (D++[x]) H' m'->(∀i,F i->AD H' i=AD H i)->m<=m'->R true H' m')->(∀H' m',S H' m'->R false H' m')->CV prog l' [Am x] H m R
def GV(H:AB)(lv:Fs)(L:List Int)(F:Nat->Prop):Prop:=(lv= .sl .nil []/\L=[])\/∃id rest,lv= .ref id 1 0 L.length (L.length+rest.length)/\F id/\AD H id=some (.arr 1 ((L++rest).map eI))
theorem GV.rd{lv:Fs}{L:List Int}(h:GV H lv L F):O2 H lv L:=by
 rcases h with⟨rfl,rfl⟩|⟨id,rest,rfl,-,h3⟩
 ·exact .inl ⟨_,rfl,.inr rfl⟩
 ·exact .inr ⟨id,_,rest,rfl,h3,zo⟩
def MO(M j:Nat)(L:List Int)(i:Nat):List (List Int):=((B7 i).filter λs=>!L.contains s).flatMap λs=>Ib M j (L++[s])
theorem O4(M j:Nat)(L:List Int)(i:Nat):MO M j L (i+1)=MO M j L i++if L.contains (i:Int)then[]else Ib M j (L++[(i:Int)]):=by grind [MO,B7,List.range_succ]
theorem VR(M j:Nat)(L:List Int)(i:Nat):∀k,MO M j L i<+:MO M j L (i+k)
 |0=>List.prefix_refl _
 |k+1=>by
  rw[<-Nat.add_assoc,O4];exact(VR M j L i k).trans (List.prefix_append _ _)
theorem dh{α:Type}{D a b A:List α}(h:a<+:b)(hb:D++b<+:A):D++a<+:A:=by
 obtain⟨t,rfl⟩:=h;rw[<-sJ]at hb;exact(List.prefix_append _ _).trans hb
theorem lh{lv:Fs}{L:List Int}{y:Int}{K:AB->Fs->Prop}(h:GV H lv L F)(hl:L.length<1000000)(hm:AD H m=none)
  (hK:∀id (rest:List Int),(id=m\/lv= .ref id 1 0 L.length (L.length+1+rest.length)/\F id)->K (hset H id (.arr 1 (((L++[y])++rest).map eI))) (.ref id 1 0 (L++[y]).length ((L++[y]).length+rest.length))):JE H m 1 8 (.int .i64 0) K lv (some [eI y]):=by
 have el:(L++[y]).length=L.length+1:=zw
 rcases h with⟨rfl,rfl⟩|⟨id,rest,rfl,h2,h3⟩
 ·rw[Df];refine⟨hm,zd,rfl,.inl rfl,by simp [Al],zw,(λe=>by cases e),λ_ cap hcap=>?_⟩;have:=hK m (List.replicate (cap-1) 0) (.inl rfl);simp only[sj,sw,sC,tn,tP,si,uc]at this hcap⊢;rw[show 0+1+(cap-1)=cap by omega]at this;exact this
 ·rw[LI h3];refine⟨hm,zd,rfl,rfl,rfl,Ac (by simp only[sC,tn];omega) zd,by simp only[sC,tn];omega,rfl,zw,zo,λhr=>?_,λhr cap' hc=>?_⟩
  ·simp only[sC,tn]at hr⊢;have:=hK id (rest.drop 1) (.inr ⟨by rw[tK,show L.length+1+(rest.length-1)=L.length+rest.length by omega],h2⟩);have e1:List.take L.length ((L++rest).map eI)=L.map eI:=by rw[rz,uf zw,sQ zw]
   have e2:List.drop (L.length+(0+1)) ((L++rest).map eI)=(rest.drop 1).map eI:=by rw[rz,List.drop_append,ut zw];simp
   rw[e1,e2];rw[el,rz,rz,tK,show L.length+1+(rest.length-1)=L.length+rest.length by omega]at this;exact this
  ·have:=hK m (List.replicate (cap'-(L.length+1)) 0) (.inl rfl);simp only[sC,tn]at hr hc⊢;have e1:List.take L.length ((L++rest).map eI)=L.map eI:=by rw[rz,uf zw,sQ zw]
   rw[e1];rw[el,rz,rz,uc,tP,show L.length+1+(cap'-(L.length+1))=cap' by omega]at this;exact this
structure CB(l' M n cn cy cm cg:Nat)(F:Nat->Prop)(H:AB):Prop where
 fn:F cn
 fy:F cy
 fm:F cm
 fg:F cg
 hn:AD H cn=some (.box [.int .i64 n])
 hy:AD H cy=some (.box [.fn (.yield l') [] []])
 hm:AD H cm=some (.box [.int .i64 M])
 hg:AD H cg=some (.box [.fn (.func 132) [] [.ptr cn 0,.ptr cy 0,.ptr cm 0,.ptr cg 0]])
def GrP(J:(Nat->Prop)->List (List Int)->AB->Nat->Prop)(S:AB->Nat->Prop)(F:Nat->Prop)(D':List (List Int))(L:List Int)(lv:Fs)(H:AB)(m:Nat):v8->AB->Nat->Prop:=λo H' m'=>
 (o= .ret (.bool true)/\∃F':Nat->Prop,(∀i,F i->F' i)/\(∀i,F' i->F i\/m<=i)/\(∀i,F' i->i<m')/\J F' D' H' m'/\GV H' lv L F'/\(∀i,F i->Rf lv≠some i->AD H' i=AD H i)/\m<=m')\/(o= .ret (.bool false)/\S H' m')
structure VGr where
 i:Nat
 F:Nat->Prop
 H:AB
 n:Nat
structure IGr(J:(Nat->Prop)->List (List Int)->AB->Nat->Prop)(M j:Nat)(L:List Int)(lv:Fs)(D:List (List Int))(F0:Nat->Prop)(H0:AB)(m0:Nat)(v:VGr):Prop where
 hi:v.i<=M
 f1:∀i,F0 i->v.F i
 f2:∀i,v.F i->F0 i\/m0<=i
 f3:∀i,v.F i->i<v.n
 hj:J v.F (D++MO M j L v.i) v.H v.n
 gv:GV v.H lv L v.F
 kp:∀i,F0 i->Rf lv≠some i->AD v.H i=AD H0 i
 hm:m0<=v.n
theorem Y5{A:List (List Int)}{l':Nat}{J:(Nat->Prop)->List (List Int)->AB->Nat->Prop}{S:AB->Nat->Prop}(G:Gen A l' J S){M:Nat}(hM:M<=1000)(hn:n<=1000)(cn cy cm cg:Nat):
  ∀(j:Nat) (L:List Int) (lv:Fs) (F:Nat->Prop) (D:List (List Int)) (H:AB) (m:Nat),L.length+j=n->GV H lv L F->J F D H m->(∀i,F i->i<m)->CB l' M n cn cy cm cg F H->D++Ib M j L<+:A->
   AV prog 132 [lv,.ptr cn 0,.ptr cy 0,.ptr cm 0,.ptr cg 0] H m (GrP J S F (D++Ib M j L) L lv H m)
 |0,L,lv,F,D,H,m,hL,hgv,hJ,hF,hC,hA=>by
  have hLn:L.length=n:=zo
  refine Xl.a (AI Y4 (AJ ?_));have hrd:=hgv.rd;have r1:=I6 hrd;have hfw:An L:=by show L.length<_;omega
  obtain⟨k1,k2,k3,k4,bn,by',bm,bg⟩:=hC;have fin:CV prog l' [Am L] H m (λb H' m'=>GrP J S F (D++Ib M 0 L) L lv H m (.ret (.bool b)) H' m'):=by
   refine G.yld F D L H m _ hJ hF hA (λH' m' hj hk hmm=>.inl ⟨rfl,F,λi h=>h,λi h=>.inl h,λi h=>by have:=hF i h;omega,hj,?_,λi h _=>hk i h,hmm⟩) (λH' m' hs=>.inr ⟨rfl,hs⟩);rcases hgv with h|⟨id,rest,h1,h2,h3⟩
   ·exact .inl h
   ·exact .inr ⟨id,rest,h1,h2,by rw[hk id h2];exact h3⟩
  rcases hgv with⟨rfl,rfl⟩|⟨id,rest,rfl,h2,h3⟩
  ·have hz:(n:Int)=0:=by simp at hLn;omega
   have hz':((0:Int)=(n:Int))=True:=ra hz.symm;simp only[eZ,seval,c0,Xl,bn,hz',by',Tgw,Lk,r1,ra hrd,ra hfw,AG];refine fin.mono λb H' m' h=>?_
   simp only[eE,eN,seval,Og];exact h
  ·have hz':((L.length:Int)=(n:Int))=True:=ra zo;simp only[eZ,seval,Xl,bn,hz',by',Tgw,Lk,r1,ra hrd,ra hfw,AG];refine fin.mono λb H' m' h=>?_
   simp only[eE,eN,seval,Og];exact h
 |j+1,L,lv,F,D,H,m,hL,hgv,hJ,hF,hC,hA=>by
  have hLn:((L.length:Int)=(n:Int))=False:=ri zo;have hLn0:L=[]->((0:Int)=(n:Int))=False:=λe=>by subst e;exact ri (by simp at hL;omega)
  have hfw:An L:=by show L.length<_;omega
  refine Xl.a (AI Y4 (AJ ?_));obtain⟨k1,k2,k3,k4,bn,by',bm,bg⟩:=hC;have hend:MO M j L M=Ib M (j+1) L:=rfl;have hnr:∀c cs,AD H c=some (.box cs)->Rf lv≠some c:=λc cs hb hr=>by
   rcases hgv with⟨rfl,-⟩|⟨id,rest,rfl,-,h3⟩
   ·cases hr
   ·obtain rfl:=Option.some.inj hr;rw[hb]at h3;cases h3
  have hgv0:=hgv;rcases hgv with⟨ev,e2⟩|⟨id,rest,ev,h2,h3⟩
  case' inl=>
   have hz':=hLn0 e2;simp only[eZ,seval,c0,Xl,bn,hz',bm,ev];rw[<-ev]
  case' inr=>
   simp only[eZ,seval,Xl,bn,hLn,bm,ev];rw[<-ev]
  all_goals
   refine AO (λv:VGr=>⟨[(0,true,lv),(4,true,.ptr cg 0),(16,true,.int .i64 M),(17,true,.int .i64 v.i)],v.H,v.n⟩) (IGr J M j L lv D F H m) (λv=>M-v.i)
    ⟨0,F,H,m⟩ rfl ⟨rm _,λi h=>h,λi h=>.inl h,hF,by
     show J F (D++MO M j L 0) H m;rw[show MO M j L 0=[]from rfl,sE];exact hJ,hgv0,λi _ _=>rfl,rq _⟩ ?_
   rintro⟨i,F1,H1,n1⟩ ⟨hi,f1,f2,f3,hj1,gv1,kp1,hm1⟩;simp only at hi f1 f2 f3 hj1 gv1 kp1 hm1;by_cases c9:i<M;case neg=>
    obtain rfl:i=M:=zo
    simp only[eZ,seval,Ad c9];exact .inl ⟨rfl,F1,f1,f2,f3,by rw[<-hend];exact hj1,gv1,kp1,hm1⟩
   have e:=AK (k:=i) zo;have hrd:=gv1.rd;have r1:=I6 hrd;have hsu:=O4 M j L i;have hpre:D++MO M j L (i+1)<+:A:=by
    refine dh (b:=Ib M (j+1) L) ?_ hA;rw[<-hend];have:=VR M j L (i+1) (M-(i+1))
    rwa[show i+1+(M-(i+1))=M by omega]at this
   cases wg:L.contains (i:Int)with
   |true=>
    rw[wg,rt rfl,sE]at hsu;simp only[eZ,eX,seval,re,rf,AN c9,Tgw,Cu,r1,ra hrd,ra hfw,wg,re,VP,Rj,Y0,M5,Y2,e,AG];exact .mk ⟨i+1,F1,H1,n1+13⟩ rfl ⟨c9,f1,f2,λx h=>by have:=f3 x h;simp only[];omega,by simp only[hsu];exact G.frame _ _ _ _ _ _ _ hj1 (λi h=>.inl h) (λ_ _=>rfl) (λx hx=>G.fr _ _ _ _ hj1 x (by have hx':n1+13<=x:=hx;omega)) zo,gv1,kp1,zp⟩ zp
   |false=>
    rw[wg,rj zd]at hsu;rw[hsu,<-sJ]at hpre;have c1:AD H1 cg=some (.box [.fn (.func 132) [] [.ptr cn 0,.ptr cy 0,.ptr cm 0,.ptr cg 0]]):=by rw[kp1 cg k4 (hnr _ _ bg)];exact bg
    have xg:=G.fr _ _ _ _ hj1;simp only[eZ,eX,seval,rf,AN c9,Tgw,Cu,r1,ra hrd,ra hfw,wg,rf,VP,Rj,Yz,c1,AG];refine lh gv1 zo (xg _ zo) λz rest' hz=>?_
    have hzn:z<n1+13:=by
     rcases hz with rfl|⟨-,h⟩
     ·omega
     ·have:=f3 z h;omega
    simp only[eE,seval,KM,Y1,M5];have wp:AP (hset H1 z (.arr 1 (((L++[(i:Int)])++rest').map eI))) (n1+13):=xg.hset zo hzn;have hL':(L++[(i:Int)]).length+j=n:=by simp;omega
    have hg2:GV (hset H1 z (.arr 1 (((L++[(i:Int)])++rest').map eI))) (.ref z 1 0 (L++[(i:Int)]).length ((L++[(i:Int)]).length+rest'.length)) (L++[(i:Int)]) (λx=>F1 x\/x=z):=.inr ⟨z,rest',rfl,.inr rfl,AC ..⟩;have hj2:J (λx=>F1 x\/x=z) (D++MO M j L i) (hset H1 z (.arr 1 (((L++[(i:Int)])++rest').map eI))) (n1+13):=by
     refine G.frame _ _ _ _ _ _ _ hj1 (λx h=>?_) (λx h=>?_) wp zo
     ·grind
     ·exact AA _ _ _ _ (λe=>h (.inr e.symm))
    have hbx:∀c cs,F c->AD H c=some (.box cs)->AD (hset H1 z (.arr 1 (((L++[(i:Int)])++rest').map eI))) c=some (.box cs):=λc cs hc hb=>by
     have s6:z≠c:=λe=>by
      subst e;rcases hz with rfl|⟨h,-⟩
      ·have:=f3 _ (f1 _ hc);omega
      ·exact hnr _ _ hb (by rw[h];rfl)
     rw[AA _ _ _ _ s6,kp1 c hc (hnr c cs hb)];exact hb
    have hF2:∀x,(F1 x\/x=z)->x<n1+13:=λx h=>by
     rcases h with h|rfl
     ·have:=f3 x h;omega
     ·exact hzn
    refine(Y5 G hM hn cn cy cm cg j (L++[(i:Int)]) _ (λx=>F1 x\/x=z) (D++MO M j L i) _ (n1+13) hL' hg2 hj2 hF2
     ⟨.inl (f1 _ k1),.inl (f1 _ k2),.inl (f1 _ k3),.inl (f1 _ k4),hbx _ _ k1 bn,hbx _ _ k2 by',hbx _ _ k3 bm,hbx _ _ k4 bg⟩ hpre).mono ?_
    rintro o H3 n3 (⟨rfl,F3,g1,g2,g3,hj3,gv3,kp3,hm3⟩|⟨rfl,hS⟩)
    ·simp only[eZ,seval,re,VQ,re,e];refine .mk ⟨i+1,F3,H3,n3⟩ rfl ⟨c9,λx h=>g1 x (.inl (f1 x h)),λx h=>?_,g3,by simp only[hsu];rw[<-sJ];exact hj3,?_,λx h s6=>?_,zp⟩ zp
     ·grind
     ·rcases gv1 with⟨h1,h2⟩|⟨id1,rest1,h1,h2,h3⟩
      ·exact .inl ⟨h1,h2⟩
      ·right;by_cases hzz:z=id1
       ·subst hzz;rcases hz with hz|⟨hz,-⟩
        ·have:=f3 z h2;omega
        ·rcases gv3 with⟨h4,-⟩|⟨id3,rest3,h4,h5,h6⟩
         ·cases h4
         ·simp only[Fs.ref.injEq]at h4;obtain⟨rfl,-,-,-,h7⟩:=h4;rw[h1]at hz;simp only[Fs.ref.injEq]at hz;refine⟨z,(i:Int)::rest3,?_,h5,?_⟩
          ·rw[h1];simp only[sm,sC,tn]at h7⊢;congr 1;omega
          ·rw[h6];simp
       ·refine⟨id1,rest1,h1,g1 _ (.inl h2),?_⟩;rw[kp3 id1 (.inl h2) (λe=>hzz (Option.some.inj e)),AA _ _ _ _ hzz];exact h3
     ·have hxz:z≠x:=λe=>by
       subst e;rcases hz with rfl|⟨hz,-⟩
       ·have:=f3 _ (f1 _ h);omega
       ·exact s6 (by rw[hz];rfl)
      rw[kp3 x (.inl (f1 x h)) (λe=>hxz (Option.some.inj e)),AA _ _ _ _ hxz];exact kp1 x h s6
    ·simp only[eZ,seval,rf,VQ,rf];exact .inr ⟨rfl,hS⟩
theorem VS{l':Nat}{J:(Nat->Prop)->List (List Int)->AB->Nat->Prop}{S:AB->Nat->Prop}{M:Nat}(G:Gen (Gs M n) l' J S)(hM:M<=1000)(hn:n<=1000){cn cm:Nat}
  (hJ:J F [] H m) (hF:∀i,F i->i<m) (fn:F cn) (fm:F cm) (bn:AD H cn=some (.box [.int .i64 n])) (bm:AD H cm=some (.box [.int .i64 M])):
  AV prog 131 [.fn (.yield l') [] [],.ptr cn 0,.ptr cm 0] H m λo H' m'=>o= .ret (.tup [])/\((∃F':Nat->Prop,(∀i,F i->F' i)/\(∀i,F' i->F i\/m<=i)/\J F' (Gs M n) H' m')\/S H' m'):=by
 have hf:=G.fr _ _ _ _ hJ;have x1:=hf.lt bn;have x2:=hf.lt bm;refine c131.a (AI AH.tnil (AJ ?_));simp only[eE,eN,seval,c131,S1 hf,Bq hf,AQ];have wp:AP (hset (hset H m (.box [.fn (.yield l') [] []])) (m+1) (.box [.fn (.func 132) [] [.ptr cn 0,.ptr m 0,.ptr cm 0,.ptr (m+1) 0]])) (m+2):=(hf.hset (m:=m+2) zo zo).hset (rq _) zo;have hj2:=G.frame F (λx=>F x\/x=m\/x=m+1) [] H _ m (m+2) hJ (λx h=>by
  rcases h with h|h|h
  ·exact .inl h
  ·exact .inr zo
  ·exact .inr zo) (λx h=>by
   rw[AA _ _ _ _ (λe=>h (.inr (.inr e.symm))),AA _ _ _ _ (λe=>h (.inr (.inl e.symm)))]) wp zo
 refine(Y5 G hM hn cn m cm (m+1) n [] (.sl .nil []) (λx=>F x\/x=m\/x=m+1) [] _ (m+2) zw (.inl ⟨rfl,rfl⟩) hj2 (λx h=>by
  rcases h with h|h|h
  ·have:=hF x h;omega
  ·omega
  ·omega) ⟨.inl fn,.inr (.inl rfl),.inl fm,.inr (.inr rfl),?_,?_,?_,AC ..⟩ (List.prefix_refl _)).mono ?_
 ·grind [AA]
 ·rw[AA _ _ _ _ zo,AC]
 ·grind [AA]
 rintro o H' m' (⟨rfl,F',g1,g2,-,hj,-⟩|⟨rfl,hS⟩)
 ·simp only[eE,eN,BV];exact .inl ⟨F',λx h=>g1 x (.inl h),λx h=>by
   rcases g2 x h with(h|h|h)|h
   ·exact .inl h
   ·exact .inr zo
   ·exact .inr zo
   ·exact .inr zo,hj⟩
 ·simp only[eE,eN,BV];exact .inr hS
theorem Ll{M n:Int}(hf:AP H m):AV prog 83 [.int .i64 M,.int .i64 n] H m λo H' m'=>o= .ret (.fn (.func 131) [] [.ptr (m+1) 0,.ptr m 0])/\H'=hset (hset H m (.box [.int .i64 M])) (m+1) (.box [.int .i64 n])/\m'=m+3:=by
 refine c83.a (AI AH.tnil (AJ ?_));simp only[eE,eN,seval,c83,S1 hf,Bq hf]
theorem M6(m:Nat):∀n,(Kb m n).length<=m^n
 |0=>by simp [Kb]
 |n+1=>by
  have ih:=M6 m n;rw[Kb];have key:∀l:List (List Int),(l.flatMap λl=>(MI m l).map λs=>l++[s]).length<=l.length*m:=by
   intro l;induction l with
   |nil=>simp
   |cons x l ih=>
    rw[uJ,sm,r9,sC];have:(MI m x).length<=m:=by
     refine sO (tg ..) ?_;unfold B7;simp
    rw[tz];omega
  refine sO (key _) ?_;rw[Nat.pow_succ];exact u9 _ ih
theorem VT(m n:Nat):(Gs m n).length<=m^n:=by rw[Ml];exact M6 m n
end
abbrev clC(q1 q2:Nat):Fs:=.fn (.func 131) [] [.ptr q1 0,.ptr q2 0]
abbrev O5(f:Fs)(c:Nat):List (Nat×Bool×Fs):=[(2,true,.ptr c 0),(4,true,.sl .nil []),(6,true,f)]
structure AppL(f:Fs)(c L l':Nat)(F:Nat->Prop)(D:List (List Int))(H:AB)(m:Nat):Prop where
 fr:AP H m
 cl:c<L
 lm:L<m
 nc:¬F c
 nL:¬F L
 hc:∃tl E,AD H c=some (.box [.sl tl E])/\Wks E (D.map Am)/\DA 1 (L+1) H tl/\(tl.esz=1\/E=[])/\∀id e,tl= .own id e->¬F id
 hL:AD H L=some (.lp ⟨l',.ready,none,13,O5 f c, #[7],Ga,Gb⟩)
def Y6{A:List (List Int)}{f:Fs}{c L l':Nat}(hA:A.length<=1000000000):Gen A l' (AppL f c L l') (λ_ _=>False) where
 fr:=λF D H m h=>h.fr
 frame:=by
  rintro F F' D H H' m m' ⟨fr,cl,lm,nc,nL,⟨tl,E,hc,hE,ht,hz,p9⟩,hL⟩ hF hH hf hm;have n1:∀i,i<m->¬F i->¬F' i:=λi hi h h'=>(hF i h').elim h (λq=>zo)
  refine⟨hf,cl,zo,n1 _ zo nc,n1 _ zo nL,⟨tl,E,by rw[hH _ (n1 _ zo nc)];exact hc,hE,?_,hz,λid e he=>?_⟩,by rw[hH _ (n1 _ zo nL)];exact hL⟩
  ·rcases ht with rfl|rfl|⟨id,rfl,h1,h2⟩
   ·exact .inl rfl
   ·exact .inr (.inl rfl)
   ·exact .inr (.inr ⟨id,rfl,h1,by rw[hH _ (n1 _ (fr.lt h2) (p9 _ _ rfl))];exact h2⟩)
  ·subst he;rcases ht with h|h|⟨id',h,h1,h2⟩
   ·cases h
   ·cases h
   ·obtain⟨rfl,rfl⟩:id=id'/\e=1:=by injection h with a b;exact⟨a,b⟩
    exact n1 _ (fr.lt h2) (p9 _ _ rfl)
 yld:=by
  rintro F D x H m R ⟨fr,cl,lm,nc,nL,⟨tl,E,hc,hE,ht,hz,p9⟩,hL⟩ hF hA' hR -;have hlen:D.length<1000000000:=by
   obtain⟨t,rfl⟩:=hA';simp at hA;omega
  have hEl:E.length=D.length:=by have:=hE.len;rw[r9]at this;exact this
  refine qG hL rfl (AI AH.tnil (AJ ?_));simp only[eE,eN,seval,Qy,Gl,um,uu,tM,uO];refine⟨_,hL,rfl,AI AH.tnil (AJ ?_)⟩;have y1:∀k,(L=m+k)=False:=λk=>ri zo
  have y2:(L=c)=False:=ri zo;have y3:(c=L)=False:=ri zo;have ht':DA 1 (L+1) (hset H L (.lp ⟨l',.busy,none,13,O5 f c, #[7],Ga,Gb⟩)) tl:=ht.set (.inl zo);have hf':AP (hset H L (.lp ⟨l',.busy,none,13,O5 f c, #[7],Ga,Gb⟩)) m:=fr.hset (rq _) lm;generalize hH1:hset H L (.lp ⟨l',.busy,none,13,O5 f c, #[7],Ga,Gb⟩)=H1 at ht' hf'⊢;have hc1:AD H1 c=some (.box [.sl tl E]):=by rw[<-hH1,AA _ _ _ _ zo];exact hc
  have hL1:AD H1 L=some (.lp ⟨l',.busy,none,13,O5 f c, #[7],Ga,Gb⟩):=by rw[<-hH1,AC]
  have hk1:∀i,i≠L->AD H1 i=AD H i:=λi hi=>by rw[<-hH1,AA _ _ _ _ hi.symm]
  clear hH1;have q1:BH H1 1 tl=True:=ra ht'.app;have q2:(E.length<=35184372088831)=True:=ra zo;have q3:Al (E.length+1) 24=True:=ra (Ac zo zd);have y4:(m+3=c)=False:=ri zo;have y5:(m+3=L)=False:=ri zo;have kL:AD (AU H1 tl) L=AD H1 L:=Af ht' (.inl zo);have kc:AD (AU H1 tl) c=AD H1 c:=Af ht' (.inl zo);simp only[eE,eN,seval,Qx,hc1,y4,q1,q2,q3,Bq hf',kc];have ef:=hf'.lt hc1;refine⟨⟨l',.busy,none,13,O5 f c, #[7],Ga,Gb⟩,by simp only[AT,y3,y5,sG];rw[kL,hL1],hR _ _ ⟨?_,cl,zp,nc,nL,⟨.own (m+3) 1,E++[Am x],?_,?_,.inr (.inr ⟨m+3,rfl,zo,?_⟩),.inl rfl,?_⟩,by simp only[AT,t8]⟩ ?_ zp⟩
  ·refine AP.hset (AP.hset (AP.hset (Ab ht' hf') ?_ ?_) (rq _) ?_) (rq _) ?_<;>simp only[]<;>omega
  ·simp only[AT,y2,sG,t8]
  ·rw[rz];exact hE.app (.cons (Wk.refl _) .nil)
  ·simp_all [AT]<;>omega
  ·rintro id e he hFi;cases he;have:=hF _ hFi;omega
  ·intro i hi;have xo:=hF _ hi;have h1:L≠i:=λe=>nL (e▸hi)
   have h2:c≠i:=λe=>nc (e▸hi)
   simp only[AT];rw[rj h1,rj h2,rj zo];have hk:AD (AU H1 tl) i=AD H1 i:=by
    rcases ht' with rfl|rfl|⟨id,rfl,-,-⟩
    ·rfl
    ·rfl
    ·simp only[AU];exact AA _ _ _ _ λe=>p9 _ _ rfl (e▸hi)
   rw[hk,hk1 i (Ne.symm h1)]
def di{H:AB}{m cm cn:Nat}{M n:Nat}(hf:AP H m)(hM:M<=1000)(hn:n<=1000)(hA:M^n<=1000000000)(bn:AD H cn=some (.box [.int .i64 n]))(bm:AD H cm=some (.box [.int .i64 M])):
  AV prog 130 [.sl .nil [],clC cn cm] H m λo H' m'=>∃tl E,o= .ret (.sl tl E)/\Wks E ((Gs M n).map Am)/\(tl.esz=1\/E=[]):=by
 have x1:=hf.lt bn;have x2:=hf.lt bm;refine a130 (AI AH.tnil (AJ ?_));simp only[eE,eN,seval,c130,S1 hf,GB];intro l';generalize hH1:hset (hset H m (.box [.sl .nil []])) (m+2) _=H1;have k1:∀i,i≠m->i≠m+2->AD H1 i=AD H i:=λi h1 h2=>by
  rw[<-hH1,AA _ _ _ _ h2.symm,AA _ _ _ _ h1.symm]
 have hJ:AppL (clC cn cm) m (m+2) l' (λi=>i=cn\/i=cm) [] H1 (m+3):=by
  refine⟨λj hj=>by rw[k1 j zo zo];exact hf j zo,zo,zo,λh=>zo,λh=>zo,⟨.nil,[],?_,.nil,.inl rfl,.inr rfl,λ_ _ e=>by cases e⟩,?_⟩
  ·rw[<-hH1,AA _ _ _ _ zo,AC]
  ·rw[<-hH1,AC]
 refine(VS (Y6 (A:=Gs M n) (sO (VT M n) hA)) hM hn hJ (λi h=>zo) (.inl rfl) (.inr rfl) (by rw[k1 cn zo zo];exact bn) (by rw[k1 cm zo zo];exact bm)).mono ?_;rintro o H' m' ⟨rfl,⟨F',-,hF,hj⟩|hF⟩
 ·obtain⟨fr,cl,lm,nc,nL,⟨tl,E,hc,hE,ht,hz,-⟩,hL⟩:=hj;have y1:(m+2=m)=False:=ri zo;simp only[eE,eN,seval,GA,hL,hc,y1];exact⟨tl,E,rfl,hE,hz⟩
 ·exact hF.elim
def dk{H:AB}{m cm cn:Nat}{M n:Nat}(hf:AP H m)(hM:M<=1000)(hn:n<=1000)(hA:M^n<=1000000000)(bn:AD H cn=some (.box [.int .i64 n]))(bm:AD H cm=some (.box [.int .i64 M])):
  AV prog 82 [clC cn cm] H m λo H' m'=>∃tl E,o= .ret (.sl tl E)/\Wks E ((Gs M n).map Am)/\(tl.esz=1\/E=[]):=by
 refine c82.a (AI AH.tnil (AJ ?_));simp only[eE,eN,seval,c82];refine(di hf hM hn hA bn bm).mono ?_;rintro o H' n' ⟨tl,E,rfl,h1,h2⟩;simp only[eE,eN,seval,BV];exact⟨tl,E,rfl,h1,h2⟩
def CP{k:zx}(h:BM k=0):0<k.d.syms.length/\k.d.syms.length<=16:=by
 have h1:JH k=true:=by
  unfold BM at h;split at h
  ·assumption
  ·cases h
 obtain⟨x,cells,-,h3,-,h4⟩:=Ms (RY h1);have h5:k.d=x:=by rw[h4];rfl
 rw[<-h5]at h3;unfold D2 at h3;split at h3
 ·cases h3
 ·simp_all [KV,rl,rn]
def F2(k:zx)(n:Int):Fs:=if BM k≠0 then .tup [.sl .nil [],.int .i64 (BM k)]else if n<0\/3<n then .tup [.sl .nil [],.int .i64 1]else .tup [.sl (.none 1) ((Gs k.d.syms.length n.toNat).map Am),.int .i64 0]
def rO:Bc:=AG 43 (s1 B2 (λk=>zk k.d) λk=>.int .i64 (BM k)) tnil
def Y7:AH prog rO:=AH.tnil.add (q1 λk h=>p43 k h)
def p46(k:zx)(n:Int)(h1:zk k.d):Aw prog 46 [A5 k,.int .i64 n] (F2 k n):=by
 have u1:B2.ok (.agg (AF k))=True:=CC k;have u2:B2.dec (.agg (AF k))=k:=Bm k;simp only[AF,AE,AL,si,sj]at u1 u2;refine .mk ⟨Aj 0 k,zt,zt⟩ ?_ (c46.a (AI Y7 (AJ ?_)))
 ·unfold F2;split
  ·exact⟨⟨zt,zt⟩,zt,zt⟩
  ·split
   ·exact⟨⟨zt,zt⟩,zt,zt⟩
   ·exact⟨⟨zt,Ay (λl=>AZ 0 l) _⟩,zt,zt⟩
 unfold F2;by_cases hk:BM k=0;case neg=>simp only[eZ,seval,rf,c46,AF,AE,AL,rO,s1,u1,u2,ra h1,ri hk,AG];exact Wk.refl _
 by_cases hn0:n<0
 ·simp only[eZ,seval,re,c46,AF,AE,AL,rO,s1,u1,u2,ra h1,ra hk,ra hn0,AG];exact Wk.refl _
 by_cases hn3:3<n
 ·simp only[eZ,seval,re,c46,AF,AE,AL,rO,s1,u1,u2,ra h1,ra hk,ri hn0,ra hn3,AG];exact Wk.refl _
 obtain⟨n',rfl⟩:=tQ (Int.not_lt.1 hn0);have hsy:=CP hk;simp only[eZ,seval,re,eY,c46,AF,AE,AL,rO,s1,u1,u2,ra h1,ra hk,ri hn0,ri hn3,AG];generalize hH:hset Ai 0 (xq.box _)=H;have hf:AP H 3:=by rw[<-hH];exact AP.nil.hset (m:=3) (rm _) zd
 refine(Ll (M:=k.d.syms.length) (n:=n') hf).mono ?_;rintro o H1 n1 ⟨rfl,rfl,rfl⟩;simp only[eE,seval,BV];have hpow:k.d.syms.length^n'<=1000000000:=by
  refine sO (Nat.pow_le_pow_left hsy.2 n') (sO (Nat.pow_le_pow_right zd (show n'<=3 by omega)) zd)
 refine(dk (M:=k.d.syms.length) (n:=n') ((hf.hset (m:=6) zo zo).hset (rq _) zo) zo zo hpow (AC ..) (by rw[AA _ _ _ _ zo,AC])).mono ?_;rintro o H2 n2 ⟨tl,E,rfl,hE,hz⟩;simp only[eE,eN,seval,BV];exact Wk.tup (.cons (Wk.slx hz hE) (.cons (Wk.refl _) .nil))
end Go.AM
