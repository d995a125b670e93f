/-
  Parts of the proof. Conditions: none.
-/
import Derived.Test.YtncahiacfdihpaaGreatDoorB12
set_option maxRecDepth 20000
set_option linter.all false
namespace Go.AM
open Go.Lib Go.Proofs Go.Proofs.Tryz
section
abbrev clM(q:Nat):Fs:=.fn (.func 292) [] [.ptr q 0]
abbrev eApM(q c:Nat):List (Nat×Bool×Fs):=[(2,true,.ptr c 0),(4,true,.sl .nil []),(6,true,clM q)]
structure ApM(q c L l':Nat)(H0:AC)(n0:Nat)(qs:List Int)(H:AC)(m:Nat):Prop where
 fr:AQ H m
 lc:n0<=c
 cl:c<L
 lm:L<m
 hc:∃lv,hget H c=some (.box [lv])/\LvG eI 1 (L+1) H lv qs
 hL:hget H L=some (.lp ⟨l',.ready,none,13,eApM q c, #[7],Ee,Ef⟩)
 kp:∀id ob,id<n0->hget H0 id=some ob->hget H id=some ob
variable {H:AC} {q clk n mp:Nat}
theorem y_apM{c L l':Nat}{H0:AC}{n0:Nat}{qs:List Int}{m:Nat}(F:ApM q c L l' H0 n0 qs H m)(x:Int)(hs:qs.length<1000000000){R:Bool->AC->Nat->Prop}
  (hR:∀H' m',ApM q c L l' H0 n0 (qs++[x]) H' m'->(∀j ob,j<m->j≠c->j≠L->(∀e Z,ob≠ .arr e Z)->hget H j=some ob->hget H' j=some ob)->m<=m'->R true H' m'):Bw prog l' [eI x] H m R:=by
 obtain⟨fr,lc,cl,lm,⟨lv,hc,l5⟩,hL,kp⟩:=F;refine UW hL rfl (AF AI.tnil (AG ?_));simp only[eE,eN,seval,Jc,renv,Yj,Ym,XM,Yz];refine⟨_,hL,rfl,AF AI.tnil (AG ?_)⟩;have y1:∀k,(L=m+k)=False:=λk=>W4 zo
 have y2:(L=c)=False:=W4 zo;have y3:(c=L)=False:=W4 zo;simp only[eE,seval,Jb,hc,y2];have g1:∀k,hget (hset H L (.lp ⟨l',.busy,none,13,eApM q c, #[7],Ee,Ef⟩)) (m+k)=none:=λk=>by rw[AA _ _ _ _ zo];exact fr1 fr k
 refine ML (enc:=eI) (lo:=L+1) (qs:=qs) (z0:=0) ?_ rfl zd rfl rfl (AX zo zd) (g1 3) zo zo ?_
 ·rcases l5 with h|⟨d8,id,rest,h1,h2,h3⟩
  ·exact .inl h
  ·exact .inr ⟨d8,id,rest,h1,h2,by rw[AA _ _ _ _ zo];exact h3⟩
 intro id rest hlo d6;have hidm:id<m+5:=by
  rcases d6 with rfl|⟨Z,h⟩
  ·omega
  ·apply Classical.byContradiction;intro z;obtain⟨k,rfl⟩:∃k,id=m+k:=⟨id-m,zo⟩;rw[g1]at h;cases h
 have hida:∀j ob,j<m->j≠L->(∀e Z,ob≠ .arr e Z)->hget H j=some ob->j≠id:=by grind [AA]
 have z1:(id=L)=False:=W4 zo;have z2:(id=c)=False:=W4 zo;have z3:(L=id)=False:=W4 zo;have z4:(c=id)=False:=W4 zo;have hidn:¬id<n0:=zo
 simp only[eE,eN,seval,Ec,z2,y2,hc];refine⟨⟨l',.busy,none,13,eApM q c, #[7],Ee,Ef⟩,by simp only[AK,y3,z1,X4,Xi],hR _ _ ⟨?_,lc,cl,zp,⟨_,by simp only[AK,y2,X4,Xi],.inr ⟨zw,id,rest,rfl,hlo,by simp only[AK,z3,z4,X4,Xi]⟩⟩,by simp only[AK,Xi],?_⟩ ?_ (Xn _ _)⟩
 ·intro j hj;have hj':m+5<=j:=hj;simp only[AK];repeat rw[W7 zo]
  exact fr j zo
 ·intro j ob hj h0;simp only[AK];repeat rw[W7 zo]
  exact kp j ob hj h0
 ·intro j ob hj hjc hjL hob h0;have:=hida j ob hj hjL hob h0;simp only[AK];repeat rw[W7 zo]
  exact h0
theorem ApM.it{c L l':Nat}{H0:AC}{n0:Nat}{qs:List Int}{m it:Nat}{ob ob':Zk}(F:ApM q c L l' H0 n0 qs H m)(h1:n0<=it)(h2:it≠c)(h3:it≠L)(h4:it<m)(h5:hget H it=some ob)(h6:∀e Z,ob≠ .arr e Z):ApM q c L l' H0 n0 qs (hset H it ob') m:=by
 obtain⟨fr,lc,cl,lm,⟨lv,hc,l5⟩,hL,kp⟩:=F;refine⟨fr.hset (W8 _) h4,lc,cl,lm,⟨lv,by rw[AA _ _ _ _ h2];exact hc,?_⟩,by rw[AA _ _ _ _ h3];exact hL,λj o hj h0=>by rw[AA _ _ _ _ zo];exact kp j o hj h0⟩;rcases l5 with h|⟨d8,id,rest,k1,k2,k3⟩
 ·exact .inl h
 ·exact .inr ⟨d8,id,rest,k1,k2,by rw[AA _ _ _ _ (λe=>by subst e;rw[h5]at k3;cases k3;exact h6 _ _ rfl)];exact k3⟩
theorem Gw{α:Type}[DecidableEq α]:∀{a b:List α},a.Nodup->(∀x∈a,x∈b)->a.length<=b.length
 |[],_,_,_=>We _
 |x::a,b,hn,h=>by
  rw[Yc]at hn;have hx:=h x (Xe ..);have:=Gw (b:=b.erase x) hn.2 λy hy=>(List.mem_erase_of_ne (λe=>hn.1 (by rw[<-e];exact hy))).2 (h y (Xy _ hy))
  rw[List.length_erase_of_mem hx]at this;have:=List.length_pos_of_mem hx;simp only[Ww];omega
abbrev Ent:=Fs×Fs×Nat
structure EsOK(es:List Ent)(clk:Nat):Prop where
 key:∀e∈es,e.1=eI (toI e.1)
 nd:(es.map (·.2.2)).Nodup
 lt:∀e∈es,e.2.2<clk
def esK(es:List Ent):List Int:=es.map λe=>toI e.1
def LN(es:List Ent)(b:Nat):Int:=match es.find? (λe=>decide (e.2.2=b))with
 |some e=>toI e.1
 |none=>0
theorem PM{es:List Ent}(hn:(es.map (·.2.2)).Nodup){e:Ent}(he:e∈es):es.find? (λx=>decide (x.2.2=e.2.2))=some e:=by
 induction es with
 |nil=>cases he
 |cons x r ih=>grind
theorem PN{es:List Ent}(hn:(es.map (·.2.2)).Nodup){e:Ent}(he:e∈es):N2 e.2.2 es=some (e.1,e.2.1):=by
 induction es with
 |nil=>cases he
 |cons x r ih=>
  obtain⟨k,v,b⟩:=x;rw[Wu,Yc]at hn;rw[N2];rcases X7.1 he with rfl|he
  ·rw[Wg rfl]
  ·grind
theorem Jy{es:List Ent}(h:EsOK es clk){e:Ent}(he:e∈es):e.1=eI (LN es e.2.2):=by
 unfold LN;rw[PM h.nd he];exact h.key e he
theorem PO{es:List Ent}(h:EsOK es clk){seen:List Nat}(hn:seen.Nodup)(hs:∀b∈seen,b∈es.map (·.2.2))(hd:Fw es seen=[]):(seen.map (LN es)).Perm (esK es):=by
 have h1:seen.Perm (es.map (·.2.2)):=(Z4 hn h.nd).2 λb=>⟨hs b,λhb=>by
  obtain⟨e,he,rfl⟩:=Xh.1 hb;apply Classical.byContradiction;intro hns;have:e∈Fw es seen:=Y6.2 ⟨he,by simpa using hns⟩;rw[hd]at this;cases this⟩
 refine(h1.map (LN es)).trans ?_;rw[Yo];have:es.map (LN es∘λx=>x.2.2)=esK es:=Xk λe he=>by
  have:=Jy h he;simp only[Function.comp];rw[this];rfl
 rw[this]
theorem SJ{es:List Ent}{seen:List Nat}{e:Ent}(h:e∈Fw es seen):(Fw es (seen++[e.2.2])).length<(Fw es seen).length:=by
 have e1:Fw es (seen++[e.2.2])=(Fw es seen).filter λx=>decide (x.2.2≠e.2.2):=by grind [Fw,List.filter_filter]
 rw[e1,List.length_filter_lt_length_iff_exists];exact⟨e,h,zw⟩
structure VKm where
 seen:List Nat
 H:AC
 n:Nat
structure IKm(es:List Ent)(clk q n mp l':Nat)(H:AC)(v:VKm):Prop where
 F:ApM q n (n+2) l' H n (v.seen.map (LN es)) v.H v.n
 it:hget v.H (n+4)=some (.mit mp clk v.seen clk)
 lt:n+4<v.n
 nd:v.seen.Nodup
 rg:∀b∈v.seen,b∈es.map (·.2.2)
theorem t_apM{es:List Ent}(ho:EsOK es clk)(hl:es.length<1000000)(hf:AQ H n)(hq:hget H q=some (.box [.mp mp]))(hm:hget H mp=some (.map es clk)):
  AP prog 303 [.sl .nil [],clM q] H n λo H' n'=>∃lv qs,o= .ret lv/\qs.Perm (esK es)/\LvG eI 1 (n+3) H' lv qs/\AQ H' n'/\n<=n'/\∀id ob,id<n->hget H id=some ob->hget H' id=some ob:=by
 have hqn:=hf.lt hq;have hmn:=hf.lt hm;refine a303 (AF AI.tnil (AG ?_));simp only[eE,eN,seval,c303,fr0 hf,FE];intro l';generalize hH1:hset (hset H n (.box [.sl .nil []])) (n+2) _=H1;have F0:ApM q n (n+2) l' H n [] H1 (n+3):=by
  subst hH1;refine⟨λj hj=>?_,W8 _,zo,zo,⟨.sl .nil [],?_,.inl ⟨rfl,rfl⟩⟩,AB ..,λj ob hj h0=>?_⟩
  ·simp only[AK];repeat rw[W7 zo]
   exact hf j zo
  ·simp only[AK];rw[W7 zo,Wg trivial]
  ·simp only[AK];repeat rw[W7 zo]
   exact h0
 have w9:hget H1 n=some (.box [.sl .nil []]):=by
  subst hH1;simp only[AK];rw[W7 zo,Wg trivial]
 clear hH1;have hq1:=F0.kp q _ hqn hq;have hm1:=F0.kp mp _ hmn hm;have hfn:=fr1 F0.fr;refine c292.a (AF AI.tnil (AG ?_));simp only[eE,eN,seval,xE,c292,hq1,hm1];refine⟨hfn 1,?_⟩;refine AL (λv:VKm=>⟨[(0,true,.fn (.yield l') [] []),(5,true,.ptr (n+4) 0)],v.H,v.n⟩) (IKm es clk q n mp l' H) (λv=>(Fw es v.seen).length) ⟨[],hset H1 (n+4) (.mit mp clk [] clk),n+5⟩ rfl
  ⟨⟨F0.fr.hset (m:=n+5) zo zo,W8 _,zo,zp,⟨.sl .nil [],by rw[AA _ _ _ _ zo];exact w9,.inl ⟨rfl,rfl⟩⟩,by rw[AA _ _ _ _ zo];exact F0.hL,λj o hj h0=>by rw[AA _ _ _ _ zo];exact F0.kp j o hj h0⟩,AB ..,zp,Za,λb hb=>(by cases hb)⟩ ?_
 rintro⟨seen,H2,m⟩ ⟨F,hit,c5,hnd,hrg⟩;simp only at F hit c5 hnd hrg;have hsl:seen.length<=es.length:=by
  have:=Gw hnd hrg;simpa using this
 have u0:=F.kp mp _ hmn hm;have hq2:=F.kp q _ hqn hq;simp only[eE,eC,seval];rw[Vy hit u0];refine⟨W8 _,λe he=>ho.lt e he,λhnil=>?_,λe he=>?_⟩
 ·have hp:=PO ho hnd hrg hnil;obtain⟨fr,lc,cl,lm,⟨lv,hc,l5⟩,hL,kp⟩:=F;have y1:(n+2=n)=False:=W4 zo;simp only[eZ,seval,eY,FD,hL,hc,y1];refine⟨lv,_,rfl,hp,?_,fr.hset (W8 m) (show n+2<m by omega),zo,λid ob d6 h0=>by rw[W7 zo];exact kp id ob d6 h0⟩;rcases l5 with h|⟨d8,id,rest,h1,h2,h3⟩
  ·exact .inl h
  ·exact .inr ⟨d8,id,rest,h1,h2,by rw[AA _ _ _ _ zo];exact h3⟩
 ·obtain⟨he1,he2⟩:=Y6.1 he;have b2:=Jy ho he1;have b3:=PN ho.nd he1;have hns:e.2.2∉seen:=by simpa using he2
  have hst:KD (hset H2 (n+4) (.mit mp clk (seen++[e.2.2]) clk)) mp (seen++[e.2.2])=some (e.1,e.2.1):=by grind [KD,AA,List.getLast?_concat]
  have y0:(n+4=mp)=False:=W4 zo;simp only[eZ,seval,xE,eY,y0,u0,hst,b2];refine y_apM (F.it zo zo zo c5 hit zw) (LN es e.2.2) (by rw[W0];omega) λH' m' F' hk hmm=>?_
  simp only[eZ,seval,W3,yldK];refine⟨⟨seen++[e.2.2],H',m'⟩,.inr ⟨?_,.inl ⟨rfl,rfl⟩⟩,⟨by simp only[Wh,Wu,X5];exact F',hk _ _ c5 zo zo zw (AB ..),zp,?_,λb hb=>?_⟩,SJ he⟩
  ·exact⟨⟨_,rfl,Wk.refl _⟩,⟨_,rfl,Wk.refl _⟩,trivial⟩
  ·grind
  ·grind
theorem U7{es:List Ent}(ho:EsOK es clk)(hl:es.length<1000000)(hf:AQ H n)(hq:hget H q=some (.box [.mp mp]))(hm:hget H mp=some (.map es clk)):
  AP prog 277 [clM q] H n λo H' n'=>∃lv qs,o= .ret lv/\qs.Perm (esK es)/\LvG eI 1 (n+3) H' lv qs/\AQ H' n'/\n<=n'/\∀id ob,id<n->hget H id=some ob->hget H' id=some ob:=by
 refine c277.a (AF AI.tnil (AG ?_));simp only[eE,eN,seval,c277];refine(t_apM ho hl hf hq hm).mono ?_;rintro o H' n' ⟨lv,qs,rfl,h1,h2,h3,h4,h5⟩;simp only[eE,eN,seval,retK];exact⟨lv,qs,rfl,h1,h2,h3,h4,h5⟩
theorem PP{a b:List Int}(h:a.Perm b):a.mergeSort leI=b.mergeSort leI:=by
 refine List.Perm.eq_of_pairwise (le:=λx y=>x<=y) (λx y _ _ h k=>zo) (Fd a) (Fd b) ?_;exact(Yh a leI).trans (h.trans (Yh b leI).symm)
theorem t_srtM{es:List Ent}(ho:EsOK es clk)(hl:es.length<1000000)(hf:AQ H n)(hq:hget H q=some (.box [.mp mp]))(hm:hget H mp=some (.map es clk)):
  AP prog 242 [clM q] H n (QRet H (eIs ((esK es).mergeSort leI))):=by
 have hel:(esK es).length=es.length:=W0 ..;refine AP.out (AP.seal (R:=SrA (.arr 1) H (esK es)) (R':=SrA (.frz 1) H (esK es)) (c242.a (AF AI.tnil (AG ?_))) ?_) ?_
 ·simp only[eE,eN,seval,c242];refine(U7 ho hl hf hq hm).mono ?_;rintro o H1 n1 ⟨lv,qs,rfl,hp,l5,hf1,j8,hk⟩;simp only[eE,eN,seval,retK];have hK:B5 H H1:=λid ob h0=>hk id ob (hf.lt h0) h0
  have hql:=hp.length_eq;rcases l5 with⟨rfl,rfl⟩|⟨d8,id,rest,rfl,h2,h3⟩
  ·refine LI.mono ?_;rintro o H2 n2 ⟨rfl,rfl,rfl⟩;simp only[eE,eN,seval,retK];exact⟨hK,.inl ⟨hp.nil_eq.symm,rfl⟩⟩
  ·refine(NN h3 zw zo).mono ?_;rintro o H2 n2 ⟨rfl,rfl,rfl⟩;rw[YT,List.drop_left];simp only[eE,eN,seval,retK];refine⟨λi ob h0=>?_,.inr ⟨λe=>d8 (Xg (by rw[hql,e];rfl)),id,rest,by rw[hql],hf _ zo,by rw[AB,PP hp]⟩⟩;rw[AA _ _ _ _ (λe=>by subst e;rw[hf _ zo]at h0;cases h0)];exact hK i ob h0
 ·rintro o H' n' ⟨hK,h⟩;rcases h with h|⟨d8,id,rest,h1,h2,h3⟩
  ·exact .inl ⟨hK,.inl h⟩
  ·refine .inr ⟨id,1,_,h3,λi ob h0=>?_,.inr ⟨d8,id,rest,h1,h2,AB ..⟩⟩;rw[AA _ _ _ _ (λe=>by subst e;rw[h2]at h0;cases h0)];exact hK i ob h0
 ·rintro o H' n' ⟨hK,h⟩;refine⟨.ret (eIs ((esK es).mergeSort leI)),⟨⟨_,rfl,Wk.refl _⟩,hK⟩,λg w e hR he=>?_⟩;have hL:∃lv,o= .ret lv/\LF 1 lv H' (((esK es).mergeSort leI).map eI):=by
   rcases h with⟨h0,rfl⟩|⟨hz,id,rest,rfl,h2,h3⟩
   ·exact⟨_,rfl,.inl ⟨by rw[h0,List.mergeSort_nil];rfl,_,rfl,.inl rfl⟩⟩
   ·refine⟨_,rfl,?_⟩;have hl2:=DC (esK es);refine .inr ⟨λq=>hz (by rw[List.map_eq_nil_iff]at q;rw[q]at hl2;exact XD.1 hl2.symm),id,(esK es).length+rest.length,rest.map eI,by rw[W0,hl2],by rw[h3,Wh],by simp [hl2]⟩
  obtain⟨lv,rfl,hL⟩:=hL;cases e with
  |returned v=>exact Iv hL hR he
  |panicked c=>exact he.elim
  |outgrown=>exact he.elim
theorem U8(hf:AQ H n):AP prog 254 [.mp mp] H n λo H' n'=>o= .ret (clM n)/\H'=hset H n (.box [.mp mp])/\n'=n+2:=by
 refine c254.a (AF AI.tnil (AG ?_));simp only[eE,eN,seval,c254,fr0 hf]
end
section
theorem PQ:∀{es:List Ent},Dn (.int .i64) es->∀e∈es,e.1=eI (toI e.1)
 |[],_,_,h=>by cases h
 |(k,v,b)::r,hf,e,h=>by
  obtain⟨h1,h2⟩:=hf;rcases X7.1 h with rfl|h
  ·cases k<;>simp only[KT.is]at h1;subst h1;rfl
  ·exact PQ h2 e h
theorem Jz{z:Int}{v:Fs}{c:Nat}:∀{es:List Ent},Dn (.int .i64) es->esK (mset (eI z) v c es)=(if(BN (eI z) es).isSome=true then esK es else esK es++[z])/\(mset (eI z) v c es).map (λe=>e.2.2)=if(BN (eI z) es).isSome=true then es.map (λe=>e.2.2)else es.map (λe=>e.2.2)++[c]
 |[],_=>⟨rfl,rfl⟩
 |(k,w,b)::r,hf=>by
  obtain⟨h1,h2⟩:=hf;have ih:=Jz (z:=z) (v:=v) (c:=c) h2;rw[mset,BN];by_cases q:ceq (eI z) k=true
  ·rw[Wg q,Wg q];exact⟨rfl,rfl⟩
  ·rw[W7 q,W7 q];refine⟨?_,?_⟩
   ·show toI k::esK (mset (eI z) v c r)=_;rw[ih.1];split<;>rfl
   ·rw[Wu,ih.2];split<;>rfl
theorem J0{z:Int}:∀{es:List Ent},Dn (.int .i64) es->((BN (eI z) es).isSome=true↔z∈esK es)
 |[],_=>by simp [BN,esK]
 |(k,w,b)::r,hf=>by
  obtain⟨h1,h2⟩:=hf;have ih:=J0 (z:=z) h2;cases k<;>simp only[KT.is]at h1;rename_i kk y;subst h1;rw[BN,show esK ((Fs.int .i64 y,w,b)::r)=y::esK r from rfl,X7];by_cases q:z=y
  ·subst q;simp [ceq]
  ·simp only[ceq,q,Z8,Ws,X4,false_or];exact ih
section
variable (g:Zs) (fn:Spot->Option Int)
def lnI(i:Nat)(z:Int):List Int:=idxP i λc=>decide (fn (spC g c)=some z)
variable {z:Int} {i:Nat}
theorem SK(h:fn (spC g i)=none)(z:Int):lnI g fn (i+1) z=lnI g fn i z:=by
 unfold lnI;rw[Cm,h,W7 zw]
theorem SL(h:fn (spC g i)=some z):lnI g fn (i+1) z=lnI g fn i z++[(i:Int)]:=by
 unfold lnI;rw[Cm,h,Wg zw]
theorem lnI_ne{w:Int}(h:fn (spC g i)=some z)(hw:w≠z):lnI g fn (i+1) w=lnI g fn i w:=by
 unfold lnI;rw[Cm,h,W7 (by simp;exact λe=>hw e.symm)]
theorem U9(i:Nat)(z:Int):(lnI g fn i z).length<=i:=Bt ..
theorem PR(z:Int):lnI g fn g.cells.length z=B0 (AT g.sh g.w g.cells) fn z:=by
 unfold lnI B0;rw[BH];refine Cc λc hc=>?_
 rw[DF hc,YZ]
structure LnE(lo i:Nat)(H:AC)(es:List Ent)(clk:Nat)(tk:Int->Nat):Prop where
 fit:Dn (.int .i64) es
 ok:EsOK es clk
 fnd:∀z,BN (eI z) es=if lnI g fn i z=[]then none else some (.sl (.own (tk z) 1) ((lnI g fn i z).map eI))
 tok:∀z,lnI g fn i z≠[]->lo<=tk z/\hget H (tk z)=some .tok
 inj:∀z w,lnI g fn i z≠[]->lnI g fn i w≠[]->tk z=tk w->z=w
 knd:(esK es).Nodup
 kmem:∀z,z∈esK es↔lnI g fn i z≠[]
 len:es.length<=i
variable {g fn} {lo i:Nat} {H H':AC} {es:List Ent} {clk:Nat} {tk:Int->Nat}
theorem LnE.skip(h:LnE g fn lo i H es clk tk)(hn:fn (spC g i)=none)(hk:∀z,lnI g fn i z≠[]->hget H' (tk z)=some .tok):LnE g fn lo (i+1) H' es clk tk:=by
 obtain⟨h1,h2,h3,h4,h5,h6,h7,h8⟩:=h;have e:=SK g fn hn;exact⟨h1,h2,λz=>by rw[e];exact h3 z,λz hz=>by rw[e]at hz;exact⟨(h4 z hz).1,hk z hz⟩,λz w hz hw=>by rw[e]at hz hw;exact h5 z w hz hw,h6,λz=>by rw[e];exact h7 z,zo⟩
theorem LnE.step(h:LnE g fn lo i H es clk tk)(hz:fn (spC g i)=some z){t:Nat}(hlo:lo<=t)(ht:hget H t=none)(ht':hget H' t=some .tok)(hk:∀w,lnI g fn i w≠[]->w≠z->hget H' (tk w)=some .tok):
  LnE g fn lo (i+1) H' (mset (eI z) (.sl (.own t 1) ((lnI g fn i z++[(i:Int)]).map eI)) clk es) (if(BN (eI z) es).isSome=true then clk else clk+1) (λw=>if w=z then t else tk w):=by
 obtain⟨h1,h2,h3,h4,h5,h6,h7,h8⟩:=h;have hs:=SL g fn hz;have d8:=λw=>lnI_ne g fn (w:=w) hz
 have hfit:=Hl (y:=z) (v:=.sl (.own t 1) ((lnI g fn i z++[(i:Int)]).map eI)) (c:=clk) h1;obtain⟨k1,k2⟩:=Jz (z:=z) (v:=.sl (.own t 1) ((lnI g fn i z++[(i:Int)]).map eI)) (c:=clk) h1;have hkey:=J0 (z:=z) h1;generalize d7:mset (eI z) (.sl (.own t 1) ((lnI g fn i z++[(i:Int)]).map eI)) clk es=es' at hfit k1 k2;have hlen:es'.length=if(BN (eI z) es).isSome=true then es.length else es.length+1:=by grind [List.length_map]
 refine⟨hfit,⟨PQ hfit,?_,λe he=>?_⟩,λw=>?_,λw hw=>?_,λw w' hw hw'=>?_,?_,λw=>?_,by rw[hlen];split<;>omega⟩
 ·rw[k2];split
  ·exact h2.nd
  ·rw[Y1];refine⟨h2.nd,zw,λa ha b hb=>?_⟩;rw[Xs.1 hb];obtain⟨e,he,rfl⟩:=Xh.1 ha;have:=h2.lt e he;omega
 ·have hm:e.2.2∈es'.map (λe=>e.2.2):=Xh.2 ⟨e,he,rfl⟩;rw[k2]at hm;split at hm
  ·rename_i q;obtain⟨e',he',e1⟩:=Xh.1 hm;rw[Wg q,<-e1];exact h2.lt e' he'
  ·rename_i q;rw[W7 q];rcases Xo.1 hm with hm|hm
   ·obtain⟨e',he',e1⟩:=Xh.1 hm;have:=h2.lt e' he';omega
   ·rw[Xs.1 hm];omega
 ·rw[<-d7,Hj h1];by_cases q:w=z
  ·subst q;rw[Wg rfl,Wg rfl,hs,W7 zw]
  ·rw[W7 q,W7 q,h3 w,d8 w q]
 ·grind
 ·grind
 ·grind
 ·rw[k1];by_cases q:w=z
  ·subst q;rw[hs];split
   ·rename_i p;exact⟨λ_=>zw,λ_=>hkey.1 p⟩
   ·exact⟨λ_=>zw,λ_=>zw⟩
  ·rw[d8 w q,<-h7 w];split
   ·exact Iff.rfl
   ·simp [q]
end
def resP(o:Option Int):Fs:=.tup [.int .i64 (o.getD 0),.bool o.isSome]
def rowP(cap:List Fs)(okH:AC->Prop)(okS:Spot->Prop)(fn:Spot->Option Int):List Fs->AC->Prop×Fs:=λa H=>match a with
 | .agg [.int .i64 x,.int .i64 y]::c=>(c=cap/\okH H/\okS (x,y),resP (fn (x,y)))
 |_=>(False,.tup [])
variable {H:AC} {f0:FuncId} {g:Zs} {cap:List Fs} {n:Nat} {fn:Spot->Option Int}
theorem rowPq{i4:FuncId}{okH:AC->Prop}{okS:Spot->Prop}(h:∀s H n,okS s->okH H->Am prog i4 (eSp s::cap) H n (resP (fn s))):∀args H n,(rowP cap okH okS fn args H).1->Am prog i4 args H n (rowP cap okH okS fn args H).2:=by
 intro args H n hh;unfold rowP at hh⊢;split at hh
 ·obtain⟨rfl,h1,h2⟩:=hh;exact h _ H n h2 h1
 ·exact hh.elim
def Ft(H0:AC)(n:Nat)(H:AC):Prop:=∀id ob,id<n->hget H0 id=some ob->hget H id=some ob
abbrev eLn(n:Nat):List (Nat×Bool×Fs):=[(3,true,.ptr (n+1) 0),(4,true,.sl .nil []),(5,true,.ptr (n+4) 0),(14,true,clG (n+6))]
structure LnF(g:Zs)(fn:Spot->Option Int)(bv:Fs)(H0:AC)(n l':Nat)(i:Nat)(H:AC)(m:Nat):Prop where
 fr:AQ H m
 lm:n+9<=m
 kp:Ft H0 n H
 h1:hget H (n+1)=some (.box [bv])
 h4:hget H (n+4)=some (.box [.mp (n+3)])
 hq:hget H (n+6)=some (.box (AD g.sh g.w g.h g.holes g.cells))
 hL:hget H (n+8)=some (.lp ⟨l',.ready,none,48,eLn n, #[15,16],FM,FN⟩)
 hm:∃es clk tk,hget H (n+3)=some (.map es clk)/\LnE g fn (n+9) i H es clk tk
theorem y_ln{H0:AC}{l' i:Nat}{T:Tab}(hT:AI prog T)(hTe:∀a H,T f0 a H=rowP cap (Ft H0 n) (λs=>s∈AT g.sh g.w g.cells) fn a H)
  (m5:g.cells.length<=256) (hi:i<g.cells.length) {m:Nat} (F:LnF g fn (.fn (.func f0) [] cap) H0 n l' i H m) {R:Bool->AC->Nat->Prop} (hR:∀H' m',LnF g fn (.fn (.func f0) [] cap) H0 n l' (i+1) H' m'->R true H' m'):
  Bw prog l' [.int .i64 i,eSp (spC g i)] H m R:=by
 obtain⟨fr,lm,kp,h1,h4,hq,hL,es,clk,tk,hm,hE⟩:=F;refine y222_0 hL rfl (AF AI.tnil (AG ?_));simp only[eE,eN,seval,ME,renv,Yj,Ym,XM,Yz,fr0 fr,AN];refine⟨_,(AA _ _ _ _ zo).trans hL,rfl,AF hT (AG ?_)⟩;have hmem:spC g i∈AT g.sh g.w g.cells:=XB (DF hi);have y1:(m=n+1)=False:=W4 zo;have y2:(n+8=n+1)=False:=W4 zo;have y3:(n+8=m)=False:=W4 zo;have hk:Ft H0 n (hset (hset H m (.box [.int .i64 (spC g i).1,.int .i64 (spC g i).2])) (n+8) (.lp ⟨l',.busy,none,48,eLn n, #[15,16],FM,FN⟩)):=λid ob d6 h0=>by
  rw[AA _ _ _ _ zo,AA _ _ _ _ zo];exact kp id ob d6 h0
 generalize hs:spC g i=s at hmem hk;have hmem':(s.1,s.2)∈AT g.sh g.w g.cells:=hmem;cases hfn:fn s with
 |none=>
  have hfn':fn (s.1,s.2)=none:=hfn;simp only[eZ,seval,eY,Hd,h1,y1,y2,y3,hTe,rowP,W1 hk,W1 hmem',hfn',resP];refine⟨⟨l',.busy,none,48,eLn n, #[15,16],FM,FN⟩,AB ..,hR _ _ ⟨?_,zp,λid ob d6 h0=>?_,?_,?_,?_,AB ..,es,clk,tk,?_,hE.skip (by rw[hs];exact hfn) λz hz=>?_⟩⟩
  ·exact((fr.hset (m:=m+2) zo zo).hset (m:=m+2) (W8 _) zo).hset (W8 _) (show n+8<m+2 by omega)
  ·rw[AA _ _ _ _ zo];exact hk id ob d6 h0
  ·repeat rw[AA _ _ _ _ zo]
   exact h1
  ·repeat rw[AA _ _ _ _ zo]
   exact h4
  ·repeat rw[AA _ _ _ _ zo]
   exact hq
  ·repeat rw[AA _ _ _ _ zo]
   exact hm
  ·obtain⟨t1,t2⟩:=hE.tok z hz;have:=fr.lt t2;repeat rw[AA _ _ _ _ zo]
   exact t2
 |some z=>
 have hfn':fn (s.1,s.2)=some z:=hfn;have y4:∀k,(n+8=n+k)=(8=k):=λk=>propext zo
 have y5:∀k,(m+k=n+3)=False:=λk=>W4 zo
 have y6:(m=n+3)=False:=W4 zo;have y7:(m=n+4)=False:=W4 zo;have y8:∀k,(n+8=m+k)=False:=λk=>W4 zo
 have l8:=U9 g fn i z;have hfd:=hE.fnd z;have hkt:(KT.int IntKind.i64).is (.int .i64 z)=True:=W1 rfl;by_cases hz:lnI g fn i z=[]
 ·rw[Wg hz]at hfd;simp only[eZ,seval,xE,eY,Hd,h1,h4,hm,y1,y2,y3,y4,y5,y6,y7,y8,hTe,rowP,W1 hk,W1 hmem',hfn',resP,CW,hfd,hkt,W1 hE.fit,fr1 fr,Aj];have hst:=λH' ht' hkk=>hE.step (H':=H') (by rw[hs];exact hfn) (t:=m+9) zo (fr _ zo) ht' hkk
  simp only[hfd,Option.isSome_none,Ws,X4,hz,X1,Wu,X5]at hst;refine⟨⟨l',.busy,none,48,eLn n, #[15,16],FM,FN⟩,?_,hR _ _ ⟨?_,zp,λid ob d6 h0=>?_,?_,?_,?_,AB ..,_,_,_,?_,hst _ ?_ λw hw hwz=>?_⟩⟩
  ·grind [AA,AB]
  ·exact((((fr.hset (m:=m+11) zo zo).hset (m:=m+11) (W8 _) zo).hset (m:=m+11) (W8 _) zo).hset (m:=m+11) (W8 _) zo).hset (W8 _) (show n+8<m+11 by omega)
  ·rw[AA _ _ _ _ zo,AA _ _ _ _ zo,AA _ _ _ _ (by have:=hk id ob d6 h0;omega)];exact hk id ob d6 h0
  ·repeat rw[AA _ _ _ _ zo]
   exact h1
  ·repeat rw[AA _ _ _ _ zo]
   exact h4
  ·repeat rw[AA _ _ _ _ zo]
   exact hq
  ·rw[AA _ _ _ _ zo,AB]
  ·repeat rw[AA _ _ _ _ zo]
   exact AB ..
  ·obtain⟨t1,t2⟩:=hE.tok w hw;have:=fr.lt t2;repeat rw[AA _ _ _ _ zo]
   exact t2
 ·rw[W7 hz]at hfd;obtain⟨z1,z2⟩:=hE.tok z hz;have z3:=fr.lt z2;have x1:(n+8=tk z)=False:=W4 zo;have x2:(m=tk z)=False:=W4 zo;have x3:(tk z=n+3)=False:=W4 zo;have x4:∀k,(tk z=m+k)=False:=λk=>W4 zo
  have q2:((lnI g fn i z).length+1<=35184372088832)=True:=W1 zo;have q3:((lnI g fn i z).length<=35184372088831)=True:=W1 zo;have q4:Aj ((lnI g fn i z).length+1) 8=True:=W1 (AX zo zd);simp only[eZ,seval,xE,eY,Hd,h1,h4,hm,y1,y2,y3,y4,y5,y6,y7,y8,hTe,rowP,W1 hk,W1 hmem',hfn',resP,CW,hfd,hkt,W1 hE.fit,fr1 fr,z2,x1,x2,x3,q2,q4];have hst:=λH' ht' hkk=>hE.step (H':=H') (by rw[hs];exact hfn) (t:=m+9) zo (fr _ zo) ht' hkk
  simp only[hfd,Option.isSome_some,Xi,Wh,Wu,X5]at hst;refine⟨⟨l',.busy,none,48,eLn n, #[15,16],FM,FN⟩,?_,hR _ _ ⟨?_,zp,λid ob d6 h0=>?_,?_,?_,?_,AB ..,_,_,_,?_,hst _ ?_ λw hw hwz=>?_⟩⟩
  ·grind [AA,AB]
  ·exact(((((fr.hset (m:=m+11) zo zo).hset (m:=m+11) (W8 _) zo).hset (m:=m+11) (W8 _) zo).hset (m:=m+11) (W8 _) zo).hset (m:=m+11) (W8 _) zo).hset (W8 _) (show n+8<m+11 by omega)
  ·repeat rw[AA _ _ _ _ zo]
   exact kp id ob d6 h0
  ·repeat rw[AA _ _ _ _ zo]
   exact h1
  ·repeat rw[AA _ _ _ _ zo]
   exact h4
  ·repeat rw[AA _ _ _ _ zo]
   exact hq
  ·rw[AA _ _ _ _ zo,AB]
  ·repeat rw[AA _ _ _ _ zo]
   exact AB ..
  ·obtain⟨t1,t2⟩:=hE.tok w hw;have:=fr.lt t2;have:tk z≠tk w:=λe=>hwz (hE.inj _ _ hz hw e).symm
   repeat rw[AA _ _ _ _ zo]
   exact t2
def EL:List Fs->List (List Int)->Prop
 |[],[]=>True
 |a::E,l::L=>(∃t,a= .sl t (l.map eI)/\(t.esz=1\/l=[]))/\EL E L
 |_,_=>False
theorem EL.wks:∀{E:List Fs} {L:List (List Int)},EL E L->Wks E (L.map eIs)
 |[],[],_=>.nil
 |a::E,l::L,⟨⟨t,h1,h2⟩,h⟩=>by
  subst h1;exact .cons (Wk.sl (h2.imp (λz=>z) λq=>by rw[q];rfl)) (EL.wks h)
theorem EL.app:∀{E F:List Fs} {L M:List (List Int)},EL E L->EL F M->EL (E++F) (L++M)
 |[],_,[],_,_,h=>h
 |a::E,_,l::L,_,⟨h1,h⟩,k=>⟨h1,EL.app h k⟩
theorem EL.len:∀{E:List Fs} {L:List (List Int)},EL E L->E.length=L.length
 |[],[],_=>rfl
 |a::E,l::L,⟨_,h⟩=>by rw[Ww,Ww,EL.len h]
structure LnL(g:Zs)(fn:Spot->Option Int)(H0:AC)(n c:Nat)(Ks:List Int)(es:List Ent)(clk:Nat)(v:VRg):Prop where
 hi:v.i<=Ks.length
 lm:c<=v.n
 fr:AQ v.H v.n
 kp:Ft H0 n v.H
 h4:hget v.H (n+4)=some (.box [.mp (n+3)])
 hm:hget v.H (n+3)=some (.map es clk)
 tok:tkG 1 c v.H v.tl
 es:v.tl.esz=1\/v.E=[]
 hE:EL v.E ((Ks.take v.i).map (B0 (AT g.sh g.w g.cells) fn))
def LnP(H:AC)(n:Nat)(L:List (List Int)):Zr->AC->Nat->Prop:=λo H' n'=>
 ∃tl E,o= .ret (.sl tl E)/\tkG 1 n H' tl/\(tl.esz=1\/E=[])/\EL E L/\Ft H n H'/\AQ H' n'/\n<=n'
theorem PS(G:GrV g)(hf:AQ H n)
  (hb:∀s H' m,s∈AT g.sh g.w g.cells->Ft H n H'->Am prog f0 (eSp s::cap) H' m (resP (fn s))) (hbd:∀s∈AT g.sh g.w g.cells,∀z,fn s=some z-> -16<=z/\z<=32):
  AP prog 222 [Bz g,.fn (.func f0) [] cap] H n (LnP H n (Bg (AT g.sh g.w g.cells) fn)):=by
 have hT:AI prog (tadd f0 (rowP cap (Ft H n) (λs=>s∈AT g.sh g.w g.cells) fn) tnil):=AI.tnil.add (rowPq λs H' m h1 h2=>hb s H' m h1 h2);have hTe:∀a H',tadd f0 (rowP cap (Ft H n) (λs=>s∈AT g.sh g.w g.cells) fn) tnil f0 a H'=rowP cap (Ft H n) (λs=>s∈AT g.sh g.w g.cells) fn a H':=λa H'=>by unfold tadd;rw[Wg rfl]
 generalize tadd f0 _ tnil=T at hT hTe;obtain⟨hr1,hr2,hr3⟩:=Ay G.hG;refine a222 (AF hT (AG ?_));simp only[eE,eN,seval,xE,c222,AD,fr0 hf,fr1 hf,AN];generalize hH0:hset _ (n+4) (Zk.box [Fs.mp (n+3)])=H0;have af:AQ H0 (n+6):=by
  rw[<-hH0];exact(((hf.hset (m:=n+6) zo zo).hset (m:=n+6) (W8 _) zo).hset (m:=n+6) (W8 _) zo).hset (W8 _) zo
 have ak:Ft H n H0:=λid ob d6 h0=>by
  rw[<-hH0];repeat rw[AA _ _ _ _ zo]
  exact h0
 have a1:hget H0 (n+1)=some (.box [.fn (.func f0) [] cap]):=by grind [AA,AB]
 have a3:hget H0 (n+3)=some (.map [] 0):=by rw[<-hH0,AA _ _ _ _ zo,AB]
 have a4:hget H0 (n+4)=some (.box [.mp (n+3)]):=by rw[<-hH0,AB]
 clear hH0;refine(JB af).mono ?_;rintro o H1 n1 ⟨rfl,rfl,rfl⟩;simp only[eE,eN,seval,retK,FE];intro l';refine(I8 g G (J:=LnF g fn (.fn (.func f0) [] cap) H n l') (λi H n F=>F.hq) (λi H2 m hi F R hR=>y_ln hT hTe hr2 hi F hR) ?_).mono ?_
 ·refine⟨(af.hset (m:=n+9) zo zo).hset (W8 _) zo,W8 _,λid ob d6 h0=>?_,?_,?_,?_,AB ..,[],0,λ_=>0,?_,⟨trivial,⟨zw,zw,zw⟩,λz=>?_,λz hz=>absurd rfl hz,λz w hz=>absurd rfl hz,by simp [esK],λz=>⟨λh=>by simp [esK]at h,λh=>absurd rfl h⟩,W8 _⟩⟩
  ·repeat rw[AA _ _ _ _ zo]
   exact ak id ob d6 h0
  ·repeat rw[AA _ _ _ _ zo]
   exact a1
  ·repeat rw[AA _ _ _ _ zo]
   exact a4
  ·rw[AA _ _ _ _ zo,AB]
  ·repeat rw[AA _ _ _ _ zo]
   exact a3
  ·have:lnI g fn 0 z=[]:=rfl;rw[Wg this];rfl
 rintro o H2 n2 ⟨rfl,F⟩;obtain⟨ffr,flm,fkp,f1,f4,fq,fL,es,clk,tk,fm,hE⟩:=F;have u1:(n+8=n+4)=False:=W4 zo;simp only[eE,eN,seval,FD,fL,f4,u1];have gf:AQ (hset H2 (n+8) .dead) n2:=ffr.hset (W8 _) zo;have gk:Ft H n (hset H2 (n+8) .dead):=λid ob d6 h0=>by rw[AA _ _ _ _ zo];exact fkp id ob d6 h0
 have g4:hget (hset H2 (n+8) .dead) (n+4)=some (.box [.mp (n+3)]):=by rw[AA _ _ _ _ zo];exact f4
 have gm:hget (hset H2 (n+8) .dead) (n+3)=some (.map es clk):=by rw[AA _ _ _ _ zo];exact fm
 generalize hset H2 (n+8) .dead=H3 at gf gk g4 gm;refine(U8 gf).mono ?_;rintro o H4 n4 ⟨rfl,rfl,rfl⟩;simp only[eE,seval,retK];have kf:AQ (hset H3 n2 (.box [.mp (n+3)])) (n2+2):=gf.hset zo zo;have kk:Ft H n (hset H3 n2 (.box [.mp (n+3)])):=λid ob d6 h0=>by rw[AA _ _ _ _ zo];exact gk id ob d6 h0
 have k4:hget (hset H3 n2 (.box [.mp (n+3)])) (n+4)=some (.box [.mp (n+3)]):=by rw[AA _ _ _ _ zo];exact g4
 have km:hget (hset H3 n2 (.box [.mp (n+3)])) (n+3)=some (.map es clk):=by rw[AA _ _ _ _ zo];exact gm
 have kq:hget (hset H3 n2 (.box [.mp (n+3)])) n2=some (.box [.mp (n+3)]):=AB ..;generalize hset H3 n2 (.box [.mp (n+3)])=H5 at kf kk k4 km kq;have hesl:=hE.len;refine(Am.of (n:=n2+2) c242.l (AR _ _) (λ_=>t_srtM hE.ok zo kf kq km)).mono ?_;rintro o H6 n6 ⟨rfl,rfl,rfl⟩;have hK:((esK es).mergeSort leI).map (B0 (AT g.sh g.w g.cells) fn)=Bg (AT g.sh g.w g.cells) fn:=by
  refine Tj hE.knd (λz=>?_) hbd;rw[hE.kmem z,PR,<-MQ,<-List.isEmpty_eq_false_iff]
 have hKl:((esK es).mergeSort leI).length<=g.cells.length:=by
  rw[DC];show(es.map _).length<=_;rw[W0];exact hesl
 have hKm:∀z∈(esK es).mergeSort leI,BN (eI z) es=some (.sl (.own (tk z) 1) ((B0 (AT g.sh g.w g.cells) fn z).map eI)):=λz hz=>by
  rw[List.mem_mergeSort]at hz;rw[hE.fnd z,W7 ((hE.kmem z).1 hz),PR]
 rw[<-hK];generalize (esK es).mergeSort leI=Ks at hKl hKm;simp only[eE,eN,seval,W0,retK];refine AL (λv:VRg=>⟨[(4,true,.sl v.tl v.E),(5,true,.ptr (n+4) 0),(34,true,eIs Ks),(35,true,.int .i64 Ks.length),(36,true,.int .i64 v.i)],v.H,v.n⟩) (LnL g fn H n (n2+2) Ks es clk) (λv=>Ks.length-v.i)
  ⟨0,[],.nil,H6,n2+2⟩ rfl ⟨We _,W8 _,kf,kk,k4,km,.inl rfl,.inr rfl,trivial⟩ ?_
 rintro⟨j,E,tl,H7,m⟩ ⟨hj,hlm,c6,hkp,h4,hm,htl,d7,hWE⟩;simp only at hj hlm c6 hkp h4 hm htl d7 hWE;by_cases c5:j<Ks.length
 ·have hg:=W2 c5;have e:=AE (k:=j) zo;have hfd:=hKm _ (Wn c5);have c7:Ks.take (j+1)=Ks.take j++[Ks[j]]:=by rw[Wl,hg];rfl
  generalize Ks[j]=z at hg hfd c7;have hkt:(KT.int IntKind.i64).is (.int .i64 z)=True:=W1 rfl;have hEl:E.length=j:=by
   have:=hWE.len;rw[W0,Wx]at this;omega
  have q1:A5 H7 1 tl=True:=W1 htl.app;have q2:(E.length<=35184372088831)=True:=W1 zo;have q3:Aj (E.length+1) 24=True:=W1 (AX zo zd);simp only[eZ,seval,xE,eY,lt_T c5,hg,h4,hm,hkt,W1 hE.fit,CW,hfd,q1,q2,q3,fr1 c6,e];refine .mk ⟨j+1,E++[.sl (.own (tk z) 1) ((B0 (AT g.sh g.w g.cells) fn z).map eI)],.own (m+5) 1,hset (AO H7 tl) (m+5) .tok,m+7⟩ rfl ⟨c5,zp,(AU htl c6).hset (m:=m+7) zo zo,λid ob d6 h0=>?_,?_,?_,.inr (.inr ⟨m+5,rfl,zo,AB ..⟩),.inl rfl,?_⟩ zp
  ·rw[AA _ _ _ _ zo,AV htl (.inl zo)];exact hkp id ob d6 h0
  ·grind [AA,AV]
  ·grind [AA,AV]
  ·simp only[c7,Wh,Wu,X5]at hWE⊢;exact hWE.app ⟨⟨_,rfl,.inl rfl⟩,trivial⟩
 obtain rfl:j=Ks.length:=zo
 rw[Wj]at hWE;simp only[eZ,seval,lt_F c5];exact⟨tl,E,rfl,htl.imp id λq=>q.imp id λ⟨z,z1,z2,z3⟩=>⟨z,z1,zo,z3⟩,d7,hWE,hkp,c6,zo⟩
theorem Gx(G:GrV g)
  (hb:∀s H' m,s∈AT g.sh g.w g.cells->Ft H n H'->Am prog f0 (eSp s::cap) H' m (resP (fn s))) (hbd:∀s∈AT g.sh g.w g.cells,∀z,fn s=some z-> -16<=z/\z<=32):
  Am prog 222 [Bz g,.fn (.func f0) [] cap] H n (eLl (Bg (AT g.sh g.w g.cells) fn)):=
 Am.of l222 (Ak n _) λhf=>(PS G hf hb hbd).mono λo H' n' ⟨tl,E,h1,h2,h3,h4,h5,h6,h7⟩=>⟨⟨_,h1,Wk.slx h3 h4.wks⟩,λid ob h0=>h5 id ob (hf.lt h0) h0⟩
end
section
def RdI(H:AC)(av:Fs)(l:List Int):Prop:=(∃t,av= .sl t (l.map eI)/\(t.esz=1\/l=[]))\/∃id cap rest,av= .ref id 1 0 l.length cap/\hget H id=some (.arr 1 ((l++rest).map eI))/\l.length<=cap
def ClnP(H:AC)(n:Nat)(l:List Int):Zr->AC->Nat->Prop:=λo H' n'=>
 (l=[]/\H'=H/\(n'=n\/n'=n+4)/\∃t,o= .ret (.sl t [])/\(t= .nil\/t= .exact 1))\/
 (l≠[]/\n'=n+4/\∃rest,o= .ret (.ref (n+2) 1 0 l.length (l.length+rest.length))/\H'=hset H (n+2) (.arr 1 ((l++rest).map eI)))
def PT{H:AC}{n:Nat}{av:Fs}{l:List Int}(hr:RdI H av l)(hl:few l):AP prog 62 [av] H n (ClnP H n l):=by
 refine AP.fresh c62.l λhf=>?_
 have l8:l.length<1000000000:=hl;have hrep:∀k,List.replicate k (Fs.int .i64 0)=(List.replicate k (0:Int)).map eI:=λk=>by rw[Yt]
 rcases hr with⟨t,rfl,ht⟩|⟨id,cp,rest,rfl,ho,hc⟩
 ·refine AP.args (a:=[eIs l]) ?_ λg vs ⟨v,r,h1,h2,h3⟩=>⟨v,r,h1,Wk.sl (ht.imp (λz=>z) λq=>by rw[q];rfl) _ _ h2,h3⟩
  refine cm62.a (AF AI.tnil (AG ?_));cases l with
  |nil=>
   simp only[eZ,seval,cm62];refine⟨?_,?_⟩
   ·simp only[eZ,seval,Ce,Ec,fr1 hf,Aj,Yv,We];exact .inl ⟨rfl,rfl,.inr rfl,.exact 1,rfl,.inr rfl⟩
   ·simp only[eZ,seval,W6];exact .inl ⟨rfl,rfl,.inl rfl,.nil,rfl,.inl rfl⟩
  |cons x r=>
   rw[Ww]at l8;simp only[eZ,seval,W0,cm62,eIs,Ce,Ec,fr1 hf];refine⟨AX zo zd,zo,λcap hcap=>.inr ⟨zw,rfl,List.replicate (cap-(r.length+1)) 0,?_,?_⟩⟩
   ·simp_all
   ·rw[hrep];simp
 ·refine cm62.a (AF AI.tnil (AG ?_));have c7:List.take l.length ((l++rest).map eI)=l.map eI:=by rw[Wh,List.take_left' (by rw[W0])]
  have hlen:(l.length<=(l++rest).length)=True:=W1 zw;simp only[eZ,seval,W0,cm62,ho,c7,hlen,Ce,Ec,fr1 hf];refine⟨AX zo zd,zo,λh0=>?_,λh0 cap hcap=>?_⟩
  ·exact .inl ⟨by simpa using h0,rfl,.inr rfl,.exact 1,rfl,.inr rfl⟩
  ·refine .inr ⟨by simpa using h0,rfl,List.replicate (cap-l.length) 0,?_,?_⟩
   ·simp_all
   ·rw[hrep];simp
def p223(s:Spot):Pur prog 223 [eSp s] (resP (some s.2)):=by
 refine .mk ⟨⟨trivial,trivial,trivial⟩,trivial⟩ ⟨trivial,trivial,trivial⟩ (c223.a (AF AI.tnil (AG ?_)));simp only[eE,eN,seval,Int.toNat_one,c223,c2n];exact Wk.refl _
def p224(s:Spot):Pur prog 224 [eSp s] (resP (some s.1)):=by
 refine .mk ⟨⟨trivial,trivial,trivial⟩,trivial⟩ ⟨trivial,trivial,trivial⟩ (c224.a (AF AI.tnil (AG ?_)));simp only[eE,eN,seval,eY,c224,c2n];exact Wk.refl _
variable {g:Zs}
theorem Gy(G:GrV g){s:Spot}(h:s∈AT g.sh g.w g.cells): -16<=s.1/\s.1<=16/\0<=s.2/\s.2<=15/\ -16<=s.1+s.2/\s.1+s.2<=31:=by
 obtain⟨i,hi,rfl⟩:=X9.1 h;rw[BH]at hi;have e:=DF hi;rw[W2 (by rw[BH];exact hi)]at e;rw[Option.some.inj e];have gi:inG g (i:Int):=⟨zo,by rw[Wf];exact hi⟩;obtain⟨k,hk,-,hg,hp,w1,w2,x1,x2,y1,y2,ey,t9⟩:=G.at gi;obtain rfl:k=i:=zo
 unfold spC C7;split<;>simp only[]<;>omega
theorem p255(s:Spot)(h: -16<=s.1+s.2/\s.1+s.2<=31):Pur prog 255 [eSp s] (resP (some (s.1+s.2))):=by
 refine .mk ⟨⟨trivial,trivial,trivial⟩,trivial⟩ ⟨trivial,trivial,trivial⟩ (c255.a (AF AI.tnil (AG ?_)));have w:IntKind.wrap .i64 (s.1+s.2)=s.1+s.2:=Aq zo zo;simp only[eE,eN,seval,eY,c255,c2n,w];exact Wk.refl _
def dgF1(s:Spot):Option Int:=if s.1=s.2 then some 0 else none
def dgF2(w:Int)(s:Spot):Option Int:=if s.1+s.2=w-1 then some 0 else none
theorem p256(s:Spot):Pur prog 256 [eSp s] (resP (dgF1 s)):=by
 refine .mk ⟨⟨trivial,trivial,trivial⟩,trivial⟩ ⟨trivial,trivial,trivial⟩ (c256.a (AF AI.tnil (AG ?_)));unfold dgF1;by_cases h:s.1=s.2
 ·rw[Wg h];simp only[eE,eN,seval,eY,c256,c2n,BB h];exact Wk.refl _
 ·rw[W7 h];simp only[eE,eN,seval,eY,c256,c2n,Ax h];exact Wk.refl _
theorem p257(g:Zs)(hw:0<=g.w/\g.w<=16)(s:Spot)(h: -16<=s.1+s.2/\s.1+s.2<=31):Pur prog 257 [eSp s,.ep (AD g.sh g.w g.h g.holes g.cells)] (resP (dgF2 g.w s)):=by
 refine .mk ⟨⟨trivial,trivial,trivial⟩,Ap 0 ..,trivial⟩ ⟨trivial,trivial,trivial⟩ (c257.a (AF AI.tnil (AG ?_)));have w:IntKind.wrap .i64 (s.1+s.2)=s.1+s.2:=Aq zo zo;have w2:IntKind.wrap .i64 (g.w-1)=g.w-1:=Aq zo zo;unfold dgF2;by_cases h:s.1+s.2=g.w-1
 ·rw[Wg h];simp only[eE,eN,seval,eY,c257,AD,c2n,w,w2,BB h];exact Wk.refl _
 ·rw[W7 h];simp only[eE,eN,seval,eY,c257,AD,c2n,w,w2,Ax h];exact Wk.refl _
section
variable {g:Zs} (G:GrV g) (H:AC) (n:Nat)
include G
theorem q_ln1:Am prog 222 [Bz g,.fn (.func 223) [] []] H n (eLl (Bg (AT g.sh g.w g.cells) λs=>some s.2)):=
 Gx G (λs H' m _ _=>(p223 s).quiet H' m) λs hs z hz=>by have:=Gy G hs;have:=Option.some.inj hz;omega
theorem q_ln2:Am prog 222 [Bz g,.fn (.func 224) [] []] H n (eLl (Bg (AT g.sh g.w g.cells) λs=>some s.1)):=
 Gx G (λs H' m _ _=>(p224 s).quiet H' m) λs hs z hz=>by have:=Gy G hs;have:=Option.some.inj hz;omega
theorem q_ln3:Am prog 222 [Bz g,.fn (.func 255) [] []] H n (eLl (Bg (AT g.sh g.w g.cells) λs=>some (s.1+s.2))):=
 Gx G (λs H' m hs _=>(p255 s (by have:=Gy G hs;omega)).quiet H' m) λs hs z hz=>by have:=Gy G hs;have:=Option.some.inj hz;omega
theorem q_ln4:Am prog 222 [Bz g,.fn (.func 256) [] []] H n (eLl (Bg (AT g.sh g.w g.cells) dgF1)):=
 Gx G (λs H' m hs _=>(p256 s).quiet H' m) λs hs z hz=>by
  unfold dgF1 at hz;split at hz
  ·have:=Option.some.inj hz;omega
  ·cases hz
theorem q_ln5{q:Nat}(hq:hget H q=some (.box (AD g.sh g.w g.h g.holes g.cells)))(hf:AQ H n):Am prog 222 [Bz g,.fn (.func 257) [] [.ptr q 0]] H n (eLl (Bg (AT g.sh g.w g.cells) (dgF2 g.w))):=by
 obtain⟨l7,t7⟩:=Fe G.hG;refine Gx G (λs H' m hs hk=>(p257 g zo s (by have:=Gy G hs;omega)).view ⟨trivial,trivial,trivial⟩ (.cons (.wk (Wk.refl _)) (.cons (View.ptr (off:=0) (hk q _ (hf.lt hq) hq)) .nil)) m) λs hs z hz=>?_
 unfold dgF2 at hz;split at hz
 ·have:=Option.some.inj hz;omega
 ·cases hz
end
def JC(g:Zs):List Fs->AC->Prop×Fs:=λa H=>match a with
 |[x,.fn (.func f) [] cap]=>(x=Bz g/\((f=223\/f=224\/f=255\/f=256)/\cap=[]\/f=257/\∃q,cap=[.ptr q 0]/\hget H q=some (.box (AD g.sh g.w g.h g.holes g.cells))),
   eLl (Bg (AT g.sh g.w g.cells) (if f=223 then λs=>some s.2 else if f=224 then λs=>some s.1 else if f=255 then λs=>some (s.1+s.2)else if f=256 then dgF1 else dgF2 g.w)))
 |_=>(False,.tup [])
theorem T6(G:GrV g):∀args H n,(JC g args H).1->Am prog 222 args H n (JC g args H).2:=by
 intro args H n hh;unfold JC at hh⊢;split at hh
 ·obtain⟨rfl,⟨h|h|h|h,rfl⟩|⟨rfl,q,rfl,hq⟩⟩:=hh
  ·subst h;exact q_ln1 G H n
  ·subst h;exact q_ln2 G H n
  ·subst h;exact q_ln3 G H n
  ·subst h;exact q_ln4 G H n
  ·refine⟨l222,?_⟩;exact(AP.fresh l222 λhf=>q_ln5 G H n hq hf).2
 ·exact hh.elim
def Tdg(g:Zs):Tab:=tadd 222 (JC g) (tadd 103 (s2 dIs dIs (λ_ b=>wide b) λa b=>.bool (decide (a=b))) tnil)
theorem Tdg_ok(G:GrV g):AI prog (Tdg g):=(AI.tnil.add (q2 p103)).add (T6 G)
theorem Gz{S:List Spot}{fn:Spot->Option Int}(h:∀s∈S,∀z,fn s=some z->z=0):Bg S fn=if(B0 S fn 0).isEmpty then[]else[B0 S fn 0]:=by
 have he:∀z,z≠0->(B0 S fn z).isEmpty=true:=λz hz=>by
  rw[<-YQ];intro q;obtain⟨s,hs,e⟩:=MQ.1 q;exact hz (h s hs z e)
 unfold Bg Ji;rw[show List.range 49=List.range 16++(16::(List.range 32).map (· +17))from rfl];simp only[Wh,Wu,XW,Yo];have z1:((List.range 16).map λk:Nat=>B0 S fn ((k:Int)-16)).filter (λl=>!l.isEmpty)=[]:=by grind [List.filter_eq_nil_iff]
 have z2:((List.range 32).map λk:Nat=>B0 S fn (((k+17:Nat):Int)-16)).filter (λl=>!l.isEmpty)=[]:=by grind [List.filter_eq_nil_iff]
 have z1':((List.range 16).map (B0 S fn∘λk:Nat=>(k:Int)-16)).filter (λl=>!l.isEmpty)=[]:=z1;have z2':((List.range 32).map (B0 S fn∘((λk:Nat=>(k:Int)-16)∘λx=>x+17))).filter (λl=>!l.isEmpty)=[]:=z2;rw[z1',X1,XH,z2'];have e0:(((16:Nat):Int)-16)=0:=rfl;rw[e0];cases (B0 S fn 0).isEmpty<;>rfl
def dgP(g:Zs):List (List Int):=if g.sh=2 then Bg (AT g.sh g.w g.cells) (λs=>some (s.1+s.2))else if g.w=g.h then K5 g.w (AT g.sh g.w g.cells)else[]
structure IDgp(LB D:List (List Int))(H0:AC)(n0:Nat)(tl0:Zu)(E0:List Fs)(v:VRg):Prop where
 hi:v.i<=LB.length
 h0:v.i=0->v.E=E0/\v.tl=tl0/\v.H=H0/\v.n=n0
 h1:v.i=1->(v.tl.esz=1\/v.E=[])/\EL v.E D
theorem w01:IntKind.wrap .i64 (0+1)=1:=Aq zd zd
theorem Mb(S:List Spot)(f:Spot->Option Int)(z:Int):(B0 S f z).length<=S.length:=Bt ..
theorem p225(g:Zs)(G:GrV g):Pur prog 225 [Bz g] (eLl (dgP g)):=by
 refine .mk ⟨Ap 0 ..,trivial⟩ (Ak 0 _) (c225.a (AF (Tdg_ok G) (AG ?_)));unfold dgP;obtain⟨hr1,hr2,hr3⟩:=Ay G.hG;by_cases h2:g.sh=2
 ·rw[Wg h2];simp only[eZ,seval,c225,AD,BB h2,Tdg,JC,tadd];exact Wk.refl _
 by_cases hw:g.w=g.h;case neg=>
  rw[W7 h2,W7 hw];simp only[eZ,seval,W6,c225,AD,Ax h2,Ax hw];exact Wk.sl (.inr rfl)
 rw[W7 h2,Wg hw];have l9:AQ (hset hnil 0 (.box (AD g.sh g.w g.h g.holes g.cells))) 2:=AQ.nil.hset (We 2) zd;simp only[eZ,seval,W3,c225,AD,Ax h2,BB hw];refine(PS G l9 (λs H' m hs _=>(p256 s).quiet H' m) λs hs z hz=>by
  unfold dgF1 at hz;split at hz
  ·have:=Option.some.inj hz;omega
  ·cases hz).mono ?_
 rintro o H1 n1 ⟨tl,E,rfl,htl,d7,hEL,hk,hf1,j8⟩;have h10:hget H1 0=some (.box (AD g.sh g.w g.h g.holes g.cells)):=hk 0 _ zd rfl;have hex:(∃q,[Fs.ptr 0 0]=[Fs.ptr q 0]/\hget H1 q=some (.box (AD g.sh g.w g.h g.holes g.cells)))=True:=W1 ⟨0,rfl,h10⟩;simp only[AD]at h10 hex;have hD:K5 g.w (AT g.sh g.w g.cells)=(Bg (AT g.sh g.w g.cells) dgF1)++(if(B0 (AT g.sh g.w g.cells) (dgF2 g.w) 0).isEmpty||decide (B0 (AT g.sh g.w g.cells) dgF1 0=B0 (AT g.sh g.w g.cells) (dgF2 g.w) 0)then[]else[B0 (AT g.sh g.w g.cells) (dgF2 g.w) 0]):=by
  rw[Gz (fn:=dgF1) λs _ z hz=>by
   unfold dgF1 at hz;split at hz
   ·exact(Option.some.inj hz).symm
   ·cases hz]
  rfl
 have hLB:=Gz (S:=AT g.sh g.w g.cells) (fn:=dgF2 g.w) λs _ z hz=>by
  unfold dgF2 at hz;split at hz
  ·exact(Option.some.inj hz).symm
  ·cases hz
 have hLA:=Gz (S:=AT g.sh g.w g.cells) (fn:=dgF1) λs _ z hz=>by
  unfold dgF1 at hz;split at hz
  ·exact(Option.some.inj hz).symm
  ·cases hz
 rw[hLA]at hEL hD;generalize K5 g.w (AT g.sh g.w g.cells)=D at hD;simp only[eE,eN,seval,W0,retK,h10,Tdg,JC,hex,tadd];rw[hLB];have hBl:=Mb (AT g.sh g.w g.cells) (dgF2 g.w) 0;have hAl:=Mb (AT g.sh g.w g.cells) dgF1 0;rw[BH]at hBl hAl;generalize B0 (AT g.sh g.w g.cells) dgF1 0=A at hEL hAl hD;generalize B0 (AT g.sh g.w g.cells) (dgF2 g.w) 0=B at hBl hD;generalize hLAg:(if A.isEmpty=true then[]else[A])=LA at hEL hD;generalize hLBg:(if B.isEmpty=true then[]else[B])=LB;refine AL (λv:VRg=>⟨[(3,true,.sl v.tl v.E),(20,true,eLl LB),(21,true,.int .i64 LB.length),(22,true,.int .i64 v.i)],v.H,v.n⟩) (IDgp LB D H1 n1 tl E) (λv=>LB.length-v.i)
  ⟨0,E,tl,H1,n1⟩ rfl ⟨We _,λ_=>⟨rfl,rfl,rfl,rfl⟩,λh=>by cases h⟩ ?_
 rintro⟨i,E2,tl2,H2,n2⟩ ⟨hi,i0,i1⟩;simp only at hi i0 i1;cases hB:B.isEmpty with
 |true=>
  rw[hB]at hLBg hD;rw[YV,Wg rfl,X2]at hD;rw[Wg rfl]at hLBg;subst hLBg;subst hD;obtain rfl:i=0:=by simpa using hi
  obtain⟨rfl,rfl,rfl,rfl⟩:=i0 rfl;simp only[eZ,seval,eY];exact Wk.slx d7 hEL.wks
 |false=>
 rw[hB]at hLBg hD;rw[XG]at hD;rw[W7 zd]at hLBg;subst hLBg;have i5:i=0\/i=1:=by simp at hi;omega
 rcases i5 with rfl|rfl
 case inr=>
  obtain⟨k1,k2⟩:=i1 rfl;simp only[eZ,seval,c1];exact Wk.slx k1 k2.wks
 obtain⟨rfl,rfl,rfl,rfl⟩:=i0 rfl;have hwB:wide B:=by show B.length<_;omega
 have c1n:((1:Nat):Int)=1:=rfl;cases hA:A.isEmpty with
 |true=>
  rw[hA,Wg rfl]at hLAg;subst hLAg;have hE0:E2=[]:=Xg hEL.len;subst hE0;have hAB:decide (A=B)=false:=Wp λe=>by rw[e,hB]at hA;cases hA
  rw[hAB,W7 zd,X1]at hD;subst hD;have q1:A5 H2 1 tl2=True:=W1 htl.app;simp only[eZ,seval,W3,eY,q1,fr1 hf1,Aj,c1n,w01];exact .mk ⟨1,[eIs B],.own (n2+3) 1,_,n2+5⟩ rfl ⟨W8 _,λh=>(by cases h),λ_=>⟨.inl rfl,⟨_,rfl,.inl rfl⟩,trivial⟩⟩ (show 1-1<1-0 by decide)
 |false=>
  rw[hA,W7 zd]at hLAg;subst hLAg;obtain⟨x,hx⟩:∃x,E2=[x]:=by
   have:=hEL.len
   match E2,this with
   |[x],_=>exact⟨x,rfl⟩
  subst hx;obtain⟨⟨t,rfl,ht⟩,-⟩:=hEL;have htl1:tl2.esz=1:=d7.resolve_right zw;have ka:dIs.ok (.sl t (A.map eI))=True:=W1 ⟨ht.imp (λz=>z) λq=>by rw[q];rfl,by rw[As]⟩;have kd:dIs.dec (.sl t (A.map eI))=A:=As A;have q1:A5 H2 1 tl2=True:=W1 htl.app;by_cases hAB:A=B
  ·rw[Wv hAB,Wg rfl,X2]at hD;subst hD;simp only[eZ,seval,W3,eY,c1n,w01,htl1,Tdg,s2,ka,kd,Ad,AY,W1 hwB,BB hAB,W3,tadd];exact .mk ⟨1,[.sl t (A.map eI)],tl2,H2,n2⟩ rfl ⟨W8 _,λh=>(by cases h),λ_=>⟨.inl htl1,⟨t,rfl,ht⟩,trivial⟩⟩ (show 1-1<1-0 by decide)
  ·rw[Wp hAB,W7 zd]at hD;subst hD;simp only[eZ,seval,W6,eY,q1,fr1 hf1,Aj,c1n,w01,htl1,Tdg,s2,ka,kd,Ad,AY,W1 hwB,Ax hAB,W6,tadd];exact .mk ⟨1,[.sl t (A.map eI),eIs B],.own (n2+3) 1,_,n2+5⟩ rfl ⟨W8 _,λh=>(by cases h),λ_=>⟨.inl rfl,⟨t,rfl,ht⟩,⟨_,rfl,.inl rfl⟩,trivial⟩⟩ (show 1-1<1-0 by decide)
end
def Tfa(g:Zs):Tab:=tadd 148 (s1 dGd (λg=>few g.holes/\few g.cells) nbV) (tadd 222 (JC g) (tadd 225 (s1 dGd GrV λg=>eLl (dgP g)) tnil))
def Tfa_ok{g:Zs}(G:GrV g):AI prog (Tfa g):=((AI.tnil.add (q1 p225)).add (T6 G)).add (q1 λg h=>p148 g h.1 h.2)
structure IFy(N:Nat)(L:Nat->List (List Int))(v:VRg):Prop where
 hi:v.i<=N
 hn:2<=v.n
 fr:AQ v.H v.n
 tok:tkG 1 2 v.H v.tl
 es:v.tl.esz=1\/v.E=[]
 hE:EL v.E (L v.i)
structure IFz(N:Nat)(v:VRg):Prop where
 hi:v.i<=N
 hn:2<=v.n
 fr:AQ v.H v.n
 tok:tkG 1 2 v.H v.tl
 es:v.tl.esz=1\/allL v.i=[]
 hE:v.E=(allL v.i).map eI
def PU(sh:Int){S:List Spot}(hd:S.Nodup){c:Nat}{s:Spot}(hs:S[c]?=some s):(nbS sh S s++[(c:Int)]).mergeSort leI=idxP S.length λb=>decide (b=c)||((EJ sh).any λd=>decide (S[b]?=(S[c]?).map λs=>addP s d)):=by
 have hself:(c:Int)∉nbS sh S s:=by simp_all [Uf,Jh,Tl]
 have m5:=(Xx.1 hs).1;refine Hr ?_ (Hq ..) λx=>?_
 ·rw[Y1];refine⟨(Hq ..).imp λq=>zo,zw,λa ha b hb e=>?_⟩;rw[Xs.1 hb]at e;exact hself (e▸ha)
 ·rw[Xo,Xs,hs];unfold nbS;rw[Fm,Fm];simp only[Xf,Wz,W9];constructor
  ·grind
  ·grind
def VA{H H':AC}{n0 n' m:Nat}{x:List Int}{y:Int}{lv:Fs}{K:AC->Fs->Prop}(h:ClnP H n0 x (.ret lv) H' n')(hx:x.length<1000000)(hm:hget H' m=none)
  (hK:∀id (rest:List Int),(id=m\/id=n0+2/\n'=n0+4)->K (hset H' id (.arr 1 (((x++[y])++rest).map eI))) (.ref id 1 0 (x++[y]).length ((x++[y]).length+rest.length))):H9 H' m 1 8 (.int .i64 0) K lv (some [eI y]):=by
 rcases h with⟨rfl,rfl,hn,t,ho,ht⟩|⟨d8,rfl,rest,ho,rfl⟩
 ·obtain rfl:=Zr.ret.inj ho;rw[Ce];refine⟨hm,zd,rfl,ht,by simp [Aj],zw,(λe=>by cases e),λ_ cap hcap=>?_⟩;have:=hK m (List.replicate (cap-1) 0) (.inl rfl);simp only[X1,Wu,Ww,Xt,Y7,X3,Yt]at this hcap⊢;rw[show 0+1+(cap-1)=cap by omega]at this;exact this
 ·obtain rfl:=Zr.ret.inj ho;have hg:hget (hset H (n0+2) (.arr 1 ((x++rest).map eI))) (n0+2)=some (.arr 1 ((x++rest).map eI)):=AB ..;generalize hset H (n0+2) (.arr 1 ((x++rest).map eI))=G at hg hm hK;rw[HT hg];have el:(x++[y]).length=x.length+1:=zw
  refine⟨hm,zd,rfl,rfl,rfl,AX (by simp only[Ww,Xt];omega) zd,by simp only[Ww,Xt];omega,rfl,zw,zo,λhr=>?_,λhr cap' hc=>?_⟩
  ·have:=hK (n0+2) (rest.drop 1) (.inr ⟨rfl,rfl⟩);simp only[Ww,Xt]at hr⊢;have e1:List.take x.length ((x++rest).map eI)=x.map eI:=by rw[Wh,Ya zw,Xp zw]
   have e2:List.drop (x.length+(0+1)) ((x++rest).map eI)=(rest.drop 1).map eI:=by rw[Wh,List.drop_append,Yp zw];simp
   rw[e1,e2];rw[el,Wh,Wh,XJ,show x.length+1+(rest.length-1)=x.length+rest.length by omega]at this;exact this
  ·have:=hK m (List.replicate (cap'-(x.length+1)) 0) (.inl rfl);simp only[Ww,Xt]at hr hc⊢;have e1:List.take x.length ((x++rest).map eI)=x.map eI:=by rw[Wh,Ya zw,Xp zw]
   rw[e1];rw[el,Wh,Wh,Yt,Y7,show x.length+1+(cap'-(x.length+1))=cap' by omega]at this;exact this
def prY(x:List Int)(c j:Nat):List (List Int):=((x.take j).filter λb=>decide ((c:Int)<b)).map λb=>[(c:Int),b]
def SM(x:List Int)(c:Nat){j:Nat}{b:Int}(h:x[j]?=some b):prY x c (j+1)=prY x c j++if(c:Int)<b then[[(c:Int),b]]else[]:=by
 unfold prY;rw[Wl,h,XW,Wh];congr 1;by_cases q:(c:Int)<b<;>simp [q]
def PV(x:List Int)(c j:Nat):(prY x c j).length<=j:=by
 unfold prY;rw[W0];refine Xb (Xu ..) ?_;rw[Wx];omega
theorem c3n:((3:Nat):Int)=3:=rfl
theorem c4n:((4:Nat):Int)=4:=rfl
theorem c5n:((5:Nat):Int)=5:=rfl
theorem c6n:((6:Nat):Int)=6:=rfl
theorem c7n:((7:Nat):Int)=7:=rfl
def p149(g:Zs)(f:Nat)(G:GrV g)(hf:f<=7):Pur prog 149 [Bz g,.int .i64 (f:Int)] (.tup [eLl (famS g.sh g.w g.h (AT g.sh g.w g.cells) f),.int .i64 0]):=by
 refine .mk ⟨Ap 0 ..,trivial,trivial⟩ ⟨Ak 0 _,trivial,trivial⟩ (c149.a (AF (Tfa_ok G) (AG ?_)));have f1:dGd.ok (.agg (AD g.sh g.w g.h g.holes g.cells))=True:=DO g;have f2:dGd.dec (.agg (AD g.sh g.w g.h g.holes g.cells))=g:=CE g;simp only[AD]at f1 f2;obtain⟨hr1,hr2,hr3⟩:=Ay G.hG;have hc:few g.cells:=by show g.cells.length<_;omega
 have i9:=U1 G;have hslen:=BH g;obtain⟨l7,t7⟩:=Fe G.hG;have hd:(AT g.sh g.w g.cells).Nodup:=Hs zo hr1 λp hp=>(hr3 p hp).1
 have hfrN:AQ (hset hnil 0 (.box (AD g.sh g.w g.h g.holes g.cells))) 3:=AQ.nil.hset (We 3) zd;simp only[AD]at hfrN;rcases(by omega:f=0\/f=1\/f=2\/f=3\/f=4\/f=5\/f=6\/f=7)with rfl|rfl|rfl|rfl|rfl|rfl|rfl|rfl
 ·
  simp only[eZ,seval,W3,eY,c149,AD,Tfa,s1,f1,f2,W1 G.2,W1 hc,i9,tadd];have hfam:famS g.sh g.w g.h (AT g.sh g.w g.cells) 0=(List.range g.cells.length).map λ(c:Nat)=>[(c:Int)]:=by
   unfold famS;rw[Wg rfl,NP,hslen,Yo];rfl
  rw[hfam];refine AL (λv:VRg=>⟨[(4,true,.sl v.tl v.E),(30,true,.int .i64 g.cells.length),(31,true,.int .i64 v.i)],v.H,v.n⟩) (IFy g.cells.length λi=>(List.range i).map λ(c:Nat)=>[(c:Int)]) (λv=>g.cells.length-v.i)
   ⟨0,[],.nil,_,3⟩ rfl ⟨We _,(show 2<=3 by decide),hfrN,.inl rfl,.inr rfl,trivial⟩ ?_
  rintro⟨i,E,tl,H,n⟩ ⟨hi,hn,c6,htl,d7,hEL⟩;simp only at hi hn c6 htl d7 hEL;by_cases c5:i<g.cells.length
  ·have e:=AE (k:=i) zo;have hEl:E.length=i:=by rw[hEL.len,W0,Yb]
   have q1:A5 H 1 tl=True:=W1 htl.app;have q2:(E.length<=35184372088831)=True:=W1 zo;have q3:Aj (E.length+1) 24=True:=W1 (AX zo zd);simp only[eZ,seval,lt_T c5,e,q1,q2,q3,fr1 c6];refine .mk ⟨i+1,E++[.sl (.exact 1) [.int .i64 i]],.own (n+4) 1,hset (AO H tl) (n+4) .tok,n+6⟩ rfl ⟨c5,zp,(AU htl c6).hset (m:=n+6) zo zo,.inr (.inr ⟨n+4,rfl,zo,AB ..⟩),.inl rfl,?_⟩ zp;simp only[XI,Wh,Wu,X5];exact hEL.app ⟨⟨.exact 1,rfl,.inl rfl⟩,trivial⟩
  obtain rfl:i=g.cells.length:=zo
  simp only[eZ,seval,lt_F c5];exact Wk.tup (.cons (Wk.slx d7 hEL.wks) (.cons (Wk.refl _) .nil))
 ·simp only[eZ,seval,W3,eY,c149,AD,Tfa,JC,s1,f1,f2,W1 G.2,W1 hc,i9,tadd];exact Wk.refl _
 ·simp only[eZ,seval,W3,eY,c149,AD,Tfa,JC,s1,f1,f2,W1 G.2,W1 hc,i9,c2n,tadd];exact Wk.refl _
 ·simp only[eZ,seval,W3,eY,c149,AD,Tfa,s1,f1,f2,W1 G.2,W1 hc,i9,c3n,W1 G,tadd];exact Wk.refl _
 ·simp only[eZ,seval,W3,eY,c149,AD,Tfa,s1,f1,f2,W1 G.2,W1 hc,i9,c4n,tadd];exact Wk.refl _
 ·
  have hfam:famS g.sh g.w g.h (AT g.sh g.w g.cells) 5=(List.range g.cells.length).map λ(c:Nat)=>(nbS g.sh (AT g.sh g.w g.cells) (spC g c)++[(c:Int)]).mergeSort leI:=by
   unfold famS;rw[W7 zd,W7 zd,W7 zd,W7 zd,W7 zd,Wg rfl,hslen];refine Xk λc hcm=>?_
   rw[PU g.sh hd (DF (Xj.1 hcm)),hslen]
  rw[hfam];simp only[eZ,seval,W3,eY,c149,AD,Tfa,s1,f1,f2,W1 G.2,W1 hc,i9,c5n,tadd];have hnl:(nbsS g.sh (AT g.sh g.w g.cells)).length=g.cells.length:=by rw[nbsS,W0,hslen]
  have hna:∀i,i<g.cells.length->(nbsS g.sh (AT g.sh g.w g.cells))[i]?=some (nbS g.sh (AT g.sh g.w g.cells) (spC g i)):=λi hi=>by rw[nbsS,Wq,DF hi];rfl
  have hnx:∀s,(nbS g.sh (AT g.sh g.w g.cells) s).length<=g.cells.length:=λs=>by rw[<-hslen];exact Bt ..
  generalize AT g.sh g.w g.cells=S at hnl hna hnx;generalize hNB:nbsS g.sh S=NB at hnl hna;refine AL (λv:VRg=>⟨[(4,true,.sl v.tl v.E),(57,true,eLl NB),(58,true,.int .i64 NB.length),(59,true,.int .i64 v.i)],v.H,v.n⟩) (IFy NB.length λi=>(List.range i).map λ(c:Nat)=>(nbS g.sh S (spC g c)++[(c:Int)]).mergeSort leI) (λv=>NB.length-v.i)
   ⟨0,[],.nil,_,3⟩ rfl ⟨We _,(show 2<=3 by decide),hfrN,.inl rfl,.inr rfl,trivial⟩ ?_
  rintro⟨i,E,tl,H,n⟩ ⟨hi,hn,c6,htl,d7,hEL⟩;simp only at hi hn c6 htl d7 hEL;by_cases c5:i<NB.length;case neg=>
   obtain rfl:i=NB.length:=zo
   simp only[eZ,seval,lt_F c5];rw[hnl]at hEL;exact Wk.tup (.cons (Wk.slx d7 hEL.wks) (.cons (Wk.refl _) .nil))
  have e:=AE (k:=i) zo;have hg:=hna i zo;have hxl:=hnx (spC g i);have hEl:E.length=i:=by rw[hEL.len,W0,Yb]
  generalize hx:nbS g.sh S (spC g i)=x at hg hxl;simp only[eZ,seval,eY,lt_T c5,hg];refine(PT (.inl ⟨_,rfl,.inl rfl⟩) (show x.length<_ by omega)).mono ?_;intro o H1 n1 m5;have l5:∃lv,o= .ret lv:=by
   rcases m5 with⟨-,-,-,t,ho,-⟩|⟨-,-,rest,ho,-⟩<;>exact⟨_,ho⟩
  obtain⟨lv,rfl⟩:=l5;have j8:n+6<=n1/\n1<=n+10:=by rcases m5 with⟨-,-,h,-⟩|⟨-,h,-⟩<;>omega
  have hf1:AQ H1 n1:=by
   rcases m5 with⟨-,rfl,-⟩|⟨-,rfl,rest,-,rfl⟩
   ·exact λj hj=>c6 j zo
   ·exact c6.hset zo zo
  have hk1:∀j,j<n+6->hget H1 j=hget H j:=λj hj=>by
   rcases m5 with⟨-,rfl,-⟩|⟨-,rfl,rest,-,rfl⟩
   ·rfl
   ·rw[AA _ _ _ _ zo]
  have hm4:hget H1 (n+4)=none:=by rw[hk1 _ zo];exact c6 _ zo
  simp only[eE,seval,retK];refine VA m5 zo hm4 λid rest d6=>?_
  have hidn:n<=id/\id<n1:=zo
  simp only[eE,eN,seval,Ec];refine(NN (AB ..) zw (by simp;omega)).mono ?_;rintro o H2 n2 ⟨rfl,rfl,rfl⟩;rw[YT,List.drop_left,AN];have hsl:((x++[(i:Int)]).mergeSort leI).length=(x++[(i:Int)]).length:=DC _;have htk2:List.take (x++[(i:Int)]).length (((x++[(i:Int)]).mergeSort leI++rest).map eI)=((x++[(i:Int)]).mergeSort leI).map eI:=by rw[Wh,List.take_left' (by rw[W0,hsl])]
  have hle:((x++[(i:Int)]).length<=(((x++[(i:Int)]).mergeSort leI++rest)).length)=True:=W1 (by have:=hsl;simp only[Wr]at this⊢;omega);have hle2:((x++[(i:Int)]).length<=(x++[(i:Int)]).length+rest.length)=True:=W1 zo;have gt:tkG 1 2 (hset H1 id (.frz 1 (((x++[(i:Int)]).mergeSort leI++rest).map eI))) tl:=by
   rcases htl with h|h|⟨z,h1,h2,h3⟩
   ·exact .inl h
   ·exact .inr (.inl h)
   ·have:=c6.lt h3;exact .inr (.inr ⟨z,h1,h2,by rw[AA _ _ _ _ zo,hk1 z zo];exact h3⟩)
  have gf:AQ (hset H1 id (.frz 1 (((x++[(i:Int)]).mergeSort leI++rest).map eI))) n2:=hf1.hset (W8 _) zo;have q1:=W1 gt.app;have q2:(E.length<=35184372088831)=True:=W1 zo;have q3:Aj (E.length+1) 24=True:=W1 (AX zo zd);have hm3:=fr1 gf 3;simp only[eE,eN,seval,W0,retK,frzE,hle,hle2,htk2,AN,q1,q2,q3,hm3,e];generalize hset H1 id (.frz 1 (((x++[(i:Int)]).mergeSort leI++rest).map eI))=H5 at gt gf;refine .mk ⟨i+1,E++[.sl (if rest.length=0 then .exact 1 else .none 1) (((x++[(i:Int)]).mergeSort leI).map eI)],.own (n2+3) 1,hset (AO H5 tl) (n2+3) .tok,n2+5⟩ rfl ⟨c5,zp,(AU gt gf).hset (m:=n2+5) zo zo,.inr (.inr ⟨n2+3,rfl,zo,AB ..⟩),.inl rfl,?_⟩ zp
  ·simp only[XI,Wh,Wu,X5];rw[hx];exact hEL.app ⟨⟨_,rfl,.inl (by split<;>rfl)⟩,trivial⟩
 ·
  have hnl:(nbsS g.sh (AT g.sh g.w g.cells)).length=g.cells.length:=by rw[nbsS,W0,hslen]
  have hna:∀i,i<g.cells.length->(nbsS g.sh (AT g.sh g.w g.cells))[i]?=some (nbS g.sh (AT g.sh g.w g.cells) (spC g i)):=λi hi=>by rw[nbsS,Wq,DF hi];rfl
  have hnx:∀s,(nbS g.sh (AT g.sh g.w g.cells) s).length<=g.cells.length:=λs=>by rw[<-hslen];exact Bt ..
  have hfam:famS g.sh g.w g.h (AT g.sh g.w g.cells) 6=(List.range g.cells.length).flatMap λ(c:Nat)=>prY (nbS g.sh (AT g.sh g.w g.cells) (spC g c)) c (nbS g.sh (AT g.sh g.w g.cells) (spC g c)).length:=by
   unfold famS;rw[W7 zd,W7 zd,W7 zd,W7 zd,W7 zd,W7 zd,Wg rfl,hslen];rw[List.flatMap_def,List.flatMap_def];congr 1;refine Xk λc hcm=>?_
   rw[hna c (Xj.1 hcm),Wm];unfold prY;rw[Wj]
  rw[hfam];simp only[eZ,seval,W3,eY,c149,AD,Tfa,s1,f1,f2,W1 G.2,W1 hc,i9,c6n,tadd];generalize AT g.sh g.w g.cells=S at hnl hna hnx;generalize hNB:nbsS g.sh S=NB at hnl hna;have hLl:∀i,((List.range i).flatMap λ(c:Nat)=>prY (nbS g.sh S (spC g c)) c (nbS g.sh S (spC g c)).length).length<=256*i:=λi=>by
   induction i with
   |zero=>simp
   |succ i ih=>
    rw[XI,Yx,Wr];simp only[YF,List.flatMap_nil,X2];have:=PV (nbS g.sh S (spC g i)) i (nbS g.sh S (spC g i)).length;have:=hnx (spC g i);omega
  refine AL (λv:VRg=>⟨[(4,true,.sl v.tl v.E),(78,true,eLl NB),(79,true,.int .i64 NB.length),(80,true,.int .i64 v.i)],v.H,v.n⟩) (IFy NB.length λi=>(List.range i).flatMap λ(c:Nat)=>prY (nbS g.sh S (spC g c)) c (nbS g.sh S (spC g c)).length) (λv=>NB.length-v.i)
   ⟨0,[],.nil,_,3⟩ rfl ⟨We _,(show 2<=3 by decide),hfrN,.inl rfl,.inr rfl,trivial⟩ ?_
  rintro⟨i,E,tl,H,n⟩ ⟨hi,hn,c6,htl,d7,hEL⟩;simp only at hi hn c6 htl d7 hEL;by_cases c5:i<NB.length;case neg=>
   obtain rfl:i=NB.length:=zo
   simp only[eZ,seval,lt_F c5];rw[hnl]at hEL;exact Wk.tup (.cons (Wk.slx d7 hEL.wks) (.cons (Wk.refl _) .nil))
  have e:=AE (k:=i) zo;have hg:=hna i zo;have hxl:=hnx (spC g i);have hLi:=hLl i;have hstep:∀z,((List.range (i+1)).flatMap λ(c:Nat)=>prY (nbS g.sh S (spC g c)) c (nbS g.sh S (spC g c)).length)=z->((List.range i).flatMap λ(c:Nat)=>prY (nbS g.sh S (spC g c)) c (nbS g.sh S (spC g c)).length)++prY (nbS g.sh S (spC g i)) i (nbS g.sh S (spC g i)).length=z:=λz hz=>by
   rw[<-hz,XI,Yx];simp only[YF,List.flatMap_nil,X2]
  have hstep:=hstep _ rfl;generalize ((List.range i).flatMap λ(c:Nat)=>prY (nbS g.sh S (spC g c)) c (nbS g.sh S (spC g c)).length)=L at hEL hLi hstep;generalize hx:nbS g.sh S (spC g i)=x at hg hxl hstep;simp only[eZ,seval,eY,lt_T c5,hg];refine AL (λv:VRg=>⟨[(4,true,.sl v.tl v.E),(11,true,.int .i64 i),(78,true,eLl NB),(79,true,.int .i64 NB.length),(80,true,.int .i64 i),(85,true,eIs x),(86,true,.int .i64 x.length),(87,true,.int .i64 v.i)],v.H,v.n⟩) (IFy x.length λj=>L++prY x i j) (λv=>x.length-v.i)
   ⟨0,E,tl,H,n⟩ rfl ⟨We _,hn,c6,htl,d7,by rw[show prY x i 0=[]from rfl,X2];exact hEL⟩ ?_
  rintro⟨j,E2,tl2,H2,n2⟩ ⟨hj,hn2,t8,htl2,hes2,hEL2⟩;simp only at hj hn2 t8 htl2 hes2 hEL2;by_cases hlj:j<x.length;case neg=>
   obtain rfl:j=x.length:=zo
   simp only[eZ,seval,lt_F hlj,e];rw[hstep]at hEL2;exact .mk ⟨i+1,E2,tl2,H2,n2⟩ rfl ⟨c5,hn2,t8,htl2,hes2,hEL2⟩ zp
  have ej:=AE (k:=j) zo;have hgj:=W2 hlj;have hsu:=SM x i hgj;generalize x[j]=b at hgj hsu;by_cases hb:(i:Int)<b
  ·rw[Wg hb]at hsu;have r9:=PV x i j;have hEl:E2.length<=70000:=by rw[hEL2.len,Wr];omega
   have q1:A5 H2 1 tl2=True:=W1 htl2.app;have q2:(E2.length<=35184372088831)=True:=W1 zo;have q3:Aj (E2.length+1) 24=True:=W1 (AX zo zd);simp only[eZ,seval,eY,lt_T hlj,hgj,BB hb,ej,q1,q2,q3,fr1 t8];refine .mk ⟨j+1,E2++[.sl (.exact 1) [.int .i64 i,.int .i64 b]],.own (n2+5) 1,hset (AO H2 tl2) (n2+5) .tok,n2+7⟩ rfl ⟨hlj,zp,(AU htl2 t8).hset (m:=n2+7) zo zo,.inr (.inr ⟨n2+5,rfl,zo,AB ..⟩),.inl rfl,?_⟩ zp;simp only[hsu];rw[<-X8];exact hEL2.app ⟨⟨.exact 1,rfl,.inl rfl⟩,trivial⟩
  ·rw[W7 hb,X2]at hsu;simp only[eZ,seval,eY,lt_T hlj,hgj,Ax hb,ej];exact .mk ⟨j+1,E2,tl2,H2,n2⟩ rfl ⟨hlj,hn2,t8,htl2,hes2,by simp only[hsu];exact hEL2⟩ zp
 ·
  have hfam:famS g.sh g.w g.h (AT g.sh g.w g.cells) 7=[allL g.cells.length]:=by
   unfold famS;rw[W7 zd,W7 zd,W7 zd,W7 zd,W7 zd,W7 zd,W7 zd,hslen];rfl
  rw[hfam];simp only[eZ,seval,W3,eY,c149,AD,Tfa,s1,f1,f2,W1 G.2,W1 hc,i9,c7n,tadd];refine AL (λv:VRg=>⟨[(15,true,.sl v.tl v.E),(106,true,.int .i64 g.cells.length),(107,true,.int .i64 v.i)],v.H,v.n⟩) (IFz g.cells.length) (λv=>g.cells.length-v.i)
   ⟨0,[],.nil,_,3⟩ rfl ⟨We _,(show 2<=3 by decide),hfrN,.inl rfl,.inr rfl,rfl⟩ ?_
  rintro⟨i,E,tl,H,n⟩ ⟨hi,hn,c6,htl,d7,hEL⟩;simp only at hi hn c6 htl d7 hEL;subst hEL;have hEl:(allL i).length<=i:=Bt ..;by_cases c5:i<g.cells.length
  ·have e:=AE (k:=i) zo;have q1:A5 H 1 tl=True:=W1 htl.app;have q2:((allL i).length<=35184372088831)=True:=W1 zo;have q3:Aj ((allL i).length+1) 8=True:=W1 (AX zo zd);simp only[eZ,seval,W0,lt_T c5,e,q1,q2,q3,fr1 c6];refine .mk ⟨i+1,(allL i).map eI++[.int .i64 i],.own (n+3) 1,hset (AO H tl) (n+3) .tok,n+5⟩ rfl ⟨c5,zp,(AU htl c6).hset (m:=n+5) zo zo,.inr (.inr ⟨n+3,rfl,zo,AB ..⟩),.inl rfl,?_⟩ zp;simp only[Jv,Wh,Wu,X5]
  obtain rfl:i=g.cells.length:=zo
  simp only[eZ,seval,lt_F c5];exact Wk.tup (.cons (Wk.slx (m:=[eIs (allL g.cells.length)]) (.inl rfl) (.cons (Wk.sl (d7.imp (λz=>z) λq=>by rw[q];rfl)) .nil)) (.cons (Wk.refl _) .nil))
abbrev cDz(d:Zo):List Fs:=[.str d.nm,.int .i64 d.ver,.int .i64 d.sh,.int .i64 d.w,.int .i64 d.h,eIs d.holes,eSys d.syms,eRgs d.regs,eCls d.clus,eRus d.ruls,z0,z0,z0,zs,zs,zs,zs]
def Tbs:Tab:=tadd 145 (s1 dD Zh CA) (tadd 146 (s1 dD Zh λd=>.int .i64 (chkD d)) (tadd 147 sMk (tadd 148 (s1 dGd (λg=>few g.holes/\few g.cells) nbV) tnil)))
def gMk:∀args H n,(sMk args H).1->Am prog 147 args H n (sMk args H).2:=by
 intro args H n hh;unfold sMk at hh⊢;split at hh
 ·obtain⟨h1,h2⟩:=hh;refine AP.args ((p147 _ _ _ _ h2).quiet H n) ?_;rintro g vs ⟨v,r,rfl,k1,v2,r2,rfl,k2,v3,r3,rfl,k3,v4,r4,rfl,k4,k5⟩;exact⟨v,_,rfl,k1,v2,_,rfl,k2,v3,_,rfl,k3,v4,_,rfl,dIs.wk _ h1 _ _ k4,k5⟩
 ·exact hh.elim
def PW:AI prog Tbs:=(((AI.tnil.add (q1 λg h=>p148 g h.1 h.2)).add gMk).add (q1 p146)).add (q1 p145)
theorem Tbs_m(sh w h:Int)(x:Fs)(H:AC):Tbs 147 [.int .i64 sh,.int .i64 w,.int .i64 h,x] H=(dIs.ok x/\few (dIs.dec x),BJ sh w h (dIs.dec x)):=rfl
theorem Tbs_n(a:List Fs)(H:AC):Tbs 148 a H=s1 dGd (λg=>few g.holes/\few g.cells) nbV a H:=rfl
section
variable {H:AC} {n p:Nat} {d:Zo}
theorem LO(hd:Zh d)(hp:hget H p=some (.box (cDz d))):AP prog 99 [.ptr p 0] H n λo H' n'=>n'=n/\match resD d with
  | .error e=>o= .ret (.int .i64 e)/\H'=hset H p (.box (cDz dcl0))
  | .ok x=>o= .ret (.int .i64 0)/\H'=hset H p (.box (cDz x)):=by
 refine c99.a (AF PW (AG ?_));have e1:dD.ok (.agg (AH d))=True:=A8 d;have e2:dD.dec (.agg (AH d))=d:=Al d;simp only[AH]at e1 e2;cases hr:resD d with
 |error e=>
  have hv:CA d= .tup [encD dcl0,.int .i64 e]:=by unfold CA;rw[hr]
  simp only[eE,eN,seval,eY,c99,hp,Tbs,s1,e1,e2,W1 hd,hv,tadd]
 |ok x=>
  have hv:CA d= .tup [encD x,.int .i64 0]:=by unfold CA;rw[hr]
  simp only[eE,eN,seval,eY,c99,hp,Tbs,s1,e1,e2,W1 hd,hv,tadd]
theorem PX(hd:Zh d)(hp:hget H p=some (.box (cDz d))):AP prog 100 [.ptr p 0] H n λo H' n'=>o= .ret (.int .i64 (chkD d))/\H'=H/\n'=n:=by
 refine c100.a (AF PW (AG ?_));have e1:dD.ok (.agg (AH d))=True:=A8 d;have e2:dD.dec (.agg (AH d))=d:=Al d;simp only[AH]at e1 e2;simp only[eE,eN,seval,c100,hp,Tbs,s1,e1,e2,W1 hd,tadd]
theorem SN{cells:List Int}(hd:Zh d)(hg:Ai d.sh d.w d.h d.holes=some cells)(hp:hget H p=some (.box (cDz d))):AP prog 101 [.ptr p 0] H n λo H' n'=>o= .ret (.int .i64 0)/\H'=hset H p (.box (cKb d cells zs))/\n'=n:=by
 refine c101.a (AF PW (AG ?_));have hm:BJ d.sh d.w d.h d.holes= .tup [encG d.sh d.w d.h d.holes cells,.int .i64 0]:=by unfold BJ;rw[hg]
 have G:GrV (At d cells):=⟨hg,hd.ho⟩;have g1:dGd.ok (.agg [.int .i64 d.sh,.int .i64 d.w,.int .i64 d.h,eIs d.holes,eIs cells])=True:=DO (At d cells);have g2:dGd.dec (.agg [.int .i64 d.sh,.int .i64 d.w,.int .i64 d.h,eIs d.holes,eIs cells])=At d cells:=CE (At d cells);have hho:few (At d cells).holes=True:=W1 hd.ho;have hce:few (At d cells).cells=True:=W1 (by
  obtain⟨-,h2,-⟩:=Ay hg;show cells.length<_;omega)
 have q9:nbV (At d cells)= .tup [eLl (nbsS d.sh (AT d.sh d.w cells)),.int .i64 0]:=U1 G;simp only[eZ,seval,eY,c101,hp,Tbs_m,Tbs_n,s1,g1,g2,Ad,AY,W1 hd.ho,hho,hce,hm,q9,AN]
end
def Tbc:Tab:=tadd 149 (s2 dGd dI (λg f=>GrV g/\0<=f/\f<=7) λg f=>.tup [eLl (famS g.sh g.w g.h (AT g.sh g.w g.cells) f.toNat),.int .i64 0])
 (tadd 150 (s2 dGd dLl (λg l=>Ai g.sh g.w g.h g.holes=some g.cells/\few g.holes/\Bp l) λg l=>rgsV g.cells l) tnil)
def Tbc_ok:AI prog Tbc:=(AI.tnil.add (q2 λg l h=>p150 g l h.1 h.2.1 h.2.2)).add (q2 λg f h=>by
 have:=p149 g f.toNat h.1 zo;rw[Int.toNat_of_nonneg h.2.1]at this;exact this)
structure IBk(x:Zo)(cells:List Int)(p n0:Nat)(H0:AC)(m:Nat)(L:Nat->List (List (List Int)))(v:VRg):Prop where
 hi:v.i<=m
 hn:n0<=v.n
 fr:AQ v.H v.n
 kp:∀id ob,id≠p->id<n0->hget H0 id=some ob->hget v.H id=some ob
 hp:hget v.H p=some (.box (cKb x cells (.sl v.tl v.E)))
 tok:tkG 1 n0 v.H v.tl
 es:v.tl.esz=1\/v.E=[]
 hE:Wks v.E ((L v.i).map eLl)
def LP{x:Zo}{cells:List Int}{H:AC}{n p:Nat}(hfx:Zh x)(hc:chkD x=0)(hg:Ai x.sh x.w x.h x.holes=some cells)(hf:AQ H n)(hp:hget H p=some (.box (cKb x cells zs))):
  AP prog 102 [.ptr p 0] H n λo H' n'=>o= .ret (.int .i64 0)/\AQ H' n'/\n<=n'/\(∀id ob,id≠p->id<n->hget H id=some ob->hget H' id=some ob)/\
   ∃tl E,hget H' p=some (.box (cKb x cells (.sl tl E)))/\(tl.esz=1\/E=[])/\Wks E ((((List.range 8).map λf=>famS x.sh x.w x.h (AT x.sh x.w cells) f)++x.regs.map λr=>r.ls.map (BO cells)).map eLl):=by
 have hpn:=hf.lt hp;refine c102.a (AF Tbc_ok (AG ?_));have G:GrV (At x cells):=⟨hg,hfx.ho⟩;have g1:dGd.ok (.agg [.int .i64 x.sh,.int .i64 x.w,.int .i64 x.h,eIs x.holes,eIs cells])=True:=DO (At x cells);have g2:dGd.dec (.agg [.int .i64 x.sh,.int .i64 x.w,.int .i64 x.h,eIs x.holes,eIs cells])=At x cells:=CE (At x cells);have hho:few (At x cells).holes=True:=W1 hfx.ho;simp only[eE,eN,seval,c102];refine AL (λv:VRg=>⟨[(0,true,.ptr p 0),(10,true,.int .i64 v.i)],v.H,v.n⟩) (IBk x cells p n H 8 λi=>(List.range i).map λf=>famS x.sh x.w x.h (AT x.sh x.w cells) f) (λv=>8-v.i)
  ⟨0,[],.nil,H,n⟩ rfl ⟨We _,W8 _,hf,λid ob _ _ h=>h,hp,.inl rfl,.inr rfl,.nil⟩ ?_
 rintro⟨i,E,tl,H1,m⟩ hI;obtain⟨hi,hn,c6,hkp,hp1,htl,d7,hE⟩:=hI;simp only at hi hn c6 hkp hp1 htl d7 hE;by_cases c5:i<8
 ·have e:=AE (k:=i) zo;have hq:((i:Int)<8)=True:=W1 zo;have hq7:((i:Int)<=7)=True:=W1 zo;have hEl:E.length=i:=by
   have:=hE.len;rw[W0,W0,Yb]at this;exact this
  have hfm:(At x cells).sh=x.sh/\(At x cells).w=x.w/\(At x cells).h=x.h/\(At x cells).cells=cells:=⟨rfl,rfl,rfl,rfl⟩;have q1:A5 H1 1 tl=True:=W1 htl.app;have q2:(E.length<=35184372088831)=True:=W1 zo;have q3:Aj (E.length+1) 24=True:=W1 (AX zo zd);have hkP:=AV htl (i:=p) (.inr ⟨_,hp1⟩);rw[hp1]at hkP;have y1:∀k,(p=m+k)=False:=λk=>W4 zo
  have y2:∀k,(m+k=p)=False:=λk=>W4 zo
  simp only[eZ,seval,W3,eY,hp1,hq,hq7,Tbc,s2,g1,g2,Aw,Ag,W1 G,hfm.1,hfm.2.1,hfm.2.2.1,hfm.2.2.2,e,q1,q2,q3,fr1 c6,hkP,y2,tadd];refine .mk ⟨i+1,E++[eLl (famS x.sh x.w x.h (AT x.sh x.w cells) i)],.own (m+8) 1,hset (hset (AO H1 tl) (m+8) .tok) p (.box (cKb x cells (.sl (.own (m+8) 1) (E++[eLl (famS x.sh x.w x.h (AT x.sh x.w cells) i)])))),m+13⟩ rfl ⟨c5,zp,((AU htl c6).hset (m:=m+13) zo zo).hset (W8 _) (show p<m+13 by omega),λid ob h1 h2 h3=>?_,AB ..,.inr (.inr ⟨m+8,rfl,zo,?_⟩),.inl rfl,?_⟩ zp
  ·grind [AA,AV]
  ·simp only[];rw[AA _ _ _ _ zo,AB]
  ·simp only[XI,Wh,Wu,X5]at hE⊢;exact hE.app (.cons (Wk.refl _) .nil)
 obtain rfl:i=8:=zo
 have hq:(((8:Nat):Int)<8)=False:=W4 zd;simp only[eZ,seval,W0,hq,hp1];refine AL (λv:VRg=>⟨[(0,true,.ptr p 0),(44,true,eRgs x.regs),(45,true,.int .i64 x.regs.length),(46,true,.int .i64 v.i)],v.H,v.n⟩) (IBk x cells p n H x.regs.length λi=>((List.range 8).map λf=>famS x.sh x.w x.h (AT x.sh x.w cells) f)++(x.regs.take i).map λr=>r.ls.map (BO cells)) (λv=>x.regs.length-v.i)
  ⟨0,E,tl,H1,m⟩ rfl ⟨We _,hn,c6,hkp,hp1,htl,d7,by
   simp only[XT,X5,X2];exact hE⟩ ?_
 clear hE d7 htl hp1 hkp c6 hn hq c5 hi;rintro⟨i,E,tl,H1,m⟩ hI;obtain⟨hi,hn,c6,hkp,hp1,htl,d7,hE⟩:=hI;simp only at hi hn c6 hkp hp1 htl d7 hE;have hrl:x.regs.length<=4:=by simp_all [chkD,limD,W5,W9]<;>omega
 by_cases c5:i<x.regs.length
 ·have e:=AE (k:=i) zo;have hgr:=W2 c5;have hmem:x.regs[i]∈x.regs:=Wn c5;have hrg:=PC hc hg hmem;have hfl:Bp x.regs[i].ls=True:=W1 (hfx.rgs _ hmem);have c7:x.regs.take (i+1)=x.regs.take i++[x.regs[i]]:=by rw[Wl,hgr];rfl
  generalize x.regs[i]=r at hgr hrg hfl c7;have hgc:(Ai (At x cells).sh (At x cells).w (At x cells).h (At x cells).holes=some (At x cells).cells)=True:=W1 hg;have hgd:(Ai (At x cells).sh (At x cells).w (At x cells).h (At x cells).holes=some cells)=True:=W1 hg;have hgx:(At x cells).cells=cells:=rfl;have hEl:E.length=8+i:=by
   have:=hE.len;rw[W0,Wr,W0,W0,Yb,Wx]at this;omega
  have q1:A5 (hset H1 (m+2) (.box [.str r.nm,eLl r.ls])) 1 tl=True:=W1 ((htl.set (.inr (.inr (c6 _ zo)))).app);have gt:tkG 1 n (hset H1 (m+2) (.box [.str r.nm,eLl r.ls])) tl:=htl.set (.inr (.inr (c6 _ zo)));have gf:AQ (hset H1 (m+2) (.box [.str r.nm,eLl r.ls])) (m+4):=c6.hset (m:=m+4) zo zo;have gp:hget (hset H1 (m+2) (.box [.str r.nm,eLl r.ls])) p=some (.box (cKb x cells (.sl tl E))):=by rw[AA _ _ _ _ zo];exact hp1
  have q2:(E.length<=35184372088831)=True:=W1 zo;have q3:Aj (E.length+1) 24=True:=W1 (AX zo zd);have hkP:=AV gt (i:=p) (.inr ⟨_,gp⟩);rw[gp]at hkP;have y1:∀k,(p=m+k)=False:=λk=>W4 zo
  have y2:∀k,(m+k=p)=False:=λk=>W4 zo
  simp only[eZ,seval,W3,eY,hp1,lt_T c5,hgr,fr1 c6,AN,Tbc,s2,g1,g2,CH,Bd,hho,hgd,hgx,hfl,hrg,e,q1,q2,q3,hkP,y2,tadd];refine .mk ⟨i+1,E++[eLl (r.ls.map (BO cells))],.own (m+12) 1,hset (hset (AO (hset H1 (m+2) (.box [.str r.nm,eLl r.ls])) tl) (m+12) .tok) p (.box (cKb x cells (.sl (.own (m+12) 1) (E++[eLl (r.ls.map (BO cells))])))),m+17⟩ rfl ⟨c5,zp,((AU gt gf).hset (m:=m+17) zo zo).hset (W8 _) (show p<m+17 by omega),λid ob h1 h2 h3=>?_,AB ..,.inr (.inr ⟨m+12,rfl,zo,?_⟩),.inl rfl,?_⟩ zp
  ·grind [AA,AV]
  ·simp only[];rw[AA _ _ _ _ zo,AB]
  ·simp only[c7,Wh,Wu,X5]at hE⊢;rw[<-X8];exact hE.app (.cons (Wk.refl _) .nil)
 obtain rfl:i=x.regs.length:=zo
 rw[Wj]at hE;simp only[eZ,seval,lt_F c5];exact⟨c6,hn,hkp,tl,E,hp1,d7,hE⟩
def stB(d:Zo)(H:AC):Nat->Prop
 |0=>hget H 3=some (.box (cDz d))
 |1=>∃x,resD d= .ok x/\hget H 3=some (.box (cDz x))
 |2=>∃x,resD d= .ok x/\chkD x=0/\hget H 3=some (.box (cDz x))
 |3=>∃x cells,resD d= .ok x/\chkD x=0/\Ai x.sh x.w x.h x.holes=some cells/\hget H 3=some (.box (cKb x cells zs))
 |_=>∃x cells tl E,resD d= .ok x/\chkD x=0/\Ai x.sh x.w x.h x.holes=some cells/\hget H 3=some (.box (cKb x cells (.sl tl E)))/\(tl.esz=1\/E=[])/\Wks E ((((List.range 8).map λf=>famS x.sh x.w x.h (AT x.sh x.w cells) f)++x.regs.map λr=>r.ls.map (BO cells)).map eLl)
structure IBu(d:Zo)(v:VF):Prop where
 hi:v.i<=4
 hn:4<=v.n
 fr:AQ v.H v.n
 h1:hget v.H 1=some (.box zKn)
 st:stB d v.H v.i
abbrev fB(f:FuncId):Fs:=.fn (.func f) [.ptr 3 0] []
def p57(d:Zo)(hd:Zh d):Pur prog 57 [encD d] (B4 d):=by
 refine .mk ⟨Ab 0 d,trivial⟩ (by unfold B4;split<;>exact⟨Ah 0 _,trivial,trivial⟩) (c57.a (AF AI.tnil (AG ?_)));simp only[eE,eN,seval,c57,AH];refine AL (λv:VF=>⟨[(2,true,.ptr 1 0),(4,true,.ptr 3 0),(15,true,.sl (.exact 1) [fB 99,fB 100,fB 101,fB 102]),(16,true,.int .i64 4),(17,true,.int .i64 v.i)],v.H,v.n⟩) (IBu d) (λv=>4-v.i)
  ⟨0,_,4⟩ rfl ⟨zp,W8 _,?_,rfl,?_⟩ ?_
 ·simp only[];repeat' (first|exact AQ.nil|refine AQ.hset ?_ (W8 _) zd)
 ·rfl
 rintro⟨i,H,n⟩ ⟨hi,hn,c6,h1,hst⟩;simp only at hi hn c6 h1 hst;have w1':IntKind.wrap .i64 (1+1)=2:=Aq zd zd;have w2':IntKind.wrap .i64 (2+1)=3:=Aq zd zd;have w3':IntKind.wrap .i64 (3+1)=4:=Aq zd zd;rcases(by omega:i=0\/i=1\/i=2\/i=3\/i=4)with rfl|rfl|rfl|rfl|rfl
 ·simp only[eZ,seval,eY,c4n];refine(LO hd hst).mono ?_;rintro o H1 n1 ⟨rfl,hm⟩;cases hr:resD d with
  |error e=>
   rw[hr]at hm;obtain⟨rfl,rfl⟩:=hm;have he:(e=0)=False:=W4 (EP hr);have hb:B4 d= .tup [Bh knd0,.int .i64 e]:=by unfold B4 DS;rw[hr]
   rw[hb];simp only[eZ,seval,W6,BG,retK,he,h1];exact MZ e
  |ok x=>
   rw[hr]at hm;obtain⟨rfl,rfl⟩:=hm;simp only[eZ,seval,W3,retK,w01];exact .mk ⟨1,hset H 3 (.box (cDz x)),n1⟩ rfl ⟨zp,hn,c6.hset (W8 _) (show 3<n1 by omega),by simp only[];rw[AA _ _ _ _ zd];exact h1,x,hr,AB ..⟩ zp
 ·obtain⟨x,hr,h3⟩:=hst;have hfx:=Fq hd hr;simp only[eZ,seval,eY,c4n];refine(PX hfx h3).mono ?_;rintro o H1 n1 ⟨rfl,rfl,rfl⟩;by_cases hc:chkD x=0
  ·simp only[eZ,seval,W3,retK,BB hc,w1'];exact .mk ⟨2,H1,n1⟩ rfl ⟨zp,hn,c6,h1,x,hr,hc,h3⟩ zp
  ·have hb:B4 d= .tup [Bh knd0,.int .i64 (chkD x)]:=by unfold B4 DS;rw[hr];simp only[];rw[Wg hc]
   rw[hb];simp only[eZ,seval,W6,BG,retK,Ax hc,h1];exact MZ _
 ·obtain⟨x,hr,hc,h3⟩:=hst;have hfx:=Fq hd hr;obtain⟨cells,hg⟩:=MX hc;simp only[eZ,seval,eY,c2n,c4n];refine(SN hfx hg h3).mono ?_;rintro o H1 n1 ⟨rfl,rfl,rfl⟩;simp only[eZ,seval,W3,retK,w2'];exact .mk ⟨3,hset H 3 (.box (cKb x cells zs)),n1⟩ rfl ⟨zp,hn,c6.hset (W8 _) (show 3<n1 by omega),by simp only[];rw[AA _ _ _ _ zd];exact h1,x,cells,hr,hc,hg,AB ..⟩ zp
 ·obtain⟨x,cells,hr,hc,hg,h3⟩:=hst;have hfx:=Fq hd hr;simp only[eZ,seval,eY,c3n,c4n];refine(LP hfx hc hg c6 h3).mono ?_;rintro o H1 n1 ⟨rfl,hf1,j8,hk,tl,E,hp,d7,hE⟩;simp only[eZ,seval,W3,retK,w3'];exact .mk ⟨4,H1,n1⟩ rfl ⟨W8 _,zp,hf1,hk 1 _ zd zo h1,x,cells,tl,E,hr,hc,hg,hp,d7,hE⟩ zp
 ·obtain⟨x,cells,tl,E,hr,hc,hg,hp,d7,hE⟩:=hst;have hb:B4 d= .tup [Bh (Um x cells),.int .i64 0]:=by
   unfold B4 DS;rw[hr];simp only[];rw[W7 (λz=>z hc),hg]
  rw[hb];simp only[eZ,seval,BG,c4n,hp,h1];exact Wk.tup (.cons (U2 (d:=x) (g:=At x cells) (Wk.refl _) (Wk.refl _) (Wk.refl _) (Wk.refl _) (Wk.refl _) (Wk.refl _) (Wk.refl _) (Wk.refl _) (Wk.slx d7 hE)) (.cons (Wk.refl _) .nil))
def PY{sh w h:Int}{S:List Spot}(hS:S.length<=256)(f:Nat):Bp (famS sh w h S f):=by
 have hidx:∀p:Nat->Bool,(idxP S.length p).length<=256:=λp=>Xb (Bt ..) hS
 have m9:∀f,Bp (Bg S f):=λf=>by
  refine⟨?_,λx hx=>?_⟩
  ·have:(Bg S f).length<=49:=Xb (Xu ..) (by simp [Ji]);show _<_;omega
  ·grind [Bg,B0]
 have q9:∀s,(nbS sh S s).length<=256:=λs=>hidx _
 have hmap:∀(l:List (List Int)),l.length<=256->(∀x∈l,x.length<=256)->Bp l:=λl h1 h2=>⟨show _<_ by omega,λx hx=>by
  have:=h2 x hx;show _<_;omega⟩
 unfold famS;split
 ·grind
 split
 ·exact m9 _
 split
 ·exact m9 _
 split
 ·split
  ·exact m9 _
  ·split
   ·refine hmap _ ?_ λx hx=>?_
    ·unfold K5;simp only[Wr];split<;>split<;>simp
    ·unfold K5 at hx;rcases Xo.1 hx with hx|hx
     ·split at hx
      ·cases hx
      ·rw[Xs.1 hx];exact hidx _
     ·split at hx
      ·cases hx
      ·rw[Xs.1 hx];exact hidx _
   ·exact hmap _ zw zw
 split
 ·grind [nbsS,List.length_map]
 split
 ·grind
 split
 ·refine⟨?_,λx hx=>?_⟩
  ·have key:∀n,n<=S.length->((List.range n).flatMap λ(c:Nat)=>(((nbsS sh S)[c]?.getD []).filter λb=>decide ((c:Int)<b)).map λb=>[(c:Int),b]).length<=256*n:=λn=>by
    induction n with
    |zero=>intro _;simp
    |succ n ih=>
     intro hn;rw[XI,Yx,Wr];simp only[YF,List.flatMap_nil,X2,W0];have h1:=ih zo;have h2:(((nbsS sh S)[n]?.getD []).filter λb=>decide ((n:Int)<b)).length<=256:=by
      refine Xb (Xu ..) ?_;rw[nbsS,Wq];cases S[n]? with
      |none=>simp
      |some s=>exact q9 s
     omega
   have:=key S.length (W8 _);show _<_;omega
  ·grind
 ·grind
def PZ{d:Zo}(hd:Zh d){k:Zm}(h:DS d= .ok k):FewKn k:=by
 obtain⟨x,cells,hr,hc,hg,rfl⟩:=I3 h;have hfx:=Fq hd hr;obtain⟨-,h2,-⟩:=Ay hg;have hS:(AT x.sh x.w cells).length<=256:=by unfold AT;rw[W0];exact h2
 have hrl:x.regs.length<1000000000:=hfx.rg;have hrl4:x.regs.length<=4:=by simp_all [chkD,limD,W5,W9]<;>omega
 refine⟨hfx,Cg hfx.ho,show cells.length<_ by omega,PY (w:=x.w) (h:=x.h) hS 4,?_,λl hl=>?_⟩
 ·show(((List.range 8).map _)++x.regs.map _).length<_;rw[Wr,W0,W0,Yb];omega
 ·rcases Xo.1 hl with hl|hl
  ·obtain⟨f,-,rfl⟩:=Xh.1 hl;exact PY hS f
  ·obtain⟨r,hr,rfl⟩:=Xh.1 hl;have:=hfx.rgs r hr;refine⟨by show(r.ls.map _).length<_;rw[W0];exact this.1,λy hy=>?_⟩;obtain⟨z,hz,rfl⟩:=Xh.1 hy;have:=this.2 z hz;show(z.map _).length<_;rw[W0];exact this
def Tkc:Tab:=tadd 57 (s1 dD Zh B4) (tadd 58 (s2 dKn dKn (λ_ b=>FewKn b) λa b=>.bool (decide (a=b))) tnil)
def Tkc_ok:AI prog Tkc:=(AI.tnil.add (q2 λa b h=>p58 a b h)).add (q1 λd h=>p57 d h)
def p32(k:Zm)(h1:Zh k.d):Pur prog 32 [Bh k] (.int .i64 (BF k)):=by
 refine .mk ⟨Ah 0 k,trivial⟩ trivial (c32.a (AF Tkc_ok (AG ?_)));have e1:dD.ok (.agg (AH k.d))=True:=A8 k.d;have e2:dD.dec (.agg (AH k.d))=k.d:=Al k.d;have u1:dKn.ok (.agg (AJ k))=True:=DE k;have u2:dKn.dec (.agg (AJ k))=k:=CC k;simp only[AH]at e1 e2;simp only[AJ,AD,AH,X3,X1]at u1 u2;unfold BF Gt;cases hb:DS k.d with
 |error e=>
  have hv:B4 k.d= .tup [Bh knd0,.int .i64 e]:=by unfold B4;rw[hb]
  have he:(e=0)=False:=W4 (Jw hb);simp only[eZ,seval,W3,W6,eY,c32,AJ,AD,AH,Tkc,s1,s2,e1,e2,u1,u2,W1 h1,hv,he,tadd]
 |ok x=>
 have hv:B4 k.d= .tup [Bh x,.int .i64 0]:=by unfold B4;rw[hb]
 have v1:dKn.ok (.agg (AJ x))=True:=DE x;have v2:dKn.dec (.agg (AJ x))=x:=CC x;have h2:=PZ h1 hb;simp only[AJ,AD,AH,X3,X1]at v1 v2;simp only[];by_cases hx:k=x
 ·simp only[eZ,seval,W3,eY,c32,AJ,AD,AH,Tkc,s1,s2,e1,e2,u1,u2,v1,v2,W1 h1,W1 h2,hv,BB hx,tadd]
 ·simp only[eZ,seval,W3,W6,eY,c32,AJ,AD,AH,Tkc,s1,s2,e1,e2,u1,u2,v1,v2,W1 h1,W1 h2,hv,Ax hx,tadd]
section
def rowX(A:List Fs)(c:AC->Prop)(r:Fs):List Fs->AC->Prop×Fs:=λa H=>(a=A/\c H,r)
variable {i4:FuncId} {cap:List Fs}
theorem LQ{A:List Fs}{c:AC->Prop}{r:Fs}(h:∀H n,c H->Am prog i4 A H n r):∀args H n,(rowX A c r args H).1->Am prog i4 args H n (rowX A c r args H).2:=by
 rintro args H n ⟨rfl,hc⟩;exact h H n hc
def rowS(cap:List Fs)(ok:Int->Prop)(f:Int->Fs):List Fs->AC->Prop×Fs:=λa _=>match a with
 | .int .i64 x::c=>(c=cap/\ok x,f x)
 |_=>(False,.tup [])
theorem VB{ok:Int->Prop}{f:Int->Fs}(h:∀x,ok x->Pur prog i4 (eI x::cap) (f x)):∀args H n,(rowS cap ok f args H).1->Am prog i4 args H n (rowS cap ok f args H).2:=by
 intro args H n hh;unfold rowS at hh⊢;split at hh
 ·obtain⟨rfl,h1⟩:=hh;exact(h _ h1).quiet H n
 ·exact hh.elim
def rowB(cap:List Fs)(ok:Int->Int->Prop)(f:Int->Int->Fs):List Fs->AC->Prop×Fs:=λa _=>match a with
 | .int .i64 x:: .int .i64 y::c=>(c=cap/\ok x y,f x y)
 |_=>(False,.tup [])
theorem rowBq{ok:Int->Int->Prop}{f:Int->Int->Fs}(h:∀x y,ok x y->Pur prog i4 (eI x::eI y::cap) (f x y)):∀args H n,(rowB cap ok f args H).1->Am prog i4 args H n (rowB cap ok f args H).2:=by
 intro args H n hh;unfold rowB at hh⊢;split at hh
 ·obtain⟨rfl,h1⟩:=hh;exact(h _ _ h1).quiet H n
 ·exact hh.elim
theorem SO(l:List Int)(s:Int):decide (0<=idxG l s)=l.contains s:=by
 unfold idxG;cases h:l.findIdx? (λx=>decide (x=s))with
 |none=>grind
 |some k=>
  obtain⟨hl,h1,-⟩:=Xq.1 h;have:l.contains s=true:=by grind
  rw[this];simp
def Tct:Tab:=tadd 64 (s2 dIs dI (λl _=>few l) λl x=>eI (idxG l x)) tnil
theorem Tct_ok:AI prog Tct:=AI.tnil.add (q2 pw64)
theorem p36(l:List Int)(x:Int)(hl:few l):Pur prog 36 [eIs l,eI x] (.bool (l.contains x)):=by
 refine .mk ⟨AR 0 l,trivial,trivial⟩ trivial (c36.a (AF Tct_ok (AG ?_)));simp only[eE,eN,seval,c36,Tct,s2,Ad,AY,Aw,Ag,W1 hl,SO,tadd]
def AZ(k:Zm):List Int:=k.d.syms.map (·.v)
theorem Gg{k:Zm}{s:Int}{y:Zq}(h:k.d.syms[s.toNat]?=some y):at0 (AZ k) s=y.v:=by
 unfold at0 AZ;rw[Wq,h];rfl
abbrev okSy(k:Zm)(s:Int):Prop:=0<=s/\s<(k.d.syms.length:Int)
theorem p76(k:Zm)(s:Int)(h:okSy k s):Pur prog 76 [eI s,.ep (AJ k)] (eI (at0 (AZ k) s)):=by
 refine .mk ⟨trivial,Ah 0 k,trivial⟩ trivial (c76.a (AF AI.tnil (AG ?_)));have c5:s.toNat<k.d.syms.length:=zo
 have hg:=W2 c5;rw[Gg hg];generalize k.d.syms[s.toNat]=y at hg;simp only[eE,eN,seval,eY,c76,AJ,AD,AH,W1 h.1,W1 h.2,hg]
abbrev BW(k:Zm)(cells letters:List Int)(n:Int):List Fs:=[.fn (.func 76) [] [.ep (AJ k)],eIs cells,eIs letters,.int .i64 n]
theorem BQ(k:Zm)(cells letters:List Int)(n:Int):unders 0 (BW k cells letters n):=⟨⟨trivial,Ah 0 k,trivial⟩,AR 0 _,AR 0 _,trivial,trivial⟩
theorem LR{f0:FuncId}{ok:Int->Prop}{bad:Int->Int->Bool}(k:Zm)(cells letters:List Int)(n:Int)(hc:few cells)(hcap:unders 0 cap)
  (hq:∀a b,ok a/\ok b->Pur prog f0 (eI a::eI b::cap) (.bool (bad a b))) (d9:∀a∈cells,0<=a->ok a):
  Pur prog 109 [.agg (BW k cells letters n),.fn (.func f0) [] cap] (.bool (A9 bad cells)):=by
 have hT:AI prog (tadd f0 (rowB cap (λa b=>ok a/\ok b) λa b=>.bool (bad a b)) tnil):=AI.tnil.add (rowBq hq);have hTe:∀a H,tadd f0 (rowB cap (λa b=>ok a/\ok b) λa b=>.bool (bad a b)) tnil f0 a H=rowB cap (λa b=>ok a/\ok b) (λa b=>.bool (bad a b)) a H:=λa H=>by unfold tadd;rw[Wg rfl]
 generalize tadd f0 (rowB cap (λa b=>ok a/\ok b) λa b=>.bool (bad a b)) tnil=T at hT hTe;refine .mk ⟨BQ k cells letters n,⟨trivial,hcap⟩,trivial⟩ trivial (c109.a (AF hT (AG ?_)));have m5:cells.length<1000000000:=hc;simp only[eE,eN,seval,W0,c109];refine AL (λi:Nat=>⟨[(1,true,.fn (.func f0) [] cap),(2,true,.ptr 0 0),(10,true,eIs cells),(11,true,.int .i64 cells.length),(12,true,.int .i64 i)],hset hnil 0 (.box (BW k cells letters n)),2⟩)
  (λi=>i<=cells.length/\A9 bad cells=A9 bad (cells.drop i)) (λi=>cells.length-i) 0 rfl ⟨We _,rfl⟩ ?_
 rintro i ⟨hi,he⟩;by_cases c5:i<cells.length;case neg=>
  obtain rfl:i=cells.length:=zo
  rw[Xc]at he;rw[he];simp only[eZ,seval,lt_F c5];rfl
 have hg:=W2 c5;have e:=AE (k:=i) zo;have hoa:=d9 _ (Wn c5);rw[Wy c5,A9]at he;generalize cells[i]=a at hg he hoa;have hsub:∀b∈cells.drop (i+1),0<=b->ok b:=λb hb=>d9 b (YX hb)
 have hdr:List.drop (i+1) (cells.map eI)=(cells.drop (i+1)).map eI:=List.map_drop.symm;have htl:List.take cells.length (cells.map eI)=cells.map eI:=Xp zw;have hb1:(((i+1:Nat):Int)<=(cells.length:Int))=True:=W1 zo;have hRl:(cells.drop (i+1)).length=cells.length-(i+1):=XJ;simp only[eZ,seval,eY,lt_T c5,hg,e,hb1,htl,hdr];generalize hR:cells.drop (i+1)=R at he hsub hRl;obtain⟨p,hp⟩:∃p:Int->Bool,(λb=>decide (0<=a)&&decide (0<=b)&&bad a b)=p:=⟨_,rfl⟩;rw[hp]at he;have hpb:∀b,p b=(decide (0<=a)&&decide (0<=b)&&bad a b):=λb=>by rw[<-hp]
 refine AL (λj:Nat=>⟨[(1,true,.fn (.func f0) [] cap),(2,true,.ptr 0 0),(6,true,.int .i64 a),(10,true,eIs cells),(11,true,.int .i64 cells.length),(12,true,.int .i64 i),(21,true,eIs R),(22,true,.int .i64 R.length),(23,true,.int .i64 j)],hset hnil 0 (.box (BW k cells letters n)),2⟩)
  (λj=>j<=R.length/\R.any p=(R.drop j).any p) (λj=>R.length-j) 0 rfl ⟨We _,rfl⟩ ?_
 rintro j ⟨hj,hej⟩;by_cases hlj:j<R.length;case neg=>
  obtain rfl:j=R.length:=zo
  rw[Xc,List.any_nil]at hej;rw[hej,XG]at he;simp only[eZ,seval,lt_F hlj,e];exact .mk (i+1) rfl ⟨c5,by rw[hR];exact he⟩ zo
 have hgj:=W2 hlj;have ej:=AE (k:=j) zo;have hob:=hsub _ (Wn hlj);rw[Wy hlj,Z3]at hej;generalize R[j]=b at hgj hej hob;rw[hpb b]at hej;by_cases ha:0<=a;case neg=>
  rw[Ax ha,Ys,Ys,XG]at hej;simp only[eZ,seval,eY,lt_T hlj,hgj,W4 ha,ej];exact .mk (j+1) rfl ⟨hlj,hej⟩ zo
 by_cases hb:0<=b;case neg=>
  rw[Ax hb,YA,Ys,XG]at hej;simp only[eZ,seval,eY,lt_T hlj,hgj,W1 ha,W4 hb,ej];exact .mk (j+1) rfl ⟨hlj,hej⟩ zo
 have hoo:(ok a/\ok b)=True:=W1 ⟨hoa ha,hob hb⟩;rw[BB ha,BB hb,Bool.and_self,XU]at hej;cases hbd:bad a b with
 |true=>
  rw[hbd,YV]at hej;have hR2:A9 bad cells=true:=by rw[he,hej];rfl
  rw[hR2];simp only[eZ,seval,eY,lt_T hlj,hgj,W1 ha,W1 hb,hTe,rowB,W1 (hoa ha),W1 (hob hb),hbd]
 |false=>
  rw[hbd,XG]at hej;simp only[eZ,seval,eY,lt_T hlj,hgj,W1 ha,W1 hb,ej,hTe,rowB,W1 (hoa ha),W1 (hob hb),hbd];exact .mk (j+1) rfl ⟨hlj,hej⟩ zo
end
def Pa(ls l:List Int)(s:Int):cOwn ls (l++[s])=cOwn ls l+if(decide (0<=s)&&ls.contains s)=true then 1 else 0:=by grind [cOwn,List.length_append]
def Pb(ls l:List Int)(s:Int):cOth ls (l++[s])=cOth ls l+if(decide (0<=s)&& !ls.contains s)=true then 1 else 0:=by grind [cOth,List.length_append]
def VC(l:List Int)(s:Int):cNon (l++[s])=cNon l+if s<0 then 1 else 0:=by grind [cNon,List.length_append]
def Pc(ls l:List Int):cOwn ls l<=l.length:=Xu ..
def T7(ls l:List Int):cOth ls l<=l.length:=Xu ..
def non_le(l:List Int):cNon l<=l.length:=Xu ..
def Tco:Tab:=tadd 36 (s2 dIs dI (λl _=>few l) λl x=>.bool (l.contains x)) tnil
def Tco_ok:AI prog Tco:=AI.tnil.add (q2 p36)
abbrev cntV(ls l:List Int):Fs:=.tup [.int .i64 (cOwn ls l:Int),.int .i64 (cOth ls l:Int),.int .i64 (cNon l:Int)]
def p111(k:Zm)(cells letters:List Int)(n:Int)(hc:few cells)(hl:few letters):Pur prog 111 [.agg (BW k cells letters n)] (cntV letters cells):=by
 refine .mk ⟨BQ k cells letters n,trivial⟩ ⟨trivial,trivial,trivial,trivial⟩ (c111.a (AF Tco_ok (AG ?_)));have m5:cells.length<1000000000:=hc;simp only[eE,eN,seval,W0,c111];refine AL (λi:Nat=>⟨[(1,true,.ptr 0 0),(2,true,.int .i64 (cOwn letters (cells.take i):Int)),(3,true,.int .i64 (cOth letters (cells.take i):Int)),(4,true,.int .i64 (cNon (cells.take i):Int)),(8,true,eIs cells),(9,true,.int .i64 cells.length),(10,true,.int .i64 i)],hset hnil 0 (.box (BW k cells letters n)),4⟩)
  (λi=>i<=cells.length) (λi=>cells.length-i) 0 rfl (We _) ?_
 intro i hi;by_cases c5:i<cells.length;case neg=>
  obtain rfl:i=cells.length:=zo
  simp only[eZ,seval,lt_F c5,Wj];exact Wk.refl _
 have hg:=W2 c5;have e:=AE (k:=i) zo;have c7:cells.take (i+1)=cells.take i++[cells[i]]:=by rw[Wl,hg];rfl
 have b1:=Pc letters (cells.take i);have b2:=T7 letters (cells.take i);have b3:=non_le (cells.take i);rw[Wx]at b1 b2 b3;generalize cells[i]=s at hg c7;have o1:=Pa letters (cells.take i) s;have o2:=Pb letters (cells.take i) s;have o3:=VC (cells.take i) s;rw[<-c7]at o1 o2 o3;by_cases hs:s<0
 ·have hd:decide (0<=s)=false:=Wp zo;rw[hd]at o1 o2;simp only[Ys,Ws,X4,XV]at o1 o2;rw[Wg hs]at o3;simp only[eZ,seval,eY,lt_T c5,hg,e,W1 hs,AE (k:=cNon (cells.take i)) zo];exact .mk (i+1) (by rw[o1,o2,o3]) c5 zo
 have hd:decide (0<=s)=true:=Wv zo;rw[hd]at o1 o2;rw[W7 hs]at o3;simp only[XU,XV]at o1 o2 o3;cases hcn:letters.contains s with
 |true=>
  rw[hcn]at o1 o2;simp only[Xi,W3,Ws,X4,XV]at o1 o2;simp only[eZ,seval,eY,lt_T c5,hg,e,W4 hs,Tco,s2,Ad,AY,Aw,Ag,W1 hl,hcn,AE (k:=cOwn letters (cells.take i)) zo,tadd];exact .mk (i+1) (by rw[o1,o2,o3]) c5 zo
 |false=>
  rw[hcn]at o1 o2;simp only[Xi,W6,Ws,X4,XV]at o1 o2;simp only[eZ,seval,eY,lt_T c5,hg,e,W4 hs,Tco,s2,Ad,AY,Aw,Ag,W1 hl,hcn,AE (k:=cOth letters (cells.take i)) zo,tadd];exact .mk (i+1) (by rw[o1,o2,o3]) c5 zo
structure VwOK(k:Zm)(cells letters:List Int)(n:Int):Prop where
 c:few cells
 l:few letters
 sy:∀s∈cells,0<=s->okSy k s
 vl:∀y∈k.d.syms,0<=y.v/\y.v<=99
 n:0<=n/\n<=99
def Pd{k:Zm}(hv:∀y∈k.d.syms,0<=y.v/\y.v<=99){s:Int}(h:okSy k s):0<=at0 (AZ k) s/\at0 (AZ k) s<=99:=by
 have c5:s.toNat<k.d.syms.length:=zo
 rw[Gg (W2 c5)];exact hv _ (Wn c5)
def p110(a b:Int):Pur prog 110 [eI a,eI b] (.bool (decide (a=b))):=by
 refine .mk ⟨trivial,trivial,trivial⟩ trivial (c110.a (AF AI.tnil (AG ?_)));simp only[eE,eN,seval,c110]
section
variable (k:Zm) (cells letters:List Int) (n:Int)
theorem p70(h:VwOK k cells letters n):Pur prog 70 [.agg (BW k cells letters n)] (.bool (Bu (AZ k) 1 n letters cells)):=by
 have hp:=LR (f0:=110) (cap:=[]) (ok:=λ_=>True) (bad:=λa b=>decide (a=b)) k cells letters n h.c trivial (λa b _=>p110 a b) (λ_ _ _=>trivial);have hT:AI prog (tadd 109 (rowX [.agg (BW k cells letters n),.fn (.func 110) [] []] (λ_=>True) (.bool (A9 (λa b=>decide (a=b)) cells))) tnil):=AI.tnil.add (LQ λH n _=>hp.quiet H n);have hTe:∀a H,tadd 109 (rowX [.agg (BW k cells letters n),.fn (.func 110) [] []] (λ_=>True) (.bool (A9 (λa b=>decide (a=b)) cells))) tnil 109 a H=(a=[.agg (BW k cells letters n),.fn (.func 110) [] []]/\True,.bool (A9 (λa b=>decide (a=b)) cells)):=λ_ _=>rfl
 generalize tadd 109 _ tnil=T at hT hTe;refine .mk ⟨BQ k cells letters n,trivial⟩ trivial (c70.a (AF hT (AG ?_)));simp only[eE,eN,seval,c70,hTe];exact⟨rfl,rfl⟩
theorem p112(h:VwOK k cells letters n)(a b:Int)(o7:okSy k a/\okSy k b):Pur prog 112 [eI a,eI b,.ep (BW k cells letters n)] (.bool (decide (absI (at0 (AZ k) a-at0 (AZ k) b)<n))):=by
 have hT:AI prog (tadd 76 (rowS [.ep (AJ k)] (okSy k) λs=>eI (at0 (AZ k) s)) tnil):=AI.tnil.add (VB λs hs=>p76 k s hs);have hTe:∀a H,tadd 76 (rowS [.ep (AJ k)] (okSy k) λs=>eI (at0 (AZ k) s)) tnil 76 a H=rowS [.ep (AJ k)] (okSy k) (λs=>eI (at0 (AZ k) s)) a H:=λ_ _=>rfl
 generalize tadd 76 _ tnil=T at hT hTe;refine .mk ⟨trivial,trivial,BQ k cells letters n,trivial⟩ trivial (c112.a (AF hT (AG ?_)));have r1:=Pd h.vl o7.1;have r2:=Pd h.vl o7.2;generalize hva:at0 (AZ k) a=va at r1;generalize hvb:at0 (AZ k) b=vb at r2;have w1:IntKind.wrap .i64 (va-vb)=va-vb:=Aq zo zo;have w2:IntKind.wrap .i64 (0-(va-vb))= -(va-vb):=by rw[Aq zo zo];omega
 simp only[eE,eN,seval,c112,hTe,rowS,hva,hvb,w1,w2];exact⟨o7.1,o7.2,rfl⟩
theorem p113(h:VwOK k cells letters n)(a b:Int)(o7:okSy k a/\okSy k b):Pur prog 113 [eI a,eI b,.ep (BW k cells letters n)] (.bool (decide (at0 (AZ k) b<=at0 (AZ k) a))):=by
 have hT:AI prog (tadd 76 (rowS [.ep (AJ k)] (okSy k) λs=>eI (at0 (AZ k) s)) tnil):=AI.tnil.add (VB λs hs=>p76 k s hs);have hTe:∀a H,tadd 76 (rowS [.ep (AJ k)] (okSy k) λs=>eI (at0 (AZ k) s)) tnil 76 a H=rowS [.ep (AJ k)] (okSy k) (λs=>eI (at0 (AZ k) s)) a H:=λ_ _=>rfl
 generalize tadd 76 _ tnil=T at hT hTe;refine .mk ⟨trivial,trivial,BQ k cells letters n,trivial⟩ trivial (c113.a (AF hT (AG ?_)));simp only[eE,eN,seval,c113,hTe,rowS];exact o7
theorem prQ{f0:FuncId}{bad:Int->Int->Bool}(hp:Pur prog 109 [.agg (BW k cells letters n),.fn (.func f0) [] [.ep (BW k cells letters n)]] (.bool (A9 bad cells)))(H:AC)(m:Nat)(q:Nat)(hq:hget H q=some (.box (BW k cells letters n))):
  Am prog 109 [.agg (BW k cells letters n),.fn (.func f0) [] [.ptr q 0]] H m (.bool (A9 bad cells)):=
 hp.view trivial (.cons (.wk (Wk.refl _)) (.cons (.fn .nil (.cons (View.ptr (off:=0) hq) .nil)) .nil)) m
theorem p72(h:VwOK k cells letters n):Pur prog 72 [.agg (BW k cells letters n)] (.bool (Bu (AZ k) 3 n letters cells)):=by
 have hp:=LR (f0:=112) (cap:=[.ep (BW k cells letters n)]) (ok:=okSy k) (bad:=λa b=>decide (absI (at0 (AZ k) a-at0 (AZ k) b)<n)) k cells letters n h.c ⟨BQ k cells letters n,trivial⟩ (λa b q=>p112 k cells letters n h a b q) h.sy;have hT:AI prog (tadd 109 (rowX [.agg (BW k cells letters n),.fn (.func 112) [] [.ptr 0 0]] (λH=>hget H 0=some (.box (BW k cells letters n))) (.bool (A9 (λa b=>decide (absI (at0 (AZ k) a-at0 (AZ k) b)<n)) cells))) tnil):=AI.tnil.add (LQ λH m hq=>prQ k cells letters n hp H m 0 hq);have hTe:∀a H,tadd 109 (rowX [.agg (BW k cells letters n),.fn (.func 112) [] [.ptr 0 0]] (λH=>hget H 0=some (.box (BW k cells letters n))) (.bool (A9 (λa b=>decide (absI (at0 (AZ k) a-at0 (AZ k) b)<n)) cells))) tnil 109 a H=(a=[.agg (BW k cells letters n),.fn (.func 112) [] [.ptr 0 0]]/\hget H 0=some (.box (BW k cells letters n)),.bool (A9 (λa b=>decide (absI (at0 (AZ k) a-at0 (AZ k) b)<n)) cells)):=λ_ _=>rfl
 generalize tadd 109 _ tnil=T at hT hTe;refine .mk ⟨BQ k cells letters n,trivial⟩ trivial (c72.a (AF hT (AG ?_)));simp only[eE,eN,seval,c72,hTe];exact⟨rfl,rfl⟩
theorem p73(h:VwOK k cells letters n):Pur prog 73 [.agg (BW k cells letters n)] (.bool (Bu (AZ k) 4 n letters cells)):=by
 have hp:=LR (f0:=113) (cap:=[.ep (BW k cells letters n)]) (ok:=okSy k) (bad:=λa b=>decide (at0 (AZ k) b<=at0 (AZ k) a)) k cells letters n h.c ⟨BQ k cells letters n,trivial⟩ (λa b q=>p113 k cells letters n h a b q) h.sy;have hT:AI prog (tadd 109 (rowX [.agg (BW k cells letters n),.fn (.func 113) [] [.ptr 0 0]] (λH=>hget H 0=some (.box (BW k cells letters n))) (.bool (A9 (λa b=>decide (at0 (AZ k) b<=at0 (AZ k) a)) cells))) tnil):=AI.tnil.add (LQ λH m hq=>prQ k cells letters n hp H m 0 hq);have hTe:∀a H,tadd 109 (rowX [.agg (BW k cells letters n),.fn (.func 113) [] [.ptr 0 0]] (λH=>hget H 0=some (.box (BW k cells letters n))) (.bool (A9 (λa b=>decide (at0 (AZ k) b<=at0 (AZ k) a)) cells))) tnil 109 a H=(a=[.agg (BW k cells letters n),.fn (.func 113) [] [.ptr 0 0]]/\hget H 0=some (.box (BW k cells letters n)),.bool (A9 (λa b=>decide (at0 (AZ k) b<=at0 (AZ k) a)) cells)):=λ_ _=>rfl
 generalize tadd 109 _ tnil=T at hT hTe;refine .mk ⟨BQ k cells letters n,trivial⟩ trivial (c73.a (AF hT (AG ?_)));simp only[eE,eN,seval,c73,hTe];exact⟨rfl,rfl⟩
theorem p74:Pur prog 74 [.agg (BW k cells letters n)] (.bool (Bu (AZ k) 5 n letters cells)):=by
 refine .mk ⟨BQ k cells letters n,trivial⟩ trivial (c74.a (AF AI.tnil (AG ?_)));simp only[eE,eN,seval,c74];rfl
theorem p71(h:VwOK k cells letters n):Pur prog 71 [.agg (BW k cells letters n)] (.bool (Bu (AZ k) 2 n letters cells)):=by
 have hT:AI prog (tadd 111 (rowX [.agg (BW k cells letters n)] (λ_=>True) (cntV letters cells)) tnil):=AI.tnil.add (LQ λH m _=>(p111 k cells letters n h.c h.l).quiet H m);have hTe:∀a H,tadd 111 (rowX [.agg (BW k cells letters n)] (λ_=>True) (cntV letters cells)) tnil 111 a H=(a=[.agg (BW k cells letters n)]/\True,cntV letters cells):=λ_ _=>rfl
 generalize tadd 111 _ tnil=T at hT hTe;refine .mk ⟨BQ k cells letters n,trivial⟩ trivial (c71.a (AF hT (AG ?_)));have hR:Bu (AZ k) 2 n letters cells=(decide (cOwn letters cells=0)&&decide (cNon cells=0)):=rfl;rw[hR];have e1:((cOwn letters cells:Int)=0)=(cOwn letters cells=0):=propext zo;have e2:((cNon cells:Int)=0)=(cNon cells=0):=propext zo;by_cases h1:cOwn letters cells=0
 ·by_cases h2:cNon cells=0
  ·simp only[eZ,seval,eY,c71,hTe,e1,e2,W1 h1,W1 h2];exact rfl
  ·simp only[eZ,seval,eY,c71,hTe,e1,e2,W1 h1,W4 h2];exact rfl
 ·simp only[eZ,seval,eY,c71,hTe,e1,e2,W4 h1];exact rfl
theorem p75(h:VwOK k cells letters n):Pur prog 75 [.agg (BW k cells letters n)] (.bool (Bu (AZ k) 6 n letters cells)):=by
 have hT:AI prog (tadd 111 (rowX [.agg (BW k cells letters n)] (λ_=>True) (cntV letters cells)) tnil):=AI.tnil.add (LQ λH m _=>(p111 k cells letters n h.c h.l).quiet H m);have hTe:∀a H,tadd 111 (rowX [.agg (BW k cells letters n)] (λ_=>True) (cntV letters cells)) tnil 111 a H=(a=[.agg (BW k cells letters n)]/\True,cntV letters cells):=λ_ _=>rfl
 generalize tadd 111 _ tnil=T at hT hTe;refine .mk ⟨BQ k cells letters n,trivial⟩ trivial (c75.a (AF hT (AG ?_)));have hR:Bu (AZ k) 6 n letters cells=(decide (n<(cOwn letters cells:Int))||decide ((cells.length:Int)-n<(cOth letters cells:Int))):=rfl;rw[hR];have m5:cells.length<1000000000:=h.c;have hn:=h.n;have w1:IntKind.wrap .i64 ((cells.length:Int)-n)=(cells.length:Int)-n:=Aq zo zo;by_cases h1:n<(cOwn letters cells:Int)
 ·simp only[eZ,seval,W3,eY,c75,hTe,W1 h1];exact rfl
 ·simp only[eZ,seval,eY,c75,hTe,W4 h1,w1];exact rfl
end
def rowC(k:Zm)(f:List Int->List Int->Int->Bool):List Fs->AC->Prop×Fs:=λa H=>match a with
 |[.agg [.fn (.func g) [] [.ptr q 0],.sl t1 L1,.sl t2 L2,.int .i64 n]]=>(g=76/\hget H q=some (.box (AJ k))/\dIs.ok (.sl t1 L1)/\dIs.ok (.sl t2 L2)/\VwOK k (L1.map toI) (L2.map toI) n,.bool (f (L1.map toI) (L2.map toI) n))
 |_=>(False,.tup [])
def Nm{k:Zm}{i4:FuncId}{f:List Int->List Int->Int->Bool}(h:∀cells letters n,VwOK k cells letters n->Pur prog i4 [.agg (BW k cells letters n)] (.bool (f cells letters n))):∀args H n,(rowC k f args H).1->Am prog i4 args H n (rowC k f args H).2:=by
 intro args H m hh;unfold rowC at hh⊢;split at hh
 ·obtain⟨rfl,hq,k1,k2,k3⟩:=hh;exact(h _ _ _ k3).view trivial (.cons (.agg (.cons (.fn .nil (.cons (View.ptr (off:=0) hq) .nil)) (.cons (.wk (dIs.wk _ k1)) (.cons (.wk (dIs.wk _ k2)) (.cons (.wk (Wk.refl _)) .nil))))) .nil) m
 ·exact hh.elim
def Tcq(k:Zm):Tab:=tadd 70 (rowC k λc l n=>Bu (AZ k) 1 n l c) (tadd 71 (rowC k λc l n=>Bu (AZ k) 2 n l c) (tadd 72 (rowC k λc l n=>Bu (AZ k) 3 n l c)
 (tadd 73 (rowC k λc l n=>Bu (AZ k) 4 n l c) (tadd 74 (rowC k λc l n=>Bu (AZ k) 5 n l c) (tadd 75 (rowC k λc l n=>Bu (AZ k) 6 n l c) tnil)))))
def Tcq_ok(k:Zm):AI prog (Tcq k):=(((((AI.tnil.add (Nm λc l n h=>p75 k c l n h)).add (Nm λc l n h=>p74 k c l n)).add (Nm λc l n h=>p73 k c l n h)).add (Nm λc l n h=>p72 k c l n h)).add (Nm λc l n h=>p71 k c l n h)).add (Nm λc l n h=>p70 k c l n h)
theorem Tcq_1(k:Zm)(a:List Fs)(H:AC):Tcq k 70 a H=rowC k (λc l n=>Bu (AZ k) 1 n l c) a H:=rfl
theorem Tcq_2(k:Zm)(a:List Fs)(H:AC):Tcq k 71 a H=rowC k (λc l n=>Bu (AZ k) 2 n l c) a H:=rfl
theorem Tcq_3(k:Zm)(a:List Fs)(H:AC):Tcq k 72 a H=rowC k (λc l n=>Bu (AZ k) 3 n l c) a H:=rfl
theorem Tcq_4(k:Zm)(a:List Fs)(H:AC):Tcq k 73 a H=rowC k (λc l n=>Bu (AZ k) 4 n l c) a H:=rfl
theorem Tcq_5(k:Zm)(a:List Fs)(H:AC):Tcq k 74 a H=rowC k (λc l n=>Bu (AZ k) 5 n l c) a H:=rfl
theorem Tcq_6(k:Zm)(a:List Fs)(H:AC):Tcq k 75 a H=rowC k (λc l n=>Bu (AZ k) 6 n l c) a H:=rfl
structure ClOK(k:Zm)(q:Cnd)(letters cells:List Int):Prop where
 kind:1<=q.k/\q.k<=6
 n:0<=q.n/\q.n<=99
 cs:few q.cs
 ci:∀c∈q.cs,0<=c/\c<(cells.length:Int)
 ls:few q.ls
 li:∀c∈q.ls,0<=c/\c<(letters.length:Int)
 sy:∀s∈cells,0<=s->okSy k s
 vl:∀y∈k.d.syms,0<=y.v/\y.v<=99
structure VCq where
 i:Nat
 tk:Zu
 H:AC
 n:Nat
abbrev fnsC:List Fs:=[.nilfn,.fn (.func 70) [] [],.fn (.func 71) [] [],.fn (.func 72) [] [],.fn (.func 73) [] [],.fn (.func 74) [] [],.fn (.func 75) [] []]
abbrev Pe(q:Cnd):List Fs:=[.int .i64 q.k,eIs q.cs,eIs q.ls,.int .i64 q.n]
structure IC1(k:Zm)(q:Cnd)(m:Nat)(X:Nat->List Int)(bx:Fs->List Fs)(v:VCq):Prop where
 hi:v.i<=m
 hn:12<=v.n
 fr:AQ v.H v.n
 h0:hget v.H 0=some (.box (AJ k))
 h1:hget v.H 1=some (.box (Pe q))
 h4:hget v.H 4=some (.box fnsC)
 h10:hget v.H 10=some (.box (bx (.sl v.tk ((X v.i).map eI))))
 tok:tkG 1 11 v.H v.tk
 es:v.tk.esz=1\/X v.i=[]
def p41(k:Zm)(q:Cnd)(letters cells:List Int)(h:ClOK k q letters cells):Pur prog 41 [Bh k,encQ q,eIs letters,eIs cells] (.bool (El (AZ k) q letters cells)):=by
 refine .mk ⟨Ah 0 k,⟨trivial,AR 0 _,AR 0 _,trivial,trivial⟩,AR 0 _,AR 0 _,trivial⟩ trivial (c41.a (AF (Tcq_ok k) (AG ?_)));have q8:q.cs.length<1000000000:=h.cs;have s6:q.ls.length<1000000000:=h.ls;simp only[eE,eN,reduceCtorEq,Nat.reduceEqDiff,↓reduceIte,Nat.reduceAdd,Nat.reduceLeDiff,W0,c41];refine AL (λv:VCq=>⟨[(2,true,eIs letters),(3,true,eIs cells),(5,true,.ptr 1 0),(9,true,.ptr 4 0),(10,true,.ptr 10 0),(21,true,eIs q.cs),(22,true,.int .i64 q.cs.length),(23,true,.int .i64 v.i)],v.H,v.n⟩)
  (IC1 k q q.cs.length (λi=>(q.cs.take i).map (at0 cells)) λa=>[.fn (.func 76) [] [.ptr 0 0],a,.sl .nil [],.int .i64 q.n]) (λv=>q.cs.length-v.i)
  ⟨0,.nil,_,12⟩ rfl ?_ ?_
 ·refine⟨We _,W8 _,?_,rfl,rfl,rfl,rfl,.inl rfl,.inr rfl⟩;simp only[];repeat' (first|exact AQ.nil.hset (m:=12) (We _) zd|refine AQ.hset ?_ (W8 _) zd)
 rintro⟨i,tk,H,n⟩ ⟨hi,hn,c6,h0,h1,h4,h10,c7,d7⟩;simp only at hi hn c6 h0 h1 h4 h10 c7 d7;by_cases c5:i<q.cs.length
 ·have hg:=W2 c5;have e:=AE (k:=i) zo;have hci:=h.ci _ (Wn c5);have htake:q.cs.take (i+1)=q.cs.take i++[q.cs[i]]:=by rw[Wl,hg];rfl
  generalize q.cs[i]=x at hg hci htake;have hgx:=CQ hci.1 hci.2;have hX:((q.cs.take i).map (at0 cells)).length<=i:=by simp;omega
  have q1:A5 H 1 tk=True:=W1 c7.app;have q2:(((q.cs.take i).map (at0 cells)).length<=35184372088831)=True:=W1 zo;have q3:Aj (((q.cs.take i).map (at0 cells)).length+1) 8=True:=W1 (AX zo zd);have y1:∀k,(10=n+k)=False:=λk=>W4 zo
  have y2:(n=3)=False:=W4 zo;have y3:(3=n)=False:=W4 zo;have hk10:=AV c7 (i:=10) (.inl zd);rw[h10]at hk10;generalize hXd:(q.cs.take i).map (at0 cells)=X at hX q2 q3 h10 hk10 d7;simp only[eZ,reduceCtorEq,Nat.reduceEqDiff,↓reduceIte,Nat.reduceAdd,Nat.reduceLeDiff,Nat.reduceMul,Nat.reduceLT,Int.reduceEq,eY,lt_T c5,hg,h10,W1 hci.1,W1 hci.2,hgx,q1,q2,q3,fr1 c6,hk10,y2,e];refine .mk ⟨i+1,.own (n+7) 1,hset (hset (AO H tk) (n+7) .tok) 10 (.box [.fn (.func 76) [] [.ptr 0 0],.sl (.own (n+7) 1) ((X++[at0 cells x]).map eI),.sl .nil [],.int .i64 q.n]),n+10⟩ ?_ ⟨c5,zp,((AU c7 c6).hset (m:=n+10) zo zo).hset (W8 _) (show 10<n+10 by omega),?_,?_,?_,?_,.inr (.inr ⟨n+7,rfl,zo,?_⟩),.inl rfl⟩ zp
  ·simp only[Wh,Wu,X5]
  all_goals simp only[]
  ·grind [AA,AV]
  ·grind [AA,AV]
  ·grind [AA,AV]
  ·rw[AB];simp only[htake,Wh,Wu,X5,hXd]
  ·rw[AA _ _ _ _ zo,AB]
 obtain rfl:i=q.cs.length:=zo
 rw[Wj]at d7 h10;simp only[eZ,Nat.reduceEqDiff,↓reduceIte,Nat.reduceAdd,Nat.reduceLeDiff,W0,lt_F c5,h1];generalize hXc:q.cs.map (at0 cells)=XC at h10 d7;refine AL (λv:VCq=>⟨[(2,true,eIs letters),(5,true,.ptr 1 0),(9,true,.ptr 4 0),(10,true,.ptr 10 0),(38,true,eIs q.ls),(39,true,.int .i64 q.ls.length),(40,true,.int .i64 v.i)],v.H,v.n⟩)
  (IC1 k q q.ls.length (λi=>(q.ls.take i).map (at0 letters)) λa=>[.fn (.func 76) [] [.ptr 0 0],.sl tk (XC.map eI),a,.int .i64 q.n]) (λv=>q.ls.length-v.i)
  ⟨0,.nil,H,n⟩ rfl ⟨We _,hn,c6,h0,h1,h4,h10,.inl rfl,.inr rfl⟩ ?_
 rintro⟨j,tj,H1,n1⟩ ⟨hj,j8,s8,k9,h11,h41,h101,htj,hej⟩;simp only at hj j8 s8 k9 h11 h41 h101 htj hej;by_cases hlj:j<q.ls.length
 ·have hg:=W2 hlj;have e:=AE (k:=j) zo;have hci:=h.li _ (Wn hlj);have htake:q.ls.take (j+1)=q.ls.take j++[q.ls[j]]:=by rw[Wl,hg];rfl
  generalize q.ls[j]=x at hg hci htake;have hgx:=CQ hci.1 hci.2;have hX:((q.ls.take j).map (at0 letters)).length<=j:=by simp;omega
  have q1:A5 H1 1 tj=True:=W1 htj.app;have q2:(((q.ls.take j).map (at0 letters)).length<=35184372088831)=True:=W1 zo;have q3:Aj (((q.ls.take j).map (at0 letters)).length+1) 8=True:=W1 (AX zo zd);have y1:∀k,(10=n1+k)=False:=λk=>W4 zo
  have y2:(n1=3)=False:=W4 zo;have y3:(3=n1)=False:=W4 zo;have hk10:=AV htj (i:=10) (.inl zd);rw[h101]at hk10;generalize hXd:(q.ls.take j).map (at0 letters)=X at hX q2 q3 h101 hk10 hej;simp only[eZ,reduceCtorEq,Nat.reduceEqDiff,↓reduceIte,Nat.reduceAdd,Nat.reduceLeDiff,Nat.reduceMul,Nat.reduceLT,Int.reduceEq,eY,lt_T hlj,hg,h101,W1 hci.1,W1 hci.2,hgx,q1,q2,q3,fr1 s8,hk10,y2,e];refine .mk ⟨j+1,.own (n1+7) 1,hset (hset (AO H1 tj) (n1+7) .tok) 10 (.box [.fn (.func 76) [] [.ptr 0 0],.sl tk (XC.map eI),.sl (.own (n1+7) 1) ((X++[at0 letters x]).map eI),.int .i64 q.n]),n1+10⟩ ?_ ⟨hlj,zp,((AU htj s8).hset (m:=n1+10) zo zo).hset (W8 _) (show 10<n1+10 by omega),?_,?_,?_,?_,.inr (.inr ⟨n1+7,rfl,zo,?_⟩),.inl rfl⟩ zp
  ·simp only[Wh,Wu,X5]
  all_goals simp only[]
  ·grind [AA,AV]
  ·grind [AA,AV]
  ·grind [AA,AV]
  ·rw[AB];simp only[htake,Wh,Wu,X5,hXd]
  ·rw[AA _ _ _ _ zo,AB]
 obtain rfl:j=q.ls.length:=zo
 rw[Wj]at hej h101;generalize hXl:q.ls.map (at0 letters)=XL at h101 hej;have hV:VwOK k XC XL q.n:=by
  refine⟨?_,?_,?_,h.vl,h.n⟩
  ·grind
  ·grind
  ·subst hXc;intro s hs h0;obtain⟨c,hc,rfl⟩:=Xh.1 hs;have:=h.ci c hc;exact h.sy _ (XB (CQ this.1 this.2)) h0
 have hB:El (AZ k) q letters cells=Bu (AZ k) q.k q.n XL XC:=by unfold El;rw[hXc,hXl]
 rw[hB];have k1:dIs.ok (.sl tk (XC.map eI))=True:=W1 ⟨d7.imp id λq=>by rw[q];rfl,by rw[As]⟩;have k2:dIs.ok (.sl tj (XL.map eI))=True:=W1 ⟨hej.imp id λq=>by rw[q];rfl,by rw[As]⟩;have hk6:q.k=1\/q.k=2\/q.k=3\/q.k=4\/q.k=5\/q.k=6:=by have:=h.kind;omega
 rcases hk6 with hk|hk|hk|hk|hk|hk
 all_goals
  simp only[Pe,hk]at h11;rw[hk];simp only[eZ,Nat.reduceEqDiff,↓reduceIte,Nat.reduceAdd,Nat.reduceLeDiff,Nat.reduceMul,Int.reduceLE,Int.reduceToNat,Int.toNat_one,lt_F hlj,h11,h41,h101,k9,Tcq_1,Tcq_2,Tcq_3,Tcq_4,Tcq_5,Tcq_6,rowC,k1,k2,As,W1 hV];decide
section
section
variable {P:Program} {T:Tab} {Q:Zg->AS->Prop} {k:List Item} {s:AS} {b:Nat} {cx:Nat->Fs} {kp:List Nat} {rx:List (Nat×Zn)}
variable {z:Fs} {w str:Bool} {xs:List Ze} {t rel esz bytes:Nat} {x y f:Ze} {d:Option Nat}
theorem Pf{sz:Nat}{ag:Bool}:A0 P T b cx ((2,⟨d,some (t,w),.v (.ld sz ag x)⟩)::rx) kp k Q s=((gvb s.env (some (t,w))=true->isP (lkv s.env x))/\gok s.env (some (t,w))/\(gvb s.env (some (t,w))=true->oks s.env [x]/\(evk s.H (lkv s.env) (.ld sz ag x)).1)/\A0 P T b cx rx kp k Q (s.put d (gvb s.env (some (t,w))) (evk s.H (lkv s.env) (.ld sz ag x)).2)):=by
 rw[Q5,JL];rfl
def J1(P:Program)(T:Tab)(b:Nat)(cx:Nat->Fs)(d:Option Nat)(rel esz bytes:Nat)(z:Fs)(x y:Ze)(str:Bool)(rx:List (Nat×Zn))(kp:List Nat)(k:List Item)(Q:Zg->AS->Prop)(s:AS):Bool->Prop
 |true=>(lk s.env x).1=true/\(lk s.env y).1=true/\H9 s.H (b+rel) esz bytes z (HV P T b cx d rx kp k Q s) (lkv s.env x) (Bx s.H (lkv s.env) esz y str)
 |false=>A0 P T b cx rx kp k Q (s.put d false (.tup []))
theorem Mc:A0 P T b cx ((2,⟨d,some (t,w),.appR rel esz bytes z x y str⟩)::rx) kp k Q s=(gok s.env (some (t,w))/\J1 P T b cx d rel esz bytes z x y str rx kp k Q s (gvb s.env (some (t,w)))):=by
 simp only[A0,DM,BI,BR,Yq,XK,AW,A6,Io.opds,Ex,Kr];cases gvb s.env (some (t,w))
 ·simp only[J1,Ws,XY,XK,XA,A0,oks];refine congrArg _ ?_;refine propext ⟨λh=>h.2,λh=>⟨λ_ _ q=>q,h⟩⟩
 ·simp only[J1,XA,oks,Ye,Y8,seval,XY];rw[HU];rfl
theorem SP:J1 P T b cx d rel esz bytes z x y str rx kp k Q s true=((lk s.env x).1=true/\(lk s.env y).1=true/\H9 s.H (b+rel) esz bytes z (HV P T b cx d rx kp k Q s) (lkv s.env x) (Bx s.H (lkv s.env) esz y str)):=rfl
theorem SQ:J1 P T b cx d rel esz bytes z x y str rx kp k Q s false=A0 P T b cx rx kp k Q (s.put d false (.tup [])):=rfl
def SR(P:Program)(T:Tab)(b:Nat)(cx:Nat->Fs)(d:Option Nat)(r:List (Nat×Zn))(kp:List Nat)(k:List Item)(Q:Zg->AS->Prop)(s:AS):Zr->AC->Nat->Prop
 | .ret v,H',n'=>A0 P T b cx r kp k Q ({s with H:=H',n:=n'}.put d true v)
 | .pan v,H',n'=>kont P T Q k (.pan v) ⟨[],H',n'⟩
def yldXg(P:Program)(T:Tab)(b:Nat)(cx:Nat->Fs)(d:Option Nat)(r:List (Nat×Zn))(kp:List Nat)(k:List Item)(Q:Zg->AS->Prop)(s:AS)(x:Bool)(H':AC)(n':Nat):Prop:=A0 P T b cx r kp k Q ({s with H:=H',n:=n'}.put d true (.bool x))
def J2(P:Program)(T:Tab)(b:Nat)(cx:Nat->Fs)(d:Option Nat)(f:Ze)(xs:List Ze)(rx:List (Nat×Zn))(kp:List Nat)(k:List Item)(Q:Zg->AS->Prop)(s:AS):Bool->Prop
 |true=>(lk s.env f).1=true/\oks s.env xs/\Ko P (xs.map (lkv s.env)) s.H s.n (SR P T b cx d rx kp k Q s) (yldXg P T b cx d rx kp k Q s) (lkv s.env f)
 |false=>A0 P T b cx rx kp k Q (s.put d false (.tup []))
theorem II:A0 P T b cx ((0,⟨d,some (t,w),.call false f xs⟩)::rx) kp k Q s=(gok s.env (some (t,w))/\J2 P T b cx d f xs rx kp k Q s (gvb s.env (some (t,w)))):=by
 simp only[A0,DM,BI,AW,A6,oks,Io.opds,BR,De,Yq,XK,Y8];cases gvb s.env (some (t,w))
 ·simp only[J2,Ws,XY,XK,XA];rfl
 ·simp only[J2,XA,seval,XY,Ye];refine congrArg (λz=>gok s.env (some (t,w))/\(lk s.env f).1=true/\oks s.env xs/\z) ?_;generalize lkv s.env f=v;cases v<;>try rfl
  rename_i ff first cap
  cases ff<;>try rfl
  ·refine congrArg (AP P _ _ s.H s.n) ?_;funext o H' n';cases o<;>rfl
  ·cases first<;>cases cap<;>rfl
theorem SS:J2 P T b cx d f xs rx kp k Q s true=((lk s.env f).1=true/\oks s.env xs/\Ko P (xs.map (lkv s.env)) s.H s.n (SR P T b cx d rx kp k Q s) (yldXg P T b cx d rx kp k Q s) (lkv s.env f)):=rfl
theorem ST:J2 P T b cx d f xs rx kp k Q s false=A0 P T b cx rx kp k Q (s.put d false (.tup [])):=rfl
end
def rdL(H:AC):Fs->List Int
 | .sl _ L=>L.map toI
 | .ref id _ _ len _=>match hget H id with
  |some (.arr _ L)=>(L.take len).map toI
  |_=>[]
 |_=>[]
variable {H:AC} {av:Fs} {l:List Int} {n m:Nat} {F:Nat->Prop}
theorem JD(h:RdI H av l):rdL H av=l:=by
 rcases h with⟨t,rfl,-⟩|⟨id,cap,rest,rfl,h1,-⟩
 ·exact As l
 ·simp only[rdL,h1];rw[Wh,List.take_left' (by rw[W0]),As]
theorem Pg(h:RdI H av l):View H (eIs l) av:=by
 rcases h with⟨t,rfl,ht⟩|⟨id,cap,rest,rfl,h1,h2⟩
 ·exact .wk (Wk.sl (ht.imp (λz=>z) λq=>by rw[q];rfl))
 ·have:=View.ref (H:=H) (id:=id) (e:=1) (off:=0) (len:=l.length) (cap:=cap) h1 zw h2;rw[Z9,Wh,List.take_left' (by rw[W0])]at this;exact this
theorem q_clnI(h:RdI H av l)(hl:few l):Am prog 62 [av] H n (eIs l):=by
 refine Am.of c62.l (AR n l) λhf=>?_
 refine AP.out (R:=λo H' _=>∃lv,o= .ret lv/\LF 1 lv H' (l.map eI)/\B5 H H') (AP.seal (PT h hl) ?_) ?_
 ·rintro o H' n' (⟨h1,rfl,-,t,rfl,ht⟩|⟨h1,-,rest,rfl,rfl⟩)
  ·exact .inl ⟨_,rfl,.inl ⟨by rw[h1];rfl,t,rfl,ht⟩,B5.refl _⟩
  ·refine .inr ⟨n+2,1,_,AB ..,_,rfl,.inr ⟨by simpa using h1,n+2,_,rest.map eI,by rw[W0],?_,zw⟩,λi ob h0=>?_⟩
   ·rw[AB,Wh]
   ·have:=hf.lt h0;rw[AA _ _ _ _ zo,AA _ _ _ _ zo];exact h0
 ·rintro o H' n' ⟨lv,rfl,hL,hK⟩;refine⟨.ret (eIs l),⟨⟨_,rfl,Wk.refl _⟩,hK⟩,λg w e hR he=>?_⟩;cases e with
  |returned v=>exact Iv hL hR he
  |panicked c=>exact he.elim
  |outgrown=>exact he.elim
def Nn:List Fs->AC->Prop×Fs:=λa H=>match a with
 |[av]=>(RdI H av (rdL H av)/\few (rdL H av),eIs (rdL H av))
 |_=>(False,.tup [])
theorem rowClq:∀args H n,(Nn args H).1->Am prog 62 args H n (Nn args H).2:=by
 intro args H n hh;unfold Nn at hh⊢;split at hh
 ·exact q_clnI hh.1 hh.2
 ·exact hh.elim
def CL:List Fs->AC->Prop×Fs:=λa H=>match a with
 |[av,.int .i64 x]=>(RdI H av (rdL H av)/\few (rdL H av),.bool ((rdL H av).contains x))
 |_=>(False,.tup [])
theorem LS:∀args H n,(CL args H).1->Am prog 36 args H n (CL args H).2:=by
 intro args H n hh;unfold CL at hh⊢;split at hh
 ·exact(p36 _ _ hh.2).view trivial (.cons (Pg hh.1) (.cons (.wk (Wk.refl _)) .nil)) n
 ·exact hh.elim
def Tgw:Tab:=tadd 62 Nn (tadd 36 CL tnil)
theorem T8:AI prog Tgw:=(AI.tnil.add LS).add rowClq
structure Gen(A:List (List Int))(l':Nat)(J:(Nat->Prop)->List (List Int)->AC->Nat->Prop)(S:AC->Nat->Prop):Prop where
 fr:∀F D H m,J F D H m->AQ H m
 frame:∀F F' D H H' m m',J F D H m->(∀i,F' i->F i\/m<=i)->(∀i,¬F' i->hget H' i=hget H i)->AQ H' m'->m<=m'->J F' D H' m'
 yld:∀F D x H m (R:Bool->AC->Nat->Prop),J F D H m->(∀i,F i->i<m)->D++[x]<+:A->(∀H' m',J F (D++[x]) H' m'->(∀i,F i->hget H' i=hget H i)->m<=m'->R true H' m')->(∀H' m',S H' m'->R false H' m')->Bw prog l' [eIs x] H m R
def GV(H:AC)(lv:Fs)(L:List Int)(F:Nat->Prop):Prop:=(lv= .sl .nil []/\L=[])\/∃id rest,lv= .ref id 1 0 L.length (L.length+rest.length)/\F id/\hget H id=some (.arr 1 ((L++rest).map eI))
theorem GV.rd{lv:Fs}{L:List Int}(h:GV H lv L F):RdI H lv L:=by
 rcases h with⟨rfl,rfl⟩|⟨id,rest,rfl,-,h3⟩
 ·exact .inl ⟨_,rfl,.inr rfl⟩
 ·exact .inr ⟨id,_,rest,rfl,h3,zo⟩
def chsT(M j:Nat)(L:List Int)(i:Nat):List (List Int):=((symI i).filter λs=>!L.contains s).flatMap λs=>chsE M j (L++[s])
theorem J3(M j:Nat)(L:List Int)(i:Nat):chsT M j L (i+1)=chsT M j L i++if L.contains (i:Int)then[]else chsE M j (L++[(i:Int)]):=by grind [chsT,symI,List.range_succ]
theorem Ph(M j:Nat)(L:List Int)(i:Nat):∀k,chsT M j L i<+:chsT M j L (i+k)
 |0=>List.prefix_refl _
 |k+1=>by
  rw[<-Nat.add_assoc,J3];exact(Ph M j L i k).trans (List.prefix_append _ _)
theorem VD{α:Type}{D a b A:List α}(h:a<+:b)(hb:D++b<+:A):D++a<+:A:=by
 obtain⟨t,rfl⟩:=h;rw[<-X8]at hb;exact(List.prefix_append _ _).trans hb
theorem app_gv{lv:Fs}{L:List Int}{y:Int}{K:AC->Fs->Prop}(h:GV H lv L F)(hl:L.length<1000000)(hm:hget H m=none)
  (hK:∀id (rest:List Int),(id=m\/lv= .ref id 1 0 L.length (L.length+1+rest.length)/\F id)->K (hset H id (.arr 1 (((L++[y])++rest).map eI))) (.ref id 1 0 (L++[y]).length ((L++[y]).length+rest.length))):H9 H m 1 8 (.int .i64 0) K lv (some [eI y]):=by
 have el:(L++[y]).length=L.length+1:=zw
 rcases h with⟨rfl,rfl⟩|⟨id,rest,rfl,h2,h3⟩
 ·rw[Ce];refine⟨hm,zd,rfl,.inl rfl,by simp [Aj],zw,(λe=>by cases e),λ_ cap hcap=>?_⟩;have:=hK m (List.replicate (cap-1) 0) (.inl rfl);simp only[X1,Wu,Ww,Xt,Y7,X3,Yt]at this hcap⊢;rw[show 0+1+(cap-1)=cap by omega]at this;exact this
 ·rw[HT h3];refine⟨hm,zd,rfl,rfl,rfl,AX (by simp only[Ww,Xt];omega) zd,by simp only[Ww,Xt];omega,rfl,zw,zo,λhr=>?_,λhr cap' hc=>?_⟩
  ·simp only[Ww,Xt]at hr⊢;have:=hK id (rest.drop 1) (.inr ⟨by rw[XJ,show L.length+1+(rest.length-1)=L.length+rest.length by omega],h2⟩);have e1:List.take L.length ((L++rest).map eI)=L.map eI:=by rw[Wh,Ya zw,Xp zw]
   have e2:List.drop (L.length+(0+1)) ((L++rest).map eI)=(rest.drop 1).map eI:=by rw[Wh,List.drop_append,Yp zw];simp
   rw[e1,e2];rw[el,Wh,Wh,XJ,show L.length+1+(rest.length-1)=L.length+rest.length by omega]at this;exact this
  ·have:=hK m (List.replicate (cap'-(L.length+1)) 0) (.inl rfl);simp only[Ww,Xt]at hr hc⊢;have e1:List.take L.length ((L++rest).map eI)=L.map eI:=by rw[Wh,Ya zw,Xp zw]
   rw[e1];rw[el,Wh,Wh,Yt,Y7,show L.length+1+(cap'-(L.length+1))=cap' by omega]at this;exact this
structure CB(l' M n cn cy cm cg:Nat)(F:Nat->Prop)(H:AC):Prop where
 fn:F cn
 fy:F cy
 fm:F cm
 fg:F cg
 hn:hget H cn=some (.box [.int .i64 n])
 hy:hget H cy=some (.box [.fn (.yield l') [] []])
 hm:hget H cm=some (.box [.int .i64 M])
 hg:hget H cg=some (.box [.fn (.func 61) [] [.ptr cn 0,.ptr cy 0,.ptr cm 0,.ptr cg 0]])
def GrP(J:(Nat->Prop)->List (List Int)->AC->Nat->Prop)(S:AC->Nat->Prop)(F:Nat->Prop)(D':List (List Int))(L:List Int)(lv:Fs)(H:AC)(m:Nat):Zr->AC->Nat->Prop:=λo H' m'=>
 (o= .ret (.bool true)/\∃F':Nat->Prop,(∀i,F i->F' i)/\(∀i,F' i->F i\/m<=i)/\(∀i,F' i->i<m')/\J F' D' H' m'/\GV H' lv L F'/\(∀i,F i->PL lv≠some i->hget H' i=hget H i)/\m<=m')\/(o= .ret (.bool false)/\S H' m')
structure VGr where
 i:Nat
 F:Nat->Prop
 H:AC
 n:Nat
structure IGr(J:(Nat->Prop)->List (List Int)->AC->Nat->Prop)(M j:Nat)(L:List Int)(lv:Fs)(D:List (List Int))(F0:Nat->Prop)(H0:AC)(m0:Nat)(v:VGr):Prop where
 hi:v.i<=M
 f1:∀i,F0 i->v.F i
 f2:∀i,v.F i->F0 i\/m0<=i
 f3:∀i,v.F i->i<v.n
 hj:J v.F (D++chsT M j L v.i) v.H v.n
 gv:GV v.H lv L v.F
 kp:∀i,F0 i->PL lv≠some i->hget v.H i=hget H0 i
 hm:m0<=v.n
theorem T9{A:List (List Int)}{l':Nat}{J:(Nat->Prop)->List (List Int)->AC->Nat->Prop}{S:AC->Nat->Prop}(G:Gen A l' J S){M:Nat}(hM:M<=1000)(hn:n<=1000)(cn cy cm cg:Nat):
  ∀(j:Nat) (L:List Int) (lv:Fs) (F:Nat->Prop) (D:List (List Int)) (H:AC) (m:Nat),L.length+j=n->GV H lv L F->J F D H m->(∀i,F i->i<m)->CB l' M n cn cy cm cg F H->D++chsE M j L<+:A->
   AP prog 61 [lv,.ptr cn 0,.ptr cy 0,.ptr cm 0,.ptr cg 0] H m (GrP J S F (D++chsE M j L) L lv H m)
 |0,L,lv,F,D,H,m,hL,hgv,hJ,hF,hC,hA=>by
  have hLn:L.length=n:=zo
  refine c61.a (AF T8 (AG ?_));have hrd:=hgv.rd;have r1:=JD hrd;have hfw:few L:=by show L.length<_;omega
  obtain⟨k1,k2,k3,k4,bn,by',bm,bg⟩:=hC;have fin:Bw prog l' [eIs L] H m (λb H' m'=>GrP J S F (D++chsE M 0 L) L lv H m (.ret (.bool b)) H' m'):=by
   refine G.yld F D L H m _ hJ hF hA (λH' m' hj hk hmm=>.inl ⟨rfl,F,λi h=>h,λi h=>.inl h,λi h=>by have:=hF i h;omega,hj,?_,λi h _=>hk i h,hmm⟩) (λH' m' hs=>.inr ⟨rfl,hs⟩);rcases hgv with h|⟨id,rest,h1,h2,h3⟩
   ·exact .inl h
   ·exact .inr ⟨id,rest,h1,h2,by rw[hk id h2];exact h3⟩
  rcases hgv with⟨rfl,rfl⟩|⟨id,rest,rfl,h2,h3⟩
  ·have hz:(n:Int)=0:=by simp at hLn;omega
   have hz':((0:Int)=(n:Int))=True:=W1 hz.symm;simp only[eZ,seval,c0,c61,bn,hz',by',Tgw,Nn,r1,W1 hrd,W1 hfw,tadd];refine fin.mono λb H' m' h=>?_
   simp only[eE,eN,seval,yldK];exact h
  ·have hz':((L.length:Int)=(n:Int))=True:=W1 zo;simp only[eZ,seval,c61,bn,hz',by',Tgw,Nn,r1,W1 hrd,W1 hfw,tadd];refine fin.mono λb H' m' h=>?_
   simp only[eE,eN,seval,yldK];exact h
 |j+1,L,lv,F,D,H,m,hL,hgv,hJ,hF,hC,hA=>by
  have hLn:((L.length:Int)=(n:Int))=False:=W4 zo;have hLn0:L=[]->((0:Int)=(n:Int))=False:=λe=>by subst e;exact W4 (by simp at hL;omega)
  have hfw:few L:=by show L.length<_;omega
  refine c61.a (AF T8 (AG ?_));obtain⟨k1,k2,k3,k4,bn,by',bm,bg⟩:=hC;have hend:chsT M j L M=chsE M (j+1) L:=rfl;have hnr:∀c cs,hget H c=some (.box cs)->PL lv≠some c:=λc cs hb hr=>by
   rcases hgv with⟨rfl,-⟩|⟨id,rest,rfl,-,h3⟩
   ·cases hr
   ·obtain rfl:=Option.some.inj hr;rw[hb]at h3;cases h3
  have hgv0:=hgv;rcases hgv with⟨ev,e2⟩|⟨id,rest,ev,h2,h3⟩
  case' inl=>
   have hz':=hLn0 e2;simp only[eZ,seval,c0,c61,bn,hz',bm,ev];rw[<-ev]
  case' inr=>
   simp only[eZ,seval,c61,bn,hLn,bm,ev];rw[<-ev]
  all_goals
   refine AL (λv:VGr=>⟨[(0,true,lv),(4,true,.ptr cg 0),(16,true,.int .i64 M),(17,true,.int .i64 v.i)],v.H,v.n⟩) (IGr J M j L lv D F H m) (λv=>M-v.i)
    ⟨0,F,H,m⟩ rfl ⟨We _,λi h=>h,λi h=>.inl h,hF,by
     show J F (D++chsT M j L 0) H m;rw[show chsT M j L 0=[]from rfl,X2];exact hJ,hgv0,λi _ _=>rfl,W8 _⟩ ?_
   rintro⟨i,F1,H1,n1⟩ ⟨hi,f1,f2,f3,hj1,gv1,kp1,hm1⟩;simp only at hi f1 f2 f3 hj1 gv1 kp1 hm1;by_cases c5:i<M;case neg=>
    obtain rfl:i=M:=zo
    simp only[eZ,seval,lt_F c5];exact .inl ⟨rfl,F1,f1,f2,f3,by rw[<-hend];exact hj1,gv1,kp1,hm1⟩
   have e:=AE (k:=i) zo;have hrd:=gv1.rd;have r1:=JD hrd;have hsu:=J3 M j L i;have hpre:D++chsT M j L (i+1)<+:A:=by
    refine VD (b:=chsE M (j+1) L) ?_ hA;rw[<-hend];have:=Ph M j L (i+1) (M-(i+1))
    rwa[show i+1+(M-(i+1))=M by omega]at this
   cases s9:L.contains (i:Int)with
   |true=>
    rw[s9,Wg rfl,X2]at hsu;simp only[eZ,eX,seval,W3,W6,lt_T c5,Tgw,CL,r1,W1 hrd,W1 hfw,s9,W3,Pf,Mc,SQ,II,ST,e,tadd];exact .mk ⟨i+1,F1,H1,n1+13⟩ rfl ⟨c5,f1,f2,λx h=>by have:=f3 x h;simp only[];omega,by simp only[hsu];exact G.frame _ _ _ _ _ _ _ hj1 (λi h=>.inl h) (λ_ _=>rfl) (λx hx=>G.fr _ _ _ _ hj1 x (by have hx':n1+13<=x:=hx;omega)) zo,gv1,kp1,zp⟩ zp
   |false=>
    rw[s9,W7 zd]at hsu;rw[hsu,<-X8]at hpre;have c1:hget H1 cg=some (.box [.fn (.func 61) [] [.ptr cn 0,.ptr cy 0,.ptr cm 0,.ptr cg 0]]):=by rw[kp1 cg k4 (hnr _ _ bg)];exact bg
    have s8:=G.fr _ _ _ _ hj1;simp only[eZ,eX,seval,W6,lt_T c5,Tgw,CL,r1,W1 hrd,W1 hfw,s9,W6,Pf,Mc,SP,c1,tadd];refine app_gv gv1 zo (s8 _ zo) λz rest' hz=>?_
    have hzn:z<n1+13:=by
     rcases hz with rfl|⟨-,h⟩
     ·omega
     ·have:=f3 z h;omega
    simp only[eE,seval,HV,SS,II];have l9:AQ (hset H1 z (.arr 1 (((L++[(i:Int)])++rest').map eI))) (n1+13):=s8.hset zo hzn;have hL':(L++[(i:Int)]).length+j=n:=by simp;omega
    have hg2:GV (hset H1 z (.arr 1 (((L++[(i:Int)])++rest').map eI))) (.ref z 1 0 (L++[(i:Int)]).length ((L++[(i:Int)]).length+rest'.length)) (L++[(i:Int)]) (λx=>F1 x\/x=z):=.inr ⟨z,rest',rfl,.inr rfl,AB ..⟩;have hj2:J (λx=>F1 x\/x=z) (D++chsT M j L i) (hset H1 z (.arr 1 (((L++[(i:Int)])++rest').map eI))) (n1+13):=by
     refine G.frame _ _ _ _ _ _ _ hj1 (λx h=>?_) (λx h=>?_) l9 zo
     ·grind
     ·exact AA _ _ _ _ (λe=>h (.inr e.symm))
    have hbx:∀c cs,F c->hget H c=some (.box cs)->hget (hset H1 z (.arr 1 (((L++[(i:Int)])++rest').map eI))) c=some (.box cs):=λc cs hc hb=>by
     have d8:z≠c:=λe=>by
      subst e;rcases hz with rfl|⟨h,-⟩
      ·have:=f3 _ (f1 _ hc);omega
      ·exact hnr _ _ hb (by rw[h];rfl)
     rw[AA _ _ _ _ d8,kp1 c hc (hnr c cs hb)];exact hb
    have hF2:∀x,(F1 x\/x=z)->x<n1+13:=λx h=>by
     rcases h with h|rfl
     ·have:=f3 x h;omega
     ·exact hzn
    refine(T9 G hM hn cn cy cm cg j (L++[(i:Int)]) _ (λx=>F1 x\/x=z) (D++chsT M j L i) _ (n1+13) hL' hg2 hj2 hF2
     ⟨.inl (f1 _ k1),.inl (f1 _ k2),.inl (f1 _ k3),.inl (f1 _ k4),hbx _ _ k1 bn,hbx _ _ k2 by',hbx _ _ k3 bm,hbx _ _ k4 bg⟩ hpre).mono ?_
    rintro o H3 n3 (⟨rfl,F3,g1,g2,g3,hj3,gv3,kp3,hm3⟩|⟨rfl,hS⟩)
    ·simp only[eZ,seval,W3,SR,W3,e];refine .mk ⟨i+1,F3,H3,n3⟩ rfl ⟨c5,λx h=>g1 x (.inl (f1 x h)),λx h=>?_,g3,by simp only[hsu];rw[<-X8];exact hj3,?_,λx h d8=>?_,zp⟩ zp
     ·grind
     ·rcases gv1 with⟨h1,h2⟩|⟨id1,rest1,h1,h2,h3⟩
      ·exact .inl ⟨h1,h2⟩
      ·right;by_cases hzz:z=id1
       ·subst hzz;rcases hz with hz|⟨hz,-⟩
        ·have:=f3 z h2;omega
        ·rcases gv3 with⟨h4,-⟩|⟨id3,rest3,h4,h5,h6⟩
         ·cases h4
         ·simp only[Fs.ref.injEq]at h4;obtain⟨rfl,-,-,-,h7⟩:=h4;rw[h1]at hz;simp only[Fs.ref.injEq]at hz;refine⟨z,(i:Int)::rest3,?_,h5,?_⟩
          ·rw[h1];simp only[Wr,Ww,Xt]at h7⊢;congr 1;omega
          ·rw[h6];simp
       ·refine⟨id1,rest1,h1,g1 _ (.inl h2),?_⟩;rw[kp3 id1 (.inl h2) (λe=>hzz (Option.some.inj e)),AA _ _ _ _ hzz];exact h3
     ·have hxz:z≠x:=λe=>by
       subst e;rcases hz with rfl|⟨hz,-⟩
       ·have:=f3 _ (f1 _ h);omega
       ·exact d8 (by rw[hz];rfl)
      rw[kp3 x (.inl (f1 x h)) (λe=>hxz (Option.some.inj e)),AA _ _ _ _ hxz];exact kp1 x h d8
    ·simp only[eZ,seval,W6,SR,W6];exact .inr ⟨rfl,hS⟩
theorem LT{l':Nat}{J:(Nat->Prop)->List (List Int)->AC->Nat->Prop}{S:AC->Nat->Prop}{M:Nat}(G:Gen (chs M n) l' J S)(hM:M<=1000)(hn:n<=1000){cn cm:Nat}
  (hJ:J F [] H m) (hF:∀i,F i->i<m) (fn:F cn) (fm:F cm) (bn:hget H cn=some (.box [.int .i64 n])) (bm:hget H cm=some (.box [.int .i64 M])):
  AP prog 60 [.fn (.yield l') [] [],.ptr cn 0,.ptr cm 0] H m λo H' m'=>o= .ret (.tup [])/\((∃F':Nat->Prop,(∀i,F i->F' i)/\(∀i,F' i->F i\/m<=i)/\J F' (chs M n) H' m')\/S H' m'):=by
 have hf:=G.fr _ _ _ _ hJ;have x1:=hf.lt bn;have x2:=hf.lt bm;refine c60.a (AF AI.tnil (AG ?_));simp only[eE,eN,seval,c60,fr0 hf,fr1 hf,AN];have l9:AQ (hset (hset H m (.box [.fn (.yield l') [] []])) (m+1) (.box [.fn (.func 61) [] [.ptr cn 0,.ptr m 0,.ptr cm 0,.ptr (m+1) 0]])) (m+2):=(hf.hset (m:=m+2) zo zo).hset (W8 _) zo;have hj2:=G.frame F (λx=>F x\/x=m\/x=m+1) [] H _ m (m+2) hJ (λx h=>by
  rcases h with h|h|h
  ·exact .inl h
  ·exact .inr zo
  ·exact .inr zo) (λx h=>by
   rw[AA _ _ _ _ (λe=>h (.inr (.inr e.symm))),AA _ _ _ _ (λe=>h (.inr (.inl e.symm)))]) l9 zo
 refine(T9 G hM hn cn m cm (m+1) n [] (.sl .nil []) (λx=>F x\/x=m\/x=m+1) [] _ (m+2) zw (.inl ⟨rfl,rfl⟩) hj2 (λx h=>by
  rcases h with h|h|h
  ·have:=hF x h;omega
  ·omega
  ·omega) ⟨.inl fn,.inr (.inl rfl),.inl fm,.inr (.inr rfl),?_,?_,?_,AB ..⟩ (List.prefix_refl _)).mono ?_
 ·grind [AA]
 ·rw[AA _ _ _ _ zo,AB]
 ·grind [AA]
 rintro o H' m' (⟨rfl,F',g1,g2,-,hj,-⟩|⟨rfl,hS⟩)
 ·simp only[eE,eN,retK];exact .inl ⟨F',λx h=>g1 x (.inl h),λx h=>by
   rcases g2 x h with(h|h|h)|h
   ·exact .inl h
   ·exact .inr zo
   ·exact .inr zo
   ·exact .inr zo,hj⟩
 ·simp only[eE,eN,retK];exact .inr hS
theorem FB{M n:Int}(hf:AQ H m):AP prog 34 [.int .i64 M,.int .i64 n] H m λo H' m'=>o= .ret (.fn (.func 60) [] [.ptr (m+1) 0,.ptr m 0])/\H'=hset (hset H m (.box [.int .i64 M])) (m+1) (.box [.int .i64 n])/\m'=m+3:=by
 refine c34.a (AF AI.tnil (AG ?_));simp only[eE,eN,seval,c34,fr0 hf,fr1 hf]
theorem JE(m:Nat):∀n,(chsR m n).length<=m^n
 |0=>by simp [chsR]
 |n+1=>by
  have ih:=JE m n;rw[chsR];have key:∀l:List (List Int),(l.flatMap λl=>(K7 m l).map λs=>l++[s]).length<=l.length*m:=by
   intro l;induction l with
   |nil=>simp
   |cons x l ih=>
    rw[YF,Wr,W0,Ww];have:(K7 m x).length<=m:=by
     refine Xb (Xu ..) ?_;unfold symI;simp
    rw[Xw];omega
  refine Xb (key _) ?_;rw[Nat.pow_succ];exact Y3 _ ih
theorem Pi(m n:Nat):(chs m n).length<=m^n:=by rw[Jj];exact JE m n
end
abbrev clC(q1 q2:Nat):Fs:=.fn (.func 60) [] [.ptr q1 0,.ptr q2 0]
abbrev No(f:Fs)(c:Nat):List (Nat×Bool×Fs):=[(2,true,.ptr c 0),(4,true,.sl .nil []),(6,true,f)]
structure AppL(f:Fs)(c L l':Nat)(F:Nat->Prop)(D:List (List Int))(H:AC)(m:Nat):Prop where
 fr:AQ H m
 cl:c<L
 lm:L<m
 nc:¬F c
 nL:¬F L
 hc:∃tl E,hget H c=some (.box [.sl tl E])/\Wks E (D.map eIs)/\tkG 1 (L+1) H tl/\(tl.esz=1\/E=[])/\∀id e,tl= .own id e->¬F id
 hL:hget H L=some (.lp ⟨l',.ready,none,13,No f c, #[7],GL,GM⟩)
def SU{A:List (List Int)}{f:Fs}{c L l':Nat}(hA:A.length<=1000000000):Gen A l' (AppL f c L l') (λ_ _=>False) where
 fr:=λF D H m h=>h.fr
 frame:=by
  rintro F F' D H H' m m' ⟨fr,cl,lm,nc,nL,⟨tl,E,hc,hE,ht,hz,d6⟩,hL⟩ hF hH hf hm;have n1:∀i,i<m->¬F i->¬F' i:=λi hi h h'=>(hF i h').elim h (λq=>zo)
  refine⟨hf,cl,zo,n1 _ zo nc,n1 _ zo nL,⟨tl,E,by rw[hH _ (n1 _ zo nc)];exact hc,hE,?_,hz,λid e he=>?_⟩,by rw[hH _ (n1 _ zo nL)];exact hL⟩
  ·rcases ht with rfl|rfl|⟨id,rfl,h1,h2⟩
   ·exact .inl rfl
   ·exact .inr (.inl rfl)
   ·exact .inr (.inr ⟨id,rfl,h1,by rw[hH _ (n1 _ (fr.lt h2) (d6 _ _ rfl))];exact h2⟩)
  ·subst he;rcases ht with h|h|⟨id',h,h1,h2⟩
   ·cases h
   ·cases h
   ·obtain⟨rfl,rfl⟩:id=id'/\e=1:=by injection h with a b;exact⟨a,b⟩
    exact n1 _ (fr.lt h2) (d6 _ _ rfl)
 yld:=by
  rintro F D x H m R ⟨fr,cl,lm,nc,nL,⟨tl,E,hc,hE,ht,hz,d6⟩,hL⟩ hF hA' hR -;have hlen:D.length<1000000000:=by
   obtain⟨t,rfl⟩:=hA';simp at hA;omega
  have hEl:E.length=D.length:=by have:=hE.len;rw[W0]at this;exact this
  refine y59_0 hL rfl (AF AI.tnil (AG ?_));simp only[eE,eN,seval,RF,renv,Yj,Ym,XM,Yz];refine⟨_,hL,rfl,AF AI.tnil (AG ?_)⟩;have y1:∀k,(L=m+k)=False:=λk=>W4 zo
  have y2:(L=c)=False:=W4 zo;have y3:(c=L)=False:=W4 zo;have ht':tkG 1 (L+1) (hset H L (.lp ⟨l',.busy,none,13,No f c, #[7],GL,GM⟩)) tl:=ht.set (.inl zo);have hf':AQ (hset H L (.lp ⟨l',.busy,none,13,No f c, #[7],GL,GM⟩)) m:=fr.hset (W8 _) lm;generalize hH1:hset H L (.lp ⟨l',.busy,none,13,No f c, #[7],GL,GM⟩)=H1 at ht' hf'⊢;have hc1:hget H1 c=some (.box [.sl tl E]):=by rw[<-hH1,AA _ _ _ _ zo];exact hc
  have hL1:hget H1 L=some (.lp ⟨l',.busy,none,13,No f c, #[7],GL,GM⟩):=by rw[<-hH1,AB]
  have hk1:∀i,i≠L->hget H1 i=hget H i:=λi hi=>by rw[<-hH1,AA _ _ _ _ hi.symm]
  clear hH1;have q1:A5 H1 1 tl=True:=W1 ht'.app;have q2:(E.length<=35184372088831)=True:=W1 zo;have q3:Aj (E.length+1) 24=True:=W1 (AX zo zd);have y4:(m+3=c)=False:=W4 zo;have y5:(m+3=L)=False:=W4 zo;have kL:hget (AO H1 tl) L=hget H1 L:=AV ht' (.inl zo);have kc:hget (AO H1 tl) c=hget H1 c:=AV ht' (.inl zo);simp only[eE,eN,seval,RE,hc1,y4,q1,q2,q3,fr1 hf',kc];have ef:=hf'.lt hc1;refine⟨⟨l',.busy,none,13,No f c, #[7],GL,GM⟩,by simp only[AK,y3,y5,X4];rw[kL,hL1],hR _ _ ⟨?_,cl,zp,nc,nL,⟨.own (m+3) 1,E++[eIs x],?_,?_,.inr (.inr ⟨m+3,rfl,zo,?_⟩),.inl rfl,?_⟩,by simp only[AK,Xi]⟩ ?_ zp⟩
  ·refine AQ.hset (AQ.hset (AQ.hset (AU ht' hf') ?_ ?_) (W8 _) ?_) (W8 _) ?_<;>simp only[]<;>omega
  ·simp only[AK,y2,X4,Xi]
  ·rw[Wh];exact hE.app (.cons (Wk.refl _) .nil)
  ·simp_all [AK]<;>omega
  ·rintro id e he hFi;cases he;have:=hF _ hFi;omega
  ·intro i hi;have t6:=hF _ hi;have h1:L≠i:=λe=>nL (e▸hi)
   have h2:c≠i:=λe=>nc (e▸hi)
   simp only[AK];rw[W7 h1,W7 h2,W7 zo];have hk:hget (AO H1 tl) i=hget H1 i:=by
    rcases ht' with rfl|rfl|⟨id,rfl,-,-⟩
    ·rfl
    ·rfl
    ·simp only[AO];exact AA _ _ _ _ λe=>d6 _ _ rfl (e▸hi)
   rw[hk,hk1 i (Ne.symm h1)]
def VE{H:AC}{m cm cn:Nat}{M n:Nat}(hf:AQ H m)(hM:M<=1000)(hn:n<=1000)(hA:M^n<=1000000000)(bn:hget H cn=some (.box [.int .i64 n]))(bm:hget H cm=some (.box [.int .i64 M])):
  AP prog 59 [.sl .nil [],clC cn cm] H m λo H' m'=>∃tl E,o= .ret (.sl tl E)/\Wks E ((chs M n).map eIs)/\(tl.esz=1\/E=[]):=by
 have x1:=hf.lt bn;have x2:=hf.lt bm;refine a59 (AF AI.tnil (AG ?_));simp only[eE,eN,seval,c59,fr0 hf,FE];intro l';generalize hH1:hset (hset H m (.box [.sl .nil []])) (m+2) _=H1;have k1:∀i,i≠m->i≠m+2->hget H1 i=hget H i:=λi h1 h2=>by
  rw[<-hH1,AA _ _ _ _ h2.symm,AA _ _ _ _ h1.symm]
 have hJ:AppL (clC cn cm) m (m+2) l' (λi=>i=cn\/i=cm) [] H1 (m+3):=by
  refine⟨λj hj=>by rw[k1 j zo zo];exact hf j zo,zo,zo,λh=>zo,λh=>zo,⟨.nil,[],?_,.nil,.inl rfl,.inr rfl,λ_ _ e=>by cases e⟩,?_⟩
  ·rw[<-hH1,AA _ _ _ _ zo,AB]
  ·rw[<-hH1,AB]
 refine(LT (SU (A:=chs M n) (Xb (Pi M n) hA)) hM hn hJ (λi h=>zo) (.inl rfl) (.inr rfl) (by rw[k1 cn zo zo];exact bn) (by rw[k1 cm zo zo];exact bm)).mono ?_;rintro o H' m' ⟨rfl,⟨F',-,hF,hj⟩|hF⟩
 ·obtain⟨fr,cl,lm,nc,nL,⟨tl,E,hc,hE,ht,hz,-⟩,hL⟩:=hj;have y1:(m+2=m)=False:=W4 zo;simp only[eE,eN,seval,FD,hL,hc,y1];exact⟨tl,E,rfl,hE,hz⟩
 ·exact hF.elim
def VG{H:AC}{m cm cn:Nat}{M n:Nat}(hf:AQ H m)(hM:M<=1000)(hn:n<=1000)(hA:M^n<=1000000000)(bn:hget H cn=some (.box [.int .i64 n]))(bm:hget H cm=some (.box [.int .i64 M])):
  AP prog 33 [clC cn cm] H m λo H' m'=>∃tl E,o= .ret (.sl tl E)/\Wks E ((chs M n).map eIs)/\(tl.esz=1\/E=[]):=by
 refine c33.a (AF AI.tnil (AG ?_));simp only[eE,eN,seval,c33];refine(VE hf hM hn hA bn bm).mono ?_;rintro o H' n' ⟨tl,E,rfl,h1,h2⟩;simp only[eE,eN,seval,retK];exact⟨tl,E,rfl,h1,h2⟩
def B1{k:Zm}(h:BF k=0):0<k.d.syms.length/\k.d.syms.length<=16:=by
 have h1:Gt k=true:=by
  unfold BF at h;split at h
  ·assumption
  ·cases h
 obtain⟨x,cells,-,h3,-,h4⟩:=I3 (MW h1);have h5:k.d=x:=by rw[h4];rfl
 rw[<-h5]at h3;unfold chkD at h3;split at h3
 ·cases h3
 ·simp_all [limD,W5,W9]
def B2(k:Zm)(n:Int):Fs:=if BF k≠0 then .tup [.sl .nil [],.int .i64 (BF k)]else if n<0\/3<n then .tup [.sl .nil [],.int .i64 1]else .tup [.sl (.none 1) ((chs k.d.syms.length n.toNat).map eIs),.int .i64 0]
def Tlt:Tab:=tadd 32 (s1 dKn (λk=>Zh k.d) λk=>.int .i64 (BF k)) tnil
def UA:AI prog Tlt:=AI.tnil.add (q1 λk h=>p32 k h)
def p11(k:Zm)(n:Int)(h1:Zh k.d):Pur prog 11 [Bh k,.int .i64 n] (B2 k n):=by
 have u1:dKn.ok (.agg (AJ k))=True:=DE k;have u2:dKn.dec (.agg (AJ k))=k:=CC k;simp only[AJ,AD,AH,X3,X1]at u1 u2;refine .mk ⟨Ah 0 k,trivial,trivial⟩ ?_ (c11.a (AF UA (AG ?_)))
 ·unfold B2;split
  ·exact⟨⟨trivial,trivial⟩,trivial,trivial⟩
  ·split
   ·exact⟨⟨trivial,trivial⟩,trivial,trivial⟩
   ·exact⟨⟨trivial,Au (λl=>AR 0 l) _⟩,trivial,trivial⟩
 unfold B2;by_cases hk:BF k=0;case neg=>simp only[eZ,seval,W6,c11,AJ,AD,AH,Tlt,s1,u1,u2,W1 h1,W4 hk,tadd];exact Wk.refl _
 by_cases hn0:n<0
 ·simp only[eZ,seval,W3,c11,AJ,AD,AH,Tlt,s1,u1,u2,W1 h1,W1 hk,W1 hn0,tadd];exact Wk.refl _
 by_cases hn3:3<n
 ·simp only[eZ,seval,W3,c11,AJ,AD,AH,Tlt,s1,u1,u2,W1 h1,W1 hk,W4 hn0,W1 hn3,tadd];exact Wk.refl _
 obtain⟨n',rfl⟩:=XZ (Int.not_lt.1 hn0);have hsy:=B1 hk;simp only[eZ,seval,W3,eY,c11,AJ,AD,AH,Tlt,s1,u1,u2,W1 h1,W1 hk,W4 hn0,W4 hn3,tadd];generalize hH:hset hnil 0 (Zk.box _)=H;have hf:AQ H 3:=by rw[<-hH];exact AQ.nil.hset (m:=3) (We _) zd
 refine(FB (M:=k.d.syms.length) (n:=n') hf).mono ?_;rintro o H1 n1 ⟨rfl,rfl,rfl⟩;simp only[eE,seval,retK];have hpow:k.d.syms.length^n'<=1000000000:=by
  refine Xb (Nat.pow_le_pow_left hsy.2 n') (Xb (Nat.pow_le_pow_right zd (show n'<=3 by omega)) zd)
 refine(VG (M:=k.d.syms.length) (n:=n') ((hf.hset (m:=6) zo zo).hset (W8 _) zo) zo zo hpow (AB ..) (by rw[AA _ _ _ _ zo,AB])).mono ?_;rintro o H2 n2 ⟨tl,E,rfl,hE,hz⟩;simp only[eE,eN,seval,retK];exact Wk.tup (.cons (Wk.slx hz hE) (.cons (Wk.refl _) .nil))
end Go.AM
