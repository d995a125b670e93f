/-
  Parts of the proof. Conditions: none.
-/
import Derived.Test.YtabcmhkkohbdeaaGreatB12
set_option maxRecDepth 20000
set_option linter.all false
namespace Go.AM
open Go.Lib Go.Proofs Go.Proofs.Tryz
section
abbrev clM(q:Nat):Fs:=.fn (.func 271) [] [.ptr q 0]
abbrev mN(q c:Nat):List (Nat×Bool×Fs):=[(2,true,.ptr c 0),(4,true,.sl .nil []),(6,true,clM q)]
structure ApM(q c L l':Nat)(H0:AB)(n0:Nat)(qs:List Int)(H:AB)(m:Nat):Prop where
 fr:AO H m
 lc:n0<=c
 cl:c<L
 lm:L<m
 hc:∃lv,AD H c=some (.box [lv])/\Rk eI 1 (L+1) H lv qs
 hL:AD H L=some (.lp ⟨l',.ready,none,13,mN q c, #[7],Gf,Gg⟩)
 kp:∀id ob,id<n0->AD H0 id=some ob->AD H id=some ob
variable {H:AB} {q yu n mp:Nat}
theorem y_apM{c L l':Nat}{H0:AB}{n0:Nat}{qs:List Int}{m:Nat}(F:ApM q c L l' H0 n0 qs H m)(x:Int)(hs:qs.length<1000000000){R:Bool->AB->Nat->Prop}
  (hR:∀H' m',ApM q c L l' H0 n0 (qs++[x]) H' m'->(∀j ob,j<m->j≠c->j≠L->(∀e Z,ob≠ .arr e Z)->AD H j=some ob->AD H' j=some ob)->m<=m'->R true H' m'):CY prog l' [eI x] H m R:=by
 obtain⟨fr,lc,cl,lm,⟨lv,hc,wv⟩,hL,kp⟩:=F;refine cE hL rfl (AI AH.wD (AJ ?_));simp only[eE,eN,seval,Mn,Gv,uI,uT,ug,vn];refine⟨_,hL,rfl,AI AH.wD (AJ ?_)⟩;have y1:∀k,(L=m+k)=False:=λk=>sb zo
 have y2:(L=c)=False:=sb zo;have y3:(c=L)=False:=sb zo;simp only[eE,seval,Mm,hc,y2];have g1:∀k,AD (wB H L (.lp ⟨l',.busy,none,13,mN q c, #[7],Gf,Gg⟩)) (m+k)=none:=λk=>by rw[AA _ _ _ _ zo];exact Bq fr k
 refine RV (enc:=eI) (lo:=L+1) (qs:=qs) (z0:=0) ?_ rfl zd rfl rfl (Ae zo zd) (g1 3) zo zo ?_
 ·rcases wv with h|⟨s8,id,rest,h1,h2,h3⟩
  ·exact .inl h
  ·exact .inr ⟨s8,id,rest,h1,h2,by rw[AA _ _ _ _ zo];exact h3⟩
 intro id rest hlo s5;have hidm:id<m+5:=by
  rcases s5 with rfl|⟨Z,h⟩
  ·omega
  ·apply Classical.byContradiction;intro z;obtain⟨k,rfl⟩:∃k,id=m+k:=⟨id-m,zo⟩;rw[g1]at h;cases h
 have hida:∀j ob,j<m->j≠L->(∀e Z,ob≠ .arr e Z)->AD H j=some ob->j≠id:=by grind [AA]
 have z1:(id=L)=False:=sb zo;have z2:(id=c)=False:=sb zo;have z3:(L=id)=False:=sb zo;have z4:(c=id)=False:=sb zo;have hidn:¬id<n0:=zo
 simp only[eE,eN,seval,Fg,z2,y2,hc];refine⟨⟨l',.busy,none,13,mN q c, #[7],Gf,Gg⟩,by simp only[AT,y3,z1,sY,tD],hR _ _ ⟨?_,lc,cl,zp,⟨_,by simp only[AT,y2,sY,tD],.inr ⟨zw,id,rest,rfl,hlo,by simp only[AT,z3,z4,sY,tD]⟩⟩,by simp only[AT,tD],?_⟩ ?_ (tO _ _)⟩
 ·intro j hj;have hj':m+5<=j:=hj;simp only[AT];repeat rw[sg zo]
  exact fr j zo
 ·intro j ob hj h0;simp only[AT];repeat rw[sg zo]
  exact kp j ob hj h0
 ·intro j ob hj hjc hjL hob h0;have:=hida j ob hj hjL hob h0;simp only[AT];repeat rw[sg zo]
  exact h0
theorem ApM.it{c L l':Nat}{H0:AB}{n0:Nat}{qs:List Int}{m it:Nat}{ob ob':x9}(F:ApM q c L l' H0 n0 qs H m)(h1:n0<=it)(h2:it≠c)(h3:it≠L)(h4:it<m)(h5:AD H it=some ob)(h6:∀e Z,ob≠ .arr e Z):ApM q c L l' H0 n0 qs (wB H it ob') m:=by
 obtain⟨fr,lc,cl,lm,⟨lv,hc,wv⟩,hL,kp⟩:=F;refine⟨fr.wB (sj _) h4,lc,cl,lm,⟨lv,by rw[AA _ _ _ _ h2];exact hc,?_⟩,by rw[AA _ _ _ _ h3];exact hL,λj o hj h0=>by rw[AA _ _ _ _ zo];exact kp j o hj h0⟩;rcases wv with h|⟨s8,id,rest,k1,k2,k3⟩
 ·exact .inl h
 ·exact .inr ⟨s8,id,rest,k1,k2,by rw[AA _ _ _ _ (λe=>by subst e;rw[h5]at k3;cases k3;exact h6 _ _ rfl)];exact k3⟩
theorem Kp{α:Type}[DecidableEq α]:∀{a b:List α},a.Nodup->(∀x∈a,x∈b)->a.length<=b.length
 |[],_,_,_=>sk _
 |x::a,b,hn,h=>by
  rw[uH]at hn;have hx:=h x (tu ..);have:=Kp (b:=b.erase x) hn.2 λy hy=>(List.mem_erase_of_ne (λe=>hn.1 (by rw[<-e];exact hy))).2 (h y (tM _ hy))
  rw[List.length_erase_of_mem hx]at this;have:=List.length_pos_of_mem hx;simp only[sM];omega
abbrev OU:=Fs×Fs×Nat
structure EsOK(es:List OU)(yu:Nat):Prop where
 key:∀e∈es,e.1=eI (A9 e.1)
 nd:(es.map (·.2.2)).Nodup
 lt:∀e∈es,e.2.2<yu
def Kh(es:List OU):List Int:=es.map λe=>A9 e.1
def M9(es:List OU)(b:Nat):Int:=match es.find? (λe=>decide (e.2.2=b))with
 |some e=>A9 e.1
 |none=>0
theorem XQ{es:List OU}(hn:(es.map (·.2.2)).Nodup){e:OU}(he:e∈es):es.find? (λx=>decide (x.2.2=e.2.2))=some e:=by
 induction es with
 |nil=>cases he
 |cons x r ih=>grind
theorem XR{es:List OU}(hn:(es.map (·.2.2)).Nodup){e:OU}(he:e∈es):Pe e.2.2 es=some (e.1,e.2.1):=by
 induction es with
 |nil=>cases he
 |cons x r ih=>
  obtain⟨k,v,b⟩:=x;rw[sS,uH]at hn;rw[Pe];rcases tg.1 he with rfl|he
  ·rw[sn rfl]
  ·grind
theorem PD{es:List OU}(h:EsOK es yu){e:OU}(he:e∈es):e.1=eI (M9 es e.2.2):=by
 unfold M9;rw[XQ h.nd he];exact h.key e he
theorem XT{es:List OU}(h:EsOK es yu){seen:List Nat}(hn:seen.Nodup)(hs:∀b∈seen,b∈es.map (·.2.2))(hd:G7 es seen=[]):(seen.map (M9 es)).Perm (Kh es):=by
 have h1:seen.Perm (es.map (·.2.2)):=(vT hn h.nd).2 λb=>⟨hs b,λhb=>by
  obtain⟨e,he,rfl⟩:=tn.1 hb;apply Classical.byContradiction;intro hns;have:e∈G7 es seen:=tV.2 ⟨he,by simpa using hns⟩;rw[hd]at this;cases this⟩
 refine(h1.map (M9 es)).trans ?_;rw[uP];have:es.map (M9 es∘λx=>x.2.2)=Kh es:=tG λe he=>by
  have:=PD h he;simp only[Function.comp];rw[this];rfl
 rw[this]
theorem ZS{es:List OU}{seen:List Nat}{e:OU}(h:e∈G7 es seen):(G7 es (seen++[e.2.2])).length<(G7 es seen).length:=by
 have e1:G7 es (seen++[e.2.2])=(G7 es seen).filter λx=>decide (x.2.2≠e.2.2):=by grind [G7,List.filter_filter]
 rw[e1,List.length_filter_lt_length_iff_exists];exact⟨e,h,zw⟩
structure VKm where
 seen:List Nat
 H:AB
 n:Nat
structure IKm(es:List OU)(yu q n mp l':Nat)(H:AB)(v:VKm):Prop where
 F:ApM q n (n+2) l' H n (v.seen.map (M9 es)) v.H v.n
 it:AD v.H (n+4)=some (.mit mp yu v.seen yu)
 lt:n+4<v.n
 nd:v.seen.Nodup
 rg:∀b∈v.seen,b∈es.map (·.2.2)
theorem t_apM{es:List OU}(ho:EsOK es yu)(hl:es.length<1000000)(hf:AO H n)(hq:AD H q=some (.box [.mp mp]))(hm:AD H mp=some (.map es yu)):
  AX prog 272 [.sl .nil [],clM q] H n λo H' n'=>∃lv qs,o= .ret lv/\qs.Perm (Kh es)/\Rk eI 1 (n+3) H' lv qs/\AO H' n'/\n<=n'/\∀id ob,id<n->AD H id=some ob->AD H' id=some ob:=by
 have hqn:=hf.lt hq;have hmn:=hf.lt hm;refine a272 (AI AH.wD (AJ ?_));simp only[eE,eN,seval,pk,OZ hf,GE];intro l';generalize yA:wB (wB H n (.box [.sl .nil []])) (n+2) _=H1;have F0:ApM q n (n+2) l' H n [] H1 (n+3):=by
  subst yA;refine⟨λj hj=>?_,sj _,zo,zo,⟨.sl .nil [],?_,.inl ⟨rfl,rfl⟩⟩,AC ..,λj ob hj h0=>?_⟩
  ·simp only[AT];repeat rw[sg zo]
   exact hf j zo
  ·simp only[AT];rw[sg zo,sn zt]
  ·simp only[AT];repeat rw[sg zo]
   exact h0
 have ym:AD H1 n=some (.box [.sl .nil []]):=by
  subst yA;simp only[AT];rw[sg zo,sn zt]
 clear yA;have hq1:=F0.kp q _ hqn hq;have hm1:=F0.kp mp _ hmn hm;have hfn:=Bq F0.fr;refine c271.a (AI AH.wD (AJ ?_));simp only[eE,eN,seval,xE,c271,hq1,hm1];refine⟨hfn 1,?_⟩;refine AQ (λv:VKm=>⟨[(0,true,.fn (.yield l') [] []),(5,true,.ptr (n+4) 0)],v.H,v.n⟩) (IKm es yu q n mp l' H) (λv=>(G7 es v.seen).length) ⟨[],wB H1 (n+4) (.mit mp yu [] yu),n+5⟩ rfl
  ⟨⟨F0.fr.wB (m:=n+5) zo zo,sj _,zo,zp,⟨.sl .nil [],by rw[AA _ _ _ _ zo];exact ym,.inl ⟨rfl,rfl⟩⟩,by rw[AA _ _ _ _ zo];exact F0.hL,λj o hj h0=>by rw[AA _ _ _ _ zo];exact F0.kp j o hj h0⟩,AC ..,zp,wd,λb hb=>(by cases hb)⟩ ?_
 rintro⟨seen,H2,m⟩ ⟨F,hit,e9,hnd,hrg⟩;simp only at F hit e9 hnd hrg;have yk:seen.length<=es.length:=by
  have:=Kp hnd hrg;simpa using this
 have yh:=F.kp mp _ hmn hm;have hq2:=F.kp q _ hqn hq;simp only[eE,eC,seval];rw[gQ hit yh];refine⟨sj _,λe he=>ho.lt e he,λAk=>?_,λe he=>?_⟩
 ·have hp:=XT ho hnd hrg Ak;obtain⟨fr,lc,cl,lm,⟨lv,hc,wv⟩,hL,kp⟩:=F;have y1:(n+2=n)=False:=sb zo;simp only[eZ,seval,eY,GD,hL,hc,y1];refine⟨lv,_,rfl,hp,?_,fr.wB (sj m) (show n+2<m by omega),zo,λid ob s5 h0=>by rw[sg zo];exact kp id ob s5 h0⟩;rcases wv with h|⟨s8,id,rest,h1,h2,h3⟩
  ·exact .inl h
  ·exact .inr ⟨s8,id,rest,h1,h2,by rw[AA _ _ _ _ zo];exact h3⟩
 ·obtain⟨he1,he2⟩:=tV.1 he;have b2:=PD ho he1;have b3:=XR ho.nd he1;have hns:e.2.2∉seen:=by simpa using he2
  have wX:NX (wB H2 (n+4) (.mit mp yu (seen++[e.2.2]) yu)) mp (seen++[e.2.2])=some (e.1,e.2.1):=by grind [NX,AA,List.getLast?_concat]
  have y0:(n+4=mp)=False:=sb zo;simp only[eZ,seval,xE,eY,y0,yh,wX,b2];refine y_apM (F.it zo zo zo e9 hit zw) (M9 es e.2.2) (by rw[ry];omega) λH' m' F' hk hmm=>?_
  simp only[eZ,seval,sa,Ov];refine⟨⟨seen++[e.2.2],H',m'⟩,.inr ⟨?_,.inl ⟨rfl,rfl⟩⟩,⟨by simp only[su,sS,t6];exact F',hk _ _ e9 zo zo zw (AC ..),zp,?_,λb hb=>?_⟩,ZS he⟩
  ·exact⟨⟨_,rfl,Wk.refl _⟩,⟨_,rfl,Wk.refl _⟩,zt⟩
  ·grind
  ·grind
theorem eh{es:List OU}(ho:EsOK es yu)(hl:es.length<1000000)(hf:AO H n)(hq:AD H q=some (.box [.mp mp]))(hm:AD H mp=some (.map es yu)):
  AX prog 256 [clM q] H n λo H' n'=>∃lv qs,o= .ret lv/\qs.Perm (Kh es)/\Rk eI 1 (n+3) H' lv qs/\AO H' n'/\n<=n'/\∀id ob,id<n->AD H id=some ob->AD H' id=some ob:=by
 refine hZ.a (AI AH.wD (AJ ?_));simp only[eE,eN,seval,hZ];refine(t_apM ho hl hf hq hm).mono ?_;rintro o H' n' ⟨lv,qs,rfl,h1,h2,h3,h4,h5⟩;simp only[eE,eN,seval,BL];exact⟨lv,qs,rfl,h1,h2,h3,h4,h5⟩
theorem XU{a b:List Int}(h:a.Perm b):a.mergeSort Ft=b.mergeSort Ft:=by
 refine List.Perm.eq_of_pairwise (le:=λx y=>x<=y) (λx y _ _ h k=>zo) (Ie a) (Ie b) ?_;exact(uO a Ft).trans (h.trans (uO b Ft).symm)
theorem mO{es:List OU}(ho:EsOK es yu)(hl:es.length<1000000)(hf:AO H n)(hq:AD H q=some (.box [.mp mp]))(hm:AD H mp=some (.map es yu)):
  AX prog 239 [clM q] H n (Ux H (Aj ((Kh es).mergeSort Ft))):=by
 have hel:(Kh es).length=es.length:=ry ..;refine AX.out (AX.seal (R:=SrA (.arr 1) H (Kh es)) (R':=SrA (.frz 1) H (Kh es)) (YK.a (AI AH.wD (AJ ?_))) ?_) ?_
 ·simp only[eE,eN,seval,YK];refine(eh ho hl hf hq hm).mono ?_;rintro o H1 n1 ⟨lv,qs,rfl,hp,wv,wW,to,hk⟩;simp only[eE,eN,seval,BL];have hK:C0 H H1:=λid ob h0=>hk id ob (hf.lt h0) h0
  have hql:=hp.length_eq;rcases wv with⟨rfl,rfl⟩|⟨s8,id,rest,rfl,h2,h3⟩
  ·refine QP.mono ?_;rintro o H2 n2 ⟨rfl,rfl,rfl⟩;simp only[eE,eN,seval,BL];exact⟨hK,.inl ⟨hp.nil_eq.symm,rfl⟩⟩
  ·refine(RU h3 zw zo).mono ?_;rintro o H2 n2 ⟨rfl,rfl,rfl⟩;rw[vJ,List.drop_left];simp only[eE,eN,seval,BL];refine⟨λi ob h0=>?_,.inr ⟨λe=>s8 (tv (by rw[hql,e];rfl)),id,rest,by rw[hql],hf _ zo,by rw[AC,XU hp]⟩⟩;rw[AA _ _ _ _ (λe=>by subst e;rw[hf _ zo]at h0;cases h0)];exact hK i ob h0
 ·rintro o H' n' ⟨hK,h⟩;rcases h with h|⟨s8,id,rest,h1,h2,h3⟩
  ·exact .inl ⟨hK,.inl h⟩
  ·refine .inr ⟨id,1,_,h3,λi ob h0=>?_,.inr ⟨s8,id,rest,h1,h2,AC ..⟩⟩;rw[AA _ _ _ _ (λe=>by subst e;rw[h2]at h0;cases h0)];exact hK i ob h0
 ·rintro o H' n' ⟨hK,h⟩;refine⟨.ret (Aj ((Kh es).mergeSort Ft)),⟨⟨_,rfl,Wk.refl _⟩,hK⟩,λg w e hR he=>?_⟩;have hL:∃lv,o= .ret lv/\LF 1 lv H' (((Kh es).mergeSort Ft).map eI):=by
   rcases h with⟨h0,rfl⟩|⟨hz,id,rest,rfl,h2,h3⟩
   ·exact⟨_,rfl,.inl ⟨by rw[h0,List.mergeSort_nil];rfl,_,rfl,.inl rfl⟩⟩
   ·refine⟨_,rfl,?_⟩;have hl2:=Ep (Kh es);refine .inr ⟨λq=>hz (by rw[List.map_eq_nil_iff]at q;rw[q]at hl2;exact tZ.1 hl2.symm),id,(Kh es).length+rest.length,rest.map eI,by rw[ry,hl2],by rw[h3,su],by simp [hl2]⟩
  obtain⟨lv,rfl,hL⟩:=hL;cases e with
  |returned v=>exact LQ hL hR he
  |panicked c=>exact he.elim
  |outgrown=>exact he.elim
theorem ei(hf:AO H n):AX prog 251 [.mp mp] H n λo H' n'=>o= .ret (clM n)/\H'=wB H n (.box [.mp mp])/\n'=n+2:=by
 refine c251.a (AI AH.wD (AJ ?_));simp only[eE,eN,seval,c251,OZ hf]
end
section
theorem Vl:∀{es:List OU},EG (.int .i64) es->∀e∈es,e.1=eI (A9 e.1)
 |[],_,_,h=>by cases h
 |(k,v,b)::r,hf,e,h=>by
  obtain⟨h1,h2⟩:=hf;rcases tg.1 h with rfl|h
  ·cases k<;>simp only[KT.is]at h1;subst h1;rfl
  ·exact Vl h2 e h
theorem PE{z:Int}{v:Fs}{c:Nat}:∀{es:List OU},EG (.int .i64) es->Kh (EQ (eI z) v c es)=(if(Bm (eI z) es).isSome=true then Kh es else Kh es++[z])/\(EQ (eI z) v c es).map (λe=>e.2.2)=if(Bm (eI z) es).isSome=true then es.map (λe=>e.2.2)else es.map (λe=>e.2.2)++[c]
 |[],_=>⟨rfl,rfl⟩
 |(k,w,b)::r,hf=>by
  obtain⟨h1,h2⟩:=hf;have ih:=PE (z:=z) (v:=v) (c:=c) h2;rw[EQ,Bm];by_cases q:ID (eI z) k=true
  ·rw[sn q,sn q];exact⟨rfl,rfl⟩
  ·rw[sg q,sg q];refine⟨?_,?_⟩
   ·show A9 k::Kh (EQ (eI z) v c r)=_;rw[ih.1];split<;>rfl
   ·rw[sS,ih.2];split<;>rfl
theorem PF{z:Int}:∀{es:List OU},EG (.int .i64) es->((Bm (eI z) es).isSome=true↔z∈Kh es)
 |[],_=>by simp [Bm,Kh]
 |(k,w,b)::r,hf=>by
  obtain⟨h1,h2⟩:=hf;have ih:=PF (z:=z) h2;cases k<;>simp only[KT.is]at h1;rename_i kk y;subst h1;rw[Bm,show Kh ((Fs.int .i64 y,w,b)::r)=y::Kh r from rfl,tg];by_cases q:z=y
  ·subst q;simp [ID]
  ·simp only[ID,q,wc,sN,sY,false_or];exact ih
section
variable (g:v7) (fn:BF->Option Int)
def Jp(i:Nat)(z:Int):List Int:=CU i λc=>decide (fn (Dg g c)=some z)
variable {z:Int} {i:Nat}
theorem ZT(h:fn (Dg g i)=none)(z:Int):Jp g fn (i+1) z=Jp g fn i z:=by
 unfold Jp;rw[EO,h,sg zw]
theorem ZU(h:fn (Dg g i)=some z):Jp g fn (i+1) z=Jp g fn i z++[(i:Int)]:=by
 unfold Jp;rw[EO,h,sn zw]
theorem mP{w:Int}(h:fn (Dg g i)=some z)(hw:w≠z):Jp g fn (i+1) w=Jp g fn i w:=by
 unfold Jp;rw[EO,h,sg (by simp;exact λe=>hw e.symm)]
theorem en(i:Nat)(z:Int):(Jp g fn i z).length<=i:=Cw ..
theorem Vm(z:Int):Jp g fn g.cells.length z=CN (AZ g.sh g.w g.cells) fn z:=by
 unfold Jp CN;rw[B9];refine EC λc hc=>?_
 rw[Dz hc,vO]
structure LnE(lo i:Nat)(H:AB)(es:List OU)(yu:Nat)(tk:Int->Nat):Prop where
 fit:EG (.int .i64) es
 ok:EsOK es yu
 fnd:∀z,Bm (eI z) es=if Jp g fn i z=[]then none else some (.sl (.own (tk z) 1) ((Jp g fn i z).map eI))
 tok:∀z,Jp g fn i z≠[]->lo<=tk z/\AD H (tk z)=some .tok
 inj:∀z w,Jp g fn i z≠[]->Jp g fn i w≠[]->tk z=tk w->z=w
 knd:(Kh es).Nodup
 kmem:∀z,z∈Kh es↔Jp g fn i z≠[]
 len:es.length<=i
variable {g fn} {lo i:Nat} {H H':AB} {es:List OU} {yu:Nat} {tk:Int->Nat}
theorem LnE.skip(h:LnE g fn lo i H es yu tk)(hn:fn (Dg g i)=none)(hk:∀z,Jp g fn i z≠[]->AD H' (tk z)=some .tok):LnE g fn lo (i+1) H' es yu tk:=by
 obtain⟨h1,h2,h3,h4,h5,h6,h7,h8⟩:=h;have e:=ZT g fn hn;exact⟨h1,h2,λz=>by rw[e];exact h3 z,λz hz=>by rw[e]at hz;exact⟨(h4 z hz).1,hk z hz⟩,λz w hz hw=>by rw[e]at hz hw;exact h5 z w hz hw,h6,λz=>by rw[e];exact h7 z,zo⟩
theorem LnE.step(h:LnE g fn lo i H es yu tk)(hz:fn (Dg g i)=some z){t:Nat}(hlo:lo<=t)(ht:AD H t=none)(ht':AD H' t=some .tok)(hk:∀w,Jp g fn i w≠[]->w≠z->AD H' (tk w)=some .tok):
  LnE g fn lo (i+1) H' (EQ (eI z) (.sl (.own t 1) ((Jp g fn i z++[(i:Int)]).map eI)) yu es) (if(Bm (eI z) es).isSome=true then yu else yu+1) (λw=>if w=z then t else tk w):=by
 obtain⟨h1,h2,h3,h4,h5,h6,h7,h8⟩:=h;have hs:=ZU g fn hz;have s8:=λw=>mP g fn (w:=w) hz
 have yw:=LO (y:=z) (v:=.sl (.own t 1) ((Jp g fn i z++[(i:Int)]).map eI)) (c:=yu) h1;obtain⟨k1,k2⟩:=PE (z:=z) (v:=.sl (.own t 1) ((Jp g fn i z++[(i:Int)]).map eI)) (c:=yu) h1;have hkey:=PF (z:=z) h1;generalize s7:EQ (eI z) (.sl (.own t 1) ((Jp g fn i z++[(i:Int)]).map eI)) yu es=xD at yw k1 k2;have hlen:xD.length=if(Bm (eI z) es).isSome=true then es.length else es.length+1:=by grind [List.length_map]
 refine⟨yw,⟨Vl yw,?_,λe he=>?_⟩,λw=>?_,λw hw=>?_,λw w' hw hw'=>?_,?_,λw=>?_,by rw[hlen];split<;>omega⟩
 ·rw[k2];split
  ·exact h2.nd
  ·rw[uD];refine⟨h2.nd,zw,λa ha b hb=>?_⟩;rw[tB.1 hb];obtain⟨e,he,rfl⟩:=tn.1 ha;have:=h2.lt e he;omega
 ·have hm:e.2.2∈xD.map (λe=>e.2.2):=tn.2 ⟨e,he,rfl⟩;rw[k2]at hm;split at hm
  ·rename_i q;obtain⟨e',he',e1⟩:=tn.1 hm;rw[sn q,<-e1];exact h2.lt e' he'
  ·rename_i q;rw[sg q];rcases tP.1 hm with hm|hm
   ·obtain⟨e',he',e1⟩:=tn.1 hm;have:=h2.lt e' he';omega
   ·rw[tB.1 hm];omega
 ·rw[<-s7,LN h1];by_cases q:w=z
  ·subst q;rw[sn rfl,sn rfl,hs,sg zw]
  ·rw[sg q,sg q,h3 w,s8 w q]
 ·grind
 ·grind
 ·grind
 ·rw[k1];by_cases q:w=z
  ·subst q;rw[hs];split
   ·rename_i p;exact⟨λ_=>zw,λ_=>hkey.1 p⟩
   ·exact⟨λ_=>zw,λ_=>zw⟩
  ·rw[s8 w q,<-h7 w];split
   ·exact Iff.rfl
   ·simp [q]
end
def MS(o:Option Int):Fs:=.wJ [.int .i64 (o.getD 0),.bool o.isSome]
def Od(cap:List Fs)(okH:AB->Prop)(okS:BF->Prop)(fn:BF->Option Int):List Fs->AB->Prop×Fs:=λa H=>match a with
 | .agg [.int .i64 x,.int .i64 y]::c=>(c=cap/\okH H/\okS (x,y),MS (fn (x,y)))
 |_=>(False,.wJ [])
variable {H:AB} {f0:FuncId} {g:v7} {cap:List Fs} {n:Nat} {fn:BF->Option Int}
theorem rowPq{y9:FuncId}{okH:AB->Prop}{okS:BF->Prop}(h:∀s H n,okS s->okH H->Ao prog y9 (Oc s::cap) H n (MS (fn s))):∀args H n,(Od cap okH okS fn args H).1->Ao prog y9 args H n (Od cap okH okS fn args H).2:=by
 intro args H n hh;unfold Od at hh⊢;split at hh
 ·obtain⟨rfl,h1,h2⟩:=hh;exact h _ H n h2 h1
 ·exact hh.elim
def G0(H0:AB)(n:Nat)(H:AB):Prop:=∀id ob,id<n->AD H0 id=some ob->AD H id=some ob
abbrev eLn(n:Nat):List (Nat×Bool×Fs):=[(3,true,.ptr (n+1) 0),(4,true,.sl .nil []),(5,true,.ptr (n+4) 0),(14,true,clG (n+6))]
structure LnF(g:v7)(fn:BF->Option Int)(bv:Fs)(H0:AB)(n l':Nat)(i:Nat)(H:AB)(m:Nat):Prop where
 fr:AO H m
 lm:n+9<=m
 kp:G0 H0 n H
 h1:AD H (n+1)=some (.box [bv])
 h4:AD H (n+4)=some (.box [.mp (n+3)])
 hq:AD H (n+6)=some (.box (AE g.sh g.w g.h g.wC g.cells))
 hL:AD H (n+8)=some (.lp ⟨l',.ready,none,48,eLn n, #[15,16],HW,HX⟩)
 hm:∃es yu tk,AD H (n+3)=some (.map es yu)/\LnE g fn (n+9) i H es yu tk
theorem y_ln{H0:AB}{l' i:Nat}{T:Bg}(hT:AH prog T)(yR:∀a H,T f0 a H=Od cap (G0 H0 n) (λs=>s∈AZ g.sh g.w g.cells) fn a H)
  (wi:g.cells.length<=256) (hi:i<g.cells.length) {m:Nat} (F:LnF g fn (.fn (.func f0) [] cap) H0 n l' i H m) {R:Bool->AB->Nat->Prop} (hR:∀H' m',LnF g fn (.fn (.func f0) [] cap) H0 n l' (i+1) H' m'->R true H' m'):
  CY prog l' [.int .i64 i,Oc (Dg g i)] H m R:=by
 obtain⟨fr,lm,kp,h1,h4,hq,hL,es,yu,tk,hm,hE⟩:=F;refine qp hL rfl (AI AH.wD (AJ ?_));simp only[eE,eN,seval,RJ,Gv,uI,uT,ug,vn,OZ fr,AW];refine⟨_,(AA _ _ _ _ zo).trans hL,rfl,AI hT (AJ ?_)⟩;have xJ:Dg g i∈AZ g.sh g.w g.cells:=sZ (Dz hi);have y1:(m=n+1)=False:=sb zo;have y2:(n+8=n+1)=False:=sb zo;have y3:(n+8=m)=False:=sb zo;have hk:G0 H0 n (wB (wB H m (.box [.int .i64 (Dg g i).1,.int .i64 (Dg g i).2])) (n+8) (.lp ⟨l',.busy,none,48,eLn n, #[15,16],HW,HX⟩)):=λid ob s5 h0=>by
  rw[AA _ _ _ _ zo,AA _ _ _ _ zo];exact kp id ob s5 h0
 generalize hs:Dg g i=s at xJ hk;have hmem':(s.1,s.2)∈AZ g.sh g.w g.cells:=xJ;cases hfn:fn s with
 |none=>
  have hfn':fn (s.1,s.2)=none:=hfn;simp only[eZ,seval,eY,KR,h1,y1,y2,y3,yR,Od,r9 hk,r9 hmem',hfn',MS];refine⟨⟨l',.busy,none,48,eLn n, #[15,16],HW,HX⟩,AC ..,hR _ _ ⟨?_,zp,λid ob s5 h0=>?_,?_,?_,?_,AC ..,es,yu,tk,?_,hE.skip (by rw[hs];exact hfn) λz hz=>?_⟩⟩
  ·exact((fr.wB (m:=m+2) zo zo).wB (m:=m+2) (sj _) zo).wB (sj _) (show n+8<m+2 by omega)
  ·rw[AA _ _ _ _ zo];exact hk id ob s5 h0
  ·repeat rw[AA _ _ _ _ zo]
   exact h1
  ·repeat rw[AA _ _ _ _ zo]
   exact h4
  ·repeat rw[AA _ _ _ _ zo]
   exact hq
  ·repeat rw[AA _ _ _ _ zo]
   exact hm
  ·obtain⟨t1,t2⟩:=hE.tok z hz;have:=fr.lt t2;repeat rw[AA _ _ _ _ zo]
   exact t2
 |some z=>
 have hfn':fn (s.1,s.2)=some z:=hfn;have y4:∀k,(n+8=n+k)=(8=k):=λk=>propext zo
 have y5:∀k,(m+k=n+3)=False:=λk=>sb zo
 have y6:(m=n+3)=False:=sb zo;have y7:(m=n+4)=False:=sb zo;have y8:∀k,(n+8=m+k)=False:=λk=>sb zo
 have wm:=en g fn i z;have hfd:=hE.fnd z;have hkt:(KT.int IntKind.i64).is (.int .i64 z)=True:=r9 rfl;by_cases hz:Jp g fn i z=[]
 ·rw[sn hz]at hfd;simp only[eZ,seval,xE,eY,KR,h1,h4,hm,y1,y2,y3,y4,y5,y6,y7,y8,yR,Od,r9 hk,r9 hmem',hfn',MS,C5,hfd,hkt,r9 hE.fit,Bq fr,Al];have wX:=λH' ht' hkk=>hE.step (H':=H') (by rw[hs];exact hfn) (t:=m+9) zo (fr _ zo) ht' hkk
  simp only[hfd,Option.isSome_none,sN,sY,hz,sI,sS,t6]at wX;refine⟨⟨l',.busy,none,48,eLn n, #[15,16],HW,HX⟩,?_,hR _ _ ⟨?_,zp,λid ob s5 h0=>?_,?_,?_,?_,AC ..,_,_,_,?_,wX _ ?_ λw hw hwz=>?_⟩⟩
  ·grind [AA,AC]
  ·exact((((fr.wB (m:=m+11) zo zo).wB (m:=m+11) (sj _) zo).wB (m:=m+11) (sj _) zo).wB (m:=m+11) (sj _) zo).wB (sj _) (show n+8<m+11 by omega)
  ·rw[AA _ _ _ _ zo,AA _ _ _ _ zo,AA _ _ _ _ (by have:=hk id ob s5 h0;omega)];exact hk id ob s5 h0
  ·repeat rw[AA _ _ _ _ zo]
   exact h1
  ·repeat rw[AA _ _ _ _ zo]
   exact h4
  ·repeat rw[AA _ _ _ _ zo]
   exact hq
  ·rw[AA _ _ _ _ zo,AC]
  ·repeat rw[AA _ _ _ _ zo]
   exact AC ..
  ·obtain⟨t1,t2⟩:=hE.tok w hw;have:=fr.lt t2;repeat rw[AA _ _ _ _ zo]
   exact t2
 ·rw[sg hz]at hfd;obtain⟨z1,z2⟩:=hE.tok z hz;have z3:=fr.lt z2;have x1:(n+8=tk z)=False:=sb zo;have x2:(m=tk z)=False:=sb zo;have x3:(tk z=n+3)=False:=sb zo;have x4:∀k,(tk z=m+k)=False:=λk=>sb zo
  have q2:((Jp g fn i z).length+1<=35184372088832)=True:=r9 zo;have q3:((Jp g fn i z).length<=35184372088831)=True:=r9 zo;have q4:Al ((Jp g fn i z).length+1) 8=True:=r9 (Ae zo zd);simp only[eZ,seval,xE,eY,KR,h1,h4,hm,y1,y2,y3,y4,y5,y6,y7,y8,yR,Od,r9 hk,r9 hmem',hfn',MS,C5,hfd,hkt,r9 hE.fit,Bq fr,z2,x1,x2,x3,q2,q4];have wX:=λH' ht' hkk=>hE.step (H':=H') (by rw[hs];exact hfn) (t:=m+9) zo (fr _ zo) ht' hkk
  simp only[hfd,Option.isSome_some,tD,su,sS,t6]at wX;refine⟨⟨l',.busy,none,48,eLn n, #[15,16],HW,HX⟩,?_,hR _ _ ⟨?_,zp,λid ob s5 h0=>?_,?_,?_,?_,AC ..,_,_,_,?_,wX _ ?_ λw hw hwz=>?_⟩⟩
  ·grind [AA,AC]
  ·exact(((((fr.wB (m:=m+11) zo zo).wB (m:=m+11) (sj _) zo).wB (m:=m+11) (sj _) zo).wB (m:=m+11) (sj _) zo).wB (m:=m+11) (sj _) zo).wB (sj _) (show n+8<m+11 by omega)
  ·repeat rw[AA _ _ _ _ zo]
   exact kp id ob s5 h0
  ·repeat rw[AA _ _ _ _ zo]
   exact h1
  ·repeat rw[AA _ _ _ _ zo]
   exact h4
  ·repeat rw[AA _ _ _ _ zo]
   exact hq
  ·rw[AA _ _ _ _ zo,AC]
  ·repeat rw[AA _ _ _ _ zo]
   exact AC ..
  ·obtain⟨t1,t2⟩:=hE.tok w hw;have:=fr.lt t2;have:tk z≠tk w:=λe=>hwz (hE.inj _ _ hz hw e).symm
   repeat rw[AA _ _ _ _ zo]
   exact t2
def EL:List Fs->List (List Int)->Prop
 |[],[]=>True
 |a::E,l::L=>(∃t,a= .sl t (l.map eI)/\(t.esz=1\/l=[]))/\EL E L
 |_,_=>False
theorem EL.wks:∀{E:List Fs} {L:List (List Int)},EL E L->zn E (L.map Aj)
 |[],[],_=>.nil
 |a::E,l::L,⟨⟨t,h1,h2⟩,h⟩=>by
  subst h1;exact .cons (Wk.sl (h2.imp (λz=>z) λq=>by rw[q];rfl)) (EL.wks h)
theorem EL.app:∀{E F:List Fs} {L M:List (List Int)},EL E L->EL F M->EL (E++F) (L++M)
 |[],_,[],_,_,h=>h
 |a::E,_,l::L,_,⟨h1,h⟩,k=>⟨h1,EL.app h k⟩
theorem EL.len:∀{E:List Fs} {L:List (List Int)},EL E L->E.length=L.length
 |[],[],_=>rfl
 |a::E,l::L,⟨_,h⟩=>by rw[sM,sM,EL.len h]
structure LnL(g:v7)(fn:BF->Option Int)(H0:AB)(n c:Nat)(Ks:List Int)(es:List OU)(yu:Nat)(v:VRg):Prop where
 hi:v.i<=Ks.length
 lm:c<=v.n
 fr:AO v.H v.n
 kp:G0 H0 n v.H
 h4:AD v.H (n+4)=some (.box [.mp (n+3)])
 hm:AD v.H (n+3)=some (.map es yu)
 tok:C8 1 c v.H v.tl
 es:v.tl.esz=1\/v.E=[]
 hE:EL v.E ((Ks.take v.i).map (CN (AZ g.sh g.w g.cells) fn))
def LnP(H:AB)(n:Nat)(L:List (List Int)):xw->AB->Nat->Prop:=λo H' n'=>
 ∃tl E,o= .ret (.sl tl E)/\C8 1 n H' tl/\(tl.esz=1\/E=[])/\EL E L/\G0 H n H'/\AO H' n'/\n<=n'
theorem Vn(G:yO g)(hf:AO H n)
  (hb:∀s H' m,s∈AZ g.sh g.w g.cells->G0 H n H'->Ao prog f0 (Oc s::cap) H' m (MS (fn s))) (hbd:∀s∈AZ g.sh g.w g.cells,∀z,fn s=some z-> -16<=z/\z<=32):
  AX prog 227 [CM g,.fn (.func f0) [] cap] H n (LnP H n (CO (AZ g.sh g.w g.cells) fn)):=by
 have hT:AH prog (AF f0 (Od cap (G0 H n) (λs=>s∈AZ g.sh g.w g.cells) fn) wD):=AH.wD.add (rowPq λs H' m h1 h2=>hb s H' m h1 h2);have yR:∀a H',AF f0 (Od cap (G0 H n) (λs=>s∈AZ g.sh g.w g.cells) fn) wD f0 a H'=Od cap (G0 H n) (λs=>s∈AZ g.sh g.w g.cells) fn a H':=λa H'=>by unfold AF;rw[sn rfl]
 generalize AF f0 _ wD=T at hT yR;obtain⟨hr1,hr2,hr3⟩:=Ba G.hG;refine a227 (AI hT (AJ ?_));simp only[eE,eN,seval,xE,c227,AE,OZ hf,Bq hf,AW];generalize hH0:wB _ (n+4) (x9.box [Fs.mp (n+3)])=H0;have af:AO H0 (n+6):=by
  rw[<-hH0];exact(((hf.wB (m:=n+6) zo zo).wB (m:=n+6) (sj _) zo).wB (m:=n+6) (sj _) zo).wB (sj _) zo
 have ak:G0 H n H0:=λid ob s5 h0=>by
  rw[<-hH0];repeat rw[AA _ _ _ _ zo]
  exact h0
 have a1:AD H0 (n+1)=some (.box [.fn (.func f0) [] cap]):=by grind [AA,AC]
 have a3:AD H0 (n+3)=some (.map [] 0):=by rw[<-hH0,AA _ _ _ _ zo,AC]
 have a4:AD H0 (n+4)=some (.box [.mp (n+3)]):=by rw[<-hH0,AC]
 clear hH0;refine(M8 af).mono ?_;rintro o H1 n1 ⟨rfl,rfl,rfl⟩;simp only[eE,eN,seval,BL,GE];intro l';refine(M3 g G (J:=LnF g fn (.fn (.func f0) [] cap) H n l') (λi H n F=>F.hq) (λi H2 m hi F R hR=>y_ln hT yR hr2 hi F hR) ?_).mono ?_
 ·refine⟨(af.wB (m:=n+9) zo zo).wB (sj _) zo,sj _,λid ob s5 h0=>?_,?_,?_,?_,AC ..,[],0,λ_=>0,?_,⟨zt,⟨zw,zw,zw⟩,λz=>?_,λz hz=>absurd rfl hz,λz w hz=>absurd rfl hz,by simp [Kh],λz=>⟨λh=>by simp [Kh]at h,λh=>absurd rfl h⟩,sj _⟩⟩
  ·repeat rw[AA _ _ _ _ zo]
   exact ak id ob s5 h0
  ·repeat rw[AA _ _ _ _ zo]
   exact a1
  ·repeat rw[AA _ _ _ _ zo]
   exact a4
  ·rw[AA _ _ _ _ zo,AC]
  ·repeat rw[AA _ _ _ _ zo]
   exact a3
  ·have:Jp g fn 0 z=[]:=rfl;rw[sn this];rfl
 rintro o H2 n2 ⟨rfl,F⟩;obtain⟨ffr,flm,fkp,f1,f4,fq,fL,es,yu,tk,fm,hE⟩:=F;have u1:(n+8=n+4)=False:=sb zo;simp only[eE,eN,seval,GD,fL,f4,u1];have gf:AO (wB H2 (n+8) .dead) n2:=ffr.wB (sj _) zo;have gk:G0 H n (wB H2 (n+8) .dead):=λid ob s5 h0=>by rw[AA _ _ _ _ zo];exact fkp id ob s5 h0
 have g4:AD (wB H2 (n+8) .dead) (n+4)=some (.box [.mp (n+3)]):=by rw[AA _ _ _ _ zo];exact f4
 have gm:AD (wB H2 (n+8) .dead) (n+3)=some (.map es yu):=by rw[AA _ _ _ _ zo];exact fm
 generalize wB H2 (n+8) .dead=H3 at gf gk g4 gm;refine(ei gf).mono ?_;rintro o H4 n4 ⟨rfl,rfl,rfl⟩;simp only[eE,seval,BL];have kf:AO (wB H3 n2 (.box [.mp (n+3)])) (n2+2):=gf.wB zo zo;have kk:G0 H n (wB H3 n2 (.box [.mp (n+3)])):=λid ob s5 h0=>by rw[AA _ _ _ _ zo];exact gk id ob s5 h0
 have k4:AD (wB H3 n2 (.box [.mp (n+3)])) (n+4)=some (.box [.mp (n+3)]):=by rw[AA _ _ _ _ zo];exact g4
 have km:AD (wB H3 n2 (.box [.mp (n+3)])) (n+3)=some (.map es yu):=by rw[AA _ _ _ _ zo];exact gm
 have kq:AD (wB H3 n2 (.box [.mp (n+3)])) n2=some (.box [.mp (n+3)]):=AC ..;generalize wB H3 n2 (.box [.mp (n+3)])=H5 at kf kk k4 km kq;have hesl:=hE.len;refine(Ao.of (n:=n2+2) YK.l (AV _ _) (λ_=>mO hE.ok zo kf kq km)).mono ?_;rintro o H6 n6 ⟨rfl,rfl,rfl⟩;have hK:((Kh es).mergeSort Ft).map (CN (AZ g.sh g.w g.cells) fn)=CO (AZ g.sh g.w g.cells) fn:=by
  refine dV hE.knd (λz=>?_) hbd;rw[hE.kmem z,Vm,<-RY,<-List.isEmpty_eq_false_iff]
 have hKl:((Kh es).mergeSort Ft).length<=g.cells.length:=by
  rw[Ep];show(es.map _).length<=_;rw[ry];exact hesl
 have hKm:∀z∈(Kh es).mergeSort Ft,Bm (eI z) es=some (.sl (.own (tk z) 1) ((CN (AZ g.sh g.w g.cells) fn z).map eI)):=λz hz=>by
  rw[List.mem_mergeSort]at hz;rw[hE.fnd z,sg ((hE.kmem z).1 hz),Vm]
 rw[<-hK];generalize (Kh es).mergeSort Ft=Ks at hKl hKm;simp only[eE,eN,seval,ry,BL];refine AQ (λv:VRg=>⟨[(4,true,.sl v.tl v.E),(5,true,.ptr (n+4) 0),(34,true,Aj Ks),(35,true,.int .i64 Ks.length),(36,true,.int .i64 v.i)],v.H,v.n⟩) (LnL g fn H n (n2+2) Ks es yu) (λv=>Ks.length-v.i)
  ⟨0,[],.nil,H6,n2+2⟩ rfl ⟨sk _,sj _,kf,kk,k4,km,.inl rfl,.inr rfl,zt⟩ ?_
 rintro⟨j,E,tl,H7,m⟩ ⟨hj,hlm,l9,hkp,h4,hm,xN,s7,hWE⟩;simp only at hj hlm l9 hkp h4 hm xN s7 hWE;by_cases e9:j<Ks.length
 ·have hg:=rz e9;have e:=AK (k:=j) zo;have hfd:=hKm _ (sC e9);have l7:Ks.take (j+1)=Ks.take j++[Ks[j]]:=by rw[sG,hg];rfl
  generalize Ks[j]=z at hg hfd l7;have hkt:(KT.int IntKind.i64).is (.int .i64 z)=True:=r9 rfl;have hEl:E.length=j:=by
   have:=hWE.len;rw[ry,sU]at this;omega
  have q1:BB H7 1 tl=True:=r9 xN.app;have q2:(E.length<=35184372088831)=True:=r9 zo;have q3:Al (E.length+1) 24=True:=r9 (Ae zo zd);simp only[eZ,seval,xE,eY,AN e9,hg,h4,hm,hkt,r9 hE.fit,C5,hfd,q1,q2,q3,Bq l9,e];refine .mk ⟨j+1,E++[.sl (.own (tk z) 1) ((CN (AZ g.sh g.w g.cells) fn z).map eI)],.own (m+5) 1,wB (AU H7 tl) (m+5) .tok,m+7⟩ rfl ⟨e9,zp,(Ab xN l9).wB (m:=m+7) zo zo,λid ob s5 h0=>?_,?_,?_,.inr (.inr ⟨m+5,rfl,zo,AC ..⟩),.inl rfl,?_⟩ zp
  ·rw[AA _ _ _ _ zo,Ac xN (.inl zo)];exact hkp id ob s5 h0
  ·grind [AA,Ac]
  ·grind [AA,Ac]
  ·simp only[l7,su,sS,t6]at hWE⊢;exact hWE.app ⟨⟨_,rfl,.inl rfl⟩,zt⟩
 obtain rfl:j=Ks.length:=zo
 rw[sD]at hWE;simp only[eZ,seval,Ag e9];exact⟨tl,E,rfl,xN.imp id λq=>q.imp id λ⟨z,z1,z2,z3⟩=>⟨z,z1,zo,z3⟩,s7,hWE,hkp,l9,zo⟩
theorem Jq(G:yO g)
  (hb:∀s H' m,s∈AZ g.sh g.w g.cells->G0 H n H'->Ao prog f0 (Oc s::cap) H' m (MS (fn s))) (hbd:∀s∈AZ g.sh g.w g.cells,∀z,fn s=some z-> -16<=z/\z<=32):
  Ao prog 227 [CM g,.fn (.func f0) [] cap] H n (Br (CO (AZ g.sh g.w g.cells) fn)):=
 Ao.of qq (BC n _) λhf=>(Vn G hf hb hbd).mono λo H' n' ⟨tl,E,h1,h2,h3,h4,h5,h6,h7⟩=>⟨⟨_,h1,Wk.yY h3 h4.wks⟩,λid ob h0=>h5 id ob (hf.lt h0) h0⟩
end
section
def OV(H:AB)(av:Fs)(l:List Int):Prop:=(∃t,av= .sl t (l.map eI)/\(t.esz=1\/l=[]))\/∃id cap rest,av= .ref id 1 0 l.length cap/\AD H id=some (.arr 1 ((l++rest).map eI))/\l.length<=cap
def ClnP(H:AB)(n:Nat)(l:List Int):xw->AB->Nat->Prop:=λo H' n'=>
 (l=[]/\H'=H/\(n'=n\/n'=n+4)/\∃t,o= .ret (.sl t [])/\(t= .nil\/t= .exact 1))\/
 (l≠[]/\n'=n+4/\∃rest,o= .ret (.ref (n+2) 1 0 l.length (l.length+rest.length))/\H'=wB H (n+2) (.arr 1 ((l++rest).map eI)))
def Tx{H:AB}{n:Nat}{av:Fs}{l:List Int}(hr:OV H av l)(hl:Aq l):AX prog 32 [av] H n (ClnP H n l):=by
 refine AX.fresh c32.l λhf=>?_
 have wm:l.length<1000000000:=hl;have hrep:∀k,List.replicate k (Fs.int .i64 0)=(List.replicate k (0:Int)).map eI:=λk=>by rw[ud]
 rcases hr with⟨t,rfl,ht⟩|⟨id,cp,rest,rfl,ho,hc⟩
 ·refine AX.args (a:=[Aj l]) ?_ λg vs ⟨v,r,h1,h2,h3⟩=>⟨v,r,h1,Wk.sl (ht.imp (λz=>z) λq=>by rw[q];rfl) _ _ h2,h3⟩
  refine cX.a (AI AH.wD (AJ ?_));cases l with
  |nil=>
   simp only[eZ,seval,cX];refine⟨?_,?_⟩
   ·simp only[eZ,seval,DW,Fg,Bq hf,Al,vi,sk];exact .inl ⟨rfl,rfl,.inr rfl,.exact 1,rfl,.inr rfl⟩
   ·simp only[eZ,seval,se];exact .inl ⟨rfl,rfl,.inl rfl,.nil,rfl,.inl rfl⟩
  |cons x r=>
   rw[sM]at wm;simp only[eZ,seval,ry,cX,Aj,DW,Fg,Bq hf];refine⟨Ae zo zd,zo,λcap xO=>.inr ⟨zw,rfl,List.replicate (cap-(r.length+1)) 0,?_,?_⟩⟩
   ·simp_all
   ·rw[hrep];simp
 ·refine cX.a (AI AH.wD (AJ ?_));have l7:List.take l.length ((l++rest).map eI)=l.map eI:=by rw[su,vV (by rw[ry])]
  have hlen:(l.length<=(l++rest).length)=True:=r9 zw;simp only[eZ,seval,ry,cX,ho,l7,hlen,DW,Fg,Bq hf];refine⟨Ae zo zd,zo,λh0=>?_,λh0 cap xO=>?_⟩
  ·exact .inl ⟨by simpa using h0,rfl,.inr rfl,.exact 1,rfl,.inr rfl⟩
  ·refine .inr ⟨by simpa using h0,rfl,List.replicate (cap-l.length) 0,?_,?_⟩
   ·simp_all
   ·rw[hrep];simp
def p228(s:BF):Av prog 228 [Oc s] (MS (some s.2)):=by
 refine .mk ⟨⟨zt,zt,zt⟩,zt⟩ ⟨zt,zt,zt⟩ (c228.a (AI AH.wD (AJ ?_)));simp only[eE,eN,seval,Int.toNat_one,c228,ZP];exact Wk.refl _
def p229(s:BF):Av prog 229 [Oc s] (MS (some s.1)):=by
 refine .mk ⟨⟨zt,zt,zt⟩,zt⟩ ⟨zt,zt,zt⟩ (c229.a (AI AH.wD (AJ ?_)));simp only[eE,eN,seval,eY,c229,ZP];exact Wk.refl _
variable {g:v7}
theorem Jr(G:yO g){s:BF}(h:s∈AZ g.sh g.w g.cells): -16<=s.1/\s.1<=16/\0<=s.2/\s.2<=15/\ -16<=s.1+s.2/\s.1+s.2<=31:=by
 obtain⟨i,hi,rfl⟩:=sV.1 h;rw[B9]at hi;have e:=Dz hi;rw[rz (by rw[B9];exact hi)]at e;rw[Option.some.inj e];have gi:JO g (i:Int):=⟨zo,by rw[sm];exact hi⟩;obtain⟨k,hk,-,hg,hp,w1,w2,x1,x2,y1,y2,ey,yg⟩:=G.at gi;obtain rfl:k=i:=zo
 unfold Dg DR;split<;>simp only[]<;>omega
theorem p252(s:BF)(h: -16<=s.1+s.2/\s.1+s.2<=31):Av prog 252 [Oc s] (MS (some (s.1+s.2))):=by
 refine .mk ⟨⟨zt,zt,zt⟩,zt⟩ ⟨zt,zt,zt⟩ (c252.a (AI AH.wD (AJ ?_)));have w:IntKind.wrap .i64 (s.1+s.2)=s.1+s.2:=A4 zo zo;simp only[eE,eN,seval,eY,c252,ZP,w];exact Wk.refl _
def Js(s:BF):Option Int:=if s.1=s.2 then some 0 else none
def MT(w:Int)(s:BF):Option Int:=if s.1+s.2=w-1 then some 0 else none
theorem p253(s:BF):Av prog 253 [Oc s] (MS (Js s)):=by
 refine .mk ⟨⟨zt,zt,zt⟩,zt⟩ ⟨zt,zt,zt⟩ (qr.a (AI AH.wD (AJ ?_)));unfold Js;by_cases h:s.1=s.2
 ·rw[sn h];simp only[eE,eN,seval,eY,qr,ZP,BU h];exact Wk.refl _
 ·rw[sg h];simp only[eE,eN,seval,eY,qr,ZP,A5 h];exact Wk.refl _
theorem p254(g:v7)(hw:0<=g.w/\g.w<=16)(s:BF)(h: -16<=s.1+s.2/\s.1+s.2<=31):Av prog 254 [Oc s,.ep (AE g.sh g.w g.h g.wC g.cells)] (MS (MT g.w s)):=by
 refine .mk ⟨⟨zt,zt,zt⟩,BM 0 ..,zt⟩ ⟨zt,zt,zt⟩ (qu.a (AI AH.wD (AJ ?_)));have w:IntKind.wrap .i64 (s.1+s.2)=s.1+s.2:=A4 zo zo;have w2:IntKind.wrap .i64 (g.w-1)=g.w-1:=A4 zo zo;unfold MT;by_cases h:s.1+s.2=g.w-1
 ·rw[sn h];simp only[eE,eN,seval,eY,qu,AE,ZP,w,w2,BU h];exact Wk.refl _
 ·rw[sg h];simp only[eE,eN,seval,eY,qu,AE,ZP,w,w2,A5 h];exact Wk.refl _
section
variable {g:v7} (G:yO g) (H:AB) (n:Nat)
include G
theorem q_ln1:Ao prog 227 [CM g,.fn (.func 228) [] []] H n (Br (CO (AZ g.sh g.w g.cells) λs=>some s.2)):=
 Jq G (λs H' m _ _=>(p228 s).quiet H' m) λs hs z hz=>by have:=Jr G hs;have:=Option.some.inj hz;omega
theorem q_ln2:Ao prog 227 [CM g,.fn (.func 229) [] []] H n (Br (CO (AZ g.sh g.w g.cells) λs=>some s.1)):=
 Jq G (λs H' m _ _=>(p229 s).quiet H' m) λs hs z hz=>by have:=Jr G hs;have:=Option.some.inj hz;omega
theorem q_ln3:Ao prog 227 [CM g,.fn (.func 252) [] []] H n (Br (CO (AZ g.sh g.w g.cells) λs=>some (s.1+s.2))):=
 Jq G (λs H' m hs _=>(p252 s (by have:=Jr G hs;omega)).quiet H' m) λs hs z hz=>by have:=Jr G hs;have:=Option.some.inj hz;omega
theorem q_ln4:Ao prog 227 [CM g,.fn (.func 253) [] []] H n (Br (CO (AZ g.sh g.w g.cells) Js)):=
 Jq G (λs H' m hs _=>(p253 s).quiet H' m) λs hs z hz=>by
  unfold Js at hz;split at hz
  ·have:=Option.some.inj hz;omega
  ·cases hz
theorem q_ln5{q:Nat}(hq:AD H q=some (.box (AE g.sh g.w g.h g.wC g.cells)))(hf:AO H n):Ao prog 227 [CM g,.fn (.func 254) [] [.ptr q 0]] H n (Br (CO (AZ g.sh g.w g.cells) (MT g.w))):=by
 obtain⟨wr,yc⟩:=If G.hG;refine Jq G (λs H' m hs hk=>(p254 g zo s (by have:=Jr G hs;omega)).view ⟨zt,zt,zt⟩ (.cons (.wk (Wk.refl _)) (.cons (View.ptr (off:=0) (hk q _ (hf.lt hq) hq)) .nil)) m) λs hs z hz=>?_
 unfold MT at hz;split at hz
 ·have:=Option.some.inj hz;omega
 ·cases hz
end
def Jt(g:v7):List Fs->AB->Prop×Fs:=λa H=>match a with
 |[x,.fn (.func f) [] cap]=>(x=CM g/\((f=228\/f=229\/f=252\/f=253)/\cap=[]\/f=254/\∃q,cap=[.ptr q 0]/\AD H q=some (.box (AE g.sh g.w g.h g.wC g.cells))),
   Br (CO (AZ g.sh g.w g.cells) (if f=228 then λs=>some s.2 else if f=229 then λs=>some s.1 else if f=252 then λs=>some (s.1+s.2)else if f=253 then Js else MT g.w)))
 |_=>(False,.wJ [])
theorem ZV(G:yO g):∀args H n,(Jt g args H).1->Ao prog 227 args H n (Jt g args H).2:=by
 intro args H n hh;unfold Jt at hh⊢;split at hh
 ·obtain⟨rfl,⟨h|h|h|h,rfl⟩|⟨rfl,q,rfl,hq⟩⟩:=hh
  ·subst h;exact q_ln1 G H n
  ·subst h;exact q_ln2 G H n
  ·subst h;exact q_ln3 G H n
  ·subst h;exact q_ln4 G H n
  ·refine⟨qq,?_⟩;exact(AX.fresh qq λhf=>q_ln5 G H n hq hf).2
 ·exact hh.elim
def Tdg(g:v7):Bg:=AF 227 (Jt g) (AF 109 (s2 A3 A3 (λ_ b=>wide b) λa b=>.bool (decide (a=b))) wD)
theorem mQ(G:yO g):AH prog (Tdg g):=(AH.wD.add (q2 YU)).add (ZV G)
theorem Kq{S:List BF}{fn:BF->Option Int}(h:∀s∈S,∀z,fn s=some z->z=0):CO S fn=if(CN S fn 0).isEmpty then[]else[CN S fn 0]:=by
 have he:∀z,z≠0->(CN S fn z).isEmpty=true:=λz hz=>by
  rw[<-vG];intro q;obtain⟨s,hs,e⟩:=RY.1 q;exact hz (h s hs z e)
 unfold CO Ka;rw[show List.range 49=List.range 16++(16::(List.range 32).map (· +17))from rfl];simp only[su,sS,uh,uP];have z1:((List.range 16).map λk:Nat=>CN S fn ((k:Int)-16)).filter (λl=>!l.isEmpty)=[]:=by grind [List.filter_eq_nil_iff]
 have z2:((List.range 32).map λk:Nat=>CN S fn (((k+17:Nat):Int)-16)).filter (λl=>!l.isEmpty)=[]:=by grind [List.filter_eq_nil_iff]
 have z1':((List.range 16).map (CN S fn∘λk:Nat=>(k:Int)-16)).filter (λl=>!l.isEmpty)=[]:=z1;have z2':((List.range 32).map (CN S fn∘((λk:Nat=>(k:Int)-16)∘λx=>x+17))).filter (λl=>!l.isEmpty)=[]:=z2;rw[z1',sI,tE,z2'];have e0:(((16:Nat):Int)-16)=0:=rfl;rw[e0];cases (CN S fn 0).isEmpty<;>rfl
def dgP(g:v7):List (List Int):=if g.sh=2 then CO (AZ g.sh g.w g.cells) (λs=>some (s.1+s.2))else if g.w=g.h then ML g.w (AZ g.sh g.w g.cells)else[]
structure IDgp(LB D:List (List Int))(H0:AB)(n0:Nat)(tl0:v8)(E0:List Fs)(v:VRg):Prop where
 hi:v.i<=LB.length
 h0:v.i=0->v.E=E0/\v.tl=tl0/\v.H=H0/\v.n=n0
 h1:v.i=1->(v.tl.esz=1\/v.E=[])/\EL v.E D
theorem w01:IntKind.wrap .i64 (0+1)=1:=A4 zd zd
theorem Ry(S:List BF)(f:BF->Option Int)(z:Int):(CN S f z).length<=S.length:=Cw ..
theorem p230(g:v7)(G:yO g):Av prog 230 [CM g] (Br (dgP g)):=by
 refine .mk ⟨BM 0 ..,zt⟩ (BC 0 _) (iV.a (AI (mQ G) (AJ ?_)));unfold dgP;obtain⟨hr1,hr2,hr3⟩:=Ba G.hG;by_cases h2:g.sh=2
 ·rw[sn h2];simp only[eZ,seval,iV,AE,BU h2,Tdg,Jt,AF];exact Wk.refl _
 by_cases hw:g.w=g.h;case neg=>
  rw[sg h2,sg hw];simp only[eZ,seval,se,iV,AE,A5 h2,A5 hw];exact Wk.sl (.inr rfl)
 rw[sg h2,sn hw];have wn:AO (wB Ak 0 (.box (AE g.sh g.w g.h g.wC g.cells))) 2:=AO.nil.wB (sk 2) zd;simp only[eZ,seval,sa,iV,AE,A5 h2,BU hw];refine(Vn G wn (λs H' m hs _=>(p253 s).quiet H' m) λs hs z hz=>by
  unfold Js at hz;split at hz
  ·have:=Option.some.inj hz;omega
  ·cases hz).mono ?_
 rintro o H1 n1 ⟨tl,E,rfl,xN,s7,hEL,hk,wW,to⟩;have h10:AD H1 0=some (.box (AE g.sh g.w g.h g.wC g.cells)):=hk 0 _ zd rfl;have hex:(∃q,[Fs.ptr 0 0]=[Fs.ptr q 0]/\AD H1 q=some (.box (AE g.sh g.w g.h g.wC g.cells)))=True:=r9 ⟨0,rfl,h10⟩;simp only[AE]at h10 hex;have hD:ML g.w (AZ g.sh g.w g.cells)=(CO (AZ g.sh g.w g.cells) Js)++(if(CN (AZ g.sh g.w g.cells) (MT g.w) 0).isEmpty||decide (CN (AZ g.sh g.w g.cells) Js 0=CN (AZ g.sh g.w g.cells) (MT g.w) 0)then[]else[CN (AZ g.sh g.w g.cells) (MT g.w) 0]):=by
  rw[Kq (fn:=Js) λs _ z hz=>by
   unfold Js at hz;split at hz
   ·exact(Option.some.inj hz).symm
   ·cases hz]
  rfl
 have hLB:=Kq (S:=AZ g.sh g.w g.cells) (fn:=MT g.w) λs _ z hz=>by
  unfold MT at hz;split at hz
  ·exact(Option.some.inj hz).symm
  ·cases hz
 have hLA:=Kq (S:=AZ g.sh g.w g.cells) (fn:=Js) λs _ z hz=>by
  unfold Js at hz;split at hz
  ·exact(Option.some.inj hz).symm
  ·cases hz
 rw[hLA]at hEL hD;generalize ML g.w (AZ g.sh g.w g.cells)=D at hD;simp only[eE,eN,seval,ry,BL,h10,Tdg,Jt,hex,AF];rw[hLB];have hBl:=Ry (AZ g.sh g.w g.cells) (MT g.w) 0;have hAl:=Ry (AZ g.sh g.w g.cells) Js 0;rw[B9]at hBl hAl;generalize CN (AZ g.sh g.w g.cells) Js 0=A at hEL hAl hD;generalize CN (AZ g.sh g.w g.cells) (MT g.w) 0=B at hBl hD;generalize hLAg:(if A.isEmpty=true then[]else[A])=LA at hEL hD;generalize hLBg:(if B.isEmpty=true then[]else[B])=LB;refine AQ (λv:VRg=>⟨[(3,true,.sl v.tl v.E),(20,true,Br LB),(21,true,.int .i64 LB.length),(22,true,.int .i64 v.i)],v.H,v.n⟩) (IDgp LB D H1 n1 tl E) (λv=>LB.length-v.i)
  ⟨0,E,tl,H1,n1⟩ rfl ⟨sk _,λ_=>⟨rfl,rfl,rfl,rfl⟩,λh=>by cases h⟩ ?_
 rintro⟨i,E2,tl2,H2,n2⟩ ⟨hi,i0,i1⟩;simp only at hi i0 i1;cases hB:B.isEmpty with
 |true=>
  rw[hB]at hLBg hD;rw[vK,sn rfl,sR]at hD;rw[sn rfl]at hLBg;subst hLBg;subst hD;obtain rfl:i=0:=by simpa using hi
  obtain⟨rfl,rfl,rfl,rfl⟩:=i0 rfl;simp only[eZ,seval,eY];exact Wk.yY s7 hEL.wks
 |false=>
 rw[hB]at hLBg hD;rw[ub]at hD;rw[sg zd]at hLBg;subst hLBg;have z9:i=0\/i=1:=by simp at hi;omega
 rcases z9 with rfl|rfl
 case inr=>
  obtain⟨k1,k2⟩:=i1 rfl;simp only[eZ,seval,c1];exact Wk.yY k1 k2.wks
 obtain⟨rfl,rfl,rfl,rfl⟩:=i0 rfl;have hwB:wide B:=by show B.length<_;omega
 have c1n:((1:Nat):Int)=1:=rfl;cases hA:A.isEmpty with
 |true=>
  rw[hA,sn rfl]at hLAg;subst hLAg;have hE0:E2=[]:=tv hEL.len;subst hE0;have hAB:decide (A=B)=false:=sA λe=>by rw[e,hB]at hA;cases hA
  rw[hAB,sg zd,sI]at hD;subst hD;have q1:BB H2 1 tl2=True:=r9 xN.app;simp only[eZ,seval,sa,eY,q1,Bq wW,Al,c1n,w01];exact .mk ⟨1,[Aj B],.own (n2+3) 1,_,n2+5⟩ rfl ⟨sj _,λh=>(by cases h),λ_=>⟨.inl rfl,⟨_,rfl,.inl rfl⟩,zt⟩⟩ (show 1-1<1-0 by decide)
 |false=>
  rw[hA,sg zd]at hLAg;subst hLAg;obtain⟨x,hx⟩:∃x,E2=[x]:=by
   have:=hEL.len
   match E2,this with
   |[x],_=>exact⟨x,rfl⟩
  subst hx;obtain⟨⟨t,rfl,ht⟩,-⟩:=hEL;have htl1:tl2.esz=1:=s7.resolve_right zw;have ka:A3.ok (.sl t (A.map eI))=True:=r9 ⟨ht.imp (λz=>z) λq=>by rw[q];rfl,by rw[Aw]⟩;have kd:A3.dec (.sl t (A.map eI))=A:=Aw A;have q1:BB H2 1 tl2=True:=r9 xN.app;by_cases hAB:A=B
  ·rw[sK hAB,sn rfl,sR]at hD;subst hD;simp only[eZ,seval,sa,eY,c1n,w01,htl1,Tdg,s2,ka,kd,Ah,Ad,r9 hwB,BU hAB,sa,AF];exact .mk ⟨1,[.sl t (A.map eI)],tl2,H2,n2⟩ rfl ⟨sj _,λh=>(by cases h),λ_=>⟨.inl htl1,⟨t,rfl,ht⟩,zt⟩⟩ (show 1-1<1-0 by decide)
  ·rw[sA hAB,sg zd]at hD;subst hD;simp only[eZ,seval,se,eY,q1,Bq wW,Al,c1n,w01,htl1,Tdg,s2,ka,kd,Ah,Ad,r9 hwB,A5 hAB,se,AF];exact .mk ⟨1,[.sl t (A.map eI),Aj B],.own (n2+3) 1,_,n2+5⟩ rfl ⟨sj _,λh=>(by cases h),λ_=>⟨.inl rfl,⟨t,rfl,ht⟩,⟨_,rfl,.inl rfl⟩,zt⟩⟩ (show 1-1<1-0 by decide)
end
def eo(g:v7):Bg:=AF 156 (s1 DS (λg=>Aq g.wC/\Aq g.cells) Ll) (AF 227 (Jt g) (AF 230 (s1 DS yO λg=>Br (dgP g)) wD))
def mR{g:v7}(G:yO g):AH prog (eo g):=((AH.wD.add (q1 p230)).add (ZV G)).add (q1 λg h=>p156 g h.1 h.2)
structure IFy(N:Nat)(L:Nat->List (List Int))(v:VRg):Prop where
 hi:v.i<=N
 hn:2<=v.n
 fr:AO v.H v.n
 tok:C8 1 2 v.H v.tl
 es:v.tl.esz=1\/v.E=[]
 hE:EL v.E (L v.i)
structure IFz(N:Nat)(v:VRg):Prop where
 hi:v.i<=N
 hn:2<=v.n
 fr:AO v.H v.n
 tok:C8 1 2 v.H v.tl
 es:v.tl.esz=1\/H8 v.i=[]
 hE:v.E=(H8 v.i).map eI
def XV(sh:Int){S:List BF}(hd:S.Nodup){c:Nat}{s:BF}(hs:S[c]?=some s):(Hl sh S s++[(c:Int)]).mergeSort Ft=CU S.length λb=>decide (b=c)||((Fk sh).any λd=>decide (S[b]?=(S[c]?).map λs=>I8 s d)):=by
 have hself:(c:Int)∉Hl sh S s:=by simp_all [dY,OJ,dZ]
 have wi:=(t8.1 hs).1;refine LX ?_ (LW ..) λx=>?_
 ·rw[uD];refine⟨(LW ..).imp λq=>zo,zw,λa ha b hb e=>?_⟩;rw[tB.1 hb]at e;exact hself (e▸ha)
 ·rw[tP,tB,hs];unfold Hl;rw[Il,Il];simp only[td,sQ,si];constructor
  ·grind
  ·grind
def et{H H':AB}{n0 n' m:Nat}{x:List Int}{y:Int}{lv:Fs}{K:AB->Fs->Prop}(h:ClnP H n0 x (.ret lv) H' n')(hx:x.length<1000000)(hm:AD H' m=none)
  (hK:∀id (rest:List Int),(id=m\/id=n0+2/\n'=n0+4)->K (wB H' id (.arr 1 (((x++[y])++rest).map eI))) (.ref id 1 0 (x++[y]).length ((x++[y]).length+rest.length))):JJ H' m 1 8 (.int .i64 0) K lv (some [eI y]):=by
 rcases h with⟨rfl,rfl,hn,t,ho,ht⟩|⟨s8,rfl,rest,ho,rfl⟩
 ·obtain rfl:=xw.ret.inj ho;rw[DW];refine⟨hm,zd,rfl,ht,by simp [Al],zw,(λe=>by cases e),λ_ cap xO=>?_⟩;have:=hK m (List.replicate (cap-1) 0) (.inl rfl);simp only[sI,sS,sM,tI,tK,sJ,ud]at this xO⊢;rw[show 0+1+(cap-1)=cap by omega]at this;exact this
 ·obtain rfl:=xw.ret.inj ho;have hg:AD (wB H (n0+2) (.arr 1 ((x++rest).map eI))) (n0+2)=some (.arr 1 ((x++rest).map eI)):=AC ..;generalize wB H (n0+2) (.arr 1 ((x++rest).map eI))=G at hg hm hK;rw[LG hg];have el:(x++[y]).length=x.length+1:=zw
  refine⟨hm,zd,rfl,rfl,rfl,Ae (by simp only[sM,tI];omega) zd,by simp only[sM,tI];omega,rfl,zw,zo,λhr=>?_,λhr yK hc=>?_⟩
  ·have:=hK (n0+2) (rest.drop 1) (.inr ⟨rfl,rfl⟩);simp only[sM,tI]at hr⊢;have e1:List.take x.length ((x++rest).map eI)=x.map eI:=by rw[su,uC zw,tL zw]
   have e2:List.drop (x.length+(0+1)) ((x++rest).map eI)=(rest.drop 1).map eI:=by rw[su,List.drop_append,uy zw];simp
   rw[e1,e2];rw[el,su,su,ue,show x.length+1+(rest.length-1)=x.length+rest.length by omega]at this;exact this
  ·have:=hK m (List.replicate (yK-(x.length+1)) 0) (.inl rfl);simp only[sM,tI]at hr hc⊢;have e1:List.take x.length ((x++rest).map eI)=x.map eI:=by rw[su,uC zw,tL zw]
   rw[e1];rw[el,su,su,ud,tK,show x.length+1+(yK-(x.length+1))=yK by omega]at this;exact this
def Ty(x:List Int)(c j:Nat):List (List Int):=((x.take j).filter λb=>decide ((c:Int)<b)).map λb=>[(c:Int),b]
def ZW(x:List Int)(c:Nat){j:Nat}{b:Int}(h:x[j]?=some b):Ty x c (j+1)=Ty x c j++if(c:Int)<b then[[(c:Int),b]]else[]:=by
 unfold Ty;rw[sG,h,uh,su];congr 1;by_cases q:(c:Int)<b<;>simp [q]
def Vo(x:List Int)(c j:Nat):(Ty x c j).length<=j:=by
 unfold Ty;rw[ry];refine sX (tN ..) ?_;rw[sU];omega
theorem c3n:((3:Nat):Int)=3:=rfl
theorem jf:((4:Nat):Int)=4:=rfl
theorem c5n:((5:Nat):Int)=5:=rfl
theorem c6n:((6:Nat):Int)=6:=rfl
theorem c7n:((7:Nat):Int)=7:=rfl
def p157(g:v7)(f:Nat)(G:yO g)(hf:f<=7):Av prog 157 [CM g,.int .i64 (f:Int)] (.wJ [Br (E9 g.sh g.w g.h (AZ g.sh g.w g.cells) f),.int .i64 0]):=by
 refine .mk ⟨BM 0 ..,zt,zt⟩ ⟨BC 0 _,zt,zt⟩ (RK.a (AI (mR G) (AJ ?_)));have f1:DS.ok (.agg (AE g.sh g.w g.h g.wC g.cells))=True:=EA g;have f2:DS.dec (.agg (AE g.sh g.w g.h g.wC g.cells))=g:=DC g;simp only[AE]at f1 f2;obtain⟨hr1,hr2,hr3⟩:=Ba G.hG;have hc:Aq g.cells:=by show g.cells.length<_;omega
 have wg:=ZK G;have hslen:=B9 g;obtain⟨wr,yc⟩:=If G.hG;have hd:(AZ g.sh g.w g.cells).Nodup:=MM zo hr1 λp hp=>(hr3 p hp).1
 have hfrN:AO (wB Ak 0 (.box (AE g.sh g.w g.h g.wC g.cells))) 3:=AO.nil.wB (sk 3) zd;simp only[AE]at hfrN;rcases(by omega:f=0\/f=1\/f=2\/f=3\/f=4\/f=5\/f=6\/f=7)with rfl|rfl|rfl|rfl|rfl|rfl|rfl|rfl
 ·
  simp only[eZ,seval,sa,eY,RK,AE,eo,s1,f1,f2,r9 G.2,r9 hc,wg,AF];have hfam:E9 g.sh g.w g.h (AZ g.sh g.w g.cells) 0=(List.range g.cells.length).map λ(c:Nat)=>[(c:Int)]:=by
   unfold E9;rw[sn rfl,TR,hslen,uP];rfl
  rw[hfam];refine AQ (λv:VRg=>⟨[(4,true,.sl v.tl v.E),(30,true,.int .i64 g.cells.length),(31,true,.int .i64 v.i)],v.H,v.n⟩) (IFy g.cells.length λi=>(List.range i).map λ(c:Nat)=>[(c:Int)]) (λv=>g.cells.length-v.i)
   ⟨0,[],.nil,_,3⟩ rfl ⟨sk _,(show 2<=3 by decide),hfrN,.inl rfl,.inr rfl,zt⟩ ?_
  rintro⟨i,E,tl,H,n⟩ ⟨hi,hn,l9,xN,s7,hEL⟩;simp only at hi hn l9 xN s7 hEL;by_cases e9:i<g.cells.length
  ·have e:=AK (k:=i) zo;have hEl:E.length=i:=by rw[hEL.len,ry,uE]
   have q1:BB H 1 tl=True:=r9 xN.app;have q2:(E.length<=35184372088831)=True:=r9 zo;have q3:Al (E.length+1) 24=True:=r9 (Ae zo zd);simp only[eZ,seval,AN e9,e,q1,q2,q3,Bq l9];refine .mk ⟨i+1,E++[.sl (.exact 1) [.int .i64 i]],.own (n+4) 1,wB (AU H tl) (n+4) .tok,n+6⟩ rfl ⟨e9,zp,(Ab xN l9).wB (m:=n+6) zo zo,.inr (.inr ⟨n+4,rfl,zo,AC ..⟩),.inl rfl,?_⟩ zp;simp only[uc,su,sS,t6];exact hEL.app ⟨⟨.exact 1,rfl,.inl rfl⟩,zt⟩
  obtain rfl:i=g.cells.length:=zo
  simp only[eZ,seval,Ag e9];exact Wk.wJ (.cons (Wk.yY s7 hEL.wks) (.cons (Wk.refl _) .nil))
 ·simp only[eZ,seval,sa,eY,RK,AE,eo,Jt,s1,f1,f2,r9 G.2,r9 hc,wg,AF];exact Wk.refl _
 ·simp only[eZ,seval,sa,eY,RK,AE,eo,Jt,s1,f1,f2,r9 G.2,r9 hc,wg,ZP,AF];exact Wk.refl _
 ·simp only[eZ,seval,sa,eY,RK,AE,eo,s1,f1,f2,r9 G.2,r9 hc,wg,c3n,r9 G,AF];exact Wk.refl _
 ·simp only[eZ,seval,sa,eY,RK,AE,eo,s1,f1,f2,r9 G.2,r9 hc,wg,jf,AF];exact Wk.refl _
 ·
  have hfam:E9 g.sh g.w g.h (AZ g.sh g.w g.cells) 5=(List.range g.cells.length).map λ(c:Nat)=>(Hl g.sh (AZ g.sh g.w g.cells) (Dg g c)++[(c:Int)]).mergeSort Ft:=by
   unfold E9;rw[sg zd,sg zd,sg zd,sg zd,sg zd,sn rfl,hslen];refine tG λc hcm=>?_
   rw[XV g.sh hd (Dz (tF.1 hcm)),hslen]
  rw[hfam];simp only[eZ,seval,sa,eY,RK,AE,eo,s1,f1,f2,r9 G.2,r9 hc,wg,c5n,AF];have hnl:(Ek g.sh (AZ g.sh g.w g.cells)).length=g.cells.length:=by rw[Ek,ry,hslen]
  have hna:∀i,i<g.cells.length->(Ek g.sh (AZ g.sh g.w g.cells))[i]?=some (Hl g.sh (AZ g.sh g.w g.cells) (Dg g i)):=λi hi=>by rw[Ek,sF,Dz hi];rfl
  have hnx:∀s,(Hl g.sh (AZ g.sh g.w g.cells) s).length<=g.cells.length:=λs=>by rw[<-hslen];exact Cw ..
  generalize AZ g.sh g.w g.cells=S at hnl hna hnx;generalize hNB:Ek g.sh S=NB at hnl hna;refine AQ (λv:VRg=>⟨[(4,true,.sl v.tl v.E),(57,true,Br NB),(58,true,.int .i64 NB.length),(59,true,.int .i64 v.i)],v.H,v.n⟩) (IFy NB.length λi=>(List.range i).map λ(c:Nat)=>(Hl g.sh S (Dg g c)++[(c:Int)]).mergeSort Ft) (λv=>NB.length-v.i)
   ⟨0,[],.nil,_,3⟩ rfl ⟨sk _,(show 2<=3 by decide),hfrN,.inl rfl,.inr rfl,zt⟩ ?_
  rintro⟨i,E,tl,H,n⟩ ⟨hi,hn,l9,xN,s7,hEL⟩;simp only at hi hn l9 xN s7 hEL;by_cases e9:i<NB.length;case neg=>
   obtain rfl:i=NB.length:=zo
   simp only[eZ,seval,Ag e9];rw[hnl]at hEL;exact Wk.wJ (.cons (Wk.yY s7 hEL.wks) (.cons (Wk.refl _) .nil))
  have e:=AK (k:=i) zo;have hg:=hna i zo;have hxl:=hnx (Dg g i);have hEl:E.length=i:=by rw[hEL.len,ry,uE]
  generalize hx:Hl g.sh S (Dg g i)=x at hg hxl;simp only[eZ,seval,eY,AN e9,hg];refine(Tx (.inl ⟨_,rfl,.inl rfl⟩) (show x.length<_ by omega)).mono ?_;intro o H1 n1 wi;have wv:∃lv,o= .ret lv:=by
   rcases wi with⟨-,-,-,t,ho,-⟩|⟨-,-,rest,ho,-⟩<;>exact⟨_,ho⟩
  obtain⟨lv,rfl⟩:=wv;have to:n+6<=n1/\n1<=n+10:=by rcases wi with⟨-,-,h,-⟩|⟨-,h,-⟩<;>omega
  have wW:AO H1 n1:=by
   rcases wi with⟨-,rfl,-⟩|⟨-,rfl,rest,-,rfl⟩
   ·exact λj hj=>l9 j zo
   ·exact l9.wB zo zo
  have hk1:∀j,j<n+6->AD H1 j=AD H j:=λj hj=>by
   rcases wi with⟨-,rfl,-⟩|⟨-,rfl,rest,-,rfl⟩
   ·rfl
   ·rw[AA _ _ _ _ zo]
  have hm4:AD H1 (n+4)=none:=by rw[hk1 _ zo];exact l9 _ zo
  simp only[eE,seval,BL];refine et wi zo hm4 λid rest s5=>?_
  have hidn:n<=id/\id<n1:=zo
  simp only[eE,eN,seval,Fg];refine(RU (AC ..) zw (by simp;omega)).mono ?_;rintro o H2 n2 ⟨rfl,rfl,rfl⟩;rw[vJ,List.drop_left,AW];have yk:((x++[(i:Int)]).mergeSort Ft).length=(x++[(i:Int)]).length:=Ep _;have yW:List.take (x++[(i:Int)]).length (((x++[(i:Int)]).mergeSort Ft++rest).map eI)=((x++[(i:Int)]).mergeSort Ft).map eI:=by rw[su,vV (by rw[ry,yk])]
  have hle:((x++[(i:Int)]).length<=(((x++[(i:Int)]).mergeSort Ft++rest)).length)=True:=r9 (by have:=yk;simp only[sH]at this⊢;omega);have hle2:((x++[(i:Int)]).length<=(x++[(i:Int)]).length+rest.length)=True:=r9 zo;have gt:C8 1 2 (wB H1 id (.frz 1 (((x++[(i:Int)]).mergeSort Ft++rest).map eI))) tl:=by
   rcases xN with h|h|⟨z,h1,h2,h3⟩
   ·exact .inl h
   ·exact .inr (.inl h)
   ·have:=l9.lt h3;exact .inr (.inr ⟨z,h1,h2,by rw[AA _ _ _ _ zo,hk1 z zo];exact h3⟩)
  have gf:AO (wB H1 id (.frz 1 (((x++[(i:Int)]).mergeSort Ft++rest).map eI))) n2:=wW.wB (sj _) zo;have q1:=r9 gt.app;have q2:(E.length<=35184372088831)=True:=r9 zo;have q3:Al (E.length+1) 24=True:=r9 (Ae zo zd);have hm3:=Bq gf 3;simp only[eE,eN,seval,ry,BL,LE,hle,hle2,yW,AW,q1,q2,q3,hm3,e];generalize wB H1 id (.frz 1 (((x++[(i:Int)]).mergeSort Ft++rest).map eI))=H5 at gt gf;refine .mk ⟨i+1,E++[.sl (if rest.length=0 then .exact 1 else .none 1) (((x++[(i:Int)]).mergeSort Ft).map eI)],.own (n2+3) 1,wB (AU H5 tl) (n2+3) .tok,n2+5⟩ rfl ⟨e9,zp,(Ab gt gf).wB (m:=n2+5) zo zo,.inr (.inr ⟨n2+3,rfl,zo,AC ..⟩),.inl rfl,?_⟩ zp
  ·simp only[uc,su,sS,t6];rw[hx];exact hEL.app ⟨⟨_,rfl,.inl (by split<;>rfl)⟩,zt⟩
 ·
  have hnl:(Ek g.sh (AZ g.sh g.w g.cells)).length=g.cells.length:=by rw[Ek,ry,hslen]
  have hna:∀i,i<g.cells.length->(Ek g.sh (AZ g.sh g.w g.cells))[i]?=some (Hl g.sh (AZ g.sh g.w g.cells) (Dg g i)):=λi hi=>by rw[Ek,sF,Dz hi];rfl
  have hnx:∀s,(Hl g.sh (AZ g.sh g.w g.cells) s).length<=g.cells.length:=λs=>by rw[<-hslen];exact Cw ..
  have hfam:E9 g.sh g.w g.h (AZ g.sh g.w g.cells) 6=(List.range g.cells.length).flatMap λ(c:Nat)=>Ty (Hl g.sh (AZ g.sh g.w g.cells) (Dg g c)) c (Hl g.sh (AZ g.sh g.w g.cells) (Dg g c)).length:=by
   unfold E9;rw[sg zd,sg zd,sg zd,sg zd,sg zd,sg zd,sn rfl,hslen];rw[List.flatMap_def,List.flatMap_def];congr 1;refine tG λc hcm=>?_
   rw[hna c (tF.1 hcm),sw];unfold Ty;rw[sD]
  rw[hfam];simp only[eZ,seval,sa,eY,RK,AE,eo,s1,f1,f2,r9 G.2,r9 hc,wg,c6n,AF];generalize AZ g.sh g.w g.cells=S at hnl hna hnx;generalize hNB:Ek g.sh S=NB at hnl hna;have hLl:∀i,((List.range i).flatMap λ(c:Nat)=>Ty (Hl g.sh S (Dg g c)) c (Hl g.sh S (Dg g c)).length).length<=256*i:=λi=>by
   induction i with
   |zero=>simp
   |succ i ih=>
    rw[uc,vm,sH];simp only[uU,List.flatMap_nil,sR];have:=Vo (Hl g.sh S (Dg g i)) i (Hl g.sh S (Dg g i)).length;have:=hnx (Dg g i);omega
  refine AQ (λv:VRg=>⟨[(4,true,.sl v.tl v.E),(78,true,Br NB),(79,true,.int .i64 NB.length),(80,true,.int .i64 v.i)],v.H,v.n⟩) (IFy NB.length λi=>(List.range i).flatMap λ(c:Nat)=>Ty (Hl g.sh S (Dg g c)) c (Hl g.sh S (Dg g c)).length) (λv=>NB.length-v.i)
   ⟨0,[],.nil,_,3⟩ rfl ⟨sk _,(show 2<=3 by decide),hfrN,.inl rfl,.inr rfl,zt⟩ ?_
  rintro⟨i,E,tl,H,n⟩ ⟨hi,hn,l9,xN,s7,hEL⟩;simp only at hi hn l9 xN s7 hEL;by_cases e9:i<NB.length;case neg=>
   obtain rfl:i=NB.length:=zo
   simp only[eZ,seval,Ag e9];rw[hnl]at hEL;exact Wk.wJ (.cons (Wk.yY s7 hEL.wks) (.cons (Wk.refl _) .nil))
  have e:=AK (k:=i) zo;have hg:=hna i zo;have hxl:=hnx (Dg g i);have hLi:=hLl i;have hstep:∀z,((List.range (i+1)).flatMap λ(c:Nat)=>Ty (Hl g.sh S (Dg g c)) c (Hl g.sh S (Dg g c)).length)=z->((List.range i).flatMap λ(c:Nat)=>Ty (Hl g.sh S (Dg g c)) c (Hl g.sh S (Dg g c)).length)++Ty (Hl g.sh S (Dg g i)) i (Hl g.sh S (Dg g i)).length=z:=λz hz=>by
   rw[<-hz,uc,vm];simp only[uU,List.flatMap_nil,sR]
  have hstep:=hstep _ rfl;generalize ((List.range i).flatMap λ(c:Nat)=>Ty (Hl g.sh S (Dg g c)) c (Hl g.sh S (Dg g c)).length)=L at hEL hLi hstep;generalize hx:Hl g.sh S (Dg g i)=x at hg hxl hstep;simp only[eZ,seval,eY,AN e9,hg];refine AQ (λv:VRg=>⟨[(4,true,.sl v.tl v.E),(11,true,.int .i64 i),(78,true,Br NB),(79,true,.int .i64 NB.length),(80,true,.int .i64 i),(85,true,Aj x),(86,true,.int .i64 x.length),(87,true,.int .i64 v.i)],v.H,v.n⟩) (IFy x.length λj=>L++Ty x i j) (λv=>x.length-v.i)
   ⟨0,E,tl,H,n⟩ rfl ⟨sk _,hn,l9,xN,s7,by rw[show Ty x i 0=[]from rfl,sR];exact hEL⟩ ?_
  rintro⟨j,E2,tl2,H2,n2⟩ ⟨hj,yq,yd,htl2,hes2,hEL2⟩;simp only at hj yq yd htl2 hes2 hEL2;by_cases s6:j<x.length;case neg=>
   obtain rfl:j=x.length:=zo
   simp only[eZ,seval,Ag s6,e];rw[hstep]at hEL2;exact .mk ⟨i+1,E2,tl2,H2,n2⟩ rfl ⟨e9,yq,yd,htl2,hes2,hEL2⟩ zp
  have ej:=AK (k:=j) zo;have yT:=rz s6;have hsu:=ZW x i yT;generalize x[j]=b at yT hsu;by_cases hb:(i:Int)<b
  ·rw[sn hb]at hsu;have xg:=Vo x i j;have hEl:E2.length<=70000:=by rw[hEL2.len,sH];omega
   have q1:BB H2 1 tl2=True:=r9 htl2.app;have q2:(E2.length<=35184372088831)=True:=r9 zo;have q3:Al (E2.length+1) 24=True:=r9 (Ae zo zd);simp only[eZ,seval,eY,AN s6,yT,BU hb,ej,q1,q2,q3,Bq yd];refine .mk ⟨j+1,E2++[.sl (.exact 1) [.int .i64 i,.int .i64 b]],.own (n2+5) 1,wB (AU H2 tl2) (n2+5) .tok,n2+7⟩ rfl ⟨s6,zp,(Ab htl2 yd).wB (m:=n2+7) zo zo,.inr (.inr ⟨n2+5,rfl,zo,AC ..⟩),.inl rfl,?_⟩ zp;simp only[hsu];rw[<-te];exact hEL2.app ⟨⟨.exact 1,rfl,.inl rfl⟩,zt⟩
  ·rw[sg hb,sR]at hsu;simp only[eZ,seval,eY,AN s6,yT,A5 hb,ej];exact .mk ⟨j+1,E2,tl2,H2,n2⟩ rfl ⟨s6,yq,yd,htl2,hes2,by simp only[hsu];exact hEL2⟩ zp
 ·
  have hfam:E9 g.sh g.w g.h (AZ g.sh g.w g.cells) 7=[H8 g.cells.length]:=by
   unfold E9;rw[sg zd,sg zd,sg zd,sg zd,sg zd,sg zd,sg zd,hslen];rfl
  rw[hfam];simp only[eZ,seval,sa,eY,RK,AE,eo,s1,f1,f2,r9 G.2,r9 hc,wg,c7n,AF];refine AQ (λv:VRg=>⟨[(15,true,.sl v.tl v.E),(106,true,.int .i64 g.cells.length),(107,true,.int .i64 v.i)],v.H,v.n⟩) (IFz g.cells.length) (λv=>g.cells.length-v.i)
   ⟨0,[],.nil,_,3⟩ rfl ⟨sk _,(show 2<=3 by decide),hfrN,.inl rfl,.inr rfl,rfl⟩ ?_
  rintro⟨i,E,tl,H,n⟩ ⟨hi,hn,l9,xN,s7,hEL⟩;simp only at hi hn l9 xN s7 hEL;subst hEL;have hEl:(H8 i).length<=i:=Cw ..;by_cases e9:i<g.cells.length
  ·have e:=AK (k:=i) zo;have q1:BB H 1 tl=True:=r9 xN.app;have q2:((H8 i).length<=35184372088831)=True:=r9 zo;have q3:Al ((H8 i).length+1) 8=True:=r9 (Ae zo zd);simp only[eZ,seval,ry,AN e9,e,q1,q2,q3,Bq l9];refine .mk ⟨i+1,(H8 i).map eI++[.int .i64 i],.own (n+3) 1,wB (AU H tl) (n+3) .tok,n+5⟩ rfl ⟨e9,zp,(Ab xN l9).wB (m:=n+5) zo zo,.inr (.inr ⟨n+3,rfl,zo,AC ..⟩),.inl rfl,?_⟩ zp;simp only[PA,su,sS,t6]
  obtain rfl:i=g.cells.length:=zo
  simp only[eZ,seval,Ag e9];exact Wk.wJ (.cons (Wk.yY (m:=[Aj (H8 g.cells.length)]) (.inl rfl) (.cons (Wk.sl (s7.imp (λz=>z) λq=>by rw[q];rfl)) .nil)) (.cons (Wk.refl _) .nil))
abbrev eu(d:xj):List Fs:=[.str d.nm,.int .i64 d.yN,.int .i64 d.sh,.int .i64 d.w,.int .i64 d.h,Aj d.wC,He d.wE,Gz d.wK,Eh d.wG,DZ d.wF,z0,z0,z0,zs,zs,zs,zs]
def ri:Bg:=AF 153 (s1 dD zy Cd) (AF 154 (s1 dD zy λd=>.int .i64 (Dt d)) (AF 155 dm (AF 156 (s1 DS (λg=>Aq g.wC/\Aq g.cells) Ll) wD)))
def gMk:∀args H n,(dm args H).1->Ao prog 155 args H n (dm args H).2:=by
 intro args H n hh;unfold dm at hh⊢;split at hh
 ·obtain⟨h1,h2⟩:=hh;refine AX.args ((p155 _ _ _ _ h2).quiet H n) ?_;rintro g vs ⟨v,r,rfl,k1,v2,r2,rfl,k2,v3,r3,rfl,k3,v4,r4,rfl,k4,k5⟩;exact⟨v,_,rfl,k1,v2,_,rfl,k2,v3,_,rfl,k3,v4,_,rfl,A3.wk _ h1 _ _ k4,k5⟩
 ·exact hh.elim
def Tz:AH prog ri:=(((AH.wD.add (q1 λg h=>p156 g h.1 h.2)).add gMk).add (q1 p154)).add (q1 p153)
theorem Tbs_m(sh w h:Int)(x:Fs)(H:AB):ri 155 [.int .i64 sh,.int .i64 w,.int .i64 h,x] H=(A3.ok x/\Aq (A3.dec x),Bf sh w h (A3.dec x)):=rfl
theorem Tbs_n(a:List Fs)(H:AB):ri 156 a H=s1 DS (λg=>Aq g.wC/\Aq g.cells) Ll a H:=rfl
section
variable {H:AB} {n p:Nat} {d:xj}
theorem Rz(hd:zy d)(hp:AD H p=some (.box (eu d))):AX prog 105 [.ptr p 0] H n λo H' n'=>n'=n/\match CL d with
  | .error e=>o= .ret (.int .i64 e)/\H'=wB H p (.box (eu KW))
  | .ok x=>o= .ret (.int .i64 0)/\H'=wB H p (.box (eu x)):=by
 refine qw.a (AI Tz (AJ ?_));have e1:dD.ok (.agg (AL d))=True:=BT d;have e2:dD.dec (.agg (AL d))=d:=Ax d;simp only[AL]at e1 e2;cases hr:CL d with
 |error e=>
  have hv:Cd d= .wJ [B6 KW,.int .i64 e]:=by unfold Cd;rw[hr]
  simp only[eE,eN,seval,eY,qw,hp,ri,s1,e1,e2,r9 hd,hv,AF]
 |ok x=>
  have hv:Cd d= .wJ [B6 x,.int .i64 0]:=by unfold Cd;rw[hr]
  simp only[eE,eN,seval,eY,qw,hp,ri,s1,e1,e2,r9 hd,hv,AF]
theorem XW(hd:zy d)(hp:AD H p=some (.box (eu d))):AX prog 106 [.ptr p 0] H n λo H' n'=>o= .ret (.int .i64 (Dt d))/\H'=H/\n'=n:=by
 refine c106.a (AI Tz (AJ ?_));have e1:dD.ok (.agg (AL d))=True:=BT d;have e2:dD.dec (.agg (AL d))=d:=Ax d;simp only[AL]at e1 e2;simp only[eE,eN,seval,c106,hp,ri,s1,e1,e2,r9 hd,AF]
theorem ZX{cells:List Int}(hd:zy d)(hg:Au d.sh d.w d.h d.wC=some cells)(hp:AD H p=some (.box (eu d))):AX prog 107 [.ptr p 0] H n λo H' n'=>o= .ret (.int .i64 0)/\H'=wB H p (.box (XI d cells zs))/\n'=n:=by
 refine c107.a (AI Tz (AJ ?_));have hm:Bf d.sh d.w d.h d.wC= .wJ [Ej d.sh d.w d.h d.wC cells,.int .i64 0]:=by unfold Bf;rw[hg]
 have G:yO (BD d cells):=⟨hg,hd.ho⟩;have g1:DS.ok (.agg [.int .i64 d.sh,.int .i64 d.w,.int .i64 d.h,Aj d.wC,Aj cells])=True:=EA (BD d cells);have g2:DS.dec (.agg [.int .i64 d.sh,.int .i64 d.w,.int .i64 d.h,Aj d.wC,Aj cells])=BD d cells:=DC (BD d cells);have hho:Aq (BD d cells).wC=True:=r9 hd.ho;have hce:Aq (BD d cells).cells=True:=r9 (by
  obtain⟨-,h2,-⟩:=Ba hg;show cells.length<_;omega)
 have xn:Ll (BD d cells)= .wJ [Br (Ek d.sh (AZ d.sh d.w cells)),.int .i64 0]:=ZK G;simp only[eZ,seval,eY,c107,hp,Tbs_m,Tbs_n,s1,g1,g2,Ah,Ad,r9 hd.ho,hho,hce,hm,xn,AW]
end
def Tbc:Bg:=AF 157 (s2 DS dI (λg f=>yO g/\0<=f/\f<=7) λg f=>.wJ [Br (E9 g.sh g.w g.h (AZ g.sh g.w g.cells) f.toNat),.int .i64 0])
 (AF 158 (s2 DS OF (λg l=>Au g.sh g.w g.h g.wC=some g.cells/\Aq g.wC/\B7 l) λg l=>EB g.cells l) wD)
def mS:AH prog Tbc:=(AH.wD.add (q2 λg l h=>p158 g l h.1 h.2.1 h.2.2)).add (q2 λg f h=>by
 have:=p157 g f.toNat h.1 zo;rw[Int.toNat_of_nonneg h.2.1]at this;exact this)
structure IBk(x:xj)(cells:List Int)(p n0:Nat)(H0:AB)(m:Nat)(L:Nat->List (List (List Int)))(v:VRg):Prop where
 hi:v.i<=m
 hn:n0<=v.n
 fr:AO v.H v.n
 kp:∀id ob,id≠p->id<n0->AD H0 id=some ob->AD v.H id=some ob
 hp:AD v.H p=some (.box (XI x cells (.sl v.tl v.E)))
 tok:C8 1 n0 v.H v.tl
 es:v.tl.esz=1\/v.E=[]
 hE:zn v.E ((L v.i).map Br)
def R5{x:xj}{cells:List Int}{H:AB}{n p:Nat}(hfx:zy x)(hc:Dt x=0)(hg:Au x.sh x.w x.h x.wC=some cells)(hf:AO H n)(hp:AD H p=some (.box (XI x cells zs))):
  AX prog 108 [.ptr p 0] H n λo H' n'=>o= .ret (.int .i64 0)/\AO H' n'/\n<=n'/\(∀id ob,id≠p->id<n->AD H id=some ob->AD H' id=some ob)/\
   ∃tl E,AD H' p=some (.box (XI x cells (.sl tl E)))/\(tl.esz=1\/E=[])/\zn E ((((List.range 8).map λf=>E9 x.sh x.w x.h (AZ x.sh x.w cells) f)++x.wK.map λr=>r.ls.map (Bo cells)).map Br):=by
 have hpn:=hf.lt hp;refine c108.a (AI mS (AJ ?_));have G:yO (BD x cells):=⟨hg,hfx.ho⟩;have g1:DS.ok (.agg [.int .i64 x.sh,.int .i64 x.w,.int .i64 x.h,Aj x.wC,Aj cells])=True:=EA (BD x cells);have g2:DS.dec (.agg [.int .i64 x.sh,.int .i64 x.w,.int .i64 x.h,Aj x.wC,Aj cells])=BD x cells:=DC (BD x cells);have hho:Aq (BD x cells).wC=True:=r9 hfx.ho;simp only[eE,eN,seval,c108];refine AQ (λv:VRg=>⟨[(0,true,.ptr p 0),(10,true,.int .i64 v.i)],v.H,v.n⟩) (IBk x cells p n H 8 λi=>(List.range i).map λf=>E9 x.sh x.w x.h (AZ x.sh x.w cells) f) (λv=>8-v.i)
  ⟨0,[],.nil,H,n⟩ rfl ⟨sk _,sj _,hf,λid ob _ _ h=>h,hp,.inl rfl,.inr rfl,.nil⟩ ?_
 rintro⟨i,E,tl,H1,m⟩ hI;obtain⟨hi,hn,l9,hkp,hp1,xN,s7,hE⟩:=hI;simp only at hi hn l9 hkp hp1 xN s7 hE;by_cases e9:i<8
 ·have e:=AK (k:=i) zo;have hq:((i:Int)<8)=True:=r9 zo;have hq7:((i:Int)<=7)=True:=r9 zo;have hEl:E.length=i:=by
   have:=hE.len;rw[ry,ry,uE]at this;exact this
  have hfm:(BD x cells).sh=x.sh/\(BD x cells).w=x.w/\(BD x cells).h=x.h/\(BD x cells).cells=cells:=⟨rfl,rfl,rfl,rfl⟩;have q1:BB H1 1 tl=True:=r9 xN.app;have q2:(E.length<=35184372088831)=True:=r9 zo;have q3:Al (E.length+1) 24=True:=r9 (Ae zo zd);have hkP:=Ac xN (i:=p) (.inr ⟨_,hp1⟩);rw[hp1]at hkP;have y1:∀k,(p=m+k)=False:=λk=>sb zo
  have y2:∀k,(m+k=p)=False:=λk=>sb zo
  simp only[eZ,seval,sa,eY,hp1,hq,hq7,Tbc,s2,g1,g2,Ay,An,r9 G,hfm.1,hfm.2.1,hfm.2.2.1,hfm.2.2.2,e,q1,q2,q3,Bq l9,hkP,y2,AF];refine .mk ⟨i+1,E++[Br (E9 x.sh x.w x.h (AZ x.sh x.w cells) i)],.own (m+8) 1,wB (wB (AU H1 tl) (m+8) .tok) p (.box (XI x cells (.sl (.own (m+8) 1) (E++[Br (E9 x.sh x.w x.h (AZ x.sh x.w cells) i)])))),m+13⟩ rfl ⟨e9,zp,((Ab xN l9).wB (m:=m+13) zo zo).wB (sj _) (show p<m+13 by omega),λid ob h1 h2 h3=>?_,AC ..,.inr (.inr ⟨m+8,rfl,zo,?_⟩),.inl rfl,?_⟩ zp
  ·grind [AA,Ac]
  ·simp only[];rw[AA _ _ _ _ zo,AC]
  ·simp only[uc,su,sS,t6]at hE⊢;exact hE.app (.cons (Wk.refl _) .nil)
 obtain rfl:i=8:=zo
 have hq:(((8:Nat):Int)<8)=False:=sb zd;simp only[eZ,seval,ry,hq,hp1];refine AQ (λv:VRg=>⟨[(0,true,.ptr p 0),(44,true,Gz x.wK),(45,true,.int .i64 x.wK.length),(46,true,.int .i64 v.i)],v.H,v.n⟩) (IBk x cells p n H x.wK.length λi=>((List.range 8).map λf=>E9 x.sh x.w x.h (AZ x.sh x.w cells) f)++(x.wK.take i).map λr=>r.ls.map (Bo cells)) (λv=>x.wK.length-v.i)
  ⟨0,E,tl,H1,m⟩ rfl ⟨sk _,hn,l9,hkp,hp1,xN,s7,by
   simp only[uo,t6,sR];exact hE⟩ ?_
 clear hE s7 xN hp1 hkp l9 hn hq e9 hi;rintro⟨i,E,tl,H1,m⟩ hI;obtain⟨hi,hn,l9,hkp,hp1,xN,s7,hE⟩:=hI;simp only at hi hn l9 hkp hp1 xN s7 hE;have hrl:x.wK.length<=4:=by simp_all [Dt,KV,sf,si]<;>omega
 by_cases e9:i<x.wK.length
 ·have e:=AK (k:=i) zo;have hgr:=rz e9;have xJ:x.wK[i]∈x.wK:=sC e9;have hrg:=Vi hc hg xJ;have hfl:B7 x.wK[i].ls=True:=r9 (hfx.rgs _ xJ);have l7:x.wK.take (i+1)=x.wK.take i++[x.wK[i]]:=by rw[sG,hgr];rfl
  generalize x.wK[i]=r at hgr hrg hfl l7;have hgc:(Au (BD x cells).sh (BD x cells).w (BD x cells).h (BD x cells).wC=some (BD x cells).cells)=True:=r9 hg;have hgd:(Au (BD x cells).sh (BD x cells).w (BD x cells).h (BD x cells).wC=some cells)=True:=r9 hg;have hgx:(BD x cells).cells=cells:=rfl;have hEl:E.length=8+i:=by
   have:=hE.len;rw[ry,sH,ry,ry,uE,sU]at this;omega
  have q1:BB (wB H1 (m+2) (.box [.str r.nm,Br r.ls])) 1 tl=True:=r9 ((xN.set (.inr (.inr (l9 _ zo)))).app);have gt:C8 1 n (wB H1 (m+2) (.box [.str r.nm,Br r.ls])) tl:=xN.set (.inr (.inr (l9 _ zo)));have gf:AO (wB H1 (m+2) (.box [.str r.nm,Br r.ls])) (m+4):=l9.wB (m:=m+4) zo zo;have gp:AD (wB H1 (m+2) (.box [.str r.nm,Br r.ls])) p=some (.box (XI x cells (.sl tl E))):=by rw[AA _ _ _ _ zo];exact hp1
  have q2:(E.length<=35184372088831)=True:=r9 zo;have q3:Al (E.length+1) 24=True:=r9 (Ae zo zd);have hkP:=Ac gt (i:=p) (.inr ⟨_,gp⟩);rw[gp]at hkP;have y1:∀k,(p=m+k)=False:=λk=>sb zo
  have y2:∀k,(m+k=p)=False:=λk=>sb zo
  simp only[eZ,seval,sa,eY,hp1,AN e9,hgr,Bq l9,AW,Tbc,s2,g1,g2,Db,Cv,hho,hgd,hgx,hfl,hrg,e,q1,q2,q3,hkP,y2,AF];refine .mk ⟨i+1,E++[Br (r.ls.map (Bo cells))],.own (m+12) 1,wB (wB (AU (wB H1 (m+2) (.box [.str r.nm,Br r.ls])) tl) (m+12) .tok) p (.box (XI x cells (.sl (.own (m+12) 1) (E++[Br (r.ls.map (Bo cells))])))),m+17⟩ rfl ⟨e9,zp,((Ab gt gf).wB (m:=m+17) zo zo).wB (sj _) (show p<m+17 by omega),λid ob h1 h2 h3=>?_,AC ..,.inr (.inr ⟨m+12,rfl,zo,?_⟩),.inl rfl,?_⟩ zp
  ·grind [AA,Ac]
  ·simp only[];rw[AA _ _ _ _ zo,AC]
  ·simp only[l7,su,sS,t6]at hE⊢;rw[<-te];exact hE.app (.cons (Wk.refl _) .nil)
 obtain rfl:i=x.wK.length:=zo
 rw[sD]at hE;simp only[eZ,seval,Ag e9];exact⟨l9,hn,hkp,tl,E,hp1,s7,hE⟩
def stB(d:xj)(H:AB):Nat->Prop
 |0=>AD H 3=some (.box (eu d))
 |1=>∃x,CL d= .ok x/\AD H 3=some (.box (eu x))
 |2=>∃x,CL d= .ok x/\Dt x=0/\AD H 3=some (.box (eu x))
 |3=>∃x cells,CL d= .ok x/\Dt x=0/\Au x.sh x.w x.h x.wC=some cells/\AD H 3=some (.box (XI x cells zs))
 |_=>∃x cells tl E,CL d= .ok x/\Dt x=0/\Au x.sh x.w x.h x.wC=some cells/\AD H 3=some (.box (XI x cells (.sl tl E)))/\(tl.esz=1\/E=[])/\zn E ((((List.range 8).map λf=>E9 x.sh x.w x.h (AZ x.sh x.w cells) f)++x.wK.map λr=>r.ls.map (Bo cells)).map Br)
structure IBu(d:xj)(v:VF):Prop where
 hi:v.i<=4
 hn:4<=v.n
 fr:AO v.H v.n
 h1:AD v.H 1=some (.box zKn)
 st:stB d v.H v.i
abbrev fB(f:FuncId):Fs:=.fn (.func f) [.ptr 3 0] []
def p73(d:xj)(hd:zy d):Av prog 73 [B6 d] (Cx d):=by
 refine .mk ⟨At 0 d,zt⟩ (by unfold Cx;split<;>exact⟨Am 0 _,zt,zt⟩) (c73.a (AI AH.wD (AJ ?_)));simp only[eE,eN,seval,c73,AL];refine AQ (λv:VF=>⟨[(2,true,.ptr 1 0),(4,true,.ptr 3 0),(15,true,.sl (.exact 1) [fB 105,fB 106,fB 107,fB 108]),(16,true,.int .i64 4),(17,true,.int .i64 v.i)],v.H,v.n⟩) (IBu d) (λv=>4-v.i)
  ⟨0,_,4⟩ rfl ⟨zp,sj _,?_,rfl,?_⟩ ?_
 ·simp only[];repeat' (first|exact AO.nil|refine AO.wB ?_ (sj _) zd)
 ·rfl
 rintro⟨i,H,n⟩ ⟨hi,hn,l9,h1,wX⟩;simp only at hi hn l9 h1 wX;have w1':IntKind.wrap .i64 (1+1)=2:=A4 zd zd;have w2':IntKind.wrap .i64 (2+1)=3:=A4 zd zd;have w3':IntKind.wrap .i64 (3+1)=4:=A4 zd zd;rcases(by omega:i=0\/i=1\/i=2\/i=3\/i=4)with rfl|rfl|rfl|rfl|rfl
 ·simp only[eZ,seval,eY,jf];refine(Rz hd wX).mono ?_;rintro o H1 n1 ⟨rfl,hm⟩;cases hr:CL d with
  |error e=>
   rw[hr]at hm;obtain⟨rfl,rfl⟩:=hm;have he:(e=0)=False:=sb (GX hr);have hb:Cx d= .wJ [BA XH,.int .i64 e]:=by unfold Cx EU;rw[hr]
   rw[hb];simp only[eZ,seval,se,BO,BL,he,h1];exact QZ e
  |ok x=>
   rw[hr]at hm;obtain⟨rfl,rfl⟩:=hm;simp only[eZ,seval,sa,BL,w01];exact .mk ⟨1,wB H 3 (.box (eu x)),n1⟩ rfl ⟨zp,hn,l9.wB (sj _) (show 3<n1 by omega),by simp only[];rw[AA _ _ _ _ zd];exact h1,x,hr,AC ..⟩ zp
 ·obtain⟨x,hr,h3⟩:=wX;have hfx:=Iw hd hr;simp only[eZ,seval,eY,jf];refine(XW hfx h3).mono ?_;rintro o H1 n1 ⟨rfl,rfl,rfl⟩;by_cases hc:Dt x=0
  ·simp only[eZ,seval,sa,BL,BU hc,w1'];exact .mk ⟨2,H1,n1⟩ rfl ⟨zp,hn,l9,h1,x,hr,hc,h3⟩ zp
  ·have hb:Cx d= .wJ [BA XH,.int .i64 (Dt x)]:=by unfold Cx EU;rw[hr];simp only[];rw[sn hc]
   rw[hb];simp only[eZ,seval,se,BO,BL,A5 hc,h1];exact QZ _
 ·obtain⟨x,hr,hc,h3⟩:=wX;have hfx:=Iw hd hr;obtain⟨cells,hg⟩:=Rs hc;simp only[eZ,seval,eY,ZP,jf];refine(ZX hfx hg h3).mono ?_;rintro o H1 n1 ⟨rfl,rfl,rfl⟩;simp only[eZ,seval,sa,BL,w2'];exact .mk ⟨3,wB H 3 (.box (XI x cells zs)),n1⟩ rfl ⟨zp,hn,l9.wB (sj _) (show 3<n1 by omega),by simp only[];rw[AA _ _ _ _ zd];exact h1,x,cells,hr,hc,hg,AC ..⟩ zp
 ·obtain⟨x,cells,hr,hc,hg,h3⟩:=wX;have hfx:=Iw hd hr;simp only[eZ,seval,eY,c3n,jf];refine(R5 hfx hc hg l9 h3).mono ?_;rintro o H1 n1 ⟨rfl,wW,to,hk,tl,E,hp,s7,hE⟩;simp only[eZ,seval,sa,BL,w3'];exact .mk ⟨4,H1,n1⟩ rfl ⟨sj _,zp,wW,hk 1 _ zd zo h1,x,cells,tl,E,hr,hc,hg,hp,s7,hE⟩ zp
 ·obtain⟨x,cells,tl,E,hr,hc,hg,hp,s7,hE⟩:=wX;have hb:Cx d= .wJ [BA (Y0 x cells),.int .i64 0]:=by
   unfold Cx EU;rw[hr];simp only[];rw[sg (λz=>z hc),hg]
  rw[hb];simp only[eZ,seval,BO,jf,hp,h1];exact Wk.wJ (.cons (ZL (d:=x) (g:=BD x cells) (Wk.refl _) (Wk.refl _) (Wk.refl _) (Wk.refl _) (Wk.refl _) (Wk.refl _) (Wk.refl _) (Wk.refl _) (Wk.yY s7 hE)) (.cons (Wk.refl _) .nil))
def Vp{sh w h:Int}{S:List BF}(hS:S.length<=256)(f:Nat):B7 (E9 sh w h S f):=by
 have hidx:∀p:Nat->Bool,(CU S.length p).length<=256:=λp=>sX (Cw ..) hS
 have ww:∀f,B7 (CO S f):=λf=>by
  refine⟨?_,λx hx=>?_⟩
  ·have:(CO S f).length<=49:=sX (tN ..) (by simp [Ka]);show _<_;omega
  ·grind [CO,CN]
 have xn:∀s,(Hl sh S s).length<=256:=λs=>hidx _
 have hmap:∀(l:List (List Int)),l.length<=256->(∀x∈l,x.length<=256)->B7 l:=λl h1 h2=>⟨show _<_ by omega,λx hx=>by
  have:=h2 x hx;show _<_;omega⟩
 unfold E9;split
 ·grind
 split
 ·exact ww _
 split
 ·exact ww _
 split
 ·split
  ·exact ww _
  ·split
   ·refine hmap _ ?_ λx hx=>?_
    ·unfold ML;simp only[sH];split<;>split<;>simp
    ·unfold ML at hx;rcases tP.1 hx with hx|hx
     ·split at hx
      ·cases hx
      ·rw[tB.1 hx];exact hidx _
     ·split at hx
      ·cases hx
      ·rw[tB.1 hx];exact hidx _
   ·exact hmap _ zw zw
 split
 ·grind [Ek,List.length_map]
 split
 ·grind
 split
 ·refine⟨?_,λx hx=>?_⟩
  ·have key:∀n,n<=S.length->((List.range n).flatMap λ(c:Nat)=>(((Ek sh S)[c]?.getD []).filter λb=>decide ((c:Int)<b)).map λb=>[(c:Int),b]).length<=256*n:=λn=>by
    induction n with
    |zero=>intro _;simp
    |succ n ih=>
     intro hn;rw[uc,vm,sH];simp only[uU,List.flatMap_nil,sR,ry];have h1:=ih zo;have h2:(((Ek sh S)[n]?.getD []).filter λb=>decide ((n:Int)<b)).length<=256:=by
      refine sX (tN ..) ?_;rw[Ek,sF];cases S[n]? with
      |none=>simp
      |some s=>exact xn s
     omega
   have:=key S.length (sj _);show _<_;omega
  ·grind
 ·grind
def XX{d:xj}(hd:zy d){k:zx}(h:EU d= .ok k):FewKn k:=by
 obtain⟨x,cells,hr,hc,hg,rfl⟩:=Mz h;have hfx:=Iw hd hr;obtain⟨-,h2,-⟩:=Ba hg;have hS:(AZ x.sh x.w cells).length<=256:=by unfold AZ;rw[ry];exact h2
 have hrl:x.wK.length<1000000000:=hfx.rg;have hrl4:x.wK.length<=4:=by simp_all [Dt,KV,sf,si]<;>omega
 refine⟨hfx,Dr hfx.ho,show cells.length<_ by omega,Vp (w:=x.w) (h:=x.h) hS 4,?_,λl hl=>?_⟩
 ·show(((List.range 8).map _)++x.wK.map _).length<_;rw[sH,ry,ry,uE];omega
 ·rcases tP.1 hl with hl|hl
  ·obtain⟨f,-,rfl⟩:=tn.1 hl;exact Vp hS f
  ·obtain⟨r,hr,rfl⟩:=tn.1 hl;have:=hfx.rgs r hr;refine⟨by show(r.ls.map _).length<_;rw[ry];exact this.1,λy hy=>?_⟩;obtain⟨z,hz,rfl⟩:=tn.1 hy;have:=this.2 z hz;show(z.map _).length<_;rw[ry];exact this
def Tkc:Bg:=AF 73 (s1 dD zy Cx) (AF 74 (s2 CQ CQ (λ_ b=>FewKn b) λa b=>.bool (decide (a=b))) wD)
def mT:AH prog Tkc:=(AH.wD.add (q2 λa b h=>p74 a b h)).add (q1 λd h=>p73 d h)
def p43(k:zx)(h1:zy k.d):Av prog 43 [BA k] (.int .i64 (BE k)):=by
 refine .mk ⟨Am 0 k,zt⟩ zt (c43.a (AI mT (AJ ?_)));have e1:dD.ok (.agg (AL k.d))=True:=BT k.d;have e2:dD.dec (.agg (AL k.d))=k.d:=Ax k.d;have u1:CQ.ok (.agg (AG k))=True:=Ce k;have u2:CQ.dec (.agg (AG k))=k:=Bx k;simp only[AL]at e1 e2;simp only[AG,AE,AL,sJ,sI]at u1 u2;unfold BE JL;cases hb:EU k.d with
 |error e=>
  have hv:Cx k.d= .wJ [BA XH,.int .i64 e]:=by unfold Cx;rw[hb]
  have he:(e=0)=False:=sb (PB hb);simp only[eZ,seval,sa,se,eY,c43,AG,AE,AL,Tkc,s1,s2,e1,e2,u1,u2,r9 h1,hv,he,AF]
 |ok x=>
 have hv:Cx k.d= .wJ [BA x,.int .i64 0]:=by unfold Cx;rw[hb]
 have v1:CQ.ok (.agg (AG x))=True:=Ce x;have v2:CQ.dec (.agg (AG x))=x:=Bx x;have h2:=XX h1 hb;simp only[AG,AE,AL,sJ,sI]at v1 v2;simp only[];by_cases hx:k=x
 ·simp only[eZ,seval,sa,eY,c43,AG,AE,AL,Tkc,s1,s2,e1,e2,u1,u2,v1,v2,r9 h1,r9 h2,hv,BU hx,AF]
 ·simp only[eZ,seval,sa,se,eY,c43,AG,AE,AL,Tkc,s1,s2,e1,e2,u1,u2,v1,v2,r9 h1,r9 h2,hv,A5 hx,AF]
section
def HN(A:List Fs)(c:AB->Prop)(r:Fs):List Fs->AB->Prop×Fs:=λa H=>(a=A/\c H,r)
variable {y9:FuncId} {cap:List Fs}
theorem NA{A:List Fs}{c:AB->Prop}{r:Fs}(h:∀H n,c H->Ao prog y9 A H n r):∀args H n,(HN A c r args H).1->Ao prog y9 args H n (HN A c r args H).2:=by
 rintro args H n ⟨rfl,hc⟩;exact h H n hc
def IH(cap:List Fs)(ok:Int->Prop)(f:Int->Fs):List Fs->AB->Prop×Fs:=λa _=>match a with
 | .int .i64 x::c=>(c=cap/\ok x,f x)
 |_=>(False,.wJ [])
theorem ZY{ok:Int->Prop}{f:Int->Fs}(h:∀x,ok x->Av prog y9 (eI x::cap) (f x)):∀args H n,(IH cap ok f args H).1->Ao prog y9 args H n (IH cap ok f args H).2:=by
 intro args H n hh;unfold IH at hh⊢;split at hh
 ·obtain⟨rfl,h1⟩:=hh;exact(h _ h1).quiet H n
 ·exact hh.elim
def Qe(cap:List Fs)(ok:Int->Int->Prop)(f:Int->Int->Fs):List Fs->AB->Prop×Fs:=λa _=>match a with
 | .int .i64 x:: .int .i64 y::c=>(c=cap/\ok x y,f x y)
 |_=>(False,.wJ [])
theorem rowBq{ok:Int->Int->Prop}{f:Int->Int->Fs}(h:∀x y,ok x y->Av prog y9 (eI x::eI y::cap) (f x y)):∀args H n,(Qe cap ok f args H).1->Ao prog y9 args H n (Qe cap ok f args H).2:=by
 intro args H n hh;unfold Qe at hh⊢;split at hh
 ·obtain⟨rfl,h1⟩:=hh;exact(h _ _ h1).quiet H n
 ·exact hh.elim
theorem ZZ(l:List Int)(s:Int):decide (0<=Hp l s)=l.contains s:=by
 unfold Hp;cases h:l.findIdx? (λx=>decide (x=s))with
 |none=>grind
 |some k=>
  obtain⟨hl,h1,-⟩:=t7.1 h;have:l.contains s=true:=by grind
  rw[this];simp
def Tct:Bg:=AF 49 (s2 A3 dI (λl _=>Aq l) λl x=>eI (Hp l x)) wD
theorem mU:AH prog Tct:=AH.wD.add (q2 rO)
theorem p60(l:List Int)(x:Int)(hl:Aq l):Av prog 60 [Aj l,eI x] (.bool (l.contains x)):=by
 refine .mk ⟨AV 0 l,zt,zt⟩ zt (c60.a (AI mU (AJ ?_)));simp only[eE,eN,seval,c60,Tct,s2,Ah,Ad,Ay,An,r9 hl,ZZ,AF]
def AP(k:zx):List Int:=k.d.wE.map (·.v)
theorem Ju{k:zx}{s:Int}{y:xk}(h:k.d.wE[s.toNat]?=some y):BG (AP k) s=y.v:=by
 unfold BG AP;rw[sF,h];rfl
abbrev De(k:zx)(s:Int):Prop:=0<=s/\s<(k.d.wE.length:Int)
theorem p144(k:zx)(s:Int)(h:De k s):Av prog 144 [eI s,.ep (AG k)] (eI (BG (AP k) s)):=by
 refine .mk ⟨zt,Am 0 k,zt⟩ zt (qY.a (AI AH.wD (AJ ?_)));have e9:s.toNat<k.d.wE.length:=zo
 have hg:=rz e9;rw[Ju hg];generalize k.d.wE[s.toNat]=y at hg;simp only[eE,eN,seval,eY,qY,AG,AE,AL,r9 h.1,r9 h.2,hg]
abbrev Bv(k:zx)(cells wA:List Int)(n:Int):List Fs:=[.fn (.func 144) [] [.ep (AG k)],Aj cells,Aj wA,.int .i64 n]
theorem CS(k:zx)(cells wA:List Int)(n:Int):wN 0 (Bv k cells wA n):=⟨⟨zt,Am 0 k,zt⟩,AV 0 _,AV 0 _,zt,zt⟩
theorem Qf{f0:FuncId}{ok:Int->Prop}{bad:Int->Int->Bool}(k:zx)(cells wA:List Int)(n:Int)(hc:Aq cells)(xO:wN 0 cap)
  (hq:∀a b,ok a/\ok b->Av prog f0 (eI a::eI b::cap) (.bool (bad a b))) (s9:∀a∈cells,0<=a->ok a):
  Av prog 186 [.agg (Bv k cells wA n),.fn (.func f0) [] cap] (.bool (BX bad cells)):=by
 have hT:AH prog (AF f0 (Qe cap (λa b=>ok a/\ok b) λa b=>.bool (bad a b)) wD):=AH.wD.add (rowBq hq);have yR:∀a H,AF f0 (Qe cap (λa b=>ok a/\ok b) λa b=>.bool (bad a b)) wD f0 a H=Qe cap (λa b=>ok a/\ok b) (λa b=>.bool (bad a b)) a H:=λa H=>by unfold AF;rw[sn rfl]
 generalize AF f0 (Qe cap (λa b=>ok a/\ok b) λa b=>.bool (bad a b)) wD=T at hT yR;refine .mk ⟨CS k cells wA n,⟨zt,xO⟩,zt⟩ zt (qP.a (AI hT (AJ ?_)));have wi:cells.length<1000000000:=hc;simp only[eE,eN,seval,ry,qP];refine AQ (λi:Nat=>⟨[(1,true,.fn (.func f0) [] cap),(2,true,.ptr 0 0),(10,true,Aj cells),(11,true,.int .i64 cells.length),(12,true,.int .i64 i)],wB Ak 0 (.box (Bv k cells wA n)),2⟩)
  (λi=>i<=cells.length/\BX bad cells=BX bad (cells.drop i)) (λi=>cells.length-i) 0 rfl ⟨sk _,rfl⟩ ?_
 rintro i ⟨hi,he⟩;by_cases e9:i<cells.length;case neg=>
  obtain rfl:i=cells.length:=zo
  rw[t5]at he;rw[he];simp only[eZ,seval,Ag e9];rfl
 have hg:=rz e9;have e:=AK (k:=i) zo;have hoa:=s9 _ (sC e9);rw[sO e9,BX]at he;generalize cells[i]=a at hg he hoa;have hsub:∀b∈cells.drop (i+1),0<=b->ok b:=λb hb=>s9 b (vM hb)
 have hdr:List.drop (i+1) (cells.map eI)=(cells.drop (i+1)).map eI:=List.map_drop.symm;have xN:List.take cells.length (cells.map eI)=cells.map eI:=tL zw;have zl:(((i+1:Nat):Int)<=(cells.length:Int))=True:=r9 zo;have hRl:(cells.drop (i+1)).length=cells.length-(i+1):=ue;simp only[eZ,seval,eY,AN e9,hg,e,zl,xN,hdr];generalize hR:cells.drop (i+1)=R at he hsub hRl;obtain⟨p,hp⟩:∃p:Int->Bool,(λb=>decide (0<=a)&&decide (0<=b)&&bad a b)=p:=⟨_,rfl⟩;rw[hp]at he;have hpb:∀b,p b=(decide (0<=a)&&decide (0<=b)&&bad a b):=λb=>by rw[<-hp]
 refine AQ (λj:Nat=>⟨[(1,true,.fn (.func f0) [] cap),(2,true,.ptr 0 0),(6,true,.int .i64 a),(10,true,Aj cells),(11,true,.int .i64 cells.length),(12,true,.int .i64 i),(21,true,Aj R),(22,true,.int .i64 R.length),(23,true,.int .i64 j)],wB Ak 0 (.box (Bv k cells wA n)),2⟩)
  (λj=>j<=R.length/\R.any p=(R.drop j).any p) (λj=>R.length-j) 0 rfl ⟨sk _,rfl⟩ ?_
 rintro j ⟨hj,hej⟩;by_cases s6:j<R.length;case neg=>
  obtain rfl:j=R.length:=zo
  rw[t5,List.any_nil]at hej;rw[hej,ub]at he;simp only[eZ,seval,Ag s6,e];exact .mk (i+1) rfl ⟨e9,by rw[hR];exact he⟩ zo
 have yT:=rz s6;have ej:=AK (k:=j) zo;have hob:=hsub _ (sC s6);rw[sO s6,vS]at hej;generalize R[j]=b at yT hej hob;rw[hpb b]at hej;by_cases ha:0<=a;case neg=>
  rw[A5 ha,uk,uk,ub]at hej;simp only[eZ,seval,eY,AN s6,yT,sb ha,ej];exact .mk (j+1) rfl ⟨s6,hej⟩ zo
 by_cases hb:0<=b;case neg=>
  rw[A5 hb,vh,uk,ub]at hej;simp only[eZ,seval,eY,AN s6,yT,r9 ha,sb hb,ej];exact .mk (j+1) rfl ⟨s6,hej⟩ zo
 have hoo:(ok a/\ok b)=True:=r9 ⟨hoa ha,hob hb⟩;rw[BU ha,BU hb,Bool.and_self,tS]at hej;cases hbd:bad a b with
 |true=>
  rw[hbd,vK]at hej;have hR2:BX bad cells=true:=by rw[he,hej];rfl
  rw[hR2];simp only[eZ,seval,eY,AN s6,yT,r9 ha,r9 hb,yR,Qe,r9 (hoa ha),r9 (hob hb),hbd]
 |false=>
  rw[hbd,ub]at hej;simp only[eZ,seval,eY,AN s6,yT,r9 ha,r9 hb,ej,yR,Qe,r9 (hoa ha),r9 (hob hb),hbd];exact .mk (j+1) rfl ⟨s6,hej⟩ zo
end
def Vq(ls l:List Int)(s:Int):Fa ls (l++[s])=Fa ls l+if(decide (0<=s)&&ls.contains s)=true then 1 else 0:=by grind [Fa,List.length_append]
def Vr(ls l:List Int)(s:Int):IB ls (l++[s])=IB ls l+if(decide (0<=s)&& !ls.contains s)=true then 1 else 0:=by grind [IB,List.length_append]
def ez(l:List Int)(s:Int):I9 (l++[s])=I9 l+if s<0 then 1 else 0:=by grind [I9,List.length_append]
def T0(ls l:List Int):Fa ls l<=l.length:=tN ..
def Za(ls l:List Int):IB ls l<=l.length:=tN ..
def mV(l:List Int):I9 l<=l.length:=tN ..
def Tco:Bg:=AF 60 (s2 A3 dI (λl _=>Aq l) λl x=>.bool (l.contains x)) wD
def mW:AH prog Tco:=AH.wD.add (q2 p60)
abbrev T5(ls l:List Int):Fs:=.wJ [.int .i64 (Fa ls l:Int),.int .i64 (IB ls l:Int),.int .i64 (I9 l:Int)]
def p188(k:zx)(cells wA:List Int)(n:Int)(hc:Aq cells)(hl:Aq wA):Av prog 188 [.agg (Bv k cells wA n)] (T5 wA cells):=by
 refine .mk ⟨CS k cells wA n,zt⟩ ⟨zt,zt,zt,zt⟩ (qQ.a (AI mW (AJ ?_)));have wi:cells.length<1000000000:=hc;simp only[eE,eN,seval,ry,qQ];refine AQ (λi:Nat=>⟨[(1,true,.ptr 0 0),(2,true,.int .i64 (Fa wA (cells.take i):Int)),(3,true,.int .i64 (IB wA (cells.take i):Int)),(4,true,.int .i64 (I9 (cells.take i):Int)),(8,true,Aj cells),(9,true,.int .i64 cells.length),(10,true,.int .i64 i)],wB Ak 0 (.box (Bv k cells wA n)),4⟩)
  (λi=>i<=cells.length) (λi=>cells.length-i) 0 rfl (sk _) ?_
 intro i hi;by_cases e9:i<cells.length;case neg=>
  obtain rfl:i=cells.length:=zo
  simp only[eZ,seval,Ag e9,sD];exact Wk.refl _
 have hg:=rz e9;have e:=AK (k:=i) zo;have l7:cells.take (i+1)=cells.take i++[cells[i]]:=by rw[sG,hg];rfl
 have b1:=T0 wA (cells.take i);have b2:=Za wA (cells.take i);have b3:=mV (cells.take i);rw[sU]at b1 b2 b3;generalize cells[i]=s at hg l7;have o1:=Vq wA (cells.take i) s;have o2:=Vr wA (cells.take i) s;have o3:=ez (cells.take i) s;rw[<-l7]at o1 o2 o3;by_cases hs:s<0
 ·have hd:decide (0<=s)=false:=sA zo;rw[hd]at o1 o2;simp only[uk,sN,sY,um]at o1 o2;rw[sn hs]at o3;simp only[eZ,seval,eY,AN e9,hg,e,r9 hs,AK (k:=I9 (cells.take i)) zo];exact .mk (i+1) (by rw[o1,o2,o3]) e9 zo
 have hd:decide (0<=s)=true:=sK zo;rw[hd]at o1 o2;rw[sg hs]at o3;simp only[tS,um]at o1 o2 o3;cases hcn:wA.contains s with
 |true=>
  rw[hcn]at o1 o2;simp only[tD,sa,sN,sY,um]at o1 o2;simp only[eZ,seval,eY,AN e9,hg,e,sb hs,Tco,s2,Ah,Ad,Ay,An,r9 hl,hcn,AK (k:=Fa wA (cells.take i)) zo,AF];exact .mk (i+1) (by rw[o1,o2,o3]) e9 zo
 |false=>
  rw[hcn]at o1 o2;simp only[tD,se,sN,sY,um]at o1 o2;simp only[eZ,seval,eY,AN e9,hg,e,sb hs,Tco,s2,Ah,Ad,Ay,An,r9 hl,hcn,AK (k:=IB wA (cells.take i)) zo,AF];exact .mk (i+1) (by rw[o1,o2,o3]) e9 zo
structure VwOK(k:zx)(cells wA:List Int)(n:Int):Prop where
 c:Aq cells
 l:Aq wA
 sy:∀s∈cells,0<=s->De k s
 vl:∀y∈k.d.wE,0<=y.v/\y.v<=99
 n:0<=n/\n<=99
def Vs{k:zx}(hv:∀y∈k.d.wE,0<=y.v/\y.v<=99){s:Int}(h:De k s):0<=BG (AP k) s/\BG (AP k) s<=99:=by
 have e9:s.toNat<k.d.wE.length:=zo
 rw[Ju (rz e9)];exact hv _ (sC e9)
def p187(a b:Int):Av prog 187 [eI a,eI b] (.bool (decide (a=b))):=by
 refine .mk ⟨zt,zt,zt⟩ zt (qS.a (AI AH.wD (AJ ?_)));simp only[eE,eN,seval,qS]
section
variable (k:zx) (cells wA:List Int) (n:Int)
theorem p138(h:VwOK k cells wA n):Av prog 138 [.agg (Bv k cells wA n)] (.bool (CD (AP k) 1 n wA cells)):=by
 have hp:=Qf (f0:=187) (cap:=[]) (ok:=λ_=>True) (bad:=λa b=>decide (a=b)) k cells wA n h.c zt (λa b _=>p187 a b) (λ_ _ _=>zt);have hT:AH prog (AF 186 (HN [.agg (Bv k cells wA n),.fn (.func 187) [] []] (λ_=>True) (.bool (BX (λa b=>decide (a=b)) cells))) wD):=AH.wD.add (NA λH n _=>hp.quiet H n);have yR:∀a H,AF 186 (HN [.agg (Bv k cells wA n),.fn (.func 187) [] []] (λ_=>True) (.bool (BX (λa b=>decide (a=b)) cells))) wD 186 a H=(a=[.agg (Bv k cells wA n),.fn (.func 187) [] []]/\True,.bool (BX (λa b=>decide (a=b)) cells)):=λ_ _=>rfl
 generalize AF 186 _ wD=T at hT yR;refine .mk ⟨CS k cells wA n,zt⟩ zt (qR.a (AI hT (AJ ?_)));simp only[eE,eN,seval,qR,yR];exact⟨rfl,rfl⟩
theorem p189(h:VwOK k cells wA n)(a b:Int)(xd:De k a/\De k b):Av prog 189 [eI a,eI b,.ep (Bv k cells wA n)] (.bool (decide (VE (BG (AP k) a-BG (AP k) b)<n))):=by
 have hT:AH prog (AF 144 (IH [.ep (AG k)] (De k) λs=>eI (BG (AP k) s)) wD):=AH.wD.add (ZY λs hs=>p144 k s hs);have yR:∀a H,AF 144 (IH [.ep (AG k)] (De k) λs=>eI (BG (AP k) s)) wD 144 a H=IH [.ep (AG k)] (De k) (λs=>eI (BG (AP k) s)) a H:=λ_ _=>rfl
 generalize AF 144 _ wD=T at hT yR;refine .mk ⟨zt,zt,CS k cells wA n,zt⟩ zt (qU.a (AI hT (AJ ?_)));have r1:=Vs h.vl xd.1;have r2:=Vs h.vl xd.2;generalize hva:BG (AP k) a=va at r1;generalize hvb:BG (AP k) b=vb at r2;have w1:IntKind.wrap .i64 (va-vb)=va-vb:=A4 zo zo;have w2:IntKind.wrap .i64 (0-(va-vb))= -(va-vb):=by rw[A4 zo zo];omega
 simp only[eE,eN,seval,qU,yR,IH,hva,hvb,w1,w2];exact⟨xd.1,xd.2,rfl⟩
theorem p190(h:VwOK k cells wA n)(a b:Int)(xd:De k a/\De k b):Av prog 190 [eI a,eI b,.ep (Bv k cells wA n)] (.bool (decide (BG (AP k) b<=BG (AP k) a))):=by
 have hT:AH prog (AF 144 (IH [.ep (AG k)] (De k) λs=>eI (BG (AP k) s)) wD):=AH.wD.add (ZY λs hs=>p144 k s hs);have yR:∀a H,AF 144 (IH [.ep (AG k)] (De k) λs=>eI (BG (AP k) s)) wD 144 a H=IH [.ep (AG k)] (De k) (λs=>eI (BG (AP k) s)) a H:=λ_ _=>rfl
 generalize AF 144 _ wD=T at hT yR;refine .mk ⟨zt,zt,CS k cells wA n,zt⟩ zt (qW.a (AI hT (AJ ?_)));simp only[eE,eN,seval,qW,yR,IH];exact xd
theorem prQ{f0:FuncId}{bad:Int->Int->Bool}(hp:Av prog 186 [.agg (Bv k cells wA n),.fn (.func f0) [] [.ep (Bv k cells wA n)]] (.bool (BX bad cells)))(H:AB)(m:Nat)(q:Nat)(hq:AD H q=some (.box (Bv k cells wA n))):
  Ao prog 186 [.agg (Bv k cells wA n),.fn (.func f0) [] [.ptr q 0]] H m (.bool (BX bad cells)):=
 hp.view zt (.cons (.wk (Wk.refl _)) (.cons (.fn .nil (.cons (View.ptr (off:=0) hq) .nil)) .nil)) m
theorem p140(h:VwOK k cells wA n):Av prog 140 [.agg (Bv k cells wA n)] (.bool (CD (AP k) 3 n wA cells)):=by
 have hp:=Qf (f0:=189) (cap:=[.ep (Bv k cells wA n)]) (ok:=De k) (bad:=λa b=>decide (VE (BG (AP k) a-BG (AP k) b)<n)) k cells wA n h.c ⟨CS k cells wA n,zt⟩ (λa b q=>p189 k cells wA n h a b q) h.sy;have hT:AH prog (AF 186 (HN [.agg (Bv k cells wA n),.fn (.func 189) [] [.ptr 0 0]] (λH=>AD H 0=some (.box (Bv k cells wA n))) (.bool (BX (λa b=>decide (VE (BG (AP k) a-BG (AP k) b)<n)) cells))) wD):=AH.wD.add (NA λH m hq=>prQ k cells wA n hp H m 0 hq);have yR:∀a H,AF 186 (HN [.agg (Bv k cells wA n),.fn (.func 189) [] [.ptr 0 0]] (λH=>AD H 0=some (.box (Bv k cells wA n))) (.bool (BX (λa b=>decide (VE (BG (AP k) a-BG (AP k) b)<n)) cells))) wD 186 a H=(a=[.agg (Bv k cells wA n),.fn (.func 189) [] [.ptr 0 0]]/\AD H 0=some (.box (Bv k cells wA n)),.bool (BX (λa b=>decide (VE (BG (AP k) a-BG (AP k) b)<n)) cells)):=λ_ _=>rfl
 generalize AF 186 _ wD=T at hT yR;refine .mk ⟨CS k cells wA n,zt⟩ zt (qT.a (AI hT (AJ ?_)));simp only[eE,eN,seval,qT,yR];exact⟨rfl,rfl⟩
theorem p141(h:VwOK k cells wA n):Av prog 141 [.agg (Bv k cells wA n)] (.bool (CD (AP k) 4 n wA cells)):=by
 have hp:=Qf (f0:=190) (cap:=[.ep (Bv k cells wA n)]) (ok:=De k) (bad:=λa b=>decide (BG (AP k) b<=BG (AP k) a)) k cells wA n h.c ⟨CS k cells wA n,zt⟩ (λa b q=>p190 k cells wA n h a b q) h.sy;have hT:AH prog (AF 186 (HN [.agg (Bv k cells wA n),.fn (.func 190) [] [.ptr 0 0]] (λH=>AD H 0=some (.box (Bv k cells wA n))) (.bool (BX (λa b=>decide (BG (AP k) b<=BG (AP k) a)) cells))) wD):=AH.wD.add (NA λH m hq=>prQ k cells wA n hp H m 0 hq);have yR:∀a H,AF 186 (HN [.agg (Bv k cells wA n),.fn (.func 190) [] [.ptr 0 0]] (λH=>AD H 0=some (.box (Bv k cells wA n))) (.bool (BX (λa b=>decide (BG (AP k) b<=BG (AP k) a)) cells))) wD 186 a H=(a=[.agg (Bv k cells wA n),.fn (.func 190) [] [.ptr 0 0]]/\AD H 0=some (.box (Bv k cells wA n)),.bool (BX (λa b=>decide (BG (AP k) b<=BG (AP k) a)) cells)):=λ_ _=>rfl
 generalize AF 186 _ wD=T at hT yR;refine .mk ⟨CS k cells wA n,zt⟩ zt (qV.a (AI hT (AJ ?_)));simp only[eE,eN,seval,qV,yR];exact⟨rfl,rfl⟩
theorem p142:Av prog 142 [.agg (Bv k cells wA n)] (.bool (CD (AP k) 5 n wA cells)):=by
 refine .mk ⟨CS k cells wA n,zt⟩ zt (qX.a (AI AH.wD (AJ ?_)));simp only[eE,eN,seval,qX];rfl
theorem p139(h:VwOK k cells wA n):Av prog 139 [.agg (Bv k cells wA n)] (.bool (CD (AP k) 2 n wA cells)):=by
 have hT:AH prog (AF 188 (HN [.agg (Bv k cells wA n)] (λ_=>True) (T5 wA cells)) wD):=AH.wD.add (NA λH m _=>(p188 k cells wA n h.c h.l).quiet H m);have yR:∀a H,AF 188 (HN [.agg (Bv k cells wA n)] (λ_=>True) (T5 wA cells)) wD 188 a H=(a=[.agg (Bv k cells wA n)]/\True,T5 wA cells):=λ_ _=>rfl
 generalize AF 188 _ wD=T at hT yR;refine .mk ⟨CS k cells wA n,zt⟩ zt (cN.a (AI hT (AJ ?_)));have hR:CD (AP k) 2 n wA cells=(decide (Fa wA cells=0)&&decide (I9 cells=0)):=rfl;rw[hR];have e1:((Fa wA cells:Int)=0)=(Fa wA cells=0):=propext zo;have e2:((I9 cells:Int)=0)=(I9 cells=0):=propext zo;by_cases h1:Fa wA cells=0
 ·by_cases h2:I9 cells=0
  ·simp only[eZ,seval,eY,cN,yR,e1,e2,r9 h1,r9 h2];exact rfl
  ·simp only[eZ,seval,eY,cN,yR,e1,e2,r9 h1,sb h2];exact rfl
 ·simp only[eZ,seval,eY,cN,yR,e1,e2,sb h1];exact rfl
theorem p143(h:VwOK k cells wA n):Av prog 143 [.agg (Bv k cells wA n)] (.bool (CD (AP k) 6 n wA cells)):=by
 have hT:AH prog (AF 188 (HN [.agg (Bv k cells wA n)] (λ_=>True) (T5 wA cells)) wD):=AH.wD.add (NA λH m _=>(p188 k cells wA n h.c h.l).quiet H m);have yR:∀a H,AF 188 (HN [.agg (Bv k cells wA n)] (λ_=>True) (T5 wA cells)) wD 188 a H=(a=[.agg (Bv k cells wA n)]/\True,T5 wA cells):=λ_ _=>rfl
 generalize AF 188 _ wD=T at hT yR;refine .mk ⟨CS k cells wA n,zt⟩ zt (iH.a (AI hT (AJ ?_)));have hR:CD (AP k) 6 n wA cells=(decide (n<(Fa wA cells:Int))||decide ((cells.length:Int)-n<(IB wA cells:Int))):=rfl;rw[hR];have wi:cells.length<1000000000:=h.c;have hn:=h.n;have w1:IntKind.wrap .i64 ((cells.length:Int)-n)=(cells.length:Int)-n:=A4 zo zo;by_cases h1:n<(Fa wA cells:Int)
 ·simp only[eZ,seval,sa,eY,iH,yR,r9 h1];exact rfl
 ·simp only[eZ,seval,eY,iH,yR,sb h1,w1];exact rfl
end
def I6(k:zx)(f:List Int->List Int->Int->Bool):List Fs->AB->Prop×Fs:=λa H=>match a with
 |[.agg [.fn (.func g) [] [.ptr q 0],.sl t1 L1,.sl t2 L2,.int .i64 n]]=>(g=144/\AD H q=some (.box (AG k))/\A3.ok (.sl t1 L1)/\A3.ok (.sl t2 L2)/\VwOK k (L1.map A9) (L2.map A9) n,.bool (f (L1.map A9) (L2.map A9) n))
 |_=>(False,.wJ [])
def PG{k:zx}{y9:FuncId}{f:List Int->List Int->Int->Bool}(h:∀cells wA n,VwOK k cells wA n->Av prog y9 [.agg (Bv k cells wA n)] (.bool (f cells wA n))):∀args H n,(I6 k f args H).1->Ao prog y9 args H n (I6 k f args H).2:=by
 intro args H m hh;unfold I6 at hh⊢;split at hh
 ·obtain⟨rfl,hq,k1,k2,k3⟩:=hh;exact(h _ _ _ k3).view zt (.cons (.agg (.cons (.fn .nil (.cons (View.ptr (off:=0) hq) .nil)) (.cons (.wk (A3.wk _ k1)) (.cons (.wk (A3.wk _ k2)) (.cons (.wk (Wk.refl _)) .nil))))) .nil) m
 ·exact hh.elim
def mX(k:zx):Bg:=AF 138 (I6 k λc l n=>CD (AP k) 1 n l c) (AF 139 (I6 k λc l n=>CD (AP k) 2 n l c) (AF 140 (I6 k λc l n=>CD (AP k) 3 n l c)
 (AF 141 (I6 k λc l n=>CD (AP k) 4 n l c) (AF 142 (I6 k λc l n=>CD (AP k) 5 n l c) (AF 143 (I6 k λc l n=>CD (AP k) 6 n l c) wD)))))
def mY(k:zx):AH prog (mX k):=(((((AH.wD.add (PG λc l n h=>p143 k c l n h)).add (PG λc l n h=>p142 k c l n)).add (PG λc l n h=>p141 k c l n h)).add (PG λc l n h=>p140 k c l n h)).add (PG λc l n h=>p139 k c l n h)).add (PG λc l n h=>p138 k c l n h)
theorem Tcq_1(k:zx)(a:List Fs)(H:AB):mX k 138 a H=I6 k (λc l n=>CD (AP k) 1 n l c) a H:=rfl
theorem Tcq_2(k:zx)(a:List Fs)(H:AB):mX k 139 a H=I6 k (λc l n=>CD (AP k) 2 n l c) a H:=rfl
theorem Tcq_3(k:zx)(a:List Fs)(H:AB):mX k 140 a H=I6 k (λc l n=>CD (AP k) 3 n l c) a H:=rfl
theorem Tcq_4(k:zx)(a:List Fs)(H:AB):mX k 141 a H=I6 k (λc l n=>CD (AP k) 4 n l c) a H:=rfl
theorem Tcq_5(k:zx)(a:List Fs)(H:AB):mX k 142 a H=I6 k (λc l n=>CD (AP k) 5 n l c) a H:=rfl
theorem Tcq_6(k:zx)(a:List Fs)(H:AB):mX k 143 a H=I6 k (λc l n=>CD (AP k) 6 n l c) a H:=rfl
structure ClOK(k:zx)(q:Cnd)(wA cells:List Int):Prop where
 kind:1<=q.k/\q.k<=6
 n:0<=q.n/\q.n<=99
 cs:Aq q.cs
 ci:∀c∈q.cs,0<=c/\c<(cells.length:Int)
 ls:Aq q.ls
 li:∀c∈q.ls,0<=c/\c<(wA.length:Int)
 sy:∀s∈cells,0<=s->De k s
 vl:∀y∈k.d.wE,0<=y.v/\y.v<=99
structure VCq where
 i:Nat
 tk:v8
 H:AB
 n:Nat
abbrev fnsC:List Fs:=[.yF,.fn (.func 138) [] [],.fn (.func 139) [] [],.fn (.func 140) [] [],.fn (.func 141) [] [],.fn (.func 142) [] [],.fn (.func 143) [] []]
abbrev T6(q:Cnd):List Fs:=[.int .i64 q.k,Aj q.cs,Aj q.ls,.int .i64 q.n]
structure IC1(k:zx)(q:Cnd)(m:Nat)(X:Nat->List Int)(bx:Fs->List Fs)(v:VCq):Prop where
 hi:v.i<=m
 hn:12<=v.n
 fr:AO v.H v.n
 h0:AD v.H 0=some (.box (AG k))
 h1:AD v.H 1=some (.box (T6 q))
 h4:AD v.H 4=some (.box fnsC)
 h10:AD v.H 10=some (.box (bx (.sl v.tk ((X v.i).map eI))))
 tok:C8 1 11 v.H v.tk
 es:v.tk.esz=1\/X v.i=[]
def p93(k:zx)(q:Cnd)(wA cells:List Int)(h:ClOK k q wA cells):Av prog 93 [BA k,GQ q,Aj wA,Aj cells] (.bool (FA (AP k) q wA cells)):=by
 refine .mk ⟨Am 0 k,⟨zt,AV 0 _,AV 0 _,zt,zt⟩,AV 0 _,AV 0 _,zt⟩ zt (c93.a (AI (mY k) (AJ ?_)));have xl:q.cs.length<1000000000:=h.cs;have xu:q.ls.length<1000000000:=h.ls;simp only[eE,eN,reduceCtorEq,Nat.reduceEqDiff,↓reduceIte,Nat.reduceAdd,Nat.reduceLeDiff,ry,c93];refine AQ (λv:VCq=>⟨[(2,true,Aj wA),(3,true,Aj cells),(5,true,.ptr 1 0),(9,true,.ptr 4 0),(10,true,.ptr 10 0),(21,true,Aj q.cs),(22,true,.int .i64 q.cs.length),(23,true,.int .i64 v.i)],v.H,v.n⟩)
  (IC1 k q q.cs.length (λi=>(q.cs.take i).map (BG cells)) λa=>[.fn (.func 144) [] [.ptr 0 0],a,.sl .nil [],.int .i64 q.n]) (λv=>q.cs.length-v.i)
  ⟨0,.nil,_,12⟩ rfl ?_ ?_
 ·refine⟨sk _,sj _,?_,rfl,rfl,rfl,rfl,.inl rfl,.inr rfl⟩;simp only[];repeat' (first|exact AO.nil.wB (m:=12) (sk _) zd|refine AO.wB ?_ (sj _) zd)
 rintro⟨i,tk,H,n⟩ ⟨hi,hn,l9,h0,h1,h4,h10,l7,s7⟩;simp only at hi hn l9 h0 h1 h4 h10 l7 s7;by_cases e9:i<q.cs.length
 ·have hg:=rz e9;have e:=AK (k:=i) zo;have hci:=h.ci _ (sC e9);have yB:q.cs.take (i+1)=q.cs.take i++[q.cs[i]]:=by rw[sG,hg];rfl
  generalize q.cs[i]=x at hg hci yB;have hgx:=BY hci.1 hci.2;have hX:((q.cs.take i).map (BG cells)).length<=i:=by simp;omega
  have q1:BB H 1 tk=True:=r9 l7.app;have q2:(((q.cs.take i).map (BG cells)).length<=35184372088831)=True:=r9 zo;have q3:Al (((q.cs.take i).map (BG cells)).length+1) 8=True:=r9 (Ae zo zd);have y1:∀k,(10=n+k)=False:=λk=>sb zo
  have y2:(n=3)=False:=sb zo;have y3:(3=n)=False:=sb zo;have hk10:=Ac l7 (i:=10) (.inl zd);rw[h10]at hk10;generalize hXd:(q.cs.take i).map (BG cells)=X at hX q2 q3 h10 hk10 s7;simp only[eZ,reduceCtorEq,Nat.reduceEqDiff,↓reduceIte,Nat.reduceAdd,Nat.reduceLeDiff,Nat.reduceMul,Nat.reduceLT,Int.reduceEq,eY,AN e9,hg,h10,r9 hci.1,r9 hci.2,hgx,q1,q2,q3,Bq l9,hk10,y2,e];refine .mk ⟨i+1,.own (n+7) 1,wB (wB (AU H tk) (n+7) .tok) 10 (.box [.fn (.func 144) [] [.ptr 0 0],.sl (.own (n+7) 1) ((X++[BG cells x]).map eI),.sl .nil [],.int .i64 q.n]),n+10⟩ ?_ ⟨e9,zp,((Ab l7 l9).wB (m:=n+10) zo zo).wB (sj _) (show 10<n+10 by omega),?_,?_,?_,?_,.inr (.inr ⟨n+7,rfl,zo,?_⟩),.inl rfl⟩ zp
  ·simp only[su,sS,t6]
  all_goals simp only[]
  ·grind [AA,Ac]
  ·grind [AA,Ac]
  ·grind [AA,Ac]
  ·rw[AC];simp only[yB,su,sS,t6,hXd]
  ·rw[AA _ _ _ _ zo,AC]
 obtain rfl:i=q.cs.length:=zo
 rw[sD]at s7 h10;simp only[eZ,Nat.reduceEqDiff,↓reduceIte,Nat.reduceAdd,Nat.reduceLeDiff,ry,Ag e9,h1];generalize hXc:q.cs.map (BG cells)=XC at h10 s7;refine AQ (λv:VCq=>⟨[(2,true,Aj wA),(5,true,.ptr 1 0),(9,true,.ptr 4 0),(10,true,.ptr 10 0),(38,true,Aj q.ls),(39,true,.int .i64 q.ls.length),(40,true,.int .i64 v.i)],v.H,v.n⟩)
  (IC1 k q q.ls.length (λi=>(q.ls.take i).map (BG wA)) λa=>[.fn (.func 144) [] [.ptr 0 0],.sl tk (XC.map eI),a,.int .i64 q.n]) (λv=>q.ls.length-v.i)
  ⟨0,.nil,H,n⟩ rfl ⟨sk _,hn,l9,h0,h1,h4,h10,.inl rfl,.inr rfl⟩ ?_
 rintro⟨j,tj,H1,n1⟩ ⟨hj,to,ya,wh,h11,h41,h101,htj,hej⟩;simp only at hj to ya wh h11 h41 h101 htj hej;by_cases s6:j<q.ls.length
 ·have hg:=rz s6;have e:=AK (k:=j) zo;have hci:=h.li _ (sC s6);have yB:q.ls.take (j+1)=q.ls.take j++[q.ls[j]]:=by rw[sG,hg];rfl
  generalize q.ls[j]=x at hg hci yB;have hgx:=BY hci.1 hci.2;have hX:((q.ls.take j).map (BG wA)).length<=j:=by simp;omega
  have q1:BB H1 1 tj=True:=r9 htj.app;have q2:(((q.ls.take j).map (BG wA)).length<=35184372088831)=True:=r9 zo;have q3:Al (((q.ls.take j).map (BG wA)).length+1) 8=True:=r9 (Ae zo zd);have y1:∀k,(10=n1+k)=False:=λk=>sb zo
  have y2:(n1=3)=False:=sb zo;have y3:(3=n1)=False:=sb zo;have hk10:=Ac htj (i:=10) (.inl zd);rw[h101]at hk10;generalize hXd:(q.ls.take j).map (BG wA)=X at hX q2 q3 h101 hk10 hej;simp only[eZ,reduceCtorEq,Nat.reduceEqDiff,↓reduceIte,Nat.reduceAdd,Nat.reduceLeDiff,Nat.reduceMul,Nat.reduceLT,Int.reduceEq,eY,AN s6,hg,h101,r9 hci.1,r9 hci.2,hgx,q1,q2,q3,Bq ya,hk10,y2,e];refine .mk ⟨j+1,.own (n1+7) 1,wB (wB (AU H1 tj) (n1+7) .tok) 10 (.box [.fn (.func 144) [] [.ptr 0 0],.sl tk (XC.map eI),.sl (.own (n1+7) 1) ((X++[BG wA x]).map eI),.int .i64 q.n]),n1+10⟩ ?_ ⟨s6,zp,((Ab htj ya).wB (m:=n1+10) zo zo).wB (sj _) (show 10<n1+10 by omega),?_,?_,?_,?_,.inr (.inr ⟨n1+7,rfl,zo,?_⟩),.inl rfl⟩ zp
  ·simp only[su,sS,t6]
  all_goals simp only[]
  ·grind [AA,Ac]
  ·grind [AA,Ac]
  ·grind [AA,Ac]
  ·rw[AC];simp only[yB,su,sS,t6,hXd]
  ·rw[AA _ _ _ _ zo,AC]
 obtain rfl:j=q.ls.length:=zo
 rw[sD]at hej h101;generalize hXl:q.ls.map (BG wA)=XL at h101 hej;have hV:VwOK k XC XL q.n:=by
  refine⟨?_,?_,?_,h.vl,h.n⟩
  ·grind
  ·grind
  ·subst hXc;intro s hs h0;obtain⟨c,hc,rfl⟩:=tn.1 hs;have:=h.ci c hc;exact h.sy _ (sZ (BY this.1 this.2)) h0
 have hB:FA (AP k) q wA cells=CD (AP k) q.k q.n XL XC:=by unfold FA;rw[hXc,hXl]
 rw[hB];have k1:A3.ok (.sl tk (XC.map eI))=True:=r9 ⟨s7.imp id λq=>by rw[q];rfl,by rw[Aw]⟩;have k2:A3.ok (.sl tj (XL.map eI))=True:=r9 ⟨hej.imp id λq=>by rw[q];rfl,by rw[Aw]⟩;have hk6:q.k=1\/q.k=2\/q.k=3\/q.k=4\/q.k=5\/q.k=6:=by have:=h.kind;omega
 rcases hk6 with hk|hk|hk|hk|hk|hk
 all_goals
  simp only[T6,hk]at h11;rw[hk];simp only[eZ,Nat.reduceEqDiff,↓reduceIte,Nat.reduceAdd,Nat.reduceLeDiff,Nat.reduceMul,Int.reduceLE,Int.reduceToNat,Int.toNat_one,Ag s6,h11,h41,h101,wh,Tcq_1,Tcq_2,Tcq_3,Tcq_4,Tcq_5,Tcq_6,I6,k1,k2,Aw,r9 hV];decide
section
section
variable {P:Program} {T:Bg} {Q:x6->AS->Prop} {k:List Item} {s:AS} {b:Nat} {cx:Nat->Fs} {kp:List Nat} {rx:List (Nat×xq)}
variable {z:Fs} {w str:Bool} {xs:List zz} {t rel esz bytes:Nat} {x y f:zz} {d:Option Nat}
theorem Vt{sz:Nat}{ag:Bool}:A8 P T b cx ((2,⟨d,some (t,w),.v (.ld sz ag x)⟩)::rx) kp k Q s=((Bl s.env (some (t,w))=true->fo (AY s.env x))/\GS s.env (some (t,w))/\(Bl s.env (some (t,w))=true->C2 s.env [x]/\(Bd s.H (AY s.env) (.ld sz ag x)).1)/\A8 P T b cx rx kp k Q (s.put d (Bl s.env (some (t,w))) (Bd s.H (AY s.env) (.ld sz ag x)).2)):=by
 rw[TD,Mh];rfl
def NC(P:Program)(T:Bg)(b:Nat)(cx:Nat->Fs)(d:Option Nat)(rel esz bytes:Nat)(z:Fs)(x y:zz)(str:Bool)(rx:List (Nat×xq))(kp:List Nat)(k:List Item)(Q:x6->AS->Prop)(s:AS):Bool->Prop
 |true=>(lk s.env x).1=true/\(lk s.env y).1=true/\JJ s.H (b+rel) esz bytes z (KN P T b cx d rx kp k Q s) (AY s.env x) (CF s.H (AY s.env) esz y str)
 |false=>A8 P T b cx rx kp k Q (s.put d false (.wJ []))
theorem R6:A8 P T b cx ((2,⟨d,some (t,w),.yM rel esz bytes z x y str⟩)::rx) kp k Q s=(GS s.env (some (t,w))/\NC P T b cx d rel esz bytes z x y str rx kp k Q s (Bl s.env (some (t,w)))):=by
 simp only[A8,DV,Be,Bp,uZ,uf,Af,BS,Io.wH,Fo,N7];cases Bl s.env (some (t,w))
 ·simp only[NC,sN,uq,uf,tX,A8,C2];refine congrArg _ ?_;refine propext ⟨λh=>h.2,λh=>⟨λ_ _ q=>q,h⟩⟩
 ·simp only[NC,tX,C2,uJ,ux,seval,uq];rw[ME];rfl
theorem Zb:NC P T b cx d rel esz bytes z x y str rx kp k Q s true=((lk s.env x).1=true/\(lk s.env y).1=true/\JJ s.H (b+rel) esz bytes z (KN P T b cx d rx kp k Q s) (AY s.env x) (CF s.H (AY s.env) esz y str)):=rfl
theorem Zc:NC P T b cx d rel esz bytes z x y str rx kp k Q s false=A8 P T b cx rx kp k Q (s.put d false (.wJ [])):=rfl
def Vu(P:Program)(T:Bg)(b:Nat)(cx:Nat->Fs)(d:Option Nat)(r:List (Nat×xq))(kp:List Nat)(k:List Item)(Q:x6->AS->Prop)(s:AS):xw->AB->Nat->Prop
 | .ret v,H',n'=>A8 P T b cx r kp k Q ({s with H:=H',n:=n'}.put d true v)
 | .xM v,H',n'=>Cj P T Q k (.xM v) ⟨[],H',n'⟩
def jg(P:Program)(T:Bg)(b:Nat)(cx:Nat->Fs)(d:Option Nat)(r:List (Nat×xq))(kp:List Nat)(k:List Item)(Q:x6->AS->Prop)(s:AS)(x:Bool)(H':AB)(n':Nat):Prop:=A8 P T b cx r kp k Q ({s with H:=H',n:=n'}.put d true (.bool x))
def ND(P:Program)(T:Bg)(b:Nat)(cx:Nat->Fs)(d:Option Nat)(f:zz)(xs:List zz)(rx:List (Nat×xq))(kp:List Nat)(k:List Item)(Q:x6->AS->Prop)(s:AS):Bool->Prop
 |true=>(lk s.env f).1=true/\C2 s.env xs/\MD P (xs.map (AY s.env)) s.H s.n (Vu P T b cx d rx kp k Q s) (jg P T b cx d rx kp k Q s) (AY s.env f)
 |false=>A8 P T b cx rx kp k Q (s.put d false (.wJ []))
theorem NE:A8 P T b cx ((0,⟨d,some (t,w),.call false f xs⟩)::rx) kp k Q s=(GS s.env (some (t,w))/\ND P T b cx d f xs rx kp k Q s (Bl s.env (some (t,w)))):=by
 simp only[A8,DV,Be,Af,BS,C2,Io.wH,Bp,FH,uZ,uf,ux];cases Bl s.env (some (t,w))
 ·simp only[ND,sN,uq,uf,tX];rfl
 ·simp only[ND,tX,seval,uq,uJ];refine congrArg (λz=>GS s.env (some (t,w))/\(lk s.env f).1=true/\C2 s.env xs/\z) ?_;generalize AY s.env f=v;cases v<;>try rfl
  rename_i ff first cap
  cases ff<;>try rfl
  ·refine congrArg (AX P _ _ s.H s.n) ?_;funext o H' n';cases o<;>rfl
  ·cases first<;>cases cap<;>rfl
theorem Zd:ND P T b cx d f xs rx kp k Q s true=((lk s.env f).1=true/\C2 s.env xs/\MD P (xs.map (AY s.env)) s.H s.n (Vu P T b cx d rx kp k Q s) (jg P T b cx d rx kp k Q s) (AY s.env f)):=rfl
theorem Ze:ND P T b cx d f xs rx kp k Q s false=A8 P T b cx rx kp k Q (s.put d false (.wJ [])):=rfl
end
def rdL(H:AB):Fs->List Int
 | .sl _ L=>L.map A9
 | .ref id _ _ len _=>match AD H id with
  |some (.arr _ L)=>(L.take len).map A9
  |_=>[]
 |_=>[]
variable {H:AB} {av:Fs} {l:List Int} {n m:Nat} {F:Nat->Prop}
theorem II(h:OV H av l):rdL H av=l:=by
 rcases h with⟨t,rfl,-⟩|⟨id,cap,rest,rfl,h1,-⟩
 ·exact Aw l
 ·simp only[rdL,h1];rw[su,vV (by rw[ry]),Aw]
theorem Me(h:OV H av l):View H (Aj l) av:=by
 rcases h with⟨t,rfl,ht⟩|⟨id,cap,rest,rfl,h1,h2⟩
 ·exact .wk (Wk.sl (ht.imp (λz=>z) λq=>by rw[q];rfl))
 ·have:=View.ref (H:=H) (id:=id) (e:=1) (off:=0) (len:=l.length) (cap:=cap) h1 zw h2;rw[vI,su,vV (by rw[ry])]at this;exact this
theorem mZ(h:OV H av l)(hl:Aq l):Ao prog 32 [av] H n (Aj l):=by
 refine Ao.of c32.l (AV n l) λhf=>?_
 refine AX.out (R:=λo H' _=>∃lv,o= .ret lv/\LF 1 lv H' (l.map eI)/\C0 H H') (AX.seal (Tx h hl) ?_) ?_
 ·rintro o H' n' (⟨h1,rfl,-,t,rfl,ht⟩|⟨h1,-,rest,rfl,rfl⟩)
  ·exact .inl ⟨_,rfl,.inl ⟨by rw[h1];rfl,t,rfl,ht⟩,C0.refl _⟩
  ·refine .inr ⟨n+2,1,_,AC ..,_,rfl,.inr ⟨by simpa using h1,n+2,_,rest.map eI,by rw[ry],?_,zw⟩,λi ob h0=>?_⟩
   ·rw[AC,su]
   ·have:=hf.lt h0;rw[AA _ _ _ _ zo,AA _ _ _ _ zo];exact h0
 ·rintro o H' n' ⟨lv,rfl,hL,hK⟩;refine⟨.ret (Aj l),⟨⟨_,rfl,Wk.refl _⟩,hK⟩,λg w e hR he=>?_⟩;cases e with
  |returned v=>exact LQ hL hR he
  |panicked c=>exact he.elim
  |outgrown=>exact he.elim
def Lo:List Fs->AB->Prop×Fs:=λa H=>match a with
 |[av]=>(OV H av (rdL H av)/\Aq (rdL H av),Aj (rdL H av))
 |_=>(False,.wJ [])
theorem Zf:∀args H n,(Lo args H).1->Ao prog 32 args H n (Lo args H).2:=by
 intro args H n hh;unfold Lo at hh⊢;split at hh
 ·exact mZ hh.1 hh.2
 ·exact hh.elim
def Cp:List Fs->AB->Prop×Fs:=λa H=>match a with
 |[av,.int .i64 x]=>(OV H av (rdL H av)/\Aq (rdL H av),.bool ((rdL H av).contains x))
 |_=>(False,.wJ [])
theorem Mf:∀args H n,(Cp args H).1->Ao prog 60 args H n (Cp args H).2:=by
 intro args H n hh;unfold Cp at hh⊢;split at hh
 ·exact(p60 _ _ hh.2).view zt (.cons (Me hh.1) (.cons (.wk (Wk.refl _)) .nil)) n
 ·exact hh.elim
def Tgw:Bg:=AF 32 Lo (AF 60 Cp wD)
theorem Zg:AH prog Tgw:=(AH.wD.add Mf).add Zf
structure Gen(A:List (List Int))(l':Nat)(J:(Nat->Prop)->List (List Int)->AB->Nat->Prop)(S:AB->Nat->Prop):Prop where
 fr:∀F D H m,J F D H m->AO H m
 frame:∀F F' D H H' m m',J F D H m->(∀i,F' i->F i\/m<=i)->(∀i,¬F' i->AD H' i=AD H i)->AO H' m'->m<=m'->J F' D H' m'
 yld:∀F D x H m (R:Bool->AB->Nat->Prop),J F D H m->(∀i,F i->i<m)->D++[x]<+:A->(∀H' m',J F (D++[x]) H' m'->(∀i,F i->AD H' i=AD H i)->m<=m'->R true H' m')->(∀H' m',S H' m'->R false H' m')->CY prog l' [Aj x] H m R
def GV(H:AB)(lv:Fs)(L:List Int)(F:Nat->Prop):Prop:=(lv= .sl .nil []/\L=[])\/∃id rest,lv= .ref id 1 0 L.length (L.length+rest.length)/\F id/\AD H id=some (.arr 1 ((L++rest).map eI))
theorem GV.rd{lv:Fs}{L:List Int}(h:GV H lv L F):OV H lv L:=by
 rcases h with⟨rfl,rfl⟩|⟨id,rest,rfl,-,h3⟩
 ·exact .inl ⟨_,rfl,.inr rfl⟩
 ·exact .inr ⟨id,_,rest,rfl,h3,zo⟩
def MU(M j:Nat)(L:List Int)(i:Nat):List (List Int):=((CP i).filter λs=>!L.contains s).flatMap λs=>Iq M j (L++[s])
theorem PH(M j:Nat)(L:List Int)(i:Nat):MU M j L (i+1)=MU M j L i++if L.contains (i:Int)then[]else Iq M j (L++[(i:Int)]):=by grind [MU,CP,List.range_succ]
theorem Vv(M j:Nat)(L:List Int)(i:Nat):∀k,MU M j L i<+:MU M j L (i+k)
 |0=>List.prefix_refl _
 |k+1=>by
  rw[<-Nat.add_assoc,PH];exact(Vv M j L i k).trans (List.prefix_append _ _)
theorem fA{α:Type}{D a b A:List α}(h:a<+:b)(hb:D++b<+:A):D++a<+:A:=by
 obtain⟨t,rfl⟩:=h;rw[<-te]at hb;exact(List.prefix_append _ _).trans hb
theorem ma{lv:Fs}{L:List Int}{y:Int}{K:AB->Fs->Prop}(h:GV H lv L F)(hl:L.length<1000000)(hm:AD H m=none)
  (hK:∀id (rest:List Int),(id=m\/lv= .ref id 1 0 L.length (L.length+1+rest.length)/\F id)->K (wB H id (.arr 1 (((L++[y])++rest).map eI))) (.ref id 1 0 (L++[y]).length ((L++[y]).length+rest.length))):JJ H m 1 8 (.int .i64 0) K lv (some [eI y]):=by
 have el:(L++[y]).length=L.length+1:=zw
 rcases h with⟨rfl,rfl⟩|⟨id,rest,rfl,h2,h3⟩
 ·rw[DW];refine⟨hm,zd,rfl,.inl rfl,by simp [Al],zw,(λe=>by cases e),λ_ cap xO=>?_⟩;have:=hK m (List.replicate (cap-1) 0) (.inl rfl);simp only[sI,sS,sM,tI,tK,sJ,ud]at this xO⊢;rw[show 0+1+(cap-1)=cap by omega]at this;exact this
 ·rw[LG h3];refine⟨hm,zd,rfl,rfl,rfl,Ae (by simp only[sM,tI];omega) zd,by simp only[sM,tI];omega,rfl,zw,zo,λhr=>?_,λhr yK hc=>?_⟩
  ·simp only[sM,tI]at hr⊢;have:=hK id (rest.drop 1) (.inr ⟨by rw[ue,show L.length+1+(rest.length-1)=L.length+rest.length by omega],h2⟩);have e1:List.take L.length ((L++rest).map eI)=L.map eI:=by rw[su,uC zw,tL zw]
   have e2:List.drop (L.length+(0+1)) ((L++rest).map eI)=(rest.drop 1).map eI:=by rw[su,List.drop_append,uy zw];simp
   rw[e1,e2];rw[el,su,su,ue,show L.length+1+(rest.length-1)=L.length+rest.length by omega]at this;exact this
  ·have:=hK m (List.replicate (yK-(L.length+1)) 0) (.inl rfl);simp only[sM,tI]at hr hc⊢;have e1:List.take L.length ((L++rest).map eI)=L.map eI:=by rw[su,uC zw,tL zw]
   rw[e1];rw[el,su,su,ud,tK,show L.length+1+(yK-(L.length+1))=yK by omega]at this;exact this
structure CB(l' M n cn cy cm cg:Nat)(F:Nat->Prop)(H:AB):Prop where
 fn:F cn
 fy:F cy
 fm:F cm
 fg:F cg
 hn:AD H cn=some (.box [.int .i64 n])
 hy:AD H cy=some (.box [.fn (.yield l') [] []])
 hm:AD H cm=some (.box [.int .i64 M])
 hg:AD H cg=some (.box [.fn (.func 132) [] [.ptr cn 0,.ptr cy 0,.ptr cm 0,.ptr cg 0]])
def GrP(J:(Nat->Prop)->List (List Int)->AB->Nat->Prop)(S:AB->Nat->Prop)(F:Nat->Prop)(D':List (List Int))(L:List Int)(lv:Fs)(H:AB)(m:Nat):xw->AB->Nat->Prop:=λo H' m'=>
 (o= .ret (.bool true)/\∃F':Nat->Prop,(∀i,F i->F' i)/\(∀i,F' i->F i\/m<=i)/\(∀i,F' i->i<m')/\J F' D' H' m'/\GV H' lv L F'/\(∀i,F i->Rx lv≠some i->AD H' i=AD H i)/\m<=m')\/(o= .ret (.bool false)/\S H' m')
structure VGr where
 i:Nat
 F:Nat->Prop
 H:AB
 n:Nat
structure IGr(J:(Nat->Prop)->List (List Int)->AB->Nat->Prop)(M j:Nat)(L:List Int)(lv:Fs)(D:List (List Int))(F0:Nat->Prop)(H0:AB)(m0:Nat)(v:VGr):Prop where
 hi:v.i<=M
 f1:∀i,F0 i->v.F i
 f2:∀i,v.F i->F0 i\/m0<=i
 f3:∀i,v.F i->i<v.n
 hj:J v.F (D++MU M j L v.i) v.H v.n
 gv:GV v.H lv L v.F
 kp:∀i,F0 i->Rx lv≠some i->AD v.H i=AD H0 i
 hm:m0<=v.n
theorem Zh{A:List (List Int)}{l':Nat}{J:(Nat->Prop)->List (List Int)->AB->Nat->Prop}{S:AB->Nat->Prop}(G:Gen A l' J S){M:Nat}(hM:M<=1000)(hn:n<=1000)(cn cy cm cg:Nat):
  ∀(j:Nat) (L:List Int) (lv:Fs) (F:Nat->Prop) (D:List (List Int)) (H:AB) (m:Nat),L.length+j=n->GV H lv L F->J F D H m->(∀i,F i->i<m)->CB l' M n cn cy cm cg F H->D++Iq M j L<+:A->
   AX prog 132 [lv,.ptr cn 0,.ptr cy 0,.ptr cm 0,.ptr cg 0] H m (GrP J S F (D++Iq M j L) L lv H m)
 |0,L,lv,F,D,H,m,hL,xU,hJ,hF,hC,hA=>by
  have hLn:L.length=n:=zo
  refine YM.a (AI Zg (AJ ?_));have hrd:=xU.rd;have r1:=II hrd;have hfw:Aq L:=by show L.length<_;omega
  obtain⟨k1,k2,k3,k4,bn,yE,bm,bg⟩:=hC;have fin:CY prog l' [Aj L] H m (λb H' m'=>GrP J S F (D++Iq M 0 L) L lv H m (.ret (.bool b)) H' m'):=by
   refine G.yld F D L H m _ hJ hF hA (λH' m' hj hk hmm=>.inl ⟨rfl,F,λi h=>h,λi h=>.inl h,λi h=>by have:=hF i h;omega,hj,?_,λi h _=>hk i h,hmm⟩) (λH' m' hs=>.inr ⟨rfl,hs⟩);rcases xU with h|⟨id,rest,h1,h2,h3⟩
   ·exact .inl h
   ·exact .inr ⟨id,rest,h1,h2,by rw[hk id h2];exact h3⟩
  rcases xU with⟨rfl,rfl⟩|⟨id,rest,rfl,h2,h3⟩
  ·have hz:(n:Int)=0:=by simp at hLn;omega
   have hz':((0:Int)=(n:Int))=True:=r9 hz.symm;simp only[eZ,seval,c0,YM,bn,hz',yE,Tgw,Lo,r1,r9 hrd,r9 hfw,AF];refine fin.mono λb H' m' h=>?_
   simp only[eE,eN,seval,Ov];exact h
  ·have hz':((L.length:Int)=(n:Int))=True:=r9 zo;simp only[eZ,seval,YM,bn,hz',yE,Tgw,Lo,r1,r9 hrd,r9 hfw,AF];refine fin.mono λb H' m' h=>?_
   simp only[eE,eN,seval,Ov];exact h
 |j+1,L,lv,F,D,H,m,hL,xU,hJ,hF,hC,hA=>by
  have hLn:((L.length:Int)=(n:Int))=False:=sb zo;have hLn0:L=[]->((0:Int)=(n:Int))=False:=λe=>by subst e;exact sb (by simp at hL;omega)
  have hfw:Aq L:=by show L.length<_;omega
  refine YM.a (AI Zg (AJ ?_));obtain⟨k1,k2,k3,k4,bn,yE,bm,bg⟩:=hC;have hend:MU M j L M=Iq M (j+1) L:=rfl;have hnr:∀c cs,AD H c=some (.box cs)->Rx lv≠some c:=λc cs hb hr=>by
   rcases xU with⟨rfl,-⟩|⟨id,rest,rfl,-,h3⟩
   ·cases hr
   ·obtain rfl:=Option.some.inj hr;rw[hb]at h3;cases h3
  have hgv0:=xU;rcases xU with⟨ev,e2⟩|⟨id,rest,ev,h2,h3⟩
  case' inl=>
   have hz':=hLn0 e2;simp only[eZ,seval,c0,YM,bn,hz',bm,ev];rw[<-ev]
  case' inr=>
   simp only[eZ,seval,YM,bn,hLn,bm,ev];rw[<-ev]
  all_goals
   refine AQ (λv:VGr=>⟨[(0,true,lv),(4,true,.ptr cg 0),(16,true,.int .i64 M),(17,true,.int .i64 v.i)],v.H,v.n⟩) (IGr J M j L lv D F H m) (λv=>M-v.i)
    ⟨0,F,H,m⟩ rfl ⟨sk _,λi h=>h,λi h=>.inl h,hF,by
     show J F (D++MU M j L 0) H m;rw[show MU M j L 0=[]from rfl,sR];exact hJ,hgv0,λi _ _=>rfl,sj _⟩ ?_
   rintro⟨i,F1,H1,n1⟩ ⟨hi,f1,f2,f3,hj1,gv1,kp1,hm1⟩;simp only at hi f1 f2 f3 hj1 gv1 kp1 hm1;by_cases e9:i<M;case neg=>
    obtain rfl:i=M:=zo
    simp only[eZ,seval,Ag e9];exact .inl ⟨rfl,F1,f1,f2,f3,by rw[<-hend];exact hj1,gv1,kp1,hm1⟩
   have e:=AK (k:=i) zo;have hrd:=gv1.rd;have r1:=II hrd;have hsu:=PH M j L i;have hpre:D++MU M j L (i+1)<+:A:=by
    refine fA (b:=Iq M (j+1) L) ?_ hA;rw[<-hend];have:=Vv M j L (i+1) (M-(i+1))
    rwa[show i+1+(M-(i+1))=M by omega]at this
   cases wx:L.contains (i:Int)with
   |true=>
    rw[wx,sn rfl,sR]at hsu;simp only[eZ,eX,seval,sa,se,AN e9,Tgw,Cp,r1,r9 hrd,r9 hfw,wx,sa,Vt,R6,Zc,NE,Ze,e,AF];exact .mk ⟨i+1,F1,H1,n1+13⟩ rfl ⟨e9,f1,f2,λx h=>by have:=f3 x h;simp only[];omega,by simp only[hsu];exact G.frame _ _ _ _ _ _ _ hj1 (λi h=>.inl h) (λ_ _=>rfl) (λx hx=>G.fr _ _ _ _ hj1 x (by have hx':n1+13<=x:=hx;omega)) zo,gv1,kp1,zp⟩ zp
   |false=>
    rw[wx,sg zd]at hsu;rw[hsu,<-te]at hpre;have c1:AD H1 cg=some (.box [.fn (.func 132) [] [.ptr cn 0,.ptr cy 0,.ptr cm 0,.ptr cg 0]]):=by rw[kp1 cg k4 (hnr _ _ bg)];exact bg
    have ya:=G.fr _ _ _ _ hj1;simp only[eZ,eX,seval,se,AN e9,Tgw,Cp,r1,r9 hrd,r9 hfw,wx,se,Vt,R6,Zb,c1,AF];refine ma gv1 zo (ya _ zo) λz rest' hz=>?_
    have hzn:z<n1+13:=by
     rcases hz with rfl|⟨-,h⟩
     ·omega
     ·have:=f3 z h;omega
    simp only[eE,seval,KN,Zd,NE];have wn:AO (wB H1 z (.arr 1 (((L++[(i:Int)])++rest').map eI))) (n1+13):=ya.wB zo hzn;have hL':(L++[(i:Int)]).length+j=n:=by simp;omega
    have hg2:GV (wB H1 z (.arr 1 (((L++[(i:Int)])++rest').map eI))) (.ref z 1 0 (L++[(i:Int)]).length ((L++[(i:Int)]).length+rest'.length)) (L++[(i:Int)]) (λx=>F1 x\/x=z):=.inr ⟨z,rest',rfl,.inr rfl,AC ..⟩;have hj2:J (λx=>F1 x\/x=z) (D++MU M j L i) (wB H1 z (.arr 1 (((L++[(i:Int)])++rest').map eI))) (n1+13):=by
     refine G.frame _ _ _ _ _ _ _ hj1 (λx h=>?_) (λx h=>?_) wn zo
     ·grind
     ·exact AA _ _ _ _ (λe=>h (.inr e.symm))
    have hbx:∀c cs,F c->AD H c=some (.box cs)->AD (wB H1 z (.arr 1 (((L++[(i:Int)])++rest').map eI))) c=some (.box cs):=λc cs hc hb=>by
     have s8:z≠c:=λe=>by
      subst e;rcases hz with rfl|⟨h,-⟩
      ·have:=f3 _ (f1 _ hc);omega
      ·exact hnr _ _ hb (by rw[h];rfl)
     rw[AA _ _ _ _ s8,kp1 c hc (hnr c cs hb)];exact hb
    have hF2:∀x,(F1 x\/x=z)->x<n1+13:=λx h=>by
     rcases h with h|rfl
     ·have:=f3 x h;omega
     ·exact hzn
    refine(Zh G hM hn cn cy cm cg j (L++[(i:Int)]) _ (λx=>F1 x\/x=z) (D++MU M j L i) _ (n1+13) hL' hg2 hj2 hF2
     ⟨.inl (f1 _ k1),.inl (f1 _ k2),.inl (f1 _ k3),.inl (f1 _ k4),hbx _ _ k1 bn,hbx _ _ k2 yE,hbx _ _ k3 bm,hbx _ _ k4 bg⟩ hpre).mono ?_
    rintro o H3 n3 (⟨rfl,F3,g1,g2,g3,hj3,gv3,kp3,hm3⟩|⟨rfl,hS⟩)
    ·simp only[eZ,seval,sa,Vu,sa,e];refine .mk ⟨i+1,F3,H3,n3⟩ rfl ⟨e9,λx h=>g1 x (.inl (f1 x h)),λx h=>?_,g3,by simp only[hsu];rw[<-te];exact hj3,?_,λx h s8=>?_,zp⟩ zp
     ·grind
     ·rcases gv1 with⟨h1,h2⟩|⟨id1,rest1,h1,h2,h3⟩
      ·exact .inl ⟨h1,h2⟩
      ·right;by_cases hzz:z=id1
       ·subst hzz;rcases hz with hz|⟨hz,-⟩
        ·have:=f3 z h2;omega
        ·rcases gv3 with⟨h4,-⟩|⟨id3,rest3,h4,h5,h6⟩
         ·cases h4
         ·simp only[Fs.ref.injEq]at h4;obtain⟨rfl,-,-,-,h7⟩:=h4;rw[h1]at hz;simp only[Fs.ref.injEq]at hz;refine⟨z,(i:Int)::rest3,?_,h5,?_⟩
          ·rw[h1];simp only[sH,sM,tI]at h7⊢;congr 1;omega
          ·rw[h6];simp
       ·refine⟨id1,rest1,h1,g1 _ (.inl h2),?_⟩;rw[kp3 id1 (.inl h2) (λe=>hzz (Option.some.inj e)),AA _ _ _ _ hzz];exact h3
     ·have hxz:z≠x:=λe=>by
       subst e;rcases hz with rfl|⟨hz,-⟩
       ·have:=f3 _ (f1 _ h);omega
       ·exact s8 (by rw[hz];rfl)
      rw[kp3 x (.inl (f1 x h)) (λe=>hxz (Option.some.inj e)),AA _ _ _ _ hxz];exact kp1 x h s8
    ·simp only[eZ,seval,se,Vu,se];exact .inr ⟨rfl,hS⟩
theorem Vw{l':Nat}{J:(Nat->Prop)->List (List Int)->AB->Nat->Prop}{S:AB->Nat->Prop}{M:Nat}(G:Gen (EP M n) l' J S)(hM:M<=1000)(hn:n<=1000){cn cm:Nat}
  (hJ:J F [] H m) (hF:∀i,F i->i<m) (fn:F cn) (fm:F cm) (bn:AD H cn=some (.box [.int .i64 n])) (bm:AD H cm=some (.box [.int .i64 M])):
  AX prog 131 [.fn (.yield l') [] [],.ptr cn 0,.ptr cm 0] H m λo H' m'=>o= .ret (.wJ [])/\((∃F':Nat->Prop,(∀i,F i->F' i)/\(∀i,F' i->F i\/m<=i)/\J F' (EP M n) H' m')\/S H' m'):=by
 have hf:=G.fr _ _ _ _ hJ;have x1:=hf.lt bn;have x2:=hf.lt bm;refine c131.a (AI AH.wD (AJ ?_));simp only[eE,eN,seval,c131,OZ hf,Bq hf,AW];have wn:AO (wB (wB H m (.box [.fn (.yield l') [] []])) (m+1) (.box [.fn (.func 132) [] [.ptr cn 0,.ptr m 0,.ptr cm 0,.ptr (m+1) 0]])) (m+2):=(hf.wB (m:=m+2) zo zo).wB (sj _) zo;have hj2:=G.frame F (λx=>F x\/x=m\/x=m+1) [] H _ m (m+2) hJ (λx h=>by
  rcases h with h|h|h
  ·exact .inl h
  ·exact .inr zo
  ·exact .inr zo) (λx h=>by
   rw[AA _ _ _ _ (λe=>h (.inr (.inr e.symm))),AA _ _ _ _ (λe=>h (.inr (.inl e.symm)))]) wn zo
 refine(Zh G hM hn cn m cm (m+1) n [] (.sl .nil []) (λx=>F x\/x=m\/x=m+1) [] _ (m+2) zw (.inl ⟨rfl,rfl⟩) hj2 (λx h=>by
  rcases h with h|h|h
  ·have:=hF x h;omega
  ·omega
  ·omega) ⟨.inl fn,.inr (.inl rfl),.inl fm,.inr (.inr rfl),?_,?_,?_,AC ..⟩ (List.prefix_refl _)).mono ?_
 ·grind [AA]
 ·rw[AA _ _ _ _ zo,AC]
 ·grind [AA]
 rintro o H' m' (⟨rfl,F',g1,g2,-,hj,-⟩|⟨rfl,hS⟩)
 ·simp only[eE,eN,BL];exact .inl ⟨F',λx h=>g1 x (.inl h),λx h=>by
   rcases g2 x h with(h|h|h)|h
   ·exact .inl h
   ·exact .inr zo
   ·exact .inr zo
   ·exact .inr zo,hj⟩
 ·simp only[eE,eN,BL];exact .inr hS
theorem Lp{M n:Int}(hf:AO H m):AX prog 83 [.int .i64 M,.int .i64 n] H m λo H' m'=>o= .ret (.fn (.func 131) [] [.ptr (m+1) 0,.ptr m 0])/\H'=wB (wB H m (.box [.int .i64 M])) (m+1) (.box [.int .i64 n])/\m'=m+3:=by
 refine c83.a (AI AH.wD (AJ ?_));simp only[eE,eN,seval,c83,OZ hf,Bq hf]
theorem NF(m:Nat):∀n,(Kb m n).length<=m^n
 |0=>by simp [Kb]
 |n+1=>by
  have ih:=NF m n;rw[Kb];have key:∀l:List (List Int),(l.flatMap λl=>(MN m l).map λs=>l++[s]).length<=l.length*m:=by
   intro l;induction l with
   |nil=>simp
   |cons x l ih=>
    rw[uU,sH,ry,sM];have:(MN m x).length<=m:=by
     refine sX (tN ..) ?_;unfold CP;simp
    rw[tA];omega
  refine sX (key _) ?_;rw[Nat.pow_succ];exact tT _ ih
theorem Iy(m n:Nat):(EP m n).length<=m^n:=by rw[Mr];exact NF m n
end
abbrev clC(q1 q2:Nat):Fs:=.fn (.func 131) [] [.ptr q1 0,.ptr q2 0]
abbrev PI(f:Fs)(c:Nat):List (Nat×Bool×Fs):=[(2,true,.ptr c 0),(4,true,.sl .nil []),(6,true,f)]
structure AppL(f:Fs)(c L l':Nat)(F:Nat->Prop)(D:List (List Int))(H:AB)(m:Nat):Prop where
 fr:AO H m
 cl:c<L
 lm:L<m
 nc:¬F c
 nL:¬F L
 hc:∃tl E,AD H c=some (.box [.sl tl E])/\zn E (D.map Aj)/\C8 1 (L+1) H tl/\(tl.esz=1\/E=[])/\∀id e,tl= .own id e->¬F id
 hL:AD H L=some (.lp ⟨l',.ready,none,13,PI f c, #[7],Gh,Gi⟩)
def Zi{A:List (List Int)}{f:Fs}{c L l':Nat}(hA:A.length<=1000000000):Gen A l' (AppL f c L l') (λ_ _=>False) where
 fr:=λF D H m h=>h.fr
 frame:=by
  rintro F F' D H H' m m' ⟨fr,cl,lm,nc,nL,⟨tl,E,hc,hE,ht,hz,s5⟩,hL⟩ hF hH hf hm;have n1:∀i,i<m->¬F i->¬F' i:=λi hi h h'=>(hF i h').elim h (λq=>zo)
  refine⟨hf,cl,zo,n1 _ zo nc,n1 _ zo nL,⟨tl,E,by rw[hH _ (n1 _ zo nc)];exact hc,hE,?_,hz,λid e he=>?_⟩,by rw[hH _ (n1 _ zo nL)];exact hL⟩
  ·rcases ht with rfl|rfl|⟨id,rfl,h1,h2⟩
   ·exact .inl rfl
   ·exact .inr (.inl rfl)
   ·exact .inr (.inr ⟨id,rfl,h1,by rw[hH _ (n1 _ (fr.lt h2) (s5 _ _ rfl))];exact h2⟩)
  ·subst he;rcases ht with h|h|⟨yU,h,h1,h2⟩
   ·cases h
   ·cases h
   ·obtain⟨rfl,rfl⟩:id=yU/\e=1:=by injection h with a b;exact⟨a,b⟩
    exact n1 _ (fr.lt h2) (s5 _ _ rfl)
 yld:=by
  rintro F D x H m R ⟨fr,cl,lm,nc,nL,⟨tl,E,hc,hE,ht,hz,s5⟩,hL⟩ hF hA' hR -;have hlen:D.length<1000000000:=by
   obtain⟨t,rfl⟩:=hA';simp at hA;omega
  have hEl:E.length=D.length:=by have:=hE.len;rw[ry]at this;exact this
  refine qb hL rfl (AI AH.wD (AJ ?_));simp only[eE,eN,seval,RD,Gv,uI,uT,ug,vn];refine⟨_,hL,rfl,AI AH.wD (AJ ?_)⟩;have y1:∀k,(L=m+k)=False:=λk=>sb zo
  have y2:(L=c)=False:=sb zo;have y3:(c=L)=False:=sb zo;have ht':C8 1 (L+1) (wB H L (.lp ⟨l',.busy,none,13,PI f c, #[7],Gh,Gi⟩)) tl:=ht.set (.inl zo);have hf':AO (wB H L (.lp ⟨l',.busy,none,13,PI f c, #[7],Gh,Gi⟩)) m:=fr.wB (sj _) lm;generalize yA:wB H L (.lp ⟨l',.busy,none,13,PI f c, #[7],Gh,Gi⟩)=H1 at ht' hf'⊢;have hc1:AD H1 c=some (.box [.sl tl E]):=by rw[<-yA,AA _ _ _ _ zo];exact hc
  have hL1:AD H1 L=some (.lp ⟨l',.busy,none,13,PI f c, #[7],Gh,Gi⟩):=by rw[<-yA,AC]
  have hk1:∀i,i≠L->AD H1 i=AD H i:=λi hi=>by rw[<-yA,AA _ _ _ _ hi.symm]
  clear yA;have q1:BB H1 1 tl=True:=r9 ht'.app;have q2:(E.length<=35184372088831)=True:=r9 zo;have q3:Al (E.length+1) 24=True:=r9 (Ae zo zd);have y4:(m+3=c)=False:=sb zo;have y5:(m+3=L)=False:=sb zo;have kL:AD (AU H1 tl) L=AD H1 L:=Ac ht' (.inl zo);have kc:AD (AU H1 tl) c=AD H1 c:=Ac ht' (.inl zo);simp only[eE,eN,seval,RB,hc1,y4,q1,q2,q3,Bq hf',kc];have ef:=hf'.lt hc1;refine⟨⟨l',.busy,none,13,PI f c, #[7],Gh,Gi⟩,by simp only[AT,y3,y5,sY];rw[kL,hL1],hR _ _ ⟨?_,cl,zp,nc,nL,⟨.own (m+3) 1,E++[Aj x],?_,?_,.inr (.inr ⟨m+3,rfl,zo,?_⟩),.inl rfl,?_⟩,by simp only[AT,tD]⟩ ?_ zp⟩
  ·refine AO.wB (AO.wB (AO.wB (Ab ht' hf') ?_ ?_) (sj _) ?_) (sj _) ?_<;>simp only[]<;>omega
  ·simp only[AT,y2,sY,tD]
  ·rw[su];exact hE.app (.cons (Wk.refl _) .nil)
  ·simp_all [AT]<;>omega
  ·rintro id e he hFi;cases he;have:=hF _ hFi;omega
  ·intro i hi;have xo:=hF _ hi;have h1:L≠i:=λe=>nL (e▸hi)
   have h2:c≠i:=λe=>nc (e▸hi)
   simp only[AT];rw[sg h1,sg h2,sg zo];have hk:AD (AU H1 tl) i=AD H1 i:=by
    rcases ht' with rfl|rfl|⟨id,rfl,-,-⟩
    ·rfl
    ·rfl
    ·simp only[AU];exact AA _ _ _ _ λe=>s5 _ _ rfl (e▸hi)
   rw[hk,hk1 i (Ne.symm h1)]
def fC{H:AB}{m cm cn:Nat}{M n:Nat}(hf:AO H m)(hM:M<=1000)(hn:n<=1000)(hA:M^n<=1000000000)(bn:AD H cn=some (.box [.int .i64 n]))(bm:AD H cm=some (.box [.int .i64 M])):
  AX prog 130 [.sl .nil [],clC cn cm] H m λo H' m'=>∃tl E,o= .ret (.sl tl E)/\zn E ((EP M n).map Aj)/\(tl.esz=1\/E=[]):=by
 have x1:=hf.lt bn;have x2:=hf.lt bm;refine a130 (AI AH.wD (AJ ?_));simp only[eE,eN,seval,c130,OZ hf,GE];intro l';generalize yA:wB (wB H m (.box [.sl .nil []])) (m+2) _=H1;have k1:∀i,i≠m->i≠m+2->AD H1 i=AD H i:=λi h1 h2=>by
  rw[<-yA,AA _ _ _ _ h2.symm,AA _ _ _ _ h1.symm]
 have hJ:AppL (clC cn cm) m (m+2) l' (λi=>i=cn\/i=cm) [] H1 (m+3):=by
  refine⟨λj hj=>by rw[k1 j zo zo];exact hf j zo,zo,zo,λh=>zo,λh=>zo,⟨.nil,[],?_,.nil,.inl rfl,.inr rfl,λ_ _ e=>by cases e⟩,?_⟩
  ·rw[<-yA,AA _ _ _ _ zo,AC]
  ·rw[<-yA,AC]
 refine(Vw (Zi (A:=EP M n) (sX (Iy M n) hA)) hM hn hJ (λi h=>zo) (.inl rfl) (.inr rfl) (by rw[k1 cn zo zo];exact bn) (by rw[k1 cm zo zo];exact bm)).mono ?_;rintro o H' m' ⟨rfl,⟨F',-,hF,hj⟩|hF⟩
 ·obtain⟨fr,cl,lm,nc,nL,⟨tl,E,hc,hE,ht,hz,-⟩,hL⟩:=hj;have y1:(m+2=m)=False:=sb zo;simp only[eE,eN,seval,GD,hL,hc,y1];exact⟨tl,E,rfl,hE,hz⟩
 ·exact hF.elim
def fD{H:AB}{m cm cn:Nat}{M n:Nat}(hf:AO H m)(hM:M<=1000)(hn:n<=1000)(hA:M^n<=1000000000)(bn:AD H cn=some (.box [.int .i64 n]))(bm:AD H cm=some (.box [.int .i64 M])):
  AX prog 82 [clC cn cm] H m λo H' m'=>∃tl E,o= .ret (.sl tl E)/\zn E ((EP M n).map Aj)/\(tl.esz=1\/E=[]):=by
 refine c82.a (AI AH.wD (AJ ?_));simp only[eE,eN,seval,c82];refine(fC hf hM hn hA bn bm).mono ?_;rintro o H' n' ⟨tl,E,rfl,h1,h2⟩;simp only[eE,eN,seval,BL];exact⟨tl,E,rfl,h1,h2⟩
def BZ{k:zx}(h:BE k=0):0<k.d.wE.length/\k.d.wE.length<=16:=by
 have h1:JL k=true:=by
  unfold BE at h;split at h
  ·assumption
  ·cases h
 obtain⟨x,cells,-,h3,-,h4⟩:=Mz (Rr h1);have h5:k.d=x:=by rw[h4];rfl
 rw[<-h5]at h3;unfold Dt at h3;split at h3
 ·cases h3
 ·simp_all [KV,sf,si]
def CV(k:zx)(n:Int):Fs:=if BE k≠0 then .wJ [.sl .nil [],.int .i64 (BE k)]else if n<0\/3<n then .wJ [.sl .nil [],.int .i64 1]else .wJ [.sl (.none 1) ((EP k.d.wE.length n.toNat).map Aj),.int .i64 0]
def rj:Bg:=AF 43 (s1 CQ (λk=>zy k.d) λk=>.int .i64 (BE k)) wD
def Zj:AH prog rj:=AH.wD.add (q1 λk h=>p43 k h)
def p46(k:zx)(n:Int)(h1:zy k.d):Av prog 46 [BA k,.int .i64 n] (CV k n):=by
 have u1:CQ.ok (.agg (AG k))=True:=Ce k;have u2:CQ.dec (.agg (AG k))=k:=Bx k;simp only[AG,AE,AL,sJ,sI]at u1 u2;refine .mk ⟨Am 0 k,zt,zt⟩ ?_ (c46.a (AI Zj (AJ ?_)))
 ·unfold CV;split
  ·exact⟨⟨zt,zt⟩,zt,zt⟩
  ·split
   ·exact⟨⟨zt,zt⟩,zt,zt⟩
   ·exact⟨⟨zt,BW (λl=>AV 0 l) _⟩,zt,zt⟩
 unfold CV;by_cases hk:BE k=0;case neg=>simp only[eZ,seval,se,c46,AG,AE,AL,rj,s1,u1,u2,r9 h1,sb hk,AF];exact Wk.refl _
 by_cases hn0:n<0
 ·simp only[eZ,seval,sa,c46,AG,AE,AL,rj,s1,u1,u2,r9 h1,r9 hk,r9 hn0,AF];exact Wk.refl _
 by_cases hn3:3<n
 ·simp only[eZ,seval,sa,c46,AG,AE,AL,rj,s1,u1,u2,r9 h1,r9 hk,sb hn0,r9 hn3,AF];exact Wk.refl _
 obtain⟨n',rfl⟩:=ur (Int.not_lt.1 hn0);have hsy:=BZ hk;simp only[eZ,seval,sa,eY,c46,AG,AE,AL,rj,s1,u1,u2,r9 h1,r9 hk,sb hn0,sb hn3,AF];generalize hH:wB Ak 0 (x9.box _)=H;have hf:AO H 3:=by rw[<-hH];exact AO.nil.wB (m:=3) (sk _) zd
 refine(Lp (M:=k.d.wE.length) (n:=n') hf).mono ?_;rintro o H1 n1 ⟨rfl,rfl,rfl⟩;simp only[eE,seval,BL];have hpow:k.d.wE.length^n'<=1000000000:=by
  refine sX (uW hsy.2 n') (sX (uS zd (show n'<=3 by omega)) zd)
 refine(fD (M:=k.d.wE.length) (n:=n') ((hf.wB (m:=6) zo zo).wB (sj _) zo) zo zo hpow (AC ..) (by rw[AA _ _ _ _ zo,AC])).mono ?_;rintro o H2 n2 ⟨tl,E,rfl,hE,hz⟩;simp only[eE,eN,seval,BL];exact Wk.wJ (.cons (Wk.yY hz hE) (.cons (Wk.refl _) .nil))
end Go.AM
