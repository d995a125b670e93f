/-
  The library: the keys of a map from numbers to lists, collected and sorted · The program's grids: lines · The program's .
  Conditions: none beyond those of its parts.
-/
import Derived.Test.YtncahiacfdihpaaGreatDoorB12
import Derived.Test.YtncahiacfdihpaaGreatDoorB7
import Derived.Test.YtncahiacfdihpaaGreatDoorB9
import Derived.Test.YtncahiacfdihpaaGreatDoorB11

set_option maxRecDepth 20000
set_option linter.all false
namespace Go.AM
open Go.Proofs Go.Lib
abbrev clM(q:Nat):AVal:=.fn (.func 292) [] [.ptr q 0]
abbrev eApM(q c:Nat):List (Nat×Bool×AVal):=[(2,true,.ptr c 0),(4,true,.sl .nil []),(6,true,clM q)]
structure ApM(q c L l':Nat)(H0:AB)(n0:Nat)(qs:List Int)(H:AB)(m:Nat):Prop where
 fr:AN H m
 lc:n0<=c
 cl:c<L
 lm:L<m
 hc:∃lv,hget H c=some (.box [lv])/\LvG eI 1 (L+1) H lv qs
 hL:hget H L=some (.lp ⟨l',.ready,none,13,eApM q c, #[7],Dr,Ds⟩)
 kp:∀id ob,id<n0->hget H0 id=some ob->hget H id=some ob
theorem y_apM{q c L l':Nat}{H0:AB}{n0:Nat}{qs:List Int}{H:AB}{m:Nat}(F:ApM q c L l' H0 n0 qs H m)(x:Int)(hs:qs.length<1000000000){R:Bool->AB->Nat->Prop}
  (hR:∀H' m',ApM q c L l' H0 n0 (qs++[x]) H' m'->(∀j ob,j<m->j≠c->j≠L->(∀e Z,ob≠ .arr e Z)->hget H j=some ob->hget H' j=some ob)->m<=m'->R true H' m'):BK Tryz.prog l' [eI x] H m R:=by
 obtain⟨fr,lc,cl,lm,⟨lv,hc,hlv⟩,hL,kp⟩:=F
 refine S1 hL rfl (AE AH.tnil (AF ?_))
 simp only[eE,eN,Nat.reduceEqDiff,↓reduceIte,Ir,renv,WS,WW,Wg,Xa]
 refine⟨_,hL,rfl,AE AH.tnil (AF ?_)⟩
 have y1:∀k,(L=m+k)=False:=λk=>Vd (by omega)
 have y2:(L=c)=False:=Vd (by omega)
 have y3:(c=L)=False:=Vd (by omega)
 simp only[eE,reduceCtorEq,Nat.reduceEqDiff,↓reduceIte,Nat.reduceLeDiff,Nat.reduceMul,Nat.reduceLT,Iq,hc,y2]
 have g1:∀k,hget (hset H L (.lp ⟨l',.busy,none,13,eApM q c, #[7],Dr,Ds⟩)) (m+k)=none:=λk=>by rw[AA _ _ _ _ (by omega)];exact fr1 fr k
 refine LR (enc:=eI) (lo:=L+1) (qs:=qs) (z0:=0) ?_ rfl (by decide) rfl rfl (AX (by omega) (by decide)) (g1 3) (by omega) (by omega) ?_
 ·rcases hlv with h|⟨hne,id,rest,h1,h2,h3⟩
  ·exact .inl h
  ·exact .inr ⟨hne,id,rest,h1,h2,by rw[AA _ _ _ _ (by omega)];exact h3⟩
 intro id rest hlo hid
 have hidm:id<m+5:=by
  rcases hid with rfl|⟨Z,h⟩
  ·omega
  ·apply Classical.byContradiction
   intro z
   obtain⟨k,rfl⟩:∃k,id=m+k:=⟨id-m,by omega⟩
   rw[g1]at h;cases h
 have hida:∀j ob,j<m->j≠L->(∀e Z,ob≠ .arr e Z)->hget H j=some ob->j≠id:=by grind [AA]
 have z1:(id=L)=False:=Vd (by omega)
 have z2:(id=c)=False:=Vd (by omega)
 have z3:(L=id)=False:=Vd (by omega)
 have z4:(c=id)=False:=Vd (by omega)
 have hidn:¬id<n0:=by omega
 simp only[eE,eN,Nat.reduceEqDiff,↓reduceIte,DY,z2,y2,hc]
 refine⟨⟨l',.busy,none,13,eApM q c, #[7],Dr,Ds⟩,by simp only[AD,y3,z1,Vv,Wd],hR _ _ ⟨?_,lc,cl,by simp only[];omega,⟨_,by simp only[AD,y2,Vv,Wd],.inr ⟨by simp,id,rest,rfl,hlo,by simp only[AD,z3,z4,Vv,Wd]⟩⟩,by simp only[AD,Wd],?_⟩ ?_ (VY _ _)⟩
 ·intro j hj
  have hj':m+5<=j:=hj
  simp only[AD];repeat rw[Vb (by omega)]
  exact fr j (by omega)
 ·intro j ob hj h0
  simp only[AD];repeat rw[Vb (by omega)]
  exact kp j ob hj h0
 ·intro j ob hj hjc hjL hob h0
  have:=hida j ob hj hjL hob h0
  simp only[AD];repeat rw[Vb (by omega)]
  exact h0
theorem ApM.it{q c L l':Nat}{H0:AB}{n0:Nat}{qs:List Int}{H:AB}{m it:Nat}{ob ob':AObj}(F:ApM q c L l' H0 n0 qs H m)(h1:n0<=it)(h2:it≠c)(h3:it≠L)(h4:it<m)(h5:hget H it=some ob)(h6:∀e Z,ob≠ .arr e Z):ApM q c L l' H0 n0 qs (hset H it ob') m:=by
 obtain⟨fr,lc,cl,lm,⟨lv,hc,hlv⟩,hL,kp⟩:=F
 refine⟨fr.hset (V9 _) h4,lc,cl,lm,⟨lv,by rw[AA _ _ _ _ h2];exact hc,?_⟩,by rw[AA _ _ _ _ h3];exact hL,λj o hj h0=>by rw[AA _ _ _ _ (by omega)];exact kp j o hj h0⟩
 rcases hlv with h|⟨hne,id,rest,k1,k2,k3⟩
 ·exact .inl h
 ·exact .inr ⟨hne,id,rest,k1,k2,by rw[AA _ _ _ _ (λe=>by subst e;rw[h5]at k3;cases k3;exact h6 _ _ rfl)];exact k3⟩
theorem F8{α:Type}[DecidableEq α]:∀{a b:List α},a.Nodup->(∀x∈a,x∈b)->a.length<=b.length
 |[],_,_,_=>Vi _
 |x::a,b,hn,h=>by
  rw[WQ]at hn
  have hx:=h x (VK ..)
  have:=F8 (b:=b.erase x) hn.2 λy hy=>(List.mem_erase_of_ne (λe=>hn.1 (by rw[<-e];exact hy))).2 (h y (W9 _ hy))
  rw[List.length_erase_of_mem hx]at this
  have:=List.length_pos_of_mem hx
  simp only[Vq];omega
abbrev Ent:=AVal×AVal×Nat
structure EsOK(es:List Ent)(clk:Nat):Prop where
 key:∀e∈es,e.1=eI (toI e.1)
 nd:(es.map (·.2.2)).Nodup
 lt:∀e∈es,e.2.2<clk
def esK(es:List Ent):List Int:=es.map λe=>toI e.1
def KU(es:List Ent)(b:Nat):Int:=match es.find? (λe=>decide (e.2.2=b))with
 |some e=>toI e.1
 |none=>0
theorem OG{es:List Ent}(hn:(es.map (·.2.2)).Nodup){e:Ent}(he:e∈es):es.find? (λx=>decide (x.2.2=e.2.2))=some e:=by
 induction es with
 |nil=>cases he
 |cons x r ih=>grind
theorem OH{es:List Ent}(hn:(es.map (·.2.2)).Nodup){e:Ent}(he:e∈es):M4 e.2.2 es=some (e.1,e.2.1):=by
 induction es with
 |nil=>cases he
 |cons x r ih=>
  obtain⟨k,v,b⟩:=x
  rw[Vs,WQ]at hn
  rw[M4]
  rcases Vz.1 he with rfl|he
  ·rw[Vk rfl]
  ·grind
theorem JA{es:List Ent}{clk:Nat}(h:EsOK es clk){e:Ent}(he:e∈es):e.1=eI (KU es e.2.2):=by
 unfold KU
 rw[OG h.nd he];exact h.key e he
theorem OI{es:List Ent}{clk:Nat}(h:EsOK es clk){seen:List Nat}(hn:seen.Nodup)(hs:∀b∈seen,b∈es.map (·.2.2))(hd:E8 es seen=[]):(seen.map (KU es)).Perm (esK es):=by
 have h1:seen.Perm (es.map (·.2.2)):=(List.perm_ext_iff_of_nodup hn h.nd).2 λb=>⟨hs b,λhb=>by
  obtain⟨e,he,rfl⟩:=W2.1 hb
  apply Classical.byContradiction
  intro hns
  have:e∈E8 es seen:=WJ.2 ⟨he,by simpa using hns⟩
  rw[hd]at this;cases this⟩
 refine(h1.map (KU es)).trans ?_
 rw[Xj]
 have:es.map (KU es∘λx=>x.2.2)=esK es:=W6 λe he=>by
  have:=JA h he
  simp only[Function.comp]
  rw[this];rfl
 rw[this]
theorem Qq{es:List Ent}{seen:List Nat}{e:Ent}(h:e∈E8 es seen):(E8 es (seen++[e.2.2])).length<(E8 es seen).length:=by
 have e1:E8 es (seen++[e.2.2])=(E8 es seen).filter λx=>decide (x.2.2≠e.2.2):=by grind [E8,List.filter_filter]
 rw[e1,List.length_filter_lt_length_iff_exists]
 exact⟨e,h,by simp⟩
structure VKm where
 seen:List Nat
 H:AB
 n:Nat
structure IKm(es:List Ent)(clk q n mp l':Nat)(H:AB)(v:VKm):Prop where
 F:ApM q n (n+2) l' H n (v.seen.map (KU es)) v.H v.n
 it:hget v.H (n+4)=some (.mit mp clk v.seen clk)
 lt:n+4<v.n
 nd:v.seen.Nodup
 rg:∀b∈v.seen,b∈es.map (·.2.2)
theorem t_apM{H:AB}{n q mp clk:Nat}{es:List Ent}(ho:EsOK es clk)(hl:es.length<1000000)(hf:AN H n)(hq:hget H q=some (.box [.mp mp]))(hm:hget H mp=some (.map es clk)):
  AI Tryz.prog 303 [.sl .nil [],clM q] H n λo H' n'=>∃lv qs,o= .ret lv/\qs.Perm (esK es)/\LvG eI 1 (n+3) H' lv qs/\AN H' n'/\n<=n'/\∀id ob,id<n->hget H id=some ob->hget H' id=some ob:=by
 have hqn:=hf.lt hq
 have hmn:=hf.lt hm
 refine a303 (AE AH.tnil (AF ?_))
 simp only[eE,eN,reduceCtorEq,Nat.reduceEqDiff,↓reduceIte,Nat.reduceAdd,c303,fr0 hf,ES]
 intro l'
 generalize hH1:hset (hset H n (.box [.sl .nil []])) (n+2) _=H1
 have F0:ApM q n (n+2) l' H n [] H1 (n+3):=by
  subst hH1
  refine⟨λj hj=>?_,V9 _,by omega,by omega,⟨.sl .nil [],?_,.inl ⟨rfl,rfl⟩⟩,AC ..,λj ob hj h0=>?_⟩
  ·simp only[AD];repeat rw[Vb (by omega)]
   exact hf j (by omega)
  ·simp only[AD];rw[Vb (by omega),Vk trivial]
  ·simp only[AD];repeat rw[Vb (by omega)]
   exact h0
 have hc0:hget H1 n=some (.box [.sl .nil []]):=by
  subst hH1
  simp only[AD];rw[Vb (by omega),Vk trivial]
 clear hH1
 have hq1:=F0.kp q _ hqn hq
 have hm1:=F0.kp mp _ hmn hm
 have hfn:=fr1 F0.fr
 refine a292 (AE AH.tnil (AF ?_))
 simp only[eE,eN,reduceCtorEq,↓reduceIte,Nat.reduceAdd,xE,c292,hq1,hm1]
 refine⟨hfn 1,?_⟩
 refine AU (λv:VKm=>⟨[(0,true,.fn (.yield l') [] []),(5,true,.ptr (n+4) 0)],v.H,v.n⟩) (IKm es clk q n mp l' H) (λv=>(E8 es v.seen).length) ⟨[],hset H1 (n+4) (.mit mp clk [] clk),n+5⟩ rfl
  ⟨⟨F0.fr.hset (m:=n+5) (by omega) (by omega),V9 _,by omega,by simp only[];omega,⟨.sl .nil [],by rw[AA _ _ _ _ (by omega)];exact hc0,.inl ⟨rfl,rfl⟩⟩,by rw[AA _ _ _ _ (by omega)];exact F0.hL,λj o hj h0=>by rw[AA _ _ _ _ (by omega)];exact F0.kp j o hj h0⟩,AC ..,by simp only[];omega,Xy,λb hb=>(by cases hb)⟩ ?_
 rintro⟨seen,H2,m⟩ ⟨F,hit,hlt,hnd,hrg⟩
 simp only at F hit hlt hnd hrg
 have hsl:seen.length<=es.length:=by
  have:=F8 hnd hrg
  simpa using this
 have hm2:=F.kp mp _ hmn hm
 have hq2:=F.kp q _ hqn hq
 simp only[eE,eC,reduceCtorEq,↓reduceIte]
 rw[UQ hit hm2]
 refine⟨V9 _,λe he=>ho.lt e he,λhnil=>?_,λe he=>?_⟩
 ·have hp:=OI ho hnd hrg hnil
  obtain⟨fr,lc,cl,lm,⟨lv,hc,hlv⟩,hL,kp⟩:=F
  have y1:(n+2=n)=False:=Vd (by omega)
  simp only[eE,eC,eN,reduceCtorEq,Nat.reduceEqDiff,↓reduceIte,Nat.reduceLT,V1,Va,ER,hL,hc,y1]
  refine⟨lv,_,rfl,hp,?_,fr.hset (V9 m) (show n+2<m by omega),by omega,λid ob hid h0=>by rw[Vb (by omega)];exact kp id ob hid h0⟩
  rcases hlv with h|⟨hne,id,rest,h1,h2,h3⟩
  ·exact .inl h
  ·exact .inr ⟨hne,id,rest,h1,h2,by rw[AA _ _ _ _ (by omega)];exact h3⟩
 ·obtain⟨he1,he2⟩:=WJ.1 he
  have b2:=JA ho he1
  have b3:=OH ho.nd he1
  have hns:e.2.2∉seen:=by simpa using he2
  have hst:JT (hset H2 (n+4) (.mit mp clk (seen++[e.2.2]) clk)) mp (seen++[e.2.2])=some (e.1,e.2.1):=by grind [JT,AA,List.getLast?_concat]
  have y0:(n+4=mp)=False:=Vd (by omega)
  simp only[eE,eC,eN,reduceCtorEq,Nat.reduceEqDiff,↓reduceIte,Nat.reduceAdd,Nat.reduceLT,xE,V1,Va,y0,hm2,hst,b2]
  refine y_apM (F.it (by omega) (by omega) (by omega) hlt hit (by simp)) (KU es e.2.2) (by rw[V0];omega) λH' m' F' hk hmm=>?_
  simp only[eE,eC,eN,reduceCtorEq,Nat.reduceEqDiff,↓reduceIte,V8,yldK]
  refine⟨⟨seen++[e.2.2],H',m'⟩,.inr ⟨?_,.inl ⟨rfl,rfl⟩⟩,⟨by simp only[Vl,Vs,VP];exact F',hk _ _ hlt (by omega) (by omega) (by simp) (AC ..),by simp only[];omega,?_,λb hb=>?_⟩,Qq he⟩
  ·exact⟨⟨_,rfl,Wk.refl _⟩,⟨_,rfl,Wk.refl _⟩,trivial⟩
  ·grind
  ·grind
theorem TT{H:AB}{n q mp clk:Nat}{es:List Ent}(ho:EsOK es clk)(hl:es.length<1000000)(hf:AN H n)(hq:hget H q=some (.box [.mp mp]))(hm:hget H mp=some (.map es clk)):
  AI Tryz.prog 277 [clM q] H n λo H' n'=>∃lv qs,o= .ret lv/\qs.Perm (esK es)/\LvG eI 1 (n+3) H' lv qs/\AN H' n'/\n<=n'/\∀id ob,id<n->hget H id=some ob->hget H' id=some ob:=by
 refine a277 (AE AH.tnil (AF ?_))
 simp only[eE,eN,reduceCtorEq,↓reduceIte,c277]
 refine(t_apM ho hl hf hq hm).mono ?_
 rintro o H' n' ⟨lv,qs,rfl,h1,h2,h3,h4,h5⟩
 simp only[eE,eN,↓reduceIte,retK]
 exact⟨lv,qs,rfl,h1,h2,h3,h4,h5⟩
theorem OJ{a b:List Int}(h:a.Perm b):a.mergeSort leI=b.mergeSort leI:=by
 refine List.Perm.eq_of_pairwise (le:=λx y=>x<=y) (λx y _ _ h k=>by omega) (Et a) (Et b) ?_
 exact(WP a leI).trans (h.trans (WP b leI).symm)
theorem t_srtM{H:AB}{n q mp clk:Nat}{es:List Ent}(ho:EsOK es clk)(hl:es.length<1000000)(hf:AN H n)(hq:hget H q=some (.box [.mp mp]))(hm:hget H mp=some (.map es clk)):
  AI Tryz.prog 242 [clM q] H n (QRet H (eIs ((esK es).mergeSort leI))):=by
 have hel:(esK es).length=es.length:=V0 ..
 refine AI.out (AI.seal (R:=SrA (.arr 1) H (esK es)) (R':=SrA (.frz 1) H (esK es)) (a242 (AE AH.tnil (AF ?_))) ?_) ?_
 ·simp only[eE,eN,reduceCtorEq,↓reduceIte,c242]
  refine(TT ho hl hf hq hm).mono ?_
  rintro o H1 n1 ⟨lv,qs,rfl,hp,hlv,hf1,hn1,hk⟩
  simp only[eE,eN,↓reduceIte,retK]
  have hK:BR H H1:=λid ob h0=>hk id ob (hf.lt h0) h0
  have hql:=hp.length_eq
  rcases hlv with⟨rfl,rfl⟩|⟨hne,id,rest,rfl,h2,h3⟩
  ·refine KR.mono ?_
   rintro o H2 n2 ⟨rfl,rfl,rfl⟩
   simp only[eE,eN,Nat.reduceEqDiff,↓reduceIte,retK]
   exact⟨hK,.inl ⟨hp.nil_eq.symm,rfl⟩⟩
  ·refine(MW h3 (by simp) (by omega)).mono ?_
   rintro o H2 n2 ⟨rfl,rfl,rfl⟩
   rw[Xn,List.drop_left]
   simp only[eE,eN,Nat.reduceEqDiff,↓reduceIte,retK]
   refine⟨λi ob h0=>?_,.inr ⟨λe=>hne (VR (by rw[hql,e];rfl)),id,rest,by rw[hql],hf _ (by omega),by rw[AC,OJ hp]⟩⟩
   rw[AA _ _ _ _ (λe=>by subst e;rw[hf _ (by omega)]at h0;cases h0)];exact hK i ob h0
 ·rintro o H' n' ⟨hK,h⟩
  rcases h with h|⟨hne,id,rest,h1,h2,h3⟩
  ·exact .inl ⟨hK,.inl h⟩
  ·refine .inr ⟨id,1,_,h3,λi ob h0=>?_,.inr ⟨hne,id,rest,h1,h2,AC ..⟩⟩
   rw[AA _ _ _ _ (λe=>by subst e;rw[h2]at h0;cases h0)];exact hK i ob h0
 ·rintro o H' n' ⟨hK,h⟩
  refine⟨.ret (eIs ((esK es).mergeSort leI)),⟨⟨_,rfl,Wk.refl _⟩,hK⟩,λg w e hR he=>?_⟩
  have hL:∃lv,o= .ret lv/\LF 1 lv H' (((esK es).mergeSort leI).map eI):=by
   rcases h with⟨h0,rfl⟩|⟨hz,id,rest,rfl,h2,h3⟩
   ·exact⟨_,rfl,.inl ⟨by rw[h0,List.mergeSort_nil];rfl,_,rfl,.inl rfl⟩⟩
   ·refine⟨_,rfl,?_⟩
    have hl2:=CW (esK es)
    refine .inr ⟨λq=>hz (by rw[List.map_eq_nil_iff]at q;rw[q]at hl2;exact WA.1 hl2.symm),id,(esK es).length+rest.length,rest.map eI,by rw[V0,hl2],by rw[h3,Vl],by simp [hl2]⟩
  obtain⟨lv,rfl,hL⟩:=hL
  cases e with
  |returned v=>exact Hy hL hR he
  |panicked c=>exact he.elim
  |outgrown=>exact he.elim
theorem TU{H:AB}{n mp:Nat}(hf:AN H n):AI Tryz.prog 254 [.mp mp] H n λo H' n'=>o= .ret (clM n)/\H'=hset H n (.box [.mp mp])/\n'=n+2:=by
 refine a254 (AE AH.tnil (AF ?_))
 simp only[eE,eN,Nat.reduceEqDiff,↓reduceIte,c254,fr0 hf]
end Go.AM
namespace Go.AM
open Go.Proofs Go.Lib
theorem OK:∀{es:List Ent},C3 (.int .i64) es->∀e∈es,e.1=eI (toI e.1)
 |[],_,_,h=>by cases h
 |(k,v,b)::r,hf,e,h=>by
  obtain⟨h1,h2⟩:=hf
  rcases Vz.1 h with rfl|h
  ·cases k<;>simp only[KT.is]at h1
   subst h1;rfl
  ·exact OK h2 e h
theorem JB{z:Int}{v:AVal}{c:Nat}:∀{es:List Ent},C3 (.int .i64) es->esK (mset (eI z) v c es)=(if(Aw (eI z) es).isSome=true then esK es else esK es++[z])/\(mset (eI z) v c es).map (λe=>e.2.2)=if(Aw (eI z) es).isSome=true then es.map (λe=>e.2.2)else es.map (λe=>e.2.2)++[c]
 |[],_=>⟨rfl,rfl⟩
 |(k,w,b)::r,hf=>by
  obtain⟨h1,h2⟩:=hf
  have ih:=JB (z:=z) (v:=v) (c:=c) h2
  rw[mset,Aw]
  by_cases q:ceq (eI z) k=true
  ·rw[Vk q,Vk q]
   exact⟨rfl,rfl⟩
  ·rw[Vb q,Vb q]
   refine⟨?_,?_⟩
   ·show toI k::esK (mset (eI z) v c r)=_
    rw[ih.1]
    split<;>rfl
   ·rw[Vs,ih.2]
    split<;>rfl
theorem JC{z:Int}:∀{es:List Ent},C3 (.int .i64) es->((Aw (eI z) es).isSome=true↔z∈esK es)
 |[],_=>by simp [Aw,esK]
 |(k,w,b)::r,hf=>by
  obtain⟨h1,h2⟩:=hf
  have ih:=JC (z:=z) h2
  cases k<;>simp only[KT.is]at h1
  rename_i kk y
  subst h1
  rw[Aw,show esK ((AVal.int .i64 y,w,b)::r)=y::esK r from rfl,Vz]
  by_cases q:z=y
  ·subst q;simp [ceq]
  ·simp only[ceq,q,Xx,Vo,Vv,false_or]
   exact ih
section
variable (g:Grd) (fn:Spot->Option Int)
def lnI(i:Nat)(z:Int):List Int:=idxP i λc=>decide (fn (spC g c)=some z)
theorem Qr{i:Nat}(h:fn (spC g i)=none)(z:Int):lnI g fn (i+1) z=lnI g fn i z:=by
 unfold lnI;rw[Ex,h,Vb (by simp)]
theorem Qs{i:Nat}{z:Int}(h:fn (spC g i)=some z):lnI g fn (i+1) z=lnI g fn i z++[(i:Int)]:=by
 unfold lnI;rw[Ex,h,Vk (by simp)]
theorem lnI_ne{i:Nat}{z w:Int}(h:fn (spC g i)=some z)(hw:w≠z):lnI g fn (i+1) w=lnI g fn i w:=by
 unfold lnI;rw[Ex,h,Vb (by simp;exact λe=>hw e.symm)]
theorem TV(i:Nat)(z:Int):(lnI g fn i z).length<=i:=EA ..
theorem OL(z:Int):lnI g fn g.cells.length z=Bc (AP g.sh g.w g.cells) fn z:=by
 unfold lnI Bc
 rw[Bg]
 refine H8 λc hc=>?_
 rw[FG hc,Option.bind_some]
structure LnE(lo i:Nat)(H:AB)(es:List Ent)(clk:Nat)(tk:Int->Nat):Prop where
 fit:C3 (.int .i64) es
 ok:EsOK es clk
 fnd:∀z,Aw (eI z) es=if lnI g fn i z=[]then none else some (.sl (.own (tk z) 1) ((lnI g fn i z).map eI))
 tok:∀z,lnI g fn i z≠[]->lo<=tk z/\hget H (tk z)=some .tok
 inj:∀z w,lnI g fn i z≠[]->lnI g fn i w≠[]->tk z=tk w->z=w
 knd:(esK es).Nodup
 kmem:∀z,z∈esK es↔lnI g fn i z≠[]
 len:es.length<=i
variable {g fn} {lo i:Nat} {H H':AB} {es:List Ent} {clk:Nat} {tk:Int->Nat}
theorem LnE.skip(h:LnE g fn lo i H es clk tk)(hn:fn (spC g i)=none)(hk:∀z,lnI g fn i z≠[]->hget H' (tk z)=some .tok):LnE g fn lo (i+1) H' es clk tk:=by
 obtain⟨h1,h2,h3,h4,h5,h6,h7,h8⟩:=h
 have e:=Qr g fn hn
 exact⟨h1,h2,λz=>by rw[e];exact h3 z,λz hz=>by rw[e]at hz;exact⟨(h4 z hz).1,hk z hz⟩,λz w hz hw=>by rw[e]at hz hw;exact h5 z w hz hw,h6,λz=>by rw[e];exact h7 z,by omega⟩
theorem LnE.step(h:LnE g fn lo i H es clk tk){z:Int}(hz:fn (spC g i)=some z){t:Nat}(hlo:lo<=t)(ht:hget H t=none)(ht':hget H' t=some .tok)(hk:∀w,lnI g fn i w≠[]->w≠z->hget H' (tk w)=some .tok):
  LnE g fn lo (i+1) H' (mset (eI z) (.sl (.own t 1) ((lnI g fn i z++[(i:Int)]).map eI)) clk es) (if(Aw (eI z) es).isSome=true then clk else clk+1) (λw=>if w=z then t else tk w):=by
 obtain⟨h1,h2,h3,h4,h5,h6,h7,h8⟩:=h
 have hs:=Qs g fn hz
 have hne:=λw=>lnI_ne g fn (w:=w) hz
 have hfit:=G0 (y:=z) (v:=.sl (.own t 1) ((lnI g fn i z++[(i:Int)]).map eI)) (c:=clk) h1
 obtain⟨k1,k2⟩:=JB (z:=z) (v:=.sl (.own t 1) ((lnI g fn i z++[(i:Int)]).map eI)) (c:=clk) h1
 have hkey:=JC (z:=z) h1
 generalize hes:mset (eI z) (.sl (.own t 1) ((lnI g fn i z++[(i:Int)]).map eI)) clk es=es' at hfit k1 k2
 have hlen:es'.length=if(Aw (eI z) es).isSome=true then es.length else es.length+1:=by grind [List.length_map]
 refine⟨hfit,⟨OK hfit,?_,λe he=>?_⟩,λw=>?_,λw hw=>?_,λw w' hw hw'=>?_,?_,λw=>?_,by rw[hlen];split<;>omega⟩
 ·rw[k2]
  split
  ·exact h2.nd
  ·rw[X6]
   refine⟨h2.nd,by simp,λa ha b hb=>?_⟩
   rw[Wp.1 hb]
   obtain⟨e,he,rfl⟩:=W2.1 ha
   have:=h2.lt e he
   omega
 ·have hm:e.2.2∈es'.map (λe=>e.2.2):=W2.2 ⟨e,he,rfl⟩
  rw[k2]at hm
  split at hm
  ·rename_i q
   obtain⟨e',he',e1⟩:=W2.1 hm
   rw[Vk q,<-e1];exact h2.lt e' he'
  ·rename_i q
   rw[Vb q]
   rcases W7.1 hm with hm|hm
   ·obtain⟨e',he',e1⟩:=W2.1 hm
    have:=h2.lt e' he'
    omega
   ·rw[Wp.1 hm];omega
 ·rw[<-hes,Gz h1]
  by_cases q:w=z
  ·subst q
   rw[Vk rfl,Vk rfl,hs,Vb (by simp)]
  ·rw[Vb q,Vb q,h3 w,hne w q]
 ·grind
 ·grind
 ·grind
 ·rw[k1]
  by_cases q:w=z
  ·subst q
   rw[hs]
   split
   ·rename_i p;exact⟨λ_=>by simp,λ_=>hkey.1 p⟩
   ·exact⟨λ_=>by simp,λ_=>by simp⟩
  ·rw[hne w q,<-h7 w]
   split
   ·exact Iff.rfl
   ·simp [q]
end
def resP(o:Option Int):AVal:=.tup [.int .i64 (o.getD 0),.bool o.isSome]
def rowP(cap:List AVal)(okH:AB->Prop)(okS:Spot->Prop)(fn:Spot->Option Int):List AVal->AB->Prop×AVal:=λa H=>match a with
 | .agg [.int .i64 x,.int .i64 y]::c=>(c=cap/\okH H/\okS (x,y),resP (fn (x,y)))
 |_=>(False,.tup [])
theorem rowPq{fid:FuncId}{cap:List AVal}{okH:AB->Prop}{okS:Spot->Prop}{fn:Spot->Option Int}(h:∀s H n,okS s->okH H->AZ Tryz.prog fid (eSp s::cap) H n (resP (fn s))):∀args H n,(rowP cap okH okS fn args H).1->AZ Tryz.prog fid args H n (rowP cap okH okS fn args H).2:=by
 intro args H n hh
 unfold rowP at hh⊢
 split at hh
 ·obtain⟨rfl,h1,h2⟩:=hh;exact h _ H n h2 h1
 ·exact hh.elim
def E6(H0:AB)(n:Nat)(H:AB):Prop:=∀id ob,id<n->hget H0 id=some ob->hget H id=some ob
abbrev eLn(n:Nat):List (Nat×Bool×AVal):=[(3,true,.ptr (n+1) 0),(4,true,.sl .nil []),(5,true,.ptr (n+4) 0),(14,true,clG (n+6))]
structure LnF(g:Grd)(fn:Spot->Option Int)(bv:AVal)(H0:AB)(n l':Nat)(i:Nat)(H:AB)(m:Nat):Prop where
 fr:AN H m
 lm:n+9<=m
 kp:E6 H0 n H
 h1:hget H (n+1)=some (.box [bv])
 h4:hget H (n+4)=some (.box [.mp (n+3)])
 hq:hget H (n+6)=some (.box (AG g.sh g.w g.h g.holes g.cells))
 hL:hget H (n+8)=some (.lp ⟨l',.ready,none,48,eLn n, #[15,16],Ea,Eb⟩)
 hm:∃es clk tk,hget H (n+3)=some (.map es clk)/\LnE g fn (n+9) i H es clk tk
theorem y_ln{g:Grd}{fn:Spot->Option Int}{f0:FuncId}{cap:List AVal}{H0:AB}{n l' i:Nat}{T:Tab}(hT:AH Tryz.prog T)(hTe:∀a H,T f0 a H=rowP cap (E6 H0 n) (λs=>s∈AP g.sh g.w g.cells) fn a H)
  (hcl:g.cells.length<=256) (hi:i<g.cells.length) {H:AB} {m:Nat} (F:LnF g fn (.fn (.func f0) [] cap) H0 n l' i H m) {R:Bool->AB->Nat->Prop} (hR:∀H' m',LnF g fn (.fn (.func f0) [] cap) H0 n l' (i+1) H' m'->R true H' m'):
  BK Tryz.prog l' [.int .i64 i,eSp (spC g i)] H m R:=by
 obtain⟨fr,lm,kp,h1,h4,hq,hL,es,clk,tk,hm,hE⟩:=F
 refine y222_0 hL rfl (AE AH.tnil (AF ?_))
 simp only[eE,eN,Nat.reduceEqDiff,↓reduceIte,Nat.reduceAdd,LL,renv,WS,WW,Wg,Xa,fr0 fr,AK]
 refine⟨_,(AA _ _ _ _ (by omega)).trans hL,rfl,AE hT (AF ?_)⟩
 have hmem:spC g i∈AP g.sh g.w g.cells:=Wl (FG hi)
 have y1:(m=n+1)=False:=Vd (by omega)
 have y2:(n+8=n+1)=False:=Vd (by omega)
 have y3:(n+8=m)=False:=Vd (by omega)
 have hk:E6 H0 n (hset (hset H m (.box [.int .i64 (spC g i).1,.int .i64 (spC g i).2])) (n+8) (.lp ⟨l',.busy,none,48,eLn n, #[15,16],Ea,Eb⟩)):=λid ob hid h0=>by
  rw[AA _ _ _ _ (by omega),AA _ _ _ _ (by omega)];exact kp id ob hid h0
 generalize hs:spC g i=s at hmem hk
 have hmem':(s.1,s.2)∈AP g.sh g.w g.cells:=hmem
 cases hfn:fn s with
 |none=>
  have hfn':fn (s.1,s.2)=none:=hfn
  simp only[eE,eC,eN,Nat.reduceEqDiff,↓reduceIte,Nat.reduceAdd,Nat.reduceLT,WL,V1,Option.isSome_none,Va,Vc,Gs,h1,y1,y2,y3,hTe,rowP,V3 hk,V3 hmem',hfn',resP]
  refine⟨⟨l',.busy,none,48,eLn n, #[15,16],Ea,Eb⟩,AC ..,hR _ _ ⟨?_,by simp only[];omega,λid ob hid h0=>?_,?_,?_,?_,AC ..,es,clk,tk,?_,hE.skip (by rw[hs];exact hfn) λz hz=>?_⟩⟩
  ·exact((fr.hset (m:=m+2) (by omega) (by omega)).hset (m:=m+2) (V9 _) (by omega)).hset (V9 _) (show n+8<m+2 by omega)
  ·rw[AA _ _ _ _ (by omega)];exact hk id ob hid h0
  ·repeat rw[AA _ _ _ _ (by omega)]
   exact h1
  ·repeat rw[AA _ _ _ _ (by omega)]
   exact h4
  ·repeat rw[AA _ _ _ _ (by omega)]
   exact hq
  ·repeat rw[AA _ _ _ _ (by omega)]
   exact hm
  ·obtain⟨t1,t2⟩:=hE.tok z hz
   have:=fr.lt t2
   repeat rw[AA _ _ _ _ (by omega)]
   exact t2
 |some z=>
 have hfn':fn (s.1,s.2)=some z:=hfn
 have y4:∀k,(n+8=n+k)=(8=k):=λk=>propext (by omega)
 have y5:∀k,(m+k=n+3)=False:=λk=>Vd (by omega)
 have y6:(m=n+3)=False:=Vd (by omega)
 have y7:(m=n+4)=False:=Vd (by omega)
 have y8:∀k,(n+8=m+k)=False:=λk=>Vd (by omega)
 have hll:=TV g fn i z
 have hfd:=hE.fnd z
 have hkt:(KT.int IntKind.i64).is (.int .i64 z)=True:=V3 rfl
 by_cases hz:lnI g fn i z=[]
 ·rw[Vk hz]at hfd
  simp only[eE,eC,eN,reduceCtorEq,Nat.reduceEqDiff,↓reduceIte,Nat.reduceAdd,Nat.reduceLeDiff,Nat.reduceMul,Nat.reduceLT,xE,WL,V1,Option.isSome_none,Option.isSome_some,Va,Vc,Gs,h1,h4,hm,y1,y2,y3,y4,y5,y6,y7,y8,hTe,rowP,V3 hk,V3 hmem',hfn',resP,By,hfd,hkt,V3 hE.fit,fr1 fr,Al]
  have hst:=λH' ht' hkk=>hE.step (H':=H') (by rw[hs];exact hfn) (t:=m+9) (by omega) (fr _ (by omega)) ht' hkk
  simp only[hfd,Option.isSome_none,Vo,Vv,hz,Vw,Vs,VP]at hst
  refine⟨⟨l',.busy,none,48,eLn n, #[15,16],Ea,Eb⟩,?_,hR _ _ ⟨?_,by simp only[];omega,λid ob hid h0=>?_,?_,?_,?_,AC ..,_,_,_,?_,hst _ ?_ λw hw hwz=>?_⟩⟩
  ·grind [AA,AC]
  ·exact((((fr.hset (m:=m+11) (by omega) (by omega)).hset (m:=m+11) (V9 _) (by omega)).hset (m:=m+11) (V9 _) (by omega)).hset (m:=m+11) (V9 _) (by omega)).hset (V9 _) (show n+8<m+11 by omega)
  ·rw[AA _ _ _ _ (by omega),AA _ _ _ _ (by omega),AA _ _ _ _ (by have:=hk id ob hid h0;omega)];exact hk id ob hid h0
  ·repeat rw[AA _ _ _ _ (by omega)]
   exact h1
  ·repeat rw[AA _ _ _ _ (by omega)]
   exact h4
  ·repeat rw[AA _ _ _ _ (by omega)]
   exact hq
  ·rw[AA _ _ _ _ (by omega),AC]
  ·repeat rw[AA _ _ _ _ (by omega)]
   exact AC ..
  ·obtain⟨t1,t2⟩:=hE.tok w hw
   have:=fr.lt t2
   repeat rw[AA _ _ _ _ (by omega)]
   exact t2
 ·rw[Vb hz]at hfd
  obtain⟨z1,z2⟩:=hE.tok z hz
  have z3:=fr.lt z2
  have x1:(n+8=tk z)=False:=Vd (by omega)
  have x2:(m=tk z)=False:=Vd (by omega)
  have x3:(tk z=n+3)=False:=Vd (by omega)
  have x4:∀k,(tk z=m+k)=False:=λk=>Vd (by omega)
  have q2:((lnI g fn i z).length+1<=35184372088832)=True:=V3 (by omega)
  have q3:((lnI g fn i z).length<=35184372088831)=True:=V3 (by omega)
  have q4:Al ((lnI g fn i z).length+1) 8=True:=V3 (AX (by omega) (by decide))
  simp only[eE,eC,eN,reduceCtorEq,Nat.reduceEqDiff,↓reduceIte,Nat.reduceAdd,Nat.reduceLeDiff,Nat.reduceMul,Nat.reduceLT,xE,V1,Option.isSome_some,V0,Va,Vc,Gs,h1,h4,hm,y1,y2,y3,y4,y5,y6,y7,y8,hTe,rowP,V3 hk,V3 hmem',hfn',resP,By,hfd,hkt,V3 hE.fit,fr1 fr,z2,x1,x2,x3,q2,q4]
  have hst:=λH' ht' hkk=>hE.step (H':=H') (by rw[hs];exact hfn) (t:=m+9) (by omega) (fr _ (by omega)) ht' hkk
  simp only[hfd,Option.isSome_some,Wd,Vl,Vs,VP]at hst
  refine⟨⟨l',.busy,none,48,eLn n, #[15,16],Ea,Eb⟩,?_,hR _ _ ⟨?_,by simp only[];omega,λid ob hid h0=>?_,?_,?_,?_,AC ..,_,_,_,?_,hst _ ?_ λw hw hwz=>?_⟩⟩
  ·grind [AA,AC]
  ·exact(((((fr.hset (m:=m+11) (by omega) (by omega)).hset (m:=m+11) (V9 _) (by omega)).hset (m:=m+11) (V9 _) (by omega)).hset (m:=m+11) (V9 _) (by omega)).hset (m:=m+11) (V9 _) (by omega)).hset (V9 _) (show n+8<m+11 by omega)
  ·repeat rw[AA _ _ _ _ (by omega)]
   exact kp id ob hid h0
  ·repeat rw[AA _ _ _ _ (by omega)]
   exact h1
  ·repeat rw[AA _ _ _ _ (by omega)]
   exact h4
  ·repeat rw[AA _ _ _ _ (by omega)]
   exact hq
  ·rw[AA _ _ _ _ (by omega),AC]
  ·repeat rw[AA _ _ _ _ (by omega)]
   exact AC ..
  ·obtain⟨t1,t2⟩:=hE.tok w hw
   have:=fr.lt t2
   have:tk z≠tk w:=λe=>hwz (hE.inj _ _ hz hw e).symm
   repeat rw[AA _ _ _ _ (by omega)]
   exact t2
def EL:List AVal->List (List Int)->Prop
 |[],[]=>True
 |a::E,l::L=>(∃t,a= .sl t (l.map eI)/\(t.esz=1\/l=[]))/\EL E L
 |_,_=>False
theorem EL.wks:∀{E:List AVal} {L:List (List Int)},EL E L->Wks E (L.map eIs)
 |[],[],_=>.nil
 |a::E,l::L,⟨⟨t,h1,h2⟩,h⟩=>by
  subst h1
  exact .cons (Wk.sl (h2.imp (λz=>z) λq=>by rw[q];rfl)) (EL.wks h)
theorem EL.app:∀{E F:List AVal} {L M:List (List Int)},EL E L->EL F M->EL (E++F) (L++M)
 |[],_,[],_,_,h=>h
 |a::E,_,l::L,_,⟨h1,h⟩,k=>⟨h1,EL.app h k⟩
theorem EL.len:∀{E:List AVal} {L:List (List Int)},EL E L->E.length=L.length
 |[],[],_=>rfl
 |a::E,l::L,⟨_,h⟩=>by rw[Vq,Vq,EL.len h]
structure LnL(g:Grd)(fn:Spot->Option Int)(H0:AB)(n c:Nat)(Ks:List Int)(es:List Ent)(clk:Nat)(v:VRg):Prop where
 hi:v.i<=Ks.length
 lm:c<=v.n
 fr:AN v.H v.n
 kp:E6 H0 n v.H
 h4:hget v.H (n+4)=some (.box [.mp (n+3)])
 hm:hget v.H (n+3)=some (.map es clk)
 tok:tkG 1 c v.H v.tl
 es:v.tl.esz=1\/v.E=[]
 hE:EL v.E ((Ks.take v.i).map (Bc (AP g.sh g.w g.cells) fn))
def LnP(H:AB)(n:Nat)(L:List (List Int)):AOut->AB->Nat->Prop:=λo H' n'=>
 ∃tl E,o= .ret (.sl tl E)/\tkG 1 n H' tl/\(tl.esz=1\/E=[])/\EL E L/\E6 H n H'/\AN H' n'/\n<=n'
theorem OM{g:Grd}(G:GrV g){f0:FuncId}{cap:List AVal}{fn:Spot->Option Int}{H:AB}{n:Nat}(hf:AN H n)
  (hb:∀s H' m,s∈AP g.sh g.w g.cells->E6 H n H'->AZ Tryz.prog f0 (eSp s::cap) H' m (resP (fn s))) (hbd:∀s∈AP g.sh g.w g.cells,∀z,fn s=some z-> -16<=z/\z<=32):
  AI Tryz.prog 222 [DC g,.fn (.func f0) [] cap] H n (LnP H n (BU (AP g.sh g.w g.cells) fn)):=by
 have hT:AH Tryz.prog (tadd f0 (rowP cap (E6 H n) (λs=>s∈AP g.sh g.w g.cells) fn) tnil):=AH.tnil.add (rowPq λs H' m h1 h2=>hb s H' m h1 h2)
 have hTe:∀a H',tadd f0 (rowP cap (E6 H n) (λs=>s∈AP g.sh g.w g.cells) fn) tnil f0 a H'=rowP cap (E6 H n) (λs=>s∈AP g.sh g.w g.cells) fn a H':=λa H'=>by unfold tadd;rw[Vk rfl]
 generalize tadd f0 _ tnil=T at hT hTe
 obtain⟨hr1,hr2,hr3⟩:=A8 G.hG
 refine a222 (AE hT (AF ?_))
 simp only[eE,eN,reduceCtorEq,Nat.reduceEqDiff,↓reduceIte,Nat.reduceAdd,xE,c222,AG,fr0 hf,fr1 hf,AK]
 generalize hH0:hset _ (n+4) (AObj.box [AVal.mp (n+3)])=H0
 have af:AN H0 (n+6):=by
  rw[<-hH0]
  exact(((hf.hset (m:=n+6) (by omega) (by omega)).hset (m:=n+6) (V9 _) (by omega)).hset (m:=n+6) (V9 _) (by omega)).hset (V9 _) (by omega)
 have ak:E6 H n H0:=λid ob hid h0=>by
  rw[<-hH0];repeat rw[AA _ _ _ _ (by omega)]
  exact h0
 have a1:hget H0 (n+1)=some (.box [.fn (.func f0) [] cap]):=by grind [AA,AC]
 have a3:hget H0 (n+3)=some (.map [] 0):=by rw[<-hH0,AA _ _ _ _ (by omega),AC]
 have a4:hget H0 (n+4)=some (.box [.mp (n+3)]):=by rw[<-hH0,AC]
 clear hH0
 refine(IN af).mono ?_
 rintro o H1 n1 ⟨rfl,rfl,rfl⟩
 simp only[eE,eN,Nat.reduceEqDiff,↓reduceIte,Nat.reduceAdd,retK,ES]
 intro l'
 refine(IJ g G (J:=LnF g fn (.fn (.func f0) [] cap) H n l') (λi H n F=>F.hq) (λi H2 m hi F R hR=>y_ln hT hTe hr2 hi F hR) ?_).mono ?_
 ·refine⟨(af.hset (m:=n+9) (by omega) (by omega)).hset (V9 _) (by omega),V9 _,λid ob hid h0=>?_,?_,?_,?_,AC ..,[],0,λ_=>0,?_,⟨trivial,⟨by simp,by simp,by simp⟩,λz=>?_,λz hz=>absurd rfl hz,λz w hz=>absurd rfl hz,by simp [esK],λz=>⟨λh=>by simp [esK]at h,λh=>absurd rfl h⟩,V9 _⟩⟩
  ·repeat rw[AA _ _ _ _ (by omega)]
   exact ak id ob hid h0
  ·repeat rw[AA _ _ _ _ (by omega)]
   exact a1
  ·repeat rw[AA _ _ _ _ (by omega)]
   exact a4
  ·rw[AA _ _ _ _ (by omega),AC]
  ·repeat rw[AA _ _ _ _ (by omega)]
   exact a3
  ·have:lnI g fn 0 z=[]:=rfl
   rw[Vk this];rfl
 rintro o H2 n2 ⟨rfl,F⟩
 obtain⟨ffr,flm,fkp,f1,f4,fq,fL,es,clk,tk,fm,hE⟩:=F
 have u1:(n+8=n+4)=False:=Vd (by omega)
 simp only[eE,eN,reduceCtorEq,Nat.reduceEqDiff,↓reduceIte,ER,fL,f4,u1]
 have gf:AN (hset H2 (n+8) .dead) n2:=ffr.hset (V9 _) (by omega)
 have gk:E6 H n (hset H2 (n+8) .dead):=λid ob hid h0=>by rw[AA _ _ _ _ (by omega)];exact fkp id ob hid h0
 have g4:hget (hset H2 (n+8) .dead) (n+4)=some (.box [.mp (n+3)]):=by rw[AA _ _ _ _ (by omega)];exact f4
 have gm:hget (hset H2 (n+8) .dead) (n+3)=some (.map es clk):=by rw[AA _ _ _ _ (by omega)];exact fm
 generalize hset H2 (n+8) .dead=H3 at gf gk g4 gm
 refine(TU gf).mono ?_
 rintro o H4 n4 ⟨rfl,rfl,rfl⟩
 simp only[eE,↓reduceIte,retK]
 have kf:AN (hset H3 n2 (.box [.mp (n+3)])) (n2+2):=gf.hset (by omega) (by omega)
 have kk:E6 H n (hset H3 n2 (.box [.mp (n+3)])):=λid ob hid h0=>by rw[AA _ _ _ _ (by omega)];exact gk id ob hid h0
 have k4:hget (hset H3 n2 (.box [.mp (n+3)])) (n+4)=some (.box [.mp (n+3)]):=by rw[AA _ _ _ _ (by omega)];exact g4
 have km:hget (hset H3 n2 (.box [.mp (n+3)])) (n+3)=some (.map es clk):=by rw[AA _ _ _ _ (by omega)];exact gm
 have kq:hget (hset H3 n2 (.box [.mp (n+3)])) n2=some (.box [.mp (n+3)]):=AC ..
 generalize hset H3 n2 (.box [.mp (n+3)])=H5 at kf kk k4 km kq
 have hesl:=hE.len
 refine(AZ.of (n:=n2+2) l242 (Aa _ _) (λ_=>t_srtM hE.ok (by omega) kf kq km)).mono ?_
 rintro o H6 n6 ⟨rfl,rfl,rfl⟩
 have hK:((esK es).mergeSort leI).map (Bc (AP g.sh g.w g.cells) fn)=BU (AP g.sh g.w g.cells) fn:=by
  refine SN hE.knd (λz=>?_) hbd
  rw[hE.kmem z,OL,<-LY,<-List.isEmpty_eq_false_iff]
 have hKl:((esK es).mergeSort leI).length<=g.cells.length:=by
  rw[CW];show(es.map _).length<=_;rw[V0];exact hesl
 have hKm:∀z∈(esK es).mergeSort leI,Aw (eI z) es=some (.sl (.own (tk z) 1) ((Bc (AP g.sh g.w g.cells) fn z).map eI)):=λz hz=>by
  rw[List.mem_mergeSort]at hz
  rw[hE.fnd z,Vb ((hE.kmem z).1 hz),OL]
 rw[<-hK]
 generalize (esK es).mergeSort leI=Ks at hKl hKm
 simp only[eE,eN,Nat.reduceEqDiff,↓reduceIte,V0,retK]
 refine AU (λv:VRg=>⟨[(4,true,.sl v.tl v.E),(5,true,.ptr (n+4) 0),(34,true,eIs Ks),(35,true,.int .i64 Ks.length),(36,true,.int .i64 v.i)],v.H,v.n⟩) (LnL g fn H n (n2+2) Ks es clk) (λv=>Ks.length-v.i)
  ⟨0,[],.nil,H6,n2+2⟩ rfl ⟨Vi _,V9 _,kf,kk,k4,km,.inl rfl,.inr rfl,trivial⟩ ?_
 rintro⟨j,E,tl,H7,m⟩ ⟨hj,hlm,hfr,hkp,h4,hm,htl,hes,hWE⟩
 simp only at hj hlm hfr hkp h4 hm htl hes hWE
 by_cases hlt:j<Ks.length
 ·have hg:=V5 hlt
  have e:=AJ (k:=j) (by omega)
  have hfd:=hKm _ (Vn hlt)
  have htk:Ks.take (j+1)=Ks.take j++[Ks[j]]:=by rw[VX,hg];rfl
  generalize Ks[j]=z at hg hfd htk
  have hkt:(KT.int IntKind.i64).is (.int .i64 z)=True:=V3 rfl
  have hEl:E.length=j:=by
   have:=hWE.len
   rw[V0,Vt]at this
   omega
  have q1:Bh H7 1 tl=True:=V3 htl.app
  have q2:(E.length<=35184372088831)=True:=V3 (by omega)
  have q3:Al (E.length+1) 24=True:=V3 (AX (by omega) (by decide))
  simp only[eE,eC,eN,reduceCtorEq,Nat.reduceEqDiff,↓reduceIte,Nat.reduceLeDiff,Nat.reduceMul,Nat.reduceLT,Int.reduceEq,xE,V1,V2,V4,V0,V6,lt_T hlt,hg,h4,hm,hkt,V3 hE.fit,By,hfd,q1,q2,q3,fr1 hfr,e]
  refine .mk ⟨j+1,E++[.sl (.own (tk z) 1) ((Bc (AP g.sh g.w g.cells) fn z).map eI)],.own (m+5) 1,hset (AW H7 tl) (m+5) .tok,m+7⟩ rfl ⟨hlt,by simp only[];omega,(Ak htl hfr).hset (m:=m+7) (by omega) (by omega),λid ob hid h0=>?_,?_,?_,.inr (.inr ⟨m+5,rfl,by omega,AC ..⟩),.inl rfl,?_⟩ (by simp only[];omega)
  ·rw[AA _ _ _ _ (by omega),Ai htl (.inl (by omega))];exact hkp id ob hid h0
  ·grind [AA,Ai]
  ·grind [AA,Ai]
  ·simp only[htk,Vl,Vs,VP]at hWE⊢
   exact hWE.app ⟨⟨_,rfl,.inl rfl⟩,trivial⟩
 obtain rfl:j=Ks.length:=by omega
 rw[VQ]at hWE
 simp only[eE,eC,eN,Nat.reduceEqDiff,↓reduceIte,lt_F hlt]
 exact⟨tl,E,rfl,htl.imp id λq=>q.imp id λ⟨z,z1,z2,z3⟩=>⟨z,z1,by omega,z3⟩,hes,hWE,hkp,hfr,by omega⟩
theorem F9{g:Grd}(G:GrV g){f0:FuncId}{cap:List AVal}{fn:Spot->Option Int}{H:AB}{n:Nat}
  (hb:∀s H' m,s∈AP g.sh g.w g.cells->E6 H n H'->AZ Tryz.prog f0 (eSp s::cap) H' m (resP (fn s))) (hbd:∀s∈AP g.sh g.w g.cells,∀z,fn s=some z-> -16<=z/\z<=32):
  AZ Tryz.prog 222 [DC g,.fn (.func f0) [] cap] H n (eLl (BU (AP g.sh g.w g.cells) fn)):=
 AZ.of l222 (Ar n _) λhf=>(OM G hf hb hbd).mono λo H' n' ⟨tl,E,h1,h2,h3,h4,h5,h6,h7⟩=>⟨⟨_,h1,Wk.slx h3 h4.wks⟩,λid ob h0=>h5 id ob (hf.lt h0) h0⟩
end Go.AM
namespace Go.AM
open Go.Proofs Go.Lib
def RdI(H:AB)(av:AVal)(l:List Int):Prop:=(∃t,av= .sl t (l.map eI)/\(t.esz=1\/l=[]))\/∃id cap rest,av= .ref id 1 0 l.length cap/\hget H id=some (.arr 1 ((l++rest).map eI))/\l.length<=cap
def ClnP(H:AB)(n:Nat)(l:List Int):AOut->AB->Nat->Prop:=λo H' n'=>
 (l=[]/\H'=H/\(n'=n\/n'=n+4)/\∃t,o= .ret (.sl t [])/\(t= .nil\/t= .exact 1))\/
 (l≠[]/\n'=n+4/\∃rest,o= .ret (.ref (n+2) 1 0 l.length (l.length+rest.length))/\H'=hset H (n+2) (.arr 1 ((l++rest).map eI)))
theorem ON{H:AB}{n:Nat}{av:AVal}{l:List Int}(hr:RdI H av l)(hl:few l):AI Tryz.prog 62 [av] H n (ClnP H n l):=by
 refine AI.fresh l62 λhf=>?_
 have hll:l.length<1000000000:=hl
 have hrep:∀k,List.replicate k (AVal.int .i64 0)=(List.replicate k (0:Int)).map eI:=λk=>by rw[X0]
 rcases hr with⟨t,rfl,ht⟩|⟨id,cp,rest,rfl,ho,hc⟩
 ·refine AI.args (a:=[eIs l]) ?_ λg vs ⟨v,r,h1,h2,h3⟩=>⟨v,r,h1,Wk.sl (ht.imp (λz=>z) λq=>by rw[q];rfl) _ _ h2,h3⟩
  refine am62 (AE AH.tnil (AF ?_))
  cases l with
  |nil=>
   simp only[eE,eC,eN,reduceCtorEq,↓reduceIte,cm62]
   refine⟨?_,?_⟩
   ·simp only[eE,eC,eN,reduceCtorEq,Nat.reduceEqDiff,↓reduceIte,Nat.reduceLT,Bk,DY,fr1 hf,Al,WX,Vi]
    exact .inl ⟨rfl,rfl,.inr rfl,.exact 1,rfl,.inr rfl⟩
   ·simp only[eE,eC,eN,reduceCtorEq,↓reduceIte,Ve]
    exact .inl ⟨rfl,rfl,.inl rfl,.nil,rfl,.inl rfl⟩
  |cons x r=>
   rw[Vq]at hll
   simp only[eE,eC,eN,reduceCtorEq,Nat.reduceEqDiff,↓reduceIte,Nat.reduceLeDiff,Nat.reduceMul,Nat.reduceLT,V0,cm62,eIs,Bk,DY,fr1 hf]
   refine⟨AX (by omega) (by decide),by omega,λcap hcap=>.inr ⟨by simp,rfl,List.replicate (cap-(r.length+1)) 0,?_,?_⟩⟩
   ·simp_all
   ·rw[hrep];simp
 ·refine am62 (AE AH.tnil (AF ?_))
  have htk:List.take l.length ((l++rest).map eI)=l.map eI:=by rw[Vl,List.take_left' (by rw[V0])]
  have hlen:(l.length<=(l++rest).length)=True:=V3 (by simp)
  simp only[eE,eC,eN,reduceCtorEq,Nat.reduceEqDiff,↓reduceIte,Nat.reduceLeDiff,Nat.reduceMul,Nat.reduceLT,V0,cm62,ho,htk,hlen,Bk,DY,fr1 hf]
  refine⟨AX (by omega) (by decide),by omega,λh0=>?_,λh0 cap hcap=>?_⟩
  ·exact .inl ⟨by simpa using h0,rfl,.inr rfl,.exact 1,rfl,.inr rfl⟩
  ·refine .inr ⟨by simpa using h0,rfl,List.replicate (cap-l.length) 0,?_,?_⟩
   ·simp_all
   ·rw[hrep];simp
theorem p223(s:Spot):Pur Tryz.prog 223 [eSp s] (resP (some s.2)):=by
 refine .mk ⟨⟨trivial,trivial,trivial⟩,trivial⟩ ⟨trivial,trivial,trivial⟩ (a223 (AE AH.tnil (AF ?_)))
 simp only[eE,eN,Nat.reduceEqDiff,↓reduceIte,Nat.reduceAdd,Nat.reduceMul,Int.reduceLE,Int.reduceLT,Wr,c223,c2n]
 exact Wk.refl _
theorem p224(s:Spot):Pur Tryz.prog 224 [eSp s] (resP (some s.1)):=by
 refine .mk ⟨⟨trivial,trivial,trivial⟩,trivial⟩ ⟨trivial,trivial,trivial⟩ (a224 (AE AH.tnil (AF ?_)))
 simp only[eE,eN,Nat.reduceEqDiff,↓reduceIte,Nat.reduceAdd,Nat.reduceLeDiff,Nat.reduceMul,Int.reduceLT,Wb,W3,c224,c2n]
 exact Wk.refl _
theorem GA{g:Grd}(G:GrV g){s:Spot}(h:s∈AP g.sh g.w g.cells): -16<=s.1/\s.1<=16/\0<=s.2/\s.2<=15/\ -16<=s.1+s.2/\s.1+s.2<=31:=by
 obtain⟨i,hi,rfl⟩:=VI.1 h
 rw[Bg]at hi
 have e:=FG hi
 rw[V5 (by rw[Bg];exact hi)]at e
 rw[Option.some.inj e]
 have gi:inG g (i:Int):=⟨by omega,by rw[V2];exact hi⟩
 obtain⟨k,hk,-,hg,hp,w1,w2,x1,x2,y1,y2,ey,hss⟩:=G.at gi
 obtain rfl:k=i:=by omega
 unfold spC I1
 split<;>simp only[]<;>omega
theorem p255(s:Spot)(h: -16<=s.1+s.2/\s.1+s.2<=31):Pur Tryz.prog 255 [eSp s] (resP (some (s.1+s.2))):=by
 refine .mk ⟨⟨trivial,trivial,trivial⟩,trivial⟩ ⟨trivial,trivial,trivial⟩ (a255 (AE AH.tnil (AF ?_)))
 have w:IntKind.wrap .i64 (s.1+s.2)=s.1+s.2:=Aq (by omega) (by omega)
 simp only[eE,eN,Nat.reduceEqDiff,↓reduceIte,Nat.reduceAdd,Nat.reduceLeDiff,Nat.reduceMul,Int.reduceLE,Int.reduceLT,Wb,Wr,W3,c255,c2n,w]
 exact Wk.refl _
def dgF1(s:Spot):Option Int:=if s.1=s.2 then some 0 else none
def dgF2(w:Int)(s:Spot):Option Int:=if s.1+s.2=w-1 then some 0 else none
theorem p256(s:Spot):Pur Tryz.prog 256 [eSp s] (resP (dgF1 s)):=by
 refine .mk ⟨⟨trivial,trivial,trivial⟩,trivial⟩ ⟨trivial,trivial,trivial⟩ (a256 (AE AH.tnil (AF ?_)))
 unfold dgF1
 by_cases h:s.1=s.2
 ·rw[Vk h]
  simp only[eE,eN,Nat.reduceEqDiff,↓reduceIte,Nat.reduceAdd,Nat.reduceLeDiff,Nat.reduceMul,Int.reduceLE,Int.reduceLT,Wb,Wr,W3,c256,c2n,CQ h]
  exact Wk.refl _
 ·rw[Vb h]
  simp only[eE,eN,Nat.reduceEqDiff,↓reduceIte,Nat.reduceAdd,Nat.reduceLeDiff,Nat.reduceMul,Int.reduceLE,Int.reduceLT,Wb,Wr,W3,c256,c2n,Bu h]
  exact Wk.refl _
theorem p257(g:Grd)(hw:0<=g.w/\g.w<=16)(s:Spot)(h: -16<=s.1+s.2/\s.1+s.2<=31):Pur Tryz.prog 257 [eSp s,.ep (AG g.sh g.w g.h g.holes g.cells)] (resP (dgF2 g.w s)):=by
 refine .mk ⟨⟨trivial,trivial,trivial⟩,BZ 0 ..,trivial⟩ ⟨trivial,trivial,trivial⟩ (a257 (AE AH.tnil (AF ?_)))
 have w:IntKind.wrap .i64 (s.1+s.2)=s.1+s.2:=Aq (by omega) (by omega)
 have w2:IntKind.wrap .i64 (g.w-1)=g.w-1:=Aq (by omega) (by omega)
 unfold dgF2
 by_cases h:s.1+s.2=g.w-1
 ·rw[Vk h]
  simp only[eE,eN,reduceCtorEq,Nat.reduceEqDiff,↓reduceIte,Nat.reduceAdd,Nat.reduceLeDiff,Nat.reduceMul,Int.reduceEq,Int.reduceLE,Int.reduceLT,Wb,Wr,W3,c257,AG,c2n,w,w2,CQ h]
  exact Wk.refl _
 ·rw[Vb h]
  simp only[eE,eN,reduceCtorEq,Nat.reduceEqDiff,↓reduceIte,Nat.reduceAdd,Nat.reduceLeDiff,Nat.reduceMul,Int.reduceEq,Int.reduceLE,Int.reduceLT,Wb,Wr,W3,c257,AG,c2n,w,w2,Bu h]
  exact Wk.refl _
section
variable {g:Grd} (G:GrV g) (H:AB) (n:Nat)
include G
theorem q_ln1:AZ Tryz.prog 222 [DC g,.fn (.func 223) [] []] H n (eLl (BU (AP g.sh g.w g.cells) λs=>some s.2)):=
 F9 G (λs H' m _ _=>(p223 s).quiet H' m) λs hs z hz=>by have:=GA G hs;have:=Option.some.inj hz;omega
theorem q_ln2:AZ Tryz.prog 222 [DC g,.fn (.func 224) [] []] H n (eLl (BU (AP g.sh g.w g.cells) λs=>some s.1)):=
 F9 G (λs H' m _ _=>(p224 s).quiet H' m) λs hs z hz=>by have:=GA G hs;have:=Option.some.inj hz;omega
theorem q_ln3:AZ Tryz.prog 222 [DC g,.fn (.func 255) [] []] H n (eLl (BU (AP g.sh g.w g.cells) λs=>some (s.1+s.2))):=
 F9 G (λs H' m hs _=>(p255 s (by have:=GA G hs;omega)).quiet H' m) λs hs z hz=>by have:=GA G hs;have:=Option.some.inj hz;omega
theorem q_ln4:AZ Tryz.prog 222 [DC g,.fn (.func 256) [] []] H n (eLl (BU (AP g.sh g.w g.cells) dgF1)):=
 F9 G (λs H' m hs _=>(p256 s).quiet H' m) λs hs z hz=>by
  unfold dgF1 at hz;split at hz
  ·have:=Option.some.inj hz;omega
  ·cases hz
theorem q_ln5{q:Nat}(hq:hget H q=some (.box (AG g.sh g.w g.h g.holes g.cells)))(hf:AN H n):AZ Tryz.prog 222 [DC g,.fn (.func 257) [] [.ptr q 0]] H n (eLl (BU (AP g.sh g.w g.cells) (dgF2 g.w))):=by
 obtain⟨hs1,hs2⟩:=F2 G.hG
 refine F9 G (λs H' m hs hk=>(p257 g (by omega) s (by have:=GA G hs;omega)).view ⟨trivial,trivial,trivial⟩ (.cons (.wk (Wk.refl _)) (.cons (View.ptr (off:=0) (hk q _ (hf.lt hq) hq)) .nil)) m) λs hs z hz=>?_
 unfold dgF2 at hz;split at hz
 ·have:=Option.some.inj hz;omega
 ·cases hz
end
def GB(g:Grd):List AVal->AB->Prop×AVal:=λa H=>match a with
 |[x,.fn (.func f) [] cap]=>(x=DC g/\((f=223\/f=224\/f=255\/f=256)/\cap=[]\/f=257/\∃q,cap=[.ptr q 0]/\hget H q=some (.box (AG g.sh g.w g.h g.holes g.cells))),
   eLl (BU (AP g.sh g.w g.cells) (if f=223 then λs=>some s.2 else if f=224 then λs=>some s.1 else if f=255 then λs=>some (s.1+s.2)else if f=256 then dgF1 else dgF2 g.w)))
 |_=>(False,.tup [])
theorem Sd{g:Grd}(G:GrV g):∀args H n,(GB g args H).1->AZ Tryz.prog 222 args H n (GB g args H).2:=by
 intro args H n hh
 unfold GB at hh⊢
 split at hh
 ·obtain⟨rfl,⟨h|h|h|h,rfl⟩|⟨rfl,q,rfl,hq⟩⟩:=hh
  ·subst h;exact q_ln1 G H n
  ·subst h;exact q_ln2 G H n
  ·subst h;exact q_ln3 G H n
  ·subst h;exact q_ln4 G H n
  ·refine⟨l222,?_⟩
   exact(AI.fresh l222 λhf=>q_ln5 G H n hq hf).2
 ·exact hh.elim
def Tdg(g:Grd):Tab:=tadd 222 (GB g) (tadd 103 (s2 dIs dIs (λ_ b=>wide b) λa b=>.bool (decide (a=b))) tnil)
theorem Tdg_ok{g:Grd}(G:GrV g):AH Tryz.prog (Tdg g):=(AH.tnil.add (q2 p103)).add (Sd G)
theorem Tdg_l(g:Grd)(a:List AVal)(H:AB):Tdg g 222 a H=GB g a H:=rfl
theorem Tdg_e(g:Grd)(a:List AVal)(H:AB):Tdg g 103 a H=s2 dIs dIs (λ_ b=>wide b) (λa b=>.bool (decide (a=b))) a H:=rfl
theorem GC{S:List Spot}{fn:Spot->Option Int}(h:∀s∈S,∀z,fn s=some z->z=0):BU S fn=if(Bc S fn 0).isEmpty then[]else[Bc S fn 0]:=by
 have he:∀z,z≠0->(Bc S fn z).isEmpty=true:=λz hz=>by
  rw[<-Bool.not_eq_false]
  intro q
  obtain⟨s,hs,e⟩:=LY.1 q
  exact hz (h s hs z e)
 unfold BU KF
 rw[show List.range 49=List.range 16++(16::(List.range 32).map (· +17))from rfl]
 simp only[Vl,Vs,X1,Xj]
 have z1:((List.range 16).map λk:Nat=>Bc S fn ((k:Int)-16)).filter (λl=>!l.isEmpty)=[]:=by grind [List.filter_eq_nil_iff]
 have z2:((List.range 32).map λk:Nat=>Bc S fn (((k+17:Nat):Int)-16)).filter (λl=>!l.isEmpty)=[]:=by grind [List.filter_eq_nil_iff]
 have z1':((List.range 16).map (Bc S fn∘λk:Nat=>(k:Int)-16)).filter (λl=>!l.isEmpty)=[]:=z1
 have z2':((List.range 32).map (Bc S fn∘((λk:Nat=>(k:Int)-16)∘λx=>x+17))).filter (λl=>!l.isEmpty)=[]:=z2
 rw[z1',Vw,Wy,z2']
 have e0:(((16:Nat):Int)-16)=0:=rfl
 rw[e0]
 cases (Bc S fn 0).isEmpty<;>rfl
def dgP(g:Grd):List (List Int):=if g.sh=2 then BU (AP g.sh g.w g.cells) (λs=>some (s.1+s.2))else if g.w=g.h then No g.w (AP g.sh g.w g.cells)else[]
structure IDgp(LB D:List (List Int))(H0:AB)(n0:Nat)(tl0:Tok)(E0:List AVal)(v:VRg):Prop where
 hi:v.i<=LB.length
 h0:v.i=0->v.E=E0/\v.tl=tl0/\v.H=H0/\v.n=n0
 h1:v.i=1->(v.tl.esz=1\/v.E=[])/\EL v.E D
theorem w01:IntKind.wrap .i64 (0+1)=1:=Aq (by decide) (by decide)
theorem Ld(S:List Spot)(f:Spot->Option Int)(z:Int):(Bc S f z).length<=S.length:=EA ..
theorem p225(g:Grd)(G:GrV g):Pur Tryz.prog 225 [DC g] (eLl (dgP g)):=by
 refine .mk ⟨BZ 0 ..,trivial⟩ (Ar 0 _) (a225 (AE (Tdg_ok G) (AF ?_)))
 unfold dgP
 obtain⟨hr1,hr2,hr3⟩:=A8 G.hG
 by_cases h2:g.sh=2
 ·rw[Vk h2]
  simp only[eE,eC,eN,reduceCtorEq,Nat.reduceEqDiff,↓reduceIte,Nat.reduceAdd,Nat.reduceLeDiff,c225,AG,CQ h2,Tdg_l,GB]
  exact Wk.refl _
 by_cases hw:g.w=g.h
 case neg=>
  rw[Vb h2,Vb hw]
  simp only[eE,eC,eN,Nat.reduceEqDiff,↓reduceIte,Nat.reduceAdd,Nat.reduceLeDiff,Ve,c225,AG,Bu h2,Bu hw]
  exact Wk.sl (.inr rfl)
 rw[Vb h2,Vk hw]
 have hf2:AN (hset hnil 0 (.box (AG g.sh g.w g.h g.holes g.cells))) 2:=AN.nil.hset (Vi 2) (by decide)
 simp only[eE,eC,eN,Nat.reduceEqDiff,↓reduceIte,Nat.reduceAdd,Nat.reduceLeDiff,V8,c225,AG,Bu h2,CQ hw]
 refine(OM G hf2 (λs H' m hs _=>(p256 s).quiet H' m) λs hs z hz=>by
  unfold dgF1 at hz;split at hz
  ·have:=Option.some.inj hz;omega
  ·cases hz).mono ?_
 rintro o H1 n1 ⟨tl,E,rfl,htl,hes,hEL,hk,hf1,hn1⟩
 have h10:hget H1 0=some (.box (AG g.sh g.w g.h g.holes g.cells)):=hk 0 _ (by decide) rfl
 have hex:(∃q,[AVal.ptr 0 0]=[AVal.ptr q 0]/\hget H1 q=some (.box (AG g.sh g.w g.h g.holes g.cells)))=True:=V3 ⟨0,rfl,h10⟩
 simp only[AG]at h10 hex
 have hD:No g.w (AP g.sh g.w g.cells)=(BU (AP g.sh g.w g.cells) dgF1)++(if(Bc (AP g.sh g.w g.cells) (dgF2 g.w) 0).isEmpty||decide (Bc (AP g.sh g.w g.cells) dgF1 0=Bc (AP g.sh g.w g.cells) (dgF2 g.w) 0)then[]else[Bc (AP g.sh g.w g.cells) (dgF2 g.w) 0]):=by
  rw[GC (fn:=dgF1) λs _ z hz=>by
   unfold dgF1 at hz;split at hz
   ·exact(Option.some.inj hz).symm
   ·cases hz]
  rfl
 have hLB:=GC (S:=AP g.sh g.w g.cells) (fn:=dgF2 g.w) λs _ z hz=>by
  unfold dgF2 at hz;split at hz
  ·exact(Option.some.inj hz).symm
  ·cases hz
 have hLA:=GC (S:=AP g.sh g.w g.cells) (fn:=dgF1) λs _ z hz=>by
  unfold dgF1 at hz;split at hz
  ·exact(Option.some.inj hz).symm
  ·cases hz
 rw[hLA]at hEL hD
 generalize No g.w (AP g.sh g.w g.cells)=D at hD
 simp only[eE,eN,reduceCtorEq,Nat.reduceEqDiff,↓reduceIte,Nat.reduceAdd,V0,retK,h10,Tdg_l,GB,hex]
 rw[hLB]
 have hBl:=Ld (AP g.sh g.w g.cells) (dgF2 g.w) 0
 have hAl:=Ld (AP g.sh g.w g.cells) dgF1 0
 rw[Bg]at hBl hAl
 generalize Bc (AP g.sh g.w g.cells) dgF1 0=A at hEL hAl hD
 generalize Bc (AP g.sh g.w g.cells) (dgF2 g.w) 0=B at hBl hD
 generalize hLAg:(if A.isEmpty=true then[]else[A])=LA at hEL hD
 generalize hLBg:(if B.isEmpty=true then[]else[B])=LB
 refine AU (λv:VRg=>⟨[(3,true,.sl v.tl v.E),(20,true,eLl LB),(21,true,.int .i64 LB.length),(22,true,.int .i64 v.i)],v.H,v.n⟩) (IDgp LB D H1 n1 tl E) (λv=>LB.length-v.i)
  ⟨0,E,tl,H1,n1⟩ rfl ⟨Vi _,λ_=>⟨rfl,rfl,rfl,rfl⟩,λh=>by cases h⟩ ?_
 rintro⟨i,E2,tl2,H2,n2⟩ ⟨hi,i0,i1⟩
 simp only at hi i0 i1
 cases hB:B.isEmpty with
 |true=>
  rw[hB]at hLBg hD
  rw[Bool.true_or,Vk rfl,Vy]at hD
  rw[Vk rfl]at hLBg
  subst hLBg;subst hD
  obtain rfl:i=0:=by simpa using hi
  obtain⟨rfl,rfl,rfl,rfl⟩:=i0 rfl
  simp only[eE,eC,eN,Nat.reduceEqDiff,↓reduceIte,c0,i00]
  exact Wk.slx hes hEL.wks
 |false=>
 rw[hB]at hLBg hD
 rw[WV]at hD
 rw[Vb (by decide)]at hLBg
 subst hLBg
 have hi':i=0\/i=1:=by simp at hi;omega
 rcases hi' with rfl|rfl
 case inr=>
  obtain⟨k1,k2⟩:=i1 rfl
  simp only[eE,eC,eN,Nat.reduceEqDiff,↓reduceIte,Int.reduceLT,c1]
  exact Wk.slx k1 k2.wks
 obtain⟨rfl,rfl,rfl,rfl⟩:=i0 rfl
 have hwB:wide B:=by show B.length<_;omega
 have c1n:((1:Nat):Int)=1:=rfl
 cases hA:A.isEmpty with
 |true=>
  rw[hA,Vk rfl]at hLAg
  subst hLAg
  have hE0:E2=[]:=VR hEL.len
  subst hE0
  have hAB:decide (A=B)=false:=VN λe=>by rw[e,hB]at hA;cases hA
  rw[hAB,Vb (by decide),Vw]at hD
  subst hD
  have q1:Bh H2 1 tl2=True:=V3 htl.app
  simp only[eE,eC,eN,reduceCtorEq,Nat.reduceEqDiff,↓reduceIte,Nat.reduceLeDiff,Nat.reduceMul,Nat.reduceLT,Int.reduceEq,Int.reduceLT,V8,V1,c0,i00,Wb,W3,Va,q1,fr1 hf1,Al,c1n,w01]
  exact .mk ⟨1,[eIs B],.own (n2+3) 1,_,n2+5⟩ rfl ⟨V9 _,λh=>(by cases h),λ_=>⟨.inl rfl,⟨_,rfl,.inl rfl⟩,trivial⟩⟩ (show 1-1<1-0 by decide)
 |false=>
  rw[hA,Vb (by decide)]at hLAg
  subst hLAg
  obtain⟨x,hx⟩:∃x,E2=[x]:=by
   have:=hEL.len
   match E2,this with
   |[x],_=>exact⟨x,rfl⟩
  subst hx
  obtain⟨⟨t,rfl,ht⟩,-⟩:=hEL
  have htl1:tl2.esz=1:=hes.resolve_right (by simp)
  have ka:dIs.ok (.sl t (A.map eI))=True:=V3 ⟨ht.imp (λz=>z) λq=>by rw[q];rfl,by rw[A0]⟩
  have kd:dIs.dec (.sl t (A.map eI))=A:=A0 A
  have q1:Bh H2 1 tl2=True:=V3 htl.app
  by_cases hAB:A=B
  ·rw[VJ hAB,Vk rfl,Vy]at hD
   subst hD
   simp only[eE,eC,eN,Nat.reduceEqDiff,↓reduceIte,Int.reduceEq,Int.reduceLT,V8,V1,c0,Wb,W3,Va,c1n,w01,htl1,Tdg_e,s2,ka,kd,BD,At,V3 hwB,CQ hAB,V8]
   exact .mk ⟨1,[.sl t (A.map eI)],tl2,H2,n2⟩ rfl ⟨V9 _,λh=>(by cases h),λ_=>⟨.inl htl1,⟨t,rfl,ht⟩,trivial⟩⟩ (show 1-1<1-0 by decide)
  ·rw[VN hAB,Vb (by decide)]at hD
   subst hD
   simp only[eE,eC,eN,reduceCtorEq,Nat.reduceEqDiff,↓reduceIte,Nat.reduceAdd,Nat.reduceLeDiff,Nat.reduceMul,Nat.reduceLT,Int.reduceEq,Int.reduceLT,Ve,V1,c0,Wb,W3,Va,q1,fr1 hf1,Al,c1n,w01,htl1,Tdg_e,s2,ka,kd,BD,At,V3 hwB,Bu hAB,Ve]
   exact .mk ⟨1,[.sl t (A.map eI),eIs B],.own (n2+3) 1,_,n2+5⟩ rfl ⟨V9 _,λh=>(by cases h),λ_=>⟨.inl rfl,⟨t,rfl,ht⟩,⟨_,rfl,.inl rfl⟩,trivial⟩⟩ (show 1-1<1-0 by decide)
end Go.AM
namespace Go.AM
open Go.Proofs Go.Lib
def Tfa(g:Grd):Tab:=tadd 148 (s1 dGd (λg=>few g.holes/\few g.cells) nbV) (tadd 222 (GB g) (tadd 225 (s1 dGd GrV λg=>eLl (dgP g)) tnil))
theorem Tfa_ok{g:Grd}(G:GrV g):AH Tryz.prog (Tfa g):=((AH.tnil.add (q1 p225)).add (Sd G)).add (q1 λg h=>p148 g h.1 h.2)
theorem JD(g:Grd)(a:List AVal)(H:AB):Tfa g 148 a H=s1 dGd (λg=>few g.holes/\few g.cells) nbV a H:=rfl
theorem Tfa_l(g:Grd)(a:List AVal)(H:AB):Tfa g 222 a H=GB g a H:=rfl
theorem Tfa_d(g:Grd)(a:List AVal)(H:AB):Tfa g 225 a H=s1 dGd GrV (λg=>eLl (dgP g)) a H:=rfl
structure IFy(N:Nat)(L:Nat->List (List Int))(v:VRg):Prop where
 hi:v.i<=N
 hn:2<=v.n
 fr:AN v.H v.n
 tok:tkG 1 2 v.H v.tl
 es:v.tl.esz=1\/v.E=[]
 hE:EL v.E (L v.i)
structure IFz(N:Nat)(v:VRg):Prop where
 hi:v.i<=N
 hn:2<=v.n
 fr:AN v.H v.n
 tok:tkG 1 2 v.H v.tl
 es:v.tl.esz=1\/allL v.i=[]
 hE:v.E=(allL v.i).map eI
theorem OO(sh:Int){S:List Spot}(hd:S.Nodup){c:Nat}{s:Spot}(hs:S[c]?=some s):(nbS sh S s++[(c:Int)]).mergeSort leI=idxP S.length λb=>decide (b=c)||((Dz sh).any λd=>decide (S[b]?=(S[c]?).map λs=>addP s d)):=by
 have hself:(c:Int)∉nbS sh S s:=by simp_all [nb_bes,MX,SP]
 have hcl:=(VV.1 hs).1
 refine G5 ?_ (G4 ..) λx=>?_
 ·rw[X6]
  refine⟨(G4 ..).imp λq=>by omega,by simp,λa ha b hb e=>?_⟩
  rw[Wp.1 hb]at e
  exact hself (e▸ha)
 ·rw[W7,Wp,hs]
  unfold nbS
  rw[Ew,Ew]
  simp only[VL,Vr,Vf]
  constructor
  ·grind
  ·grind
theorem TW{H H':AB}{n0 n' m:Nat}{x:List Int}{y:Int}{lv:AVal}{K:AB->AVal->Prop}(h:ClnP H n0 x (.ret lv) H' n')(hx:x.length<1000000)(hm:hget H' m=none)
  (hK:∀id (rest:List Int),(id=m\/id=n0+2/\n'=n0+4)->K (hset H' id (.arr 1 (((x++[y])++rest).map eI))) (.ref id 1 0 (x++[y]).length ((x++[y]).length+rest.length))):HF H' m 1 8 (.int .i64 0) K lv (some [eI y]):=by
 rcases h with⟨rfl,rfl,hn,t,ho,ht⟩|⟨hne,rfl,rest,ho,rfl⟩
 ·obtain rfl:=AOut.ret.inj ho
  rw[Bk]
  refine⟨hm,by decide,rfl,ht,by simp [Al],by simp,(λe=>by cases e),λ_ cap hcap=>?_⟩
  have:=hK m (List.replicate (cap-1) 0) (.inl rfl)
  simp only[Vw,Vs,Vq,W8,Wz,Vu,X0]at this hcap⊢
  rw[show 0+1+(cap-1)=cap by omega]at this
  exact this
 ·obtain rfl:=AOut.ret.inj ho
  have hg:hget (hset H (n0+2) (.arr 1 ((x++rest).map eI))) (n0+2)=some (.arr 1 ((x++rest).map eI)):=AC ..
  generalize hset H (n0+2) (.arr 1 ((x++rest).map eI))=G at hg hm hK
  rw[Gj hg]
  have el:(x++[y]).length=x.length+1:=by simp
  refine⟨hm,by decide,rfl,rfl,rfl,AX (by simp only[Vq,W8];omega) (by decide),by simp only[Vq,W8];omega,rfl,by simp,by omega,λhr=>?_,λhr cap' hc=>?_⟩
  ·have:=hK (n0+2) (rest.drop 1) (.inr ⟨rfl,rfl⟩)
   simp only[Vq,W8]at hr⊢
   have e1:List.take x.length ((x++rest).map eI)=x.map eI:=by rw[Vl,Wt (by simp),VZ (by simp)]
   have e2:List.drop (x.length+(0+1)) ((x++rest).map eI)=(rest.drop 1).map eI:=by rw[Vl,List.drop_append,WY (by simp)];simp
   rw[e1,e2]
   rw[el,Vl,Vl,Wf,show x.length+1+(rest.length-1)=x.length+rest.length by omega]at this
   exact this
  ·have:=hK m (List.replicate (cap'-(x.length+1)) 0) (.inl rfl)
   simp only[Vq,W8]at hr hc⊢
   have e1:List.take x.length ((x++rest).map eI)=x.map eI:=by rw[Vl,Wt (by simp),VZ (by simp)]
   rw[e1]
   rw[el,Vl,Vl,X0,Wz,show x.length+1+(cap'-(x.length+1))=cap' by omega]at this
   exact this
def prY(x:List Int)(c j:Nat):List (List Int):=((x.take j).filter λb=>decide ((c:Int)<b)).map λb=>[(c:Int),b]
theorem Qt(x:List Int)(c:Nat){j:Nat}{b:Int}(h:x[j]?=some b):prY x c (j+1)=prY x c j++if(c:Int)<b then[[(c:Int),b]]else[]:=by
 unfold prY
 rw[VX,h,X1,Vl]
 congr 1
 by_cases q:(c:Int)<b<;>simp [q]
theorem OP(x:List Int)(c j:Nat):(prY x c j).length<=j:=by
 unfold prY
 rw[V0]
 refine W1 (Wm ..) ?_
 rw[Vt];omega
theorem c3n:((3:Nat):Int)=3:=rfl
theorem c4n:((4:Nat):Int)=4:=rfl
theorem c5n:((5:Nat):Int)=5:=rfl
theorem c6n:((6:Nat):Int)=6:=rfl
theorem c7n:((7:Nat):Int)=7:=rfl
theorem p149(g:Grd)(f:Nat)(G:GrV g)(hf:f<=7):Pur Tryz.prog 149 [DC g,.int .i64 (f:Int)] (.tup [eLl (famS g.sh g.w g.h (AP g.sh g.w g.cells) f),.int .i64 0]):=by
 refine .mk ⟨BZ 0 ..,trivial,trivial⟩ ⟨Ar 0 _,trivial,trivial⟩ (a149 (AE (Tfa_ok G) (AF ?_)))
 have f1:dGd.ok (.agg (AG g.sh g.w g.h g.holes g.cells))=True:=KC g
 have f2:dGd.dec (.agg (AG g.sh g.w g.h g.holes g.cells))=g:=G3 g
 simp only[AG]at f1 f2
 obtain⟨hr1,hr2,hr3⟩:=A8 G.hG
 have hc:few g.cells:=by show g.cells.length<_;omega
 have hnv:=nbV_S G
 have hslen:=Bg g
 obtain⟨hs1,hs2⟩:=F2 G.hG
 have hd:(AP g.sh g.w g.cells).Nodup:=G6 (by omega) hr1 λp hp=>(hr3 p hp).1
 have hfrN:AN (hset hnil 0 (.box (AG g.sh g.w g.h g.holes g.cells))) 3:=AN.nil.hset (Vi 3) (by decide)
 simp only[AG]at hfrN
 rcases(by omega:f=0\/f=1\/f=2\/f=3\/f=4\/f=5\/f=6\/f=7)with rfl|rfl|rfl|rfl|rfl|rfl|rfl|rfl
 ·
  simp only[eE,eC,eN,reduceCtorEq,Nat.reduceEqDiff,↓reduceIte,Nat.reduceAdd,Nat.reduceLT,V8,V1,c0,V0,Va,Vc,c149,AG,JD,s1,f1,f2,V3 G.2,V3 hc,hnv]
  have hfam:famS g.sh g.w g.h (AP g.sh g.w g.cells) 0=(List.range g.cells.length).map λ(c:Nat)=>[(c:Int)]:=by
   unfold famS;rw[Vk rfl,SL,hslen,Xj];rfl
  rw[hfam]
  refine AU (λv:VRg=>⟨[(4,true,.sl v.tl v.E),(30,true,.int .i64 g.cells.length),(31,true,.int .i64 v.i)],v.H,v.n⟩) (IFy g.cells.length λi=>(List.range i).map λ(c:Nat)=>[(c:Int)]) (λv=>g.cells.length-v.i)
   ⟨0,[],.nil,_,3⟩ rfl ⟨Vi _,(show 2<=3 by decide),hfrN,.inl rfl,.inr rfl,trivial⟩ ?_
  rintro⟨i,E,tl,H,n⟩ ⟨hi,hn,hfr,htl,hes,hEL⟩
  simp only at hi hn hfr htl hes hEL
  by_cases hlt:i<g.cells.length
  ·have e:=AJ (k:=i) (by omega)
   have hEl:E.length=i:=by rw[hEL.len,V0,Xc]
   have q1:Bh H 1 tl=True:=V3 htl.app
   have q2:(E.length<=35184372088831)=True:=V3 (by omega)
   have q3:Al (E.length+1) 24=True:=V3 (AX (by omega) (by decide))
   simp only[eE,eC,eN,reduceCtorEq,Nat.reduceEqDiff,↓reduceIte,Nat.reduceLeDiff,Nat.reduceMul,Nat.reduceLT,Int.reduceEq,lt_T hlt,e,q1,q2,q3,fr1 hfr]
   refine .mk ⟨i+1,E++[.sl (.exact 1) [.int .i64 i]],.own (n+4) 1,hset (AW H tl) (n+4) .tok,n+6⟩ rfl ⟨hlt,by simp only[];omega,(Ak htl hfr).hset (m:=n+6) (by omega) (by omega),.inr (.inr ⟨n+4,rfl,by omega,AC ..⟩),.inl rfl,?_⟩ (by simp only[];omega)
   simp only[WR,Vl,Vs,VP]
   exact hEL.app ⟨⟨.exact 1,rfl,.inl rfl⟩,trivial⟩
  obtain rfl:i=g.cells.length:=by omega
  simp only[eE,eC,eN,Nat.reduceEqDiff,↓reduceIte,lt_F hlt]
  exact Wk.tup (.cons (Wk.slx hes hEL.wks) (.cons (Wk.refl _) .nil))
 ·simp only[eE,eC,eN,reduceCtorEq,Nat.reduceEqDiff,↓reduceIte,Nat.reduceAdd,Nat.reduceLT,Int.reduceEq,V8,V1,c1,Va,Vc,c149,AG,JD,Tfa_l,GB,s1,f1,f2,V3 G.2,V3 hc,hnv]
  exact Wk.refl _
 ·simp only[eE,eC,eN,reduceCtorEq,Nat.reduceEqDiff,↓reduceIte,Nat.reduceAdd,Nat.reduceLT,Int.reduceEq,V8,V1,Va,Vc,c149,AG,JD,Tfa_l,GB,s1,f1,f2,V3 G.2,V3 hc,hnv,c2n]
  exact Wk.refl _
 ·simp only[eE,eC,eN,reduceCtorEq,Nat.reduceEqDiff,↓reduceIte,Nat.reduceAdd,Nat.reduceLT,Int.reduceEq,V8,V1,Va,Vc,c149,AG,JD,Tfa_d,s1,f1,f2,V3 G.2,V3 hc,hnv,c3n,V3 G]
  exact Wk.refl _
 ·simp only[eE,eC,eN,reduceCtorEq,Nat.reduceEqDiff,↓reduceIte,Nat.reduceAdd,Nat.reduceLT,Int.reduceEq,V8,V1,Va,Vc,c149,AG,JD,s1,f1,f2,V3 G.2,V3 hc,hnv,c4n]
  exact Wk.refl _
 ·
  have hfam:famS g.sh g.w g.h (AP g.sh g.w g.cells) 5=(List.range g.cells.length).map λ(c:Nat)=>(nbS g.sh (AP g.sh g.w g.cells) (spC g c)++[(c:Int)]).mergeSort leI:=by
   unfold famS
   rw[Vb (by decide),Vb (by decide),Vb (by decide),Vb (by decide),Vb (by decide),Vk rfl,hslen]
   refine W6 λc hcm=>?_
   rw[OO g.sh hd (FG (Wa.1 hcm)),hslen]
  rw[hfam]
  simp only[eE,eC,eN,reduceCtorEq,Nat.reduceEqDiff,↓reduceIte,Nat.reduceAdd,Nat.reduceLT,Int.reduceEq,V8,V1,V0,Va,Vc,c149,AG,JD,s1,f1,f2,V3 G.2,V3 hc,hnv,c5n]
  have hnl:(nbsS g.sh (AP g.sh g.w g.cells)).length=g.cells.length:=by rw[nbsS,V0,hslen]
  have hna:∀i,i<g.cells.length->(nbsS g.sh (AP g.sh g.w g.cells))[i]?=some (nbS g.sh (AP g.sh g.w g.cells) (spC g i)):=λi hi=>by rw[nbsS,V6,FG hi];rfl
  have hnx:∀s,(nbS g.sh (AP g.sh g.w g.cells) s).length<=g.cells.length:=λs=>by rw[<-hslen];exact EA ..
  generalize AP g.sh g.w g.cells=S at hnl hna hnx
  generalize hNB:nbsS g.sh S=NB at hnl hna
  refine AU (λv:VRg=>⟨[(4,true,.sl v.tl v.E),(57,true,eLl NB),(58,true,.int .i64 NB.length),(59,true,.int .i64 v.i)],v.H,v.n⟩) (IFy NB.length λi=>(List.range i).map λ(c:Nat)=>(nbS g.sh S (spC g c)++[(c:Int)]).mergeSort leI) (λv=>NB.length-v.i)
   ⟨0,[],.nil,_,3⟩ rfl ⟨Vi _,(show 2<=3 by decide),hfrN,.inl rfl,.inr rfl,trivial⟩ ?_
  rintro⟨i,E,tl,H,n⟩ ⟨hi,hn,hfr,htl,hes,hEL⟩
  simp only at hi hn hfr htl hes hEL
  by_cases hlt:i<NB.length
  case neg=>
   obtain rfl:i=NB.length:=by omega
   simp only[eE,eC,eN,Nat.reduceEqDiff,↓reduceIte,lt_F hlt]
   rw[hnl]at hEL
   exact Wk.tup (.cons (Wk.slx hes hEL.wks) (.cons (Wk.refl _) .nil))
  have e:=AJ (k:=i) (by omega)
  have hg:=hna i (by omega)
  have hxl:=hnx (spC g i)
  have hEl:E.length=i:=by rw[hEL.len,V0,Xc]
  generalize hx:nbS g.sh S (spC g i)=x at hg hxl
  simp only[eE,eC,eN,Nat.reduceEqDiff,↓reduceIte,V1,V2,V4,V0,V6,lt_T hlt,hg]
  refine(ON (.inl ⟨_,rfl,.inl rfl⟩) (show x.length<_ by omega)).mono ?_
  intro o H1 n1 hcl
  have hlv:∃lv,o= .ret lv:=by
   rcases hcl with⟨-,-,-,t,ho,-⟩|⟨-,-,rest,ho,-⟩<;>exact⟨_,ho⟩
  obtain⟨lv,rfl⟩:=hlv
  have hn1:n+6<=n1/\n1<=n+10:=by rcases hcl with⟨-,-,h,-⟩|⟨-,h,-⟩<;>omega
  have hf1:AN H1 n1:=by
   rcases hcl with⟨-,rfl,-⟩|⟨-,rfl,rest,-,rfl⟩
   ·exact λj hj=>hfr j (by omega)
   ·exact hfr.hset (by omega) (by omega)
  have hk1:∀j,j<n+6->hget H1 j=hget H j:=λj hj=>by
   rcases hcl with⟨-,rfl,-⟩|⟨-,rfl,rest,-,rfl⟩
   ·rfl
   ·rw[AA _ _ _ _ (by omega)]
  have hm4:hget H1 (n+4)=none:=by rw[hk1 _ (by omega)];exact hfr _ (by omega)
  simp only[eE,reduceCtorEq,Nat.reduceEqDiff,↓reduceIte,Nat.reduceLeDiff,Nat.reduceMul,Nat.reduceLT,retK]
  refine TW hcl (by omega) hm4 λid rest hid=>?_
  have hidn:n<=id/\id<n1:=by omega
  simp only[eE,eN,Nat.reduceEqDiff,↓reduceIte,DY]
  refine(MW (AC ..) (by simp) (by simp;omega)).mono ?_
  rintro o H2 n2 ⟨rfl,rfl,rfl⟩
  rw[Xn,List.drop_left,AK]
  have hsl:((x++[(i:Int)]).mergeSort leI).length=(x++[(i:Int)]).length:=CW _
  have htk2:List.take (x++[(i:Int)]).length (((x++[(i:Int)]).mergeSort leI++rest).map eI)=((x++[(i:Int)]).mergeSort leI).map eI:=by rw[Vl,List.take_left' (by rw[V0,hsl])]
  have hle:((x++[(i:Int)]).length<=(((x++[(i:Int)]).mergeSort leI++rest)).length)=True:=V3 (by have:=hsl;simp only[Vm]at this⊢;omega)
  have hle2:((x++[(i:Int)]).length<=(x++[(i:Int)]).length+rest.length)=True:=V3 (by omega)
  have gt:tkG 1 2 (hset H1 id (.frz 1 (((x++[(i:Int)]).mergeSort leI++rest).map eI))) tl:=by
   rcases htl with h|h|⟨z,h1,h2,h3⟩
   ·exact .inl h
   ·exact .inr (.inl h)
   ·have:=hfr.lt h3
    exact .inr (.inr ⟨z,h1,h2,by rw[AA _ _ _ _ (by omega),hk1 z (by omega)];exact h3⟩)
  have gf:AN (hset H1 id (.frz 1 (((x++[(i:Int)]).mergeSort leI++rest).map eI))) n2:=hf1.hset (V9 _) (by omega)
  have q1:=V3 gt.app
  have q2:(E.length<=35184372088831)=True:=V3 (by omega)
  have q3:Al (E.length+1) 24=True:=V3 (AX (by omega) (by decide))
  have hm3:=fr1 gf 3
  simp only[eE,eN,reduceCtorEq,Nat.reduceEqDiff,↓reduceIte,Nat.reduceLeDiff,Nat.reduceMul,Nat.reduceLT,Int.reduceEq,V0,retK,frzE,hle,hle2,htk2,AK,q1,q2,q3,hm3,e]
  generalize hset H1 id (.frz 1 (((x++[(i:Int)]).mergeSort leI++rest).map eI))=H5 at gt gf
  refine .mk ⟨i+1,E++[.sl (if rest.length=0 then .exact 1 else .none 1) (((x++[(i:Int)]).mergeSort leI).map eI)],.own (n2+3) 1,hset (AW H5 tl) (n2+3) .tok,n2+5⟩ rfl ⟨hlt,by simp only[];omega,(Ak gt gf).hset (m:=n2+5) (by omega) (by omega),.inr (.inr ⟨n2+3,rfl,by omega,AC ..⟩),.inl rfl,?_⟩ (by simp only[];omega)
  ·simp only[WR,Vl,Vs,VP]
   rw[hx]
   exact hEL.app ⟨⟨_,rfl,.inl (by split<;>rfl)⟩,trivial⟩
 ·
  have hnl:(nbsS g.sh (AP g.sh g.w g.cells)).length=g.cells.length:=by rw[nbsS,V0,hslen]
  have hna:∀i,i<g.cells.length->(nbsS g.sh (AP g.sh g.w g.cells))[i]?=some (nbS g.sh (AP g.sh g.w g.cells) (spC g i)):=λi hi=>by rw[nbsS,V6,FG hi];rfl
  have hnx:∀s,(nbS g.sh (AP g.sh g.w g.cells) s).length<=g.cells.length:=λs=>by rw[<-hslen];exact EA ..
  have hfam:famS g.sh g.w g.h (AP g.sh g.w g.cells) 6=(List.range g.cells.length).flatMap λ(c:Nat)=>prY (nbS g.sh (AP g.sh g.w g.cells) (spC g c)) c (nbS g.sh (AP g.sh g.w g.cells) (spC g c)).length:=by
   unfold famS
   rw[Vb (by decide),Vb (by decide),Vb (by decide),Vb (by decide),Vb (by decide),Vb (by decide),Vk rfl,hslen]
   rw[List.flatMap_def,List.flatMap_def]
   congr 1
   refine W6 λc hcm=>?_
   rw[hna c (Wa.1 hcm),V1]
   unfold prY
   rw[VQ]
  rw[hfam]
  simp only[eE,eC,eN,reduceCtorEq,Nat.reduceEqDiff,↓reduceIte,Nat.reduceAdd,Nat.reduceLT,Int.reduceEq,V8,V1,V0,Va,Vc,c149,AG,JD,s1,f1,f2,V3 G.2,V3 hc,hnv,c6n]
  generalize AP g.sh g.w g.cells=S at hnl hna hnx
  generalize hNB:nbsS g.sh S=NB at hnl hna
  have hLl:∀i,((List.range i).flatMap λ(c:Nat)=>prY (nbS g.sh S (spC g c)) c (nbS g.sh S (spC g c)).length).length<=256*i:=λi=>by
   induction i with
   |zero=>simp
   |succ i ih=>
    rw[WR,List.flatMap_append,Vm]
    simp only[Xm,List.flatMap_nil,Vy]
    have:=OP (nbS g.sh S (spC g i)) i (nbS g.sh S (spC g i)).length
    have:=hnx (spC g i)
    omega
  refine AU (λv:VRg=>⟨[(4,true,.sl v.tl v.E),(78,true,eLl NB),(79,true,.int .i64 NB.length),(80,true,.int .i64 v.i)],v.H,v.n⟩) (IFy NB.length λi=>(List.range i).flatMap λ(c:Nat)=>prY (nbS g.sh S (spC g c)) c (nbS g.sh S (spC g c)).length) (λv=>NB.length-v.i)
   ⟨0,[],.nil,_,3⟩ rfl ⟨Vi _,(show 2<=3 by decide),hfrN,.inl rfl,.inr rfl,trivial⟩ ?_
  rintro⟨i,E,tl,H,n⟩ ⟨hi,hn,hfr,htl,hes,hEL⟩
  simp only at hi hn hfr htl hes hEL
  by_cases hlt:i<NB.length
  case neg=>
   obtain rfl:i=NB.length:=by omega
   simp only[eE,eC,eN,Nat.reduceEqDiff,↓reduceIte,lt_F hlt]
   rw[hnl]at hEL
   exact Wk.tup (.cons (Wk.slx hes hEL.wks) (.cons (Wk.refl _) .nil))
  have e:=AJ (k:=i) (by omega)
  have hg:=hna i (by omega)
  have hxl:=hnx (spC g i)
  have hLi:=hLl i
  have hstep:∀z,((List.range (i+1)).flatMap λ(c:Nat)=>prY (nbS g.sh S (spC g c)) c (nbS g.sh S (spC g c)).length)=z->((List.range i).flatMap λ(c:Nat)=>prY (nbS g.sh S (spC g c)) c (nbS g.sh S (spC g c)).length)++prY (nbS g.sh S (spC g i)) i (nbS g.sh S (spC g i)).length=z:=λz hz=>by
   rw[<-hz,WR,List.flatMap_append]
   simp only[Xm,List.flatMap_nil,Vy]
  have hstep:=hstep _ rfl
  generalize ((List.range i).flatMap λ(c:Nat)=>prY (nbS g.sh S (spC g c)) c (nbS g.sh S (spC g c)).length)=L at hEL hLi hstep
  generalize hx:nbS g.sh S (spC g i)=x at hg hxl hstep
  simp only[eE,eC,eN,Nat.reduceEqDiff,↓reduceIte,V1,V2,V4,V0,V6,lt_T hlt,hg]
  refine AU (λv:VRg=>⟨[(4,true,.sl v.tl v.E),(11,true,.int .i64 i),(78,true,eLl NB),(79,true,.int .i64 NB.length),(80,true,.int .i64 i),(85,true,eIs x),(86,true,.int .i64 x.length),(87,true,.int .i64 v.i)],v.H,v.n⟩) (IFy x.length λj=>L++prY x i j) (λv=>x.length-v.i)
   ⟨0,E,tl,H,n⟩ rfl ⟨Vi _,hn,hfr,htl,hes,by rw[show prY x i 0=[]from rfl,Vy];exact hEL⟩ ?_
  rintro⟨j,E2,tl2,H2,n2⟩ ⟨hj,hn2,hfr2,htl2,hes2,hEL2⟩
  simp only at hj hn2 hfr2 htl2 hes2 hEL2
  by_cases hlj:j<x.length
  case neg=>
   obtain rfl:j=x.length:=by omega
   simp only[eE,eC,eN,Nat.reduceEqDiff,↓reduceIte,Int.reduceEq,lt_F hlj,e]
   rw[hstep]at hEL2
   exact .mk ⟨i+1,E2,tl2,H2,n2⟩ rfl ⟨hlt,hn2,hfr2,htl2,hes2,hEL2⟩ (by simp only[];omega)
  have ej:=AJ (k:=j) (by omega)
  have hgj:=V5 hlj
  have hsu:=Qt x i hgj
  generalize x[j]=b at hgj hsu
  by_cases hb:(i:Int)<b
  ·rw[Vk hb]at hsu
   have hpl:=OP x i j
   have hEl:E2.length<=70000:=by rw[hEL2.len,Vm];omega
   have q1:Bh H2 1 tl2=True:=V3 htl2.app
   have q2:(E2.length<=35184372088831)=True:=V3 (by omega)
   have q3:Al (E2.length+1) 24=True:=V3 (AX (by omega) (by decide))
   simp only[eE,eC,eN,reduceCtorEq,Nat.reduceEqDiff,↓reduceIte,Nat.reduceLeDiff,Nat.reduceMul,Nat.reduceLT,Int.reduceEq,V1,V2,V4,V0,V6,lt_T hlj,hgj,CQ hb,ej,q1,q2,q3,fr1 hfr2]
   refine .mk ⟨j+1,E2++[.sl (.exact 1) [.int .i64 i,.int .i64 b]],.own (n2+5) 1,hset (AW H2 tl2) (n2+5) .tok,n2+7⟩ rfl ⟨hlj,by simp only[];omega,(Ak htl2 hfr2).hset (m:=n2+7) (by omega) (by omega),.inr (.inr ⟨n2+5,rfl,by omega,AC ..⟩),.inl rfl,?_⟩ (by simp only[];omega)
   simp only[hsu]
   rw[<-VG]
   exact hEL2.app ⟨⟨.exact 1,rfl,.inl rfl⟩,trivial⟩
  ·rw[Vb hb,Vy]at hsu
   simp only[eE,eC,eN,Nat.reduceEqDiff,↓reduceIte,Int.reduceEq,V1,V2,V4,V0,V6,lt_T hlj,hgj,Bu hb,ej]
   exact .mk ⟨j+1,E2,tl2,H2,n2⟩ rfl ⟨hlj,hn2,hfr2,htl2,hes2,by simp only[hsu];exact hEL2⟩ (by simp only[];omega)
 ·
  have hfam:famS g.sh g.w g.h (AP g.sh g.w g.cells) 7=[allL g.cells.length]:=by
   unfold famS
   rw[Vb (by decide),Vb (by decide),Vb (by decide),Vb (by decide),Vb (by decide),Vb (by decide),Vb (by decide),hslen];rfl
  rw[hfam]
  simp only[eE,eC,eN,reduceCtorEq,Nat.reduceEqDiff,↓reduceIte,Nat.reduceAdd,Nat.reduceLT,Int.reduceEq,V8,V1,V0,Va,Vc,c149,AG,JD,s1,f1,f2,V3 G.2,V3 hc,hnv,c7n]
  refine AU (λv:VRg=>⟨[(15,true,.sl v.tl v.E),(106,true,.int .i64 g.cells.length),(107,true,.int .i64 v.i)],v.H,v.n⟩) (IFz g.cells.length) (λv=>g.cells.length-v.i)
   ⟨0,[],.nil,_,3⟩ rfl ⟨Vi _,(show 2<=3 by decide),hfrN,.inl rfl,.inr rfl,rfl⟩ ?_
  rintro⟨i,E,tl,H,n⟩ ⟨hi,hn,hfr,htl,hes,hEL⟩
  simp only at hi hn hfr htl hes hEL
  subst hEL
  have hEl:(allL i).length<=i:=EA ..
  by_cases hlt:i<g.cells.length
  ·have e:=AJ (k:=i) (by omega)
   have q1:Bh H 1 tl=True:=V3 htl.app
   have q2:((allL i).length<=35184372088831)=True:=V3 (by omega)
   have q3:Al ((allL i).length+1) 8=True:=V3 (AX (by omega) (by decide))
   simp only[eE,eC,eN,reduceCtorEq,Nat.reduceEqDiff,↓reduceIte,Nat.reduceLeDiff,Nat.reduceMul,Nat.reduceLT,Int.reduceEq,V0,lt_T hlt,e,q1,q2,q3,fr1 hfr]
   refine .mk ⟨i+1,(allL i).map eI++[.int .i64 i],.own (n+3) 1,hset (AW H tl) (n+3) .tok,n+5⟩ rfl ⟨hlt,by simp only[];omega,(Ak htl hfr).hset (m:=n+5) (by omega) (by omega),.inr (.inr ⟨n+3,rfl,by omega,AC ..⟩),.inl rfl,?_⟩ (by simp only[];omega)
   simp only[N6,Vl,Vs,VP]
  obtain rfl:i=g.cells.length:=by omega
  simp only[eE,eC,eN,Nat.reduceEqDiff,↓reduceIte,Nat.reduceLeDiff,Nat.reduceMul,Nat.reduceLT,lt_F hlt]
  exact Wk.tup (.cons (Wk.slx (m:=[eIs (allL g.cells.length)]) (.inl rfl) (.cons (Wk.sl (hes.imp (λz=>z) λq=>by rw[q];rfl)) .nil)) (.cons (Wk.refl _) .nil))
end Go.AM
namespace Go.AM
open Go.Proofs Go.Lib
abbrev cDz(d:Dcl):List AVal:=[.str d.nm,.int .i64 d.ver,.int .i64 d.sh,.int .i64 d.w,.int .i64 d.h,eIs d.holes,eSys d.syms,eRgs d.regs,eCls d.clus,eRus d.ruls,z0,z0,z0,zs,zs,zs,zs]
def Tbs:Tab:=tadd 145 (s1 dD FewD EN) (tadd 146 (s1 dD FewD λd=>.int .i64 (chkD d)) (tadd 147 sMk (tadd 148 (s1 dGd (λg=>few g.holes/\few g.cells) nbV) tnil)))
theorem gMk:∀args H n,(sMk args H).1->AZ Tryz.prog 147 args H n (sMk args H).2:=by
 intro args H n hh
 unfold sMk at hh⊢
 split at hh
 ·obtain⟨h1,h2⟩:=hh
  refine AI.args ((p147 _ _ _ _ h2).quiet H n) ?_
  rintro g vs ⟨v,r,rfl,k1,v2,r2,rfl,k2,v3,r3,rfl,k3,v4,r4,rfl,k4,k5⟩
  exact⟨v,_,rfl,k1,v2,_,rfl,k2,v3,_,rfl,k3,v4,_,rfl,dIs.wk _ h1 _ _ k4,k5⟩
 ·exact hh.elim
theorem OQ:AH Tryz.prog Tbs:=(((AH.tnil.add (q1 λg h=>p148 g h.1 h.2)).add gMk).add (q1 p146)).add (q1 p145)
theorem Tbs_r(a:List AVal)(H:AB):Tbs 145 a H=s1 dD FewD EN a H:=rfl
theorem Tbs_c(a:List AVal)(H:AB):Tbs 146 a H=s1 dD FewD (λd=>.int .i64 (chkD d)) a H:=rfl
theorem Tbs_m(sh w h:Int)(x:AVal)(H:AB):Tbs 147 [.int .i64 sh,.int .i64 w,.int .i64 h,x] H=(dIs.ok x/\few (dIs.dec x),B5 sh w h (dIs.dec x)):=rfl
theorem Tbs_n(a:List AVal)(H:AB):Tbs 148 a H=s1 dGd (λg=>few g.holes/\few g.cells) nbV a H:=rfl
section
variable {H:AB} {n p:Nat} {d:Dcl}
theorem KV(hd:FewD d)(hp:hget H p=some (.box (cDz d))):AI Tryz.prog 99 [.ptr p 0] H n λo H' n'=>n'=n/\match resD d with
  | .error e=>o= .ret (.int .i64 e)/\H'=hset H p (.box (cDz dcl0))
  | .ok x=>o= .ret (.int .i64 0)/\H'=hset H p (.box (cDz x)):=by
 refine a99 (AE OQ (AF ?_))
 have e1:dD.ok (.agg (AO d))=True:=FF d
 have e2:dD.dec (.agg (AO d))=d:=DA d
 simp only[AO]at e1 e2
 cases hr:resD d with
 |error e=>
  have hv:EN d= .tup [encD dcl0,.int .i64 e]:=by unfold EN;rw[hr]
  simp only[eE,eN,reduceCtorEq,Nat.reduceEqDiff,↓reduceIte,Nat.reduceAdd,Nat.reduceLeDiff,Nat.reduceLT,V1,Va,Vc,c99,hp,Tbs_r,s1,e1,e2,V3 hd,hv]
 |ok x=>
  have hv:EN d= .tup [encD x,.int .i64 0]:=by unfold EN;rw[hr]
  simp only[eE,eN,reduceCtorEq,Nat.reduceEqDiff,↓reduceIte,Nat.reduceAdd,Nat.reduceLeDiff,Nat.reduceLT,V1,Va,Vc,c99,hp,Tbs_r,s1,e1,e2,V3 hd,hv]
theorem OR(hd:FewD d)(hp:hget H p=some (.box (cDz d))):AI Tryz.prog 100 [.ptr p 0] H n λo H' n'=>o= .ret (.int .i64 (chkD d))/\H'=H/\n'=n:=by
 refine a100 (AE OQ (AF ?_))
 have e1:dD.ok (.agg (AO d))=True:=FF d
 have e2:dD.dec (.agg (AO d))=d:=DA d
 simp only[AO]at e1 e2
 simp only[eE,eN,reduceCtorEq,↓reduceIte,Nat.reduceAdd,Nat.reduceLeDiff,c100,hp,Tbs_c,s1,e1,e2,V3 hd]
theorem Qu{cells:List Int}(hd:FewD d)(hg:Ad d.sh d.w d.h d.holes=some cells)(hp:hget H p=some (.box (cDz d))):AI Tryz.prog 101 [.ptr p 0] H n λo H' n'=>o= .ret (.int .i64 0)/\H'=hset H p (.box (cKb d cells zs))/\n'=n:=by
 refine a101 (AE OQ (AF ?_))
 have hm:B5 d.sh d.w d.h d.holes= .tup [encG d.sh d.w d.h d.holes cells,.int .i64 0]:=by unfold B5;rw[hg]
 have G:GrV (A2 d cells):=⟨hg,hd.ho⟩
 have g1:dGd.ok (.agg [.int .i64 d.sh,.int .i64 d.w,.int .i64 d.h,eIs d.holes,eIs cells])=True:=KC (A2 d cells)
 have g2:dGd.dec (.agg [.int .i64 d.sh,.int .i64 d.w,.int .i64 d.h,eIs d.holes,eIs cells])=A2 d cells:=G3 (A2 d cells)
 have hho:few (A2 d cells).holes=True:=V3 hd.ho
 have hce:few (A2 d cells).cells=True:=V3 (by
  obtain⟨-,h2,-⟩:=A8 hg
  show cells.length<_;omega)
 have hnb:nbV (A2 d cells)= .tup [eLl (nbsS d.sh (AP d.sh d.w cells)),.int .i64 0]:=nbV_S G
 simp only[eE,eC,eN,reduceCtorEq,Nat.reduceEqDiff,↓reduceIte,Nat.reduceAdd,Nat.reduceLeDiff,Nat.reduceLT,V1,Va,Vc,c101,hp,Tbs_m,Tbs_n,s1,g1,g2,BD,At,V3 hd.ho,hho,hce,hm,hnb,AK]
end
def Tbc:Tab:=tadd 149 (s2 dGd dI (λg f=>GrV g/\0<=f/\f<=7) λg f=>.tup [eLl (famS g.sh g.w g.h (AP g.sh g.w g.cells) f.toNat),.int .i64 0])
 (tadd 150 (s2 dGd dLl (λg l=>Ad g.sh g.w g.h g.holes=some g.cells/\few g.holes/\Bo l) λg l=>rgsV g.cells l) tnil)
theorem Tbc_ok:AH Tryz.prog Tbc:=(AH.tnil.add (q2 λg l h=>p150 g l h.1 h.2.1 h.2.2)).add (q2 λg f h=>by
 have:=p149 g f.toNat h.1 (by omega)
 rw[Int.toNat_of_nonneg h.2.1]at this
 exact this)
theorem Tbc_f(a:List AVal)(H:AB):Tbc 149 a H=s2 dGd dI (λg f=>GrV g/\0<=f/\f<=7) (λg f=>.tup [eLl (famS g.sh g.w g.h (AP g.sh g.w g.cells) f.toNat),.int .i64 0]) a H:=rfl
theorem Tbc_g(a:List AVal)(H:AB):Tbc 150 a H=s2 dGd dLl (λg l=>Ad g.sh g.w g.h g.holes=some g.cells/\few g.holes/\Bo l) (λg l=>rgsV g.cells l) a H:=rfl
structure IBk(x:Dcl)(cells:List Int)(p n0:Nat)(H0:AB)(m:Nat)(L:Nat->List (List (List Int)))(v:VRg):Prop where
 hi:v.i<=m
 hn:n0<=v.n
 fr:AN v.H v.n
 kp:∀id ob,id≠p->id<n0->hget H0 id=some ob->hget v.H id=some ob
 hp:hget v.H p=some (.box (cKb x cells (.sl v.tl v.E)))
 tok:tkG 1 n0 v.H v.tl
 es:v.tl.esz=1\/v.E=[]
 hE:Wks v.E ((L v.i).map eLl)
theorem KW{x:Dcl}{cells:List Int}{H:AB}{n p:Nat}(hfx:FewD x)(hc:chkD x=0)(hg:Ad x.sh x.w x.h x.holes=some cells)(hf:AN H n)(hp:hget H p=some (.box (cKb x cells zs))):
  AI Tryz.prog 102 [.ptr p 0] H n λo H' n'=>o= .ret (.int .i64 0)/\AN H' n'/\n<=n'/\(∀id ob,id≠p->id<n->hget H id=some ob->hget H' id=some ob)/\
   ∃tl E,hget H' p=some (.box (cKb x cells (.sl tl E)))/\(tl.esz=1\/E=[])/\Wks E ((((List.range 8).map λf=>famS x.sh x.w x.h (AP x.sh x.w cells) f)++x.regs.map λr=>r.ls.map (Bt cells)).map eLl):=by
 have hpn:=hf.lt hp
 refine a102 (AE Tbc_ok (AF ?_))
 have G:GrV (A2 x cells):=⟨hg,hfx.ho⟩
 have g1:dGd.ok (.agg [.int .i64 x.sh,.int .i64 x.w,.int .i64 x.h,eIs x.holes,eIs cells])=True:=KC (A2 x cells)
 have g2:dGd.dec (.agg [.int .i64 x.sh,.int .i64 x.w,.int .i64 x.h,eIs x.holes,eIs cells])=A2 x cells:=G3 (A2 x cells)
 have hho:few (A2 x cells).holes=True:=V3 hfx.ho
 simp only[eE,eN,reduceCtorEq,↓reduceIte,c102]
 refine AU (λv:VRg=>⟨[(0,true,.ptr p 0),(10,true,.int .i64 v.i)],v.H,v.n⟩) (IBk x cells p n H 8 λi=>(List.range i).map λf=>famS x.sh x.w x.h (AP x.sh x.w cells) f) (λv=>8-v.i)
  ⟨0,[],.nil,H,n⟩ rfl ⟨Vi _,V9 _,hf,λid ob _ _ h=>h,hp,.inl rfl,.inr rfl,.nil⟩ ?_
 rintro⟨i,E,tl,H1,m⟩ hI
 obtain⟨hi,hn,hfr,hkp,hp1,htl,hes,hE⟩:=hI
 simp only at hi hn hfr hkp hp1 htl hes hE
 by_cases hlt:i<8
 ·have e:=AJ (k:=i) (by omega)
  have hq:((i:Int)<8)=True:=V3 (by omega)
  have hq7:((i:Int)<=7)=True:=V3 (by omega)
  have hEl:E.length=i:=by
   have:=hE.len
   rw[V0,V0,Xc]at this
   exact this
  have hfm:(A2 x cells).sh=x.sh/\(A2 x cells).w=x.w/\(A2 x cells).h=x.h/\(A2 x cells).cells=cells:=⟨rfl,rfl,rfl,rfl⟩
  have q1:Bh H1 1 tl=True:=V3 htl.app
  have q2:(E.length<=35184372088831)=True:=V3 (by omega)
  have q3:Al (E.length+1) 24=True:=V3 (AX (by omega) (by decide))
  have hkP:=Ai htl (i:=p) (.inr ⟨_,hp1⟩)
  rw[hp1]at hkP
  have y1:∀k,(p=m+k)=False:=λk=>Vd (by omega)
  have y2:∀k,(m+k=p)=False:=λk=>Vd (by omega)
  simp only[eE,eC,eN,reduceCtorEq,Nat.reduceEqDiff,↓reduceIte,Nat.reduceAdd,Nat.reduceLeDiff,Nat.reduceMul,Nat.reduceLT,Int.reduceEq,V8,V1,V2,V4,Va,Vc,hp1,hq,hq7,Tbc_f,s2,g1,g2,CP,BH,V3 G,hfm.1,hfm.2.1,hfm.2.2.1,hfm.2.2.2,e,q1,q2,q3,fr1 hfr,hkP,y2]
  refine .mk ⟨i+1,E++[eLl (famS x.sh x.w x.h (AP x.sh x.w cells) i)],.own (m+8) 1,hset (hset (AW H1 tl) (m+8) .tok) p (.box (cKb x cells (.sl (.own (m+8) 1) (E++[eLl (famS x.sh x.w x.h (AP x.sh x.w cells) i)])))),m+13⟩ rfl ⟨hlt,by simp only[];omega,((Ak htl hfr).hset (m:=m+13) (by omega) (by omega)).hset (V9 _) (show p<m+13 by omega),λid ob h1 h2 h3=>?_,AC ..,.inr (.inr ⟨m+8,rfl,by omega,?_⟩),.inl rfl,?_⟩ (by simp only[];omega)
  ·grind [AA,Ai]
  ·simp only[]
   rw[AA _ _ _ _ (by omega),AC]
  ·simp only[WR,Vl,Vs,VP]at hE⊢
   exact hE.app (.cons (Wk.refl _) .nil)
 obtain rfl:i=8:=by omega
 have hq:(((8:Nat):Int)<8)=False:=Vd (by decide)
 simp only[eE,eC,eN,reduceCtorEq,Nat.reduceEqDiff,↓reduceIte,Nat.reduceAdd,Nat.reduceLeDiff,V0,hq,hp1]
 refine AU (λv:VRg=>⟨[(0,true,.ptr p 0),(44,true,eRgs x.regs),(45,true,.int .i64 x.regs.length),(46,true,.int .i64 v.i)],v.H,v.n⟩) (IBk x cells p n H x.regs.length λi=>((List.range 8).map λf=>famS x.sh x.w x.h (AP x.sh x.w cells) f)++(x.regs.take i).map λr=>r.ls.map (Bt cells)) (λv=>x.regs.length-v.i)
  ⟨0,E,tl,H1,m⟩ rfl ⟨Vi _,hn,hfr,hkp,hp1,htl,hes,by
   simp only[WB,VP,Vy];exact hE⟩ ?_
 clear hE hes htl hp1 hkp hfr hn hq hlt hi
 rintro⟨i,E,tl,H1,m⟩ hI
 obtain⟨hi,hn,hfr,hkp,hp1,htl,hes,hE⟩:=hI
 simp only at hi hn hfr hkp hp1 htl hes hE
 have hrl:x.regs.length<=4:=by simp_all [chkD,limD,V7,Vf]<;>omega
 by_cases hlt:i<x.regs.length
 ·have e:=AJ (k:=i) (by omega)
  have hgr:=V5 hlt
  have hmem:x.regs[i]∈x.regs:=Vn hlt
  have hrg:=TP hc hg hmem
  have hfl:Bo x.regs[i].ls=True:=V3 (hfx.rgs _ hmem)
  have htk:x.regs.take (i+1)=x.regs.take i++[x.regs[i]]:=by rw[VX,hgr];rfl
  generalize x.regs[i]=r at hgr hrg hfl htk
  have hgc:(Ad (A2 x cells).sh (A2 x cells).w (A2 x cells).h (A2 x cells).holes=some (A2 x cells).cells)=True:=V3 hg
  have hgd:(Ad (A2 x cells).sh (A2 x cells).w (A2 x cells).h (A2 x cells).holes=some cells)=True:=V3 hg
  have hgx:(A2 x cells).cells=cells:=rfl
  have hEl:E.length=8+i:=by
   have:=hE.len
   rw[V0,Vm,V0,V0,Xc,Vt]at this
   omega
  have q1:Bh (hset H1 (m+2) (.box [.str r.nm,eLl r.ls])) 1 tl=True:=V3 ((htl.set (.inr (.inr (hfr _ (by omega))))).app)
  have gt:tkG 1 n (hset H1 (m+2) (.box [.str r.nm,eLl r.ls])) tl:=htl.set (.inr (.inr (hfr _ (by omega))))
  have gf:AN (hset H1 (m+2) (.box [.str r.nm,eLl r.ls])) (m+4):=hfr.hset (m:=m+4) (by omega) (by omega)
  have gp:hget (hset H1 (m+2) (.box [.str r.nm,eLl r.ls])) p=some (.box (cKb x cells (.sl tl E))):=by rw[AA _ _ _ _ (by omega)];exact hp1
  have q2:(E.length<=35184372088831)=True:=V3 (by omega)
  have q3:Al (E.length+1) 24=True:=V3 (AX (by omega) (by decide))
  have hkP:=Ai gt (i:=p) (.inr ⟨_,gp⟩)
  rw[gp]at hkP
  have y1:∀k,(p=m+k)=False:=λk=>Vd (by omega)
  have y2:∀k,(m+k=p)=False:=λk=>Vd (by omega)
  simp only[eE,eC,eN,reduceCtorEq,Nat.reduceEqDiff,↓reduceIte,Nat.reduceAdd,Nat.reduceLeDiff,Nat.reduceMul,Nat.reduceLT,Int.reduceEq,V8,V1,V2,V4,V0,V6,Va,Vc,hp1,lt_T hlt,hgr,fr1 hfr,AK,Tbc_g,s2,g1,g2,Dy,Cf,hho,hgd,hgx,hfl,hrg,e,q1,q2,q3,hkP,y2]
  refine .mk ⟨i+1,E++[eLl (r.ls.map (Bt cells))],.own (m+12) 1,hset (hset (AW (hset H1 (m+2) (.box [.str r.nm,eLl r.ls])) tl) (m+12) .tok) p (.box (cKb x cells (.sl (.own (m+12) 1) (E++[eLl (r.ls.map (Bt cells))])))),m+17⟩ rfl ⟨hlt,by simp only[];omega,((Ak gt gf).hset (m:=m+17) (by omega) (by omega)).hset (V9 _) (show p<m+17 by omega),λid ob h1 h2 h3=>?_,AC ..,.inr (.inr ⟨m+12,rfl,by omega,?_⟩),.inl rfl,?_⟩ (by simp only[];omega)
  ·grind [AA,Ai]
  ·simp only[]
   rw[AA _ _ _ _ (by omega),AC]
  ·simp only[htk,Vl,Vs,VP]at hE⊢
   rw[<-VG]
   exact hE.app (.cons (Wk.refl _) .nil)
 obtain rfl:i=x.regs.length:=by omega
 rw[VQ]at hE
 simp only[eE,eC,eN,reduceCtorEq,Nat.reduceEqDiff,↓reduceIte,lt_F hlt]
 exact⟨hfr,hn,hkp,tl,E,hp1,hes,hE⟩
end Go.AM
namespace Go.AM
open Go.Proofs Go.Lib
def stB(d:Dcl)(H:AB):Nat->Prop
 |0=>hget H 3=some (.box (cDz d))
 |1=>∃x,resD d= .ok x/\hget H 3=some (.box (cDz x))
 |2=>∃x,resD d= .ok x/\chkD x=0/\hget H 3=some (.box (cDz x))
 |3=>∃x cells,resD d= .ok x/\chkD x=0/\Ad x.sh x.w x.h x.holes=some cells/\hget H 3=some (.box (cKb x cells zs))
 |_=>∃x cells tl E,resD d= .ok x/\chkD x=0/\Ad x.sh x.w x.h x.holes=some cells/\hget H 3=some (.box (cKb x cells (.sl tl E)))/\(tl.esz=1\/E=[])/\Wks E ((((List.range 8).map λf=>famS x.sh x.w x.h (AP x.sh x.w cells) f)++x.regs.map λr=>r.ls.map (Bt cells)).map eLl)
structure IBu(d:Dcl)(v:VF):Prop where
 hi:v.i<=4
 hn:4<=v.n
 fr:AN v.H v.n
 h1:hget v.H 1=some (.box zKn)
 st:stB d v.H v.i
abbrev fB(f:FuncId):AVal:=.fn (.func f) [.ptr 3 0] []
theorem p57(d:Dcl)(hd:FewD d):Pur Tryz.prog 57 [encD d] (Ck d):=by
 refine .mk ⟨A9 0 d,trivial⟩ (by unfold Ck;split<;>exact⟨Aj 0 _,trivial,trivial⟩) (a57 (AE AH.tnil (AF ?_)))
 simp only[eE,eN,reduceCtorEq,Nat.reduceEqDiff,↓reduceIte,Nat.reduceAdd,Nat.reduceLeDiff,Nat.reduceMul,Nat.reduceLT,c57,AO]
 refine AU (λv:VF=>⟨[(2,true,.ptr 1 0),(4,true,.ptr 3 0),(15,true,.sl (.exact 1) [fB 99,fB 100,fB 101,fB 102]),(16,true,.int .i64 4),(17,true,.int .i64 v.i)],v.H,v.n⟩) (IBu d) (λv=>4-v.i)
  ⟨0,_,4⟩ rfl ⟨by simp only[];omega,V9 _,?_,rfl,?_⟩ ?_
 ·simp only[]
  repeat' (first|exact AN.nil|refine AN.hset ?_ (V9 _) (by decide))
 ·rfl
 rintro⟨i,H,n⟩ ⟨hi,hn,hfr,h1,hst⟩
 simp only at hi hn hfr h1 hst
 have w1':IntKind.wrap .i64 (1+1)=2:=Aq (by decide) (by decide)
 have w2':IntKind.wrap .i64 (2+1)=3:=Aq (by decide) (by decide)
 have w3':IntKind.wrap .i64 (3+1)=4:=Aq (by decide) (by decide)
 rcases(by omega:i=0\/i=1\/i=2\/i=3\/i=4)with rfl|rfl|rfl|rfl|rfl
 ·simp only[eE,eC,eN,Nat.reduceEqDiff,↓reduceIte,Nat.reduceAdd,Int.reduceLT,V1,c0,Wb,W3,Va,c4n]
  refine(KV hd hst).mono ?_
  rintro o H1 n1 ⟨rfl,hm⟩
  cases hr:resD d with
  |error e=>
   rw[hr]at hm
   obtain⟨rfl,rfl⟩:=hm
   have he:(e=0)=False:=Vd (E5 hr)
   have hb:Ck d= .tup [Bq knd0,.int .i64 e]:=by unfold Ck DV;rw[hr]
   rw[hb]
   simp only[eE,eC,eN,Nat.reduceEqDiff,↓reduceIte,Nat.reduceAdd,Ve,CN,retK,he,h1]
   exact Sb e
  |ok x=>
   rw[hr]at hm
   obtain⟨rfl,rfl⟩:=hm
   simp only[eE,eC,eN,Nat.reduceEqDiff,↓reduceIte,Int.reduceEq,V8,retK,w01]
   exact .mk ⟨1,hset H 3 (.box (cDz x)),n1⟩ rfl ⟨by simp only[];omega,hn,hfr.hset (V9 _) (show 3<n1 by omega),by simp only[];rw[AA _ _ _ _ (by decide)];exact h1,x,hr,AC ..⟩ (by simp only[];omega)
 ·obtain⟨x,hr,h3⟩:=hst
  have hfx:=II hd hr
  simp only[eE,eC,eN,Nat.reduceEqDiff,↓reduceIte,Nat.reduceAdd,Int.reduceLE,Int.reduceLT,V1,c1,Wr,Va,Vc,c1,c4n]
  refine(OR hfx h3).mono ?_
  rintro o H1 n1 ⟨rfl,rfl,rfl⟩
  by_cases hc:chkD x=0
  ·simp only[eE,eC,eN,Nat.reduceEqDiff,↓reduceIte,Int.reduceEq,V8,retK,CQ hc,w1']
   exact .mk ⟨2,H1,n1⟩ rfl ⟨by simp only[];omega,hn,hfr,h1,x,hr,hc,h3⟩ (by simp only[];omega)
  ·have hb:Ck d= .tup [Bq knd0,.int .i64 (chkD x)]:=by unfold Ck DV;rw[hr];simp only[];rw[Vk hc]
   rw[hb]
   simp only[eE,eC,eN,Nat.reduceEqDiff,↓reduceIte,Nat.reduceAdd,Ve,CN,retK,Bu hc,h1]
   exact Sb _
 ·obtain⟨x,hr,hc,h3⟩:=hst
  have hfx:=II hd hr
  obtain⟨cells,hg⟩:=Qj hc
  simp only[eE,eC,eN,Nat.reduceEqDiff,↓reduceIte,Nat.reduceAdd,Int.reduceLE,Int.reduceLT,Int.reduceToNat,V1,Va,Vc,c2n,c4n]
  refine(Qu hfx hg h3).mono ?_
  rintro o H1 n1 ⟨rfl,rfl,rfl⟩
  simp only[eE,eC,eN,Nat.reduceEqDiff,↓reduceIte,Int.reduceEq,V8,retK,w2']
  exact .mk ⟨3,hset H 3 (.box (cKb x cells zs)),n1⟩ rfl ⟨by simp only[];omega,hn,hfr.hset (V9 _) (show 3<n1 by omega),by simp only[];rw[AA _ _ _ _ (by decide)];exact h1,x,cells,hr,hc,hg,AC ..⟩ (by simp only[];omega)
 ·obtain⟨x,cells,hr,hc,hg,h3⟩:=hst
  have hfx:=II hd hr
  simp only[eE,eC,eN,Nat.reduceEqDiff,↓reduceIte,Nat.reduceAdd,Int.reduceLE,Int.reduceLT,Int.reduceToNat,V1,Va,Vc,c3n,c4n]
  refine(KW hfx hc hg hfr h3).mono ?_
  rintro o H1 n1 ⟨rfl,hf1,hn1,hk,tl,E,hp,hes,hE⟩
  simp only[eE,eC,eN,Nat.reduceEqDiff,↓reduceIte,Int.reduceEq,V8,retK,w3']
  exact .mk ⟨4,H1,n1⟩ rfl ⟨V9 _,by simp only[];omega,hf1,hk 1 _ (by decide) (by omega) h1,x,cells,tl,E,hr,hc,hg,hp,hes,hE⟩ (by simp only[];omega)
 ·obtain⟨x,cells,tl,E,hr,hc,hg,hp,hes,hE⟩:=hst
  have hb:Ck d= .tup [Bq (TM x cells),.int .i64 0]:=by
   unfold Ck DV
   rw[hr]
   simp only[]
   rw[Vb (λz=>z hc),hg]
  rw[hb]
  simp only[eE,eC,eN,Nat.reduceEqDiff,↓reduceIte,Nat.reduceAdd,Int.reduceLT,CN,c4n,hp,h1]
  exact Wk.tup (.cons (wk_Kn (d:=x) (g:=A2 x cells) (Wk.refl _) (Wk.refl _) (Wk.refl _) (Wk.refl _) (Wk.refl _) (Wk.refl _) (Wk.refl _) (Wk.refl _) (Wk.slx hes hE)) (.cons (Wk.refl _) .nil))
theorem OT{sh w h:Int}{S:List Spot}(hS:S.length<=256)(f:Nat):Bo (famS sh w h S f):=by
 have hidx:∀p:Nat->Bool,(idxP S.length p).length<=256:=λp=>W1 (EA ..) hS
 have hln:∀f,Bo (BU S f):=λf=>by
  refine⟨?_,λx hx=>?_⟩
  ·have:(BU S f).length<=49:=W1 (Wm ..) (by simp [KF])
   show _<_;omega
  ·grind [BU,Bc]
 have hnb:∀s,(nbS sh S s).length<=256:=λs=>hidx _
 have hmap:∀(l:List (List Int)),l.length<=256->(∀x∈l,x.length<=256)->Bo l:=λl h1 h2=>⟨show _<_ by omega,λx hx=>by
  have:=h2 x hx
  show _<_;omega⟩
 unfold famS
 split
 ·grind
 split
 ·exact hln _
 split
 ·exact hln _
 split
 ·split
  ·exact hln _
  ·split
   ·refine hmap _ ?_ λx hx=>?_
    ·unfold No
     simp only[Vm]
     split<;>split<;>simp
    ·unfold No at hx
     rcases W7.1 hx with hx|hx
     ·split at hx
      ·cases hx
      ·rw[Wp.1 hx];exact hidx _
     ·split at hx
      ·cases hx
      ·rw[Wp.1 hx];exact hidx _
   ·exact hmap _ (by simp) (by simp)
 split
 ·grind [nbsS,List.length_map]
 split
 ·grind
 split
 ·refine⟨?_,λx hx=>?_⟩
  ·have key:∀n,n<=S.length->((List.range n).flatMap λ(c:Nat)=>(((nbsS sh S)[c]?.getD []).filter λb=>decide ((c:Int)<b)).map λb=>[(c:Int),b]).length<=256*n:=λn=>by
    induction n with
    |zero=>intro _;simp
    |succ n ih=>
     intro hn
     rw[WR,List.flatMap_append,Vm]
     simp only[Xm,List.flatMap_nil,Vy,V0]
     have h1:=ih (by omega)
     have h2:(((nbsS sh S)[n]?.getD []).filter λb=>decide ((n:Int)<b)).length<=256:=by
      refine W1 (Wm ..) ?_
      rw[nbsS,V6]
      cases S[n]? with
      |none=>simp
      |some s=>exact hnb s
     omega
   have:=key S.length (V9 _)
   show _<_;omega
  ·grind
 ·grind
theorem OU{d:Dcl}(hd:FewD d){k:Knd}(h:DV d= .ok k):FewKn k:=by
 obtain⟨x,cells,hr,hc,hg,rfl⟩:=IH h
 have hfx:=II hd hr
 obtain⟨-,h2,-⟩:=A8 hg
 have hS:(AP x.sh x.w cells).length<=256:=by unfold AP;rw[V0];exact h2
 have hrl:x.regs.length<1000000000:=hfx.rg
 have hrl4:x.regs.length<=4:=by simp_all [chkD,limD,V7,Vf]<;>omega
 refine⟨hfx,Iu hfx.ho,show cells.length<_ by omega,OT (w:=x.w) (h:=x.h) hS 4,?_,λl hl=>?_⟩
 ·show(((List.range 8).map _)++x.regs.map _).length<_
  rw[Vm,V0,V0,Xc];omega
 ·rcases W7.1 hl with hl|hl
  ·obtain⟨f,-,rfl⟩:=W2.1 hl
   exact OT hS f
  ·obtain⟨r,hr,rfl⟩:=W2.1 hl
   have:=hfx.rgs r hr
   refine⟨by show(r.ls.map _).length<_;rw[V0];exact this.1,λy hy=>?_⟩
   obtain⟨z,hz,rfl⟩:=W2.1 hy
   have:=this.2 z hz
   show(z.map _).length<_
   rw[V0];exact this
def Tkc:Tab:=tadd 57 (s1 dD FewD Ck) (tadd 58 (s2 dKn dKn (λ_ b=>FewKn b) λa b=>.bool (decide (a=b))) tnil)
theorem Tkc_ok:AH Tryz.prog Tkc:=(AH.tnil.add (q2 λa b h=>p58 a b h)).add (q1 λd h=>p57 d h)
theorem TY(a:List AVal)(H:AB):Tkc 57 a H=s1 dD FewD Ck a H:=rfl
theorem TZ(a:List AVal)(H:AB):Tkc 58 a H=s2 dKn dKn (λ_ b=>FewKn b) (λa b=>.bool (decide (a=b))) a H:=rfl
theorem p32(k:Knd)(h1:FewD k.d):Pur Tryz.prog 32 [Bq k] (.int .i64 (Bf k)):=by
 refine .mk ⟨Aj 0 k,trivial⟩ trivial (a32 (AE Tkc_ok (AF ?_)))
 have e1:dD.ok (.agg (AO k.d))=True:=FF k.d
 have e2:dD.dec (.agg (AO k.d))=k.d:=DA k.d
 have u1:dKn.ok (.agg (AL k))=True:=EF k
 have u2:dKn.dec (.agg (AL k))=k:=Ct k
 simp only[AO]at e1 e2
 simp only[AL,AG,AO,Vu,Vw]at u1 u2
 unfold Bf HL
 cases hb:DV k.d with
 |error e=>
  have hv:Ck k.d= .tup [Bq knd0,.int .i64 e]:=by unfold Ck;rw[hb]
  have he:(e=0)=False:=Vd (N8 hb)
  simp only[eE,eC,eN,reduceCtorEq,Nat.reduceEqDiff,↓reduceIte,Nat.reduceAdd,Nat.reduceLeDiff,Nat.reduceLT,V8,Ve,V1,Va,Vc,c32,AL,AG,AO,TY,TZ,s1,s2,e1,e2,u1,u2,V3 h1,hv,he]
 |ok x=>
 have hv:Ck k.d= .tup [Bq x,.int .i64 0]:=by unfold Ck;rw[hb]
 have v1:dKn.ok (.agg (AL x))=True:=EF x
 have v2:dKn.dec (.agg (AL x))=x:=Ct x
 have h2:=OU h1 hb
 simp only[AL,AG,AO,Vu,Vw]at v1 v2
 simp only[]
 by_cases hx:k=x
 ·simp only[eE,eC,eN,reduceCtorEq,Nat.reduceEqDiff,↓reduceIte,Nat.reduceAdd,Nat.reduceLeDiff,Nat.reduceLT,V8,V1,Va,Vc,c32,AL,AG,AO,TY,TZ,s1,s2,e1,e2,u1,u2,v1,v2,V3 h1,V3 h2,hv,CQ hx]
 ·simp only[eE,eC,eN,reduceCtorEq,Nat.reduceEqDiff,↓reduceIte,Nat.reduceAdd,Nat.reduceLeDiff,Nat.reduceLT,V8,Ve,V1,Va,Vc,c32,AL,AG,AO,TY,TZ,s1,s2,e1,e2,u1,u2,v1,v2,V3 h1,V3 h2,hv,Bu hx]
end Go.AM
namespace Go.AM
open Go.Proofs Go.Lib
def rowX(A:List AVal)(c:AB->Prop)(r:AVal):List AVal->AB->Prop×AVal:=λa H=>(a=A/\c H,r)
theorem OV{fid:FuncId}{A:List AVal}{c:AB->Prop}{r:AVal}(h:∀H n,c H->AZ Tryz.prog fid A H n r):∀args H n,(rowX A c r args H).1->AZ Tryz.prog fid args H n (rowX A c r args H).2:=by
 rintro args H n ⟨rfl,hc⟩;exact h H n hc
def rowS(cap:List AVal)(ok:Int->Prop)(f:Int->AVal):List AVal->AB->Prop×AVal:=λa _=>match a with
 | .int .i64 x::c=>(c=cap/\ok x,f x)
 |_=>(False,.tup [])
theorem rowSq{fid:FuncId}{cap:List AVal}{ok:Int->Prop}{f:Int->AVal}(h:∀x,ok x->Pur Tryz.prog fid (eI x::cap) (f x)):∀args H n,(rowS cap ok f args H).1->AZ Tryz.prog fid args H n (rowS cap ok f args H).2:=by
 intro args H n hh
 unfold rowS at hh⊢
 split at hh
 ·obtain⟨rfl,h1⟩:=hh;exact(h _ h1).quiet H n
 ·exact hh.elim
def rowB(cap:List AVal)(ok:Int->Int->Prop)(f:Int->Int->AVal):List AVal->AB->Prop×AVal:=λa _=>match a with
 | .int .i64 x:: .int .i64 y::c=>(c=cap/\ok x y,f x y)
 |_=>(False,.tup [])
theorem rowBq{fid:FuncId}{cap:List AVal}{ok:Int->Int->Prop}{f:Int->Int->AVal}(h:∀x y,ok x y->Pur Tryz.prog fid (eI x::eI y::cap) (f x y)):∀args H n,(rowB cap ok f args H).1->AZ Tryz.prog fid args H n (rowB cap ok f args H).2:=by
 intro args H n hh
 unfold rowB at hh⊢
 split at hh
 ·obtain⟨rfl,h1⟩:=hh;exact(h _ _ h1).quiet H n
 ·exact hh.elim
theorem Qv(l:List Int)(s:Int):decide (0<=idxG l s)=l.contains s:=by
 unfold idxG
 cases h:l.findIdx? (λx=>decide (x=s))with
 |none=>grind
 |some k=>
  obtain⟨hl,h1,-⟩:=Wn.1 h
  have:l.contains s=true:=by grind
  rw[this];simp
def Tct:Tab:=tadd 64 (s2 dIs dI (λl _=>few l) λl x=>eI (idxG l x)) tnil
theorem Tct_ok:AH Tryz.prog Tct:=AH.tnil.add (q2 pw64)
theorem Tct_i(a:List AVal)(H:AB):Tct 64 a H=s2 dIs dI (λl _=>few l) (λl x=>eI (idxG l x)) a H:=rfl
theorem p36(l:List Int)(x:Int)(hl:few l):Pur Tryz.prog 36 [eIs l,eI x] (.bool (l.contains x)):=by
 refine .mk ⟨Aa 0 l,trivial,trivial⟩ trivial (a36 (AE Tct_ok (AF ?_)))
 simp only[eE,eN,reduceCtorEq,Nat.reduceEqDiff,↓reduceIte,Nat.reduceAdd,c36,Tct_i,s2,BD,At,CP,BH,V3 hl,Qv]
def AR(k:Knd):List Int:=k.d.syms.map (·.v)
theorem Le{k:Knd}{s:Int}{y:DSym}(h:k.d.syms[s.toNat]?=some y):at0 (AR k) s=y.v:=by
 unfold at0 AR
 rw[V6,h];rfl
abbrev okSy(k:Knd)(s:Int):Prop:=0<=s/\s<(k.d.syms.length:Int)
theorem p76(k:Knd)(s:Int)(h:okSy k s):Pur Tryz.prog 76 [eI s,.ep (AL k)] (eI (at0 (AR k) s)):=by
 refine .mk ⟨trivial,Aj 0 k,trivial⟩ trivial (a76 (AE AH.tnil (AF ?_)))
 have hlt:s.toNat<k.d.syms.length:=by omega
 have hg:=V5 hlt
 rw[Le hg]
 generalize k.d.syms[s.toNat]=y at hg
 simp only[eE,eN,reduceCtorEq,Nat.reduceEqDiff,↓reduceIte,Nat.reduceAdd,Nat.reduceLeDiff,V1,V0,V6,c76,AL,AG,AO,V3 h.1,V3 h.2,hg]
abbrev A4(k:Knd)(cells letters:List Int)(n:Int):List AVal:=[.fn (.func 76) [] [.ep (AL k)],eIs cells,eIs letters,.int .i64 n]
theorem Ax(k:Knd)(cells letters:List Int)(n:Int):unders 0 (A4 k cells letters n):=⟨⟨trivial,Aj 0 k,trivial⟩,Aa 0 _,Aa 0 _,trivial,trivial⟩
theorem KX{f0:FuncId}{cap:List AVal}{ok:Int->Prop}{bad:Int->Int->Bool}(k:Knd)(cells letters:List Int)(n:Int)(hc:few cells)(hcap:unders 0 cap)
  (hq:∀a b,ok a/\ok b->Pur Tryz.prog f0 (eI a::eI b::cap) (.bool (bad a b))) (hok:∀a∈cells,0<=a->ok a):
  Pur Tryz.prog 109 [.agg (A4 k cells letters n),.fn (.func f0) [] cap] (.bool (Ba bad cells)):=by
 have hT:AH Tryz.prog (tadd f0 (rowB cap (λa b=>ok a/\ok b) λa b=>.bool (bad a b)) tnil):=AH.tnil.add (rowBq hq)
 have hTe:∀a H,tadd f0 (rowB cap (λa b=>ok a/\ok b) λa b=>.bool (bad a b)) tnil f0 a H=rowB cap (λa b=>ok a/\ok b) (λa b=>.bool (bad a b)) a H:=λa H=>by unfold tadd;rw[Vk rfl]
 generalize tadd f0 (rowB cap (λa b=>ok a/\ok b) λa b=>.bool (bad a b)) tnil=T at hT hTe
 refine .mk ⟨Ax k cells letters n,⟨trivial,hcap⟩,trivial⟩ trivial (a109 (AE hT (AF ?_)))
 have hcl:cells.length<1000000000:=hc
 simp only[eE,eN,reduceCtorEq,Nat.reduceEqDiff,↓reduceIte,Nat.reduceAdd,Nat.reduceLeDiff,V0,c109]
 refine AU (λi:Nat=>⟨[(1,true,.fn (.func f0) [] cap),(2,true,.ptr 0 0),(10,true,eIs cells),(11,true,.int .i64 cells.length),(12,true,.int .i64 i)],hset hnil 0 (.box (A4 k cells letters n)),2⟩)
  (λi=>i<=cells.length/\Ba bad cells=Ba bad (cells.drop i)) (λi=>cells.length-i) 0 rfl ⟨Vi _,rfl⟩ ?_
 rintro i ⟨hi,he⟩
 by_cases hlt:i<cells.length
 case neg=>
  obtain rfl:i=cells.length:=by omega
  rw[Wx]at he
  rw[he]
  simp only[eE,eC,eN,Nat.reduceEqDiff,↓reduceIte,lt_F hlt]
  rfl
 have hg:=V5 hlt
 have e:=AJ (k:=i) (by omega)
 have hoa:=hok _ (Vn hlt)
 rw[VO hlt,Ba]at he
 generalize cells[i]=a at hg he hoa
 have hsub:∀b∈cells.drop (i+1),0<=b->ok b:=λb hb=>hok b (Xq hb)
 have hdr:List.drop (i+1) (cells.map eI)=(cells.drop (i+1)).map eI:=List.map_drop.symm
 have htl:List.take cells.length (cells.map eI)=cells.map eI:=VZ (by simp)
 have hb1:(((i+1:Nat):Int)<=(cells.length:Int))=True:=V3 (by omega)
 have hRl:(cells.drop (i+1)).length=cells.length-(i+1):=Wf
 simp only[eE,eC,eN,reduceCtorEq,Nat.reduceEqDiff,↓reduceIte,Nat.reduceAdd,Nat.reduceLeDiff,Int.reduceEq,V1,W3,V2,V4,V0,V6,lt_T hlt,hg,e,hb1,htl,hdr]
 generalize hR:cells.drop (i+1)=R at he hsub hRl
 obtain⟨p,hp⟩:∃p:Int->Bool,(λb=>decide (0<=a)&&decide (0<=b)&&bad a b)=p:=⟨_,rfl⟩
 rw[hp]at he
 have hpb:∀b,p b=(decide (0<=a)&&decide (0<=b)&&bad a b):=λb=>by rw[<-hp]
 refine AU (λj:Nat=>⟨[(1,true,.fn (.func f0) [] cap),(2,true,.ptr 0 0),(6,true,.int .i64 a),(10,true,eIs cells),(11,true,.int .i64 cells.length),(12,true,.int .i64 i),(21,true,eIs R),(22,true,.int .i64 R.length),(23,true,.int .i64 j)],hset hnil 0 (.box (A4 k cells letters n)),2⟩)
  (λj=>j<=R.length/\R.any p=(R.drop j).any p) (λj=>R.length-j) 0 rfl ⟨Vi _,rfl⟩ ?_
 rintro j ⟨hj,hej⟩
 by_cases hlj:j<R.length
 case neg=>
  obtain rfl:j=R.length:=by omega
  rw[Wx,List.any_nil]at hej
  rw[hej,WV]at he
  simp only[eE,eC,eN,Nat.reduceEqDiff,↓reduceIte,Int.reduceEq,lt_F hlj,e]
  exact .mk (i+1) rfl ⟨hlt,by rw[hR];exact he⟩ (by omega)
 have hgj:=V5 hlj
 have ej:=AJ (k:=j) (by omega)
 have hob:=hsub _ (Vn hlj)
 rw[VO hlj,List.any_cons]at hej
 generalize R[j]=b at hgj hej hob
 rw[hpb b]at hej
 by_cases ha:0<=a
 case neg=>
  rw[Bu ha,Xo,Xo,WV]at hej
  simp only[eE,eC,eN,Nat.reduceEqDiff,↓reduceIte,Int.reduceEq,V1,V2,V4,V0,V6,lt_T hlj,hgj,Vd ha,ej]
  exact .mk (j+1) rfl ⟨hlj,hej⟩ (by omega)
 by_cases hb:0<=b
 case neg=>
  rw[Bu hb,Bool.and_false,Xo,WV]at hej
  simp only[eE,eC,eN,reduceCtorEq,Nat.reduceEqDiff,↓reduceIte,Int.reduceEq,V1,V2,V4,V0,V6,lt_T hlj,hgj,V3 ha,Vd hb,ej]
  exact .mk (j+1) rfl ⟨hlj,hej⟩ (by omega)
 have hoo:(ok a/\ok b)=True:=V3 ⟨hoa ha,hob hb⟩
 rw[CQ ha,CQ hb,Bool.and_self,WU]at hej
 cases hbd:bad a b with
 |true=>
  rw[hbd,Bool.true_or]at hej
  have hR2:Ba bad cells=true:=by rw[he,hej];rfl
  rw[hR2]
  simp only[eE,eC,eN,reduceCtorEq,Nat.reduceEqDiff,↓reduceIte,V1,V2,V4,V0,V6,lt_T hlj,hgj,V3 ha,V3 hb,hTe,rowB,V3 (hoa ha),V3 (hob hb),hbd]
 |false=>
  rw[hbd,WV]at hej
  simp only[eE,eC,eN,reduceCtorEq,Nat.reduceEqDiff,↓reduceIte,Int.reduceEq,V1,V2,V4,V0,V6,lt_T hlj,hgj,V3 ha,V3 hb,ej,hTe,rowB,V3 (hoa ha),V3 (hob hb),hbd]
  exact .mk (j+1) rfl ⟨hlj,hej⟩ (by omega)
end Go.AM
namespace Go.AM
open Go.Proofs Go.Lib
theorem Ta(ls l:List Int)(s:Int):cOwn ls (l++[s])=cOwn ls l+if(decide (0<=s)&&ls.contains s)=true then 1 else 0:=by grind [cOwn,List.length_append]
theorem Tb(ls l:List Int)(s:Int):cOth ls (l++[s])=cOth ls l+if(decide (0<=s)&& !ls.contains s)=true then 1 else 0:=by grind [cOth,List.length_append]
theorem Tc(l:List Int)(s:Int):cNon (l++[s])=cNon l+if s<0 then 1 else 0:=by grind [cNon,List.length_append]
theorem own_le(ls l:List Int):cOwn ls l<=l.length:=Wm ..
theorem oth_le(ls l:List Int):cOth ls l<=l.length:=Wm ..
theorem non_le(l:List Int):cNon l<=l.length:=Wm ..
def Tco:Tab:=tadd 36 (s2 dIs dI (λl _=>few l) λl x=>.bool (l.contains x)) tnil
theorem Tco_ok:AH Tryz.prog Tco:=AH.tnil.add (q2 p36)
theorem Tco_c(a:List AVal)(H:AB):Tco 36 a H=s2 dIs dI (λl _=>few l) (λl x=>.bool (l.contains x)) a H:=rfl
abbrev cntV(ls l:List Int):AVal:=.tup [.int .i64 (cOwn ls l:Int),.int .i64 (cOth ls l:Int),.int .i64 (cNon l:Int)]
theorem p111(k:Knd)(cells letters:List Int)(n:Int)(hc:few cells)(hl:few letters):Pur Tryz.prog 111 [.agg (A4 k cells letters n)] (cntV letters cells):=by
 refine .mk ⟨Ax k cells letters n,trivial⟩ ⟨trivial,trivial,trivial,trivial⟩ (a111 (AE Tco_ok (AF ?_)))
 have hcl:cells.length<1000000000:=hc
 simp only[eE,eN,Nat.reduceEqDiff,↓reduceIte,Nat.reduceAdd,Nat.reduceLeDiff,V0,c111]
 refine AU (λi:Nat=>⟨[(1,true,.ptr 0 0),(2,true,.int .i64 (cOwn letters (cells.take i):Int)),(3,true,.int .i64 (cOth letters (cells.take i):Int)),(4,true,.int .i64 (cNon (cells.take i):Int)),(8,true,eIs cells),(9,true,.int .i64 cells.length),(10,true,.int .i64 i)],hset hnil 0 (.box (A4 k cells letters n)),4⟩)
  (λi=>i<=cells.length) (λi=>cells.length-i) 0 rfl (Vi _) ?_
 intro i hi
 by_cases hlt:i<cells.length
 case neg=>
  obtain rfl:i=cells.length:=by omega
  simp only[eE,eC,eN,Nat.reduceEqDiff,↓reduceIte,lt_F hlt,VQ]
  exact Wk.refl _
 have hg:=V5 hlt
 have e:=AJ (k:=i) (by omega)
 have htk:cells.take (i+1)=cells.take i++[cells[i]]:=by rw[VX,hg];rfl
 have b1:=own_le letters (cells.take i)
 have b2:=oth_le letters (cells.take i)
 have b3:=non_le (cells.take i)
 rw[Vt]at b1 b2 b3
 generalize cells[i]=s at hg htk
 have o1:=Ta letters (cells.take i) s
 have o2:=Tb letters (cells.take i) s
 have o3:=Tc (cells.take i) s
 rw[<-htk]at o1 o2 o3
 by_cases hs:s<0
 ·have hd:decide (0<=s)=false:=VN (by omega)
  rw[hd]at o1 o2
  simp only[Xo,Vo,Vv,WC]at o1 o2
  rw[Vk hs]at o3
  simp only[eE,eC,eN,Nat.reduceEqDiff,↓reduceIte,Int.reduceEq,V1,V2,V4,V0,V6,lt_T hlt,hg,e,V3 hs,AJ (k:=cNon (cells.take i)) (by omega)]
  exact .mk (i+1) (by rw[o1,o2,o3]) hlt (by omega)
 have hd:decide (0<=s)=true:=VJ (by omega)
 rw[hd]at o1 o2
 rw[Vb hs]at o3
 simp only[WU,WC]at o1 o2 o3
 cases hcn:letters.contains s with
 |true=>
  rw[hcn]at o1 o2
  simp only[Wd,V8,Vo,Vv,WC]at o1 o2
  simp only[eE,eC,eN,Nat.reduceEqDiff,↓reduceIte,Nat.reduceAdd,Nat.reduceLeDiff,Int.reduceEq,V1,V2,V4,V0,V6,lt_T hlt,hg,e,Vd hs,Tco_c,s2,BD,At,CP,BH,V3 hl,hcn,AJ (k:=cOwn letters (cells.take i)) (by omega)]
  exact .mk (i+1) (by rw[o1,o2,o3]) hlt (by omega)
 |false=>
  rw[hcn]at o1 o2
  simp only[Wd,Ve,Vo,Vv,WC]at o1 o2
  simp only[eE,eC,eN,Nat.reduceEqDiff,↓reduceIte,Nat.reduceAdd,Nat.reduceLeDiff,Int.reduceEq,V1,V2,V4,V0,V6,lt_T hlt,hg,e,Vd hs,Tco_c,s2,BD,At,CP,BH,V3 hl,hcn,AJ (k:=cOth letters (cells.take i)) (by omega)]
  exact .mk (i+1) (by rw[o1,o2,o3]) hlt (by omega)
structure VwOK(k:Knd)(cells letters:List Int)(n:Int):Prop where
 c:few cells
 l:few letters
 sy:∀s∈cells,0<=s->okSy k s
 vl:∀y∈k.d.syms,0<=y.v/\y.v<=99
 n:0<=n/\n<=99
theorem OW{k:Knd}(hv:∀y∈k.d.syms,0<=y.v/\y.v<=99){s:Int}(h:okSy k s):0<=at0 (AR k) s/\at0 (AR k) s<=99:=by
 have hlt:s.toNat<k.d.syms.length:=by omega
 rw[Le (V5 hlt)]
 exact hv _ (Vn hlt)
theorem p110(a b:Int):Pur Tryz.prog 110 [eI a,eI b] (.bool (decide (a=b))):=by
 refine .mk ⟨trivial,trivial,trivial⟩ trivial (a110 (AE AH.tnil (AF ?_)))
 simp only[eE,eN,reduceCtorEq,Nat.reduceEqDiff,↓reduceIte,Nat.reduceAdd,c110]
section
variable (k:Knd) (cells letters:List Int) (n:Int)
theorem p70(h:VwOK k cells letters n):Pur Tryz.prog 70 [.agg (A4 k cells letters n)] (.bool (BO (AR k) 1 n letters cells)):=by
 have hp:=KX (f0:=110) (cap:=[]) (ok:=λ_=>True) (bad:=λa b=>decide (a=b)) k cells letters n h.c trivial (λa b _=>p110 a b) (λ_ _ _=>trivial)
 have hT:AH Tryz.prog (tadd 109 (rowX [.agg (A4 k cells letters n),.fn (.func 110) [] []] (λ_=>True) (.bool (Ba (λa b=>decide (a=b)) cells))) tnil):=AH.tnil.add (OV λH n _=>hp.quiet H n)
 have hTe:∀a H,tadd 109 (rowX [.agg (A4 k cells letters n),.fn (.func 110) [] []] (λ_=>True) (.bool (Ba (λa b=>decide (a=b)) cells))) tnil 109 a H=(a=[.agg (A4 k cells letters n),.fn (.func 110) [] []]/\True,.bool (Ba (λa b=>decide (a=b)) cells)):=λ_ _=>rfl
 generalize tadd 109 _ tnil=T at hT hTe
 refine .mk ⟨Ax k cells letters n,trivial⟩ trivial (a70 (AE hT (AF ?_)))
 simp only[eE,eN,Nat.reduceEqDiff,↓reduceIte,Nat.reduceAdd,c70,hTe]
 exact⟨rfl,rfl⟩
theorem p112(h:VwOK k cells letters n)(a b:Int)(hab:okSy k a/\okSy k b):Pur Tryz.prog 112 [eI a,eI b,.ep (A4 k cells letters n)] (.bool (decide (absI (at0 (AR k) a-at0 (AR k) b)<n))):=by
 have hT:AH Tryz.prog (tadd 76 (rowS [.ep (AL k)] (okSy k) λs=>eI (at0 (AR k) s)) tnil):=AH.tnil.add (rowSq λs hs=>p76 k s hs)
 have hTe:∀a H,tadd 76 (rowS [.ep (AL k)] (okSy k) λs=>eI (at0 (AR k) s)) tnil 76 a H=rowS [.ep (AL k)] (okSy k) (λs=>eI (at0 (AR k) s)) a H:=λ_ _=>rfl
 generalize tadd 76 _ tnil=T at hT hTe
 refine .mk ⟨trivial,trivial,Ax k cells letters n,trivial⟩ trivial (a112 (AE hT (AF ?_)))
 have r1:=OW h.vl hab.1
 have r2:=OW h.vl hab.2
 generalize hva:at0 (AR k) a=va at r1
 generalize hvb:at0 (AR k) b=vb at r2
 have w1:IntKind.wrap .i64 (va-vb)=va-vb:=Aq (by omega) (by omega)
 have w2:IntKind.wrap .i64 (0-(va-vb))= -(va-vb):=by rw[Aq (by omega) (by omega)];omega
 simp only[eE,eN,reduceCtorEq,Nat.reduceEqDiff,↓reduceIte,Nat.reduceAdd,Nat.reduceLeDiff,c112,hTe,rowS,hva,hvb,w1,w2]
 exact⟨hab.1,hab.2,rfl⟩
theorem p113(h:VwOK k cells letters n)(a b:Int)(hab:okSy k a/\okSy k b):Pur Tryz.prog 113 [eI a,eI b,.ep (A4 k cells letters n)] (.bool (decide (at0 (AR k) b<=at0 (AR k) a))):=by
 have hT:AH Tryz.prog (tadd 76 (rowS [.ep (AL k)] (okSy k) λs=>eI (at0 (AR k) s)) tnil):=AH.tnil.add (rowSq λs hs=>p76 k s hs)
 have hTe:∀a H,tadd 76 (rowS [.ep (AL k)] (okSy k) λs=>eI (at0 (AR k) s)) tnil 76 a H=rowS [.ep (AL k)] (okSy k) (λs=>eI (at0 (AR k) s)) a H:=λ_ _=>rfl
 generalize tadd 76 _ tnil=T at hT hTe
 refine .mk ⟨trivial,trivial,Ax k cells letters n,trivial⟩ trivial (a113 (AE hT (AF ?_)))
 simp only[eE,eN,reduceCtorEq,Nat.reduceEqDiff,↓reduceIte,Nat.reduceAdd,Nat.reduceLeDiff,c113,hTe,rowS]
 exact hab
theorem prQ{f0:FuncId}{bad:Int->Int->Bool}(hp:Pur Tryz.prog 109 [.agg (A4 k cells letters n),.fn (.func f0) [] [.ep (A4 k cells letters n)]] (.bool (Ba bad cells)))(H:AB)(m:Nat)(q:Nat)(hq:hget H q=some (.box (A4 k cells letters n))):
  AZ Tryz.prog 109 [.agg (A4 k cells letters n),.fn (.func f0) [] [.ptr q 0]] H m (.bool (Ba bad cells)):=
 hp.view trivial (.cons (.wk (Wk.refl _)) (.cons (.fn .nil (.cons (View.ptr (off:=0) hq) .nil)) .nil)) m
theorem p72(h:VwOK k cells letters n):Pur Tryz.prog 72 [.agg (A4 k cells letters n)] (.bool (BO (AR k) 3 n letters cells)):=by
 have hp:=KX (f0:=112) (cap:=[.ep (A4 k cells letters n)]) (ok:=okSy k) (bad:=λa b=>decide (absI (at0 (AR k) a-at0 (AR k) b)<n)) k cells letters n h.c ⟨Ax k cells letters n,trivial⟩ (λa b q=>p112 k cells letters n h a b q) h.sy
 have hT:AH Tryz.prog (tadd 109 (rowX [.agg (A4 k cells letters n),.fn (.func 112) [] [.ptr 0 0]] (λH=>hget H 0=some (.box (A4 k cells letters n))) (.bool (Ba (λa b=>decide (absI (at0 (AR k) a-at0 (AR k) b)<n)) cells))) tnil):=AH.tnil.add (OV λH m hq=>prQ k cells letters n hp H m 0 hq)
 have hTe:∀a H,tadd 109 (rowX [.agg (A4 k cells letters n),.fn (.func 112) [] [.ptr 0 0]] (λH=>hget H 0=some (.box (A4 k cells letters n))) (.bool (Ba (λa b=>decide (absI (at0 (AR k) a-at0 (AR k) b)<n)) cells))) tnil 109 a H=(a=[.agg (A4 k cells letters n),.fn (.func 112) [] [.ptr 0 0]]/\hget H 0=some (.box (A4 k cells letters n)),.bool (Ba (λa b=>decide (absI (at0 (AR k) a-at0 (AR k) b)<n)) cells)):=λ_ _=>rfl
 generalize tadd 109 _ tnil=T at hT hTe
 refine .mk ⟨Ax k cells letters n,trivial⟩ trivial (a72 (AE hT (AF ?_)))
 simp only[eE,eN,Nat.reduceEqDiff,↓reduceIte,Nat.reduceAdd,c72,hTe]
 exact⟨rfl,rfl⟩
theorem p73(h:VwOK k cells letters n):Pur Tryz.prog 73 [.agg (A4 k cells letters n)] (.bool (BO (AR k) 4 n letters cells)):=by
 have hp:=KX (f0:=113) (cap:=[.ep (A4 k cells letters n)]) (ok:=okSy k) (bad:=λa b=>decide (at0 (AR k) b<=at0 (AR k) a)) k cells letters n h.c ⟨Ax k cells letters n,trivial⟩ (λa b q=>p113 k cells letters n h a b q) h.sy
 have hT:AH Tryz.prog (tadd 109 (rowX [.agg (A4 k cells letters n),.fn (.func 113) [] [.ptr 0 0]] (λH=>hget H 0=some (.box (A4 k cells letters n))) (.bool (Ba (λa b=>decide (at0 (AR k) b<=at0 (AR k) a)) cells))) tnil):=AH.tnil.add (OV λH m hq=>prQ k cells letters n hp H m 0 hq)
 have hTe:∀a H,tadd 109 (rowX [.agg (A4 k cells letters n),.fn (.func 113) [] [.ptr 0 0]] (λH=>hget H 0=some (.box (A4 k cells letters n))) (.bool (Ba (λa b=>decide (at0 (AR k) b<=at0 (AR k) a)) cells))) tnil 109 a H=(a=[.agg (A4 k cells letters n),.fn (.func 113) [] [.ptr 0 0]]/\hget H 0=some (.box (A4 k cells letters n)),.bool (Ba (λa b=>decide (at0 (AR k) b<=at0 (AR k) a)) cells)):=λ_ _=>rfl
 generalize tadd 109 _ tnil=T at hT hTe
 refine .mk ⟨Ax k cells letters n,trivial⟩ trivial (a73 (AE hT (AF ?_)))
 simp only[eE,eN,Nat.reduceEqDiff,↓reduceIte,Nat.reduceAdd,c73,hTe]
 exact⟨rfl,rfl⟩
theorem p74:Pur Tryz.prog 74 [.agg (A4 k cells letters n)] (.bool (BO (AR k) 5 n letters cells)):=by
 refine .mk ⟨Ax k cells letters n,trivial⟩ trivial (a74 (AE AH.tnil (AF ?_)))
 simp only[eE,eN,↓reduceIte,Nat.reduceAdd,c74]
 rfl
theorem p71(h:VwOK k cells letters n):Pur Tryz.prog 71 [.agg (A4 k cells letters n)] (.bool (BO (AR k) 2 n letters cells)):=by
 have hT:AH Tryz.prog (tadd 111 (rowX [.agg (A4 k cells letters n)] (λ_=>True) (cntV letters cells)) tnil):=AH.tnil.add (OV λH m _=>(p111 k cells letters n h.c h.l).quiet H m)
 have hTe:∀a H,tadd 111 (rowX [.agg (A4 k cells letters n)] (λ_=>True) (cntV letters cells)) tnil 111 a H=(a=[.agg (A4 k cells letters n)]/\True,cntV letters cells):=λ_ _=>rfl
 generalize tadd 111 _ tnil=T at hT hTe
 refine .mk ⟨Ax k cells letters n,trivial⟩ trivial (a71 (AE hT (AF ?_)))
 have hR:BO (AR k) 2 n letters cells=(decide (cOwn letters cells=0)&&decide (cNon cells=0)):=rfl
 rw[hR]
 have e1:((cOwn letters cells:Int)=0)=(cOwn letters cells=0):=propext (by omega)
 have e2:((cNon cells:Int)=0)=(cNon cells=0):=propext (by omega)
 by_cases h1:cOwn letters cells=0
 ·by_cases h2:cNon cells=0
  ·simp only[eE,eC,eN,reduceCtorEq,Nat.reduceEqDiff,↓reduceIte,Nat.reduceAdd,Nat.reduceLT,V1,Va,Vc,c71,hTe,e1,e2,V3 h1,V3 h2]
   exact rfl
  ·simp only[eE,eC,eN,reduceCtorEq,Nat.reduceEqDiff,↓reduceIte,Nat.reduceAdd,Nat.reduceLT,V1,Va,Vc,c71,hTe,e1,e2,V3 h1,Vd h2]
   exact rfl
 ·simp only[eE,eC,eN,Nat.reduceEqDiff,↓reduceIte,Nat.reduceAdd,Nat.reduceLT,V1,Va,Vc,c71,hTe,e1,e2,Vd h1]
  exact rfl
theorem p75(h:VwOK k cells letters n):Pur Tryz.prog 75 [.agg (A4 k cells letters n)] (.bool (BO (AR k) 6 n letters cells)):=by
 have hT:AH Tryz.prog (tadd 111 (rowX [.agg (A4 k cells letters n)] (λ_=>True) (cntV letters cells)) tnil):=AH.tnil.add (OV λH m _=>(p111 k cells letters n h.c h.l).quiet H m)
 have hTe:∀a H,tadd 111 (rowX [.agg (A4 k cells letters n)] (λ_=>True) (cntV letters cells)) tnil 111 a H=(a=[.agg (A4 k cells letters n)]/\True,cntV letters cells):=λ_ _=>rfl
 generalize tadd 111 _ tnil=T at hT hTe
 refine .mk ⟨Ax k cells letters n,trivial⟩ trivial (a75 (AE hT (AF ?_)))
 have hR:BO (AR k) 6 n letters cells=(decide (n<(cOwn letters cells:Int))||decide ((cells.length:Int)-n<(cOth letters cells:Int))):=rfl
 rw[hR]
 have hcl:cells.length<1000000000:=h.c
 have hn:=h.n
 have w1:IntKind.wrap .i64 ((cells.length:Int)-n)=(cells.length:Int)-n:=Aq (by omega) (by omega)
 by_cases h1:n<(cOwn letters cells:Int)
 ·simp only[eE,eC,eN,reduceCtorEq,Nat.reduceEqDiff,↓reduceIte,Nat.reduceAdd,Nat.reduceLeDiff,Nat.reduceLT,V8,V1,V0,Va,Vc,c75,hTe,V3 h1]
  exact rfl
 ·simp only[eE,eC,eN,Nat.reduceEqDiff,↓reduceIte,Nat.reduceAdd,Nat.reduceLeDiff,Nat.reduceLT,V1,V0,Va,Vc,c75,hTe,Vd h1,w1]
  exact rfl
end
end Go.AM
namespace Go.AM
open Go.Proofs Go.Lib
def rowC(k:Knd)(f:List Int->List Int->Int->Bool):List AVal->AB->Prop×AVal:=λa H=>match a with
 |[.agg [.fn (.func g) [] [.ptr q 0],.sl t1 L1,.sl t2 L2,.int .i64 n]]=>(g=76/\hget H q=some (.box (AL k))/\dIs.ok (.sl t1 L1)/\dIs.ok (.sl t2 L2)/\VwOK k (L1.map toI) (L2.map toI) n,.bool (f (L1.map toI) (L2.map toI) n))
 |_=>(False,.tup [])
theorem Mt{k:Knd}{fid:FuncId}{f:List Int->List Int->Int->Bool}(h:∀cells letters n,VwOK k cells letters n->Pur Tryz.prog fid [.agg (A4 k cells letters n)] (.bool (f cells letters n))):∀args H n,(rowC k f args H).1->AZ Tryz.prog fid args H n (rowC k f args H).2:=by
 intro args H m hh
 unfold rowC at hh⊢
 split at hh
 ·obtain⟨rfl,hq,k1,k2,k3⟩:=hh
  exact(h _ _ _ k3).view trivial (.cons (.agg (.cons (.fn .nil (.cons (View.ptr (off:=0) hq) .nil)) (.cons (.wk (dIs.wk _ k1)) (.cons (.wk (dIs.wk _ k2)) (.cons (.wk (Wk.refl _)) .nil))))) .nil) m
 ·exact hh.elim
def Tcq(k:Knd):Tab:=tadd 70 (rowC k λc l n=>BO (AR k) 1 n l c) (tadd 71 (rowC k λc l n=>BO (AR k) 2 n l c) (tadd 72 (rowC k λc l n=>BO (AR k) 3 n l c)
 (tadd 73 (rowC k λc l n=>BO (AR k) 4 n l c) (tadd 74 (rowC k λc l n=>BO (AR k) 5 n l c) (tadd 75 (rowC k λc l n=>BO (AR k) 6 n l c) tnil)))))
theorem Tcq_ok(k:Knd):AH Tryz.prog (Tcq k):=(((((AH.tnil.add (Mt λc l n h=>p75 k c l n h)).add (Mt λc l n h=>p74 k c l n)).add (Mt λc l n h=>p73 k c l n h)).add (Mt λc l n h=>p72 k c l n h)).add (Mt λc l n h=>p71 k c l n h)).add (Mt λc l n h=>p70 k c l n h)
theorem Tcq_1(k:Knd)(a:List AVal)(H:AB):Tcq k 70 a H=rowC k (λc l n=>BO (AR k) 1 n l c) a H:=rfl
theorem Tcq_2(k:Knd)(a:List AVal)(H:AB):Tcq k 71 a H=rowC k (λc l n=>BO (AR k) 2 n l c) a H:=rfl
theorem Tcq_3(k:Knd)(a:List AVal)(H:AB):Tcq k 72 a H=rowC k (λc l n=>BO (AR k) 3 n l c) a H:=rfl
theorem Tcq_4(k:Knd)(a:List AVal)(H:AB):Tcq k 73 a H=rowC k (λc l n=>BO (AR k) 4 n l c) a H:=rfl
theorem Tcq_5(k:Knd)(a:List AVal)(H:AB):Tcq k 74 a H=rowC k (λc l n=>BO (AR k) 5 n l c) a H:=rfl
theorem Tcq_6(k:Knd)(a:List AVal)(H:AB):Tcq k 75 a H=rowC k (λc l n=>BO (AR k) 6 n l c) a H:=rfl
structure ClOK(k:Knd)(q:Cnd)(letters cells:List Int):Prop where
 kind:1<=q.k/\q.k<=6
 n:0<=q.n/\q.n<=99
 cs:few q.cs
 ci:∀c∈q.cs,0<=c/\c<(cells.length:Int)
 ls:few q.ls
 li:∀c∈q.ls,0<=c/\c<(letters.length:Int)
 sy:∀s∈cells,0<=s->okSy k s
 vl:∀y∈k.d.syms,0<=y.v/\y.v<=99
structure VCq where
 i:Nat
 tk:Tok
 H:AB
 n:Nat
abbrev fnsC:List AVal:=[.nilfn,.fn (.func 70) [] [],.fn (.func 71) [] [],.fn (.func 72) [] [],.fn (.func 73) [] [],.fn (.func 74) [] [],.fn (.func 75) [] []]
abbrev Se(q:Cnd):List AVal:=[.int .i64 q.k,eIs q.cs,eIs q.ls,.int .i64 q.n]
structure IC1(k:Knd)(q:Cnd)(m:Nat)(X:Nat->List Int)(bx:AVal->List AVal)(v:VCq):Prop where
 hi:v.i<=m
 hn:12<=v.n
 fr:AN v.H v.n
 h0:hget v.H 0=some (.box (AL k))
 h1:hget v.H 1=some (.box (Se q))
 h4:hget v.H 4=some (.box fnsC)
 h10:hget v.H 10=some (.box (bx (.sl v.tk ((X v.i).map eI))))
 tok:tkG 1 11 v.H v.tk
 es:v.tk.esz=1\/X v.i=[]
theorem p41(k:Knd)(q:Cnd)(letters cells:List Int)(h:ClOK k q letters cells):Pur Tryz.prog 41 [Bq k,encQ q,eIs letters,eIs cells] (.bool (IA (AR k) q letters cells)):=by
 refine .mk ⟨Aj 0 k,⟨trivial,Aa 0 _,Aa 0 _,trivial,trivial⟩,Aa 0 _,Aa 0 _,trivial⟩ trivial (a41 (AE (Tcq_ok k) (AF ?_)))
 have hcs:q.cs.length<1000000000:=h.cs
 have hls:q.ls.length<1000000000:=h.ls
 simp only[eE,eN,reduceCtorEq,Nat.reduceEqDiff,↓reduceIte,Nat.reduceAdd,Nat.reduceLeDiff,V0,c41]
 refine AU (λv:VCq=>⟨[(2,true,eIs letters),(3,true,eIs cells),(5,true,.ptr 1 0),(9,true,.ptr 4 0),(10,true,.ptr 10 0),(21,true,eIs q.cs),(22,true,.int .i64 q.cs.length),(23,true,.int .i64 v.i)],v.H,v.n⟩)
  (IC1 k q q.cs.length (λi=>(q.cs.take i).map (at0 cells)) λa=>[.fn (.func 76) [] [.ptr 0 0],a,.sl .nil [],.int .i64 q.n]) (λv=>q.cs.length-v.i)
  ⟨0,.nil,_,12⟩ rfl ?_ ?_
 ·refine⟨Vi _,V9 _,?_,rfl,rfl,rfl,rfl,.inl rfl,.inr rfl⟩
  simp only[]
  repeat' (first|exact AN.nil.hset (m:=12) (Vi _) (by decide)|refine AN.hset ?_ (V9 _) (by decide))
 rintro⟨i,tk,H,n⟩ ⟨hi,hn,hfr,h0,h1,h4,h10,htk,hes⟩
 simp only at hi hn hfr h0 h1 h4 h10 htk hes
 by_cases hlt:i<q.cs.length
 ·have hg:=V5 hlt
  have e:=AJ (k:=i) (by omega)
  have hci:=h.ci _ (Vn hlt)
  have htake:q.cs.take (i+1)=q.cs.take i++[q.cs[i]]:=by rw[VX,hg];rfl
  generalize q.cs[i]=x at hg hci htake
  have hgx:=Cy hci.1 hci.2
  have hX:((q.cs.take i).map (at0 cells)).length<=i:=by simp;omega
  have q1:Bh H 1 tk=True:=V3 htk.app
  have q2:(((q.cs.take i).map (at0 cells)).length<=35184372088831)=True:=V3 (by omega)
  have q3:Al (((q.cs.take i).map (at0 cells)).length+1) 8=True:=V3 (AX (by omega) (by decide))
  have y1:∀k,(10=n+k)=False:=λk=>Vd (by omega)
  have y2:(n=3)=False:=Vd (by omega)
  have y3:(3=n)=False:=Vd (by omega)
  have hk10:=Ai htk (i:=10) (.inl (by decide))
  rw[h10]at hk10
  generalize hXd:(q.cs.take i).map (at0 cells)=X at hX q2 q3 h10 hk10 hes
  simp only[eE,eC,eN,reduceCtorEq,Nat.reduceEqDiff,↓reduceIte,Nat.reduceAdd,Nat.reduceLeDiff,Nat.reduceMul,Nat.reduceLT,Int.reduceEq,V1,V2,V4,V0,V6,lt_T hlt,hg,h10,V3 hci.1,V3 hci.2,hgx,q1,q2,q3,fr1 hfr,hk10,y2,e]
  refine .mk ⟨i+1,.own (n+7) 1,hset (hset (AW H tk) (n+7) .tok) 10 (.box [.fn (.func 76) [] [.ptr 0 0],.sl (.own (n+7) 1) ((X++[at0 cells x]).map eI),.sl .nil [],.int .i64 q.n]),n+10⟩ ?_ ⟨hlt,by simp only[];omega,((Ak htk hfr).hset (m:=n+10) (by omega) (by omega)).hset (V9 _) (show 10<n+10 by omega),?_,?_,?_,?_,.inr (.inr ⟨n+7,rfl,by omega,?_⟩),.inl rfl⟩ (by simp only[];omega)
  ·simp only[Vl,Vs,VP]
  all_goals simp only[]
  ·grind [AA,Ai]
  ·grind [AA,Ai]
  ·grind [AA,Ai]
  ·rw[AC];simp only[htake,Vl,Vs,VP,hXd]
  ·rw[AA _ _ _ _ (by omega),AC]
 obtain rfl:i=q.cs.length:=by omega
 rw[VQ]at hes h10
 simp only[eE,eC,eN,Nat.reduceEqDiff,↓reduceIte,Nat.reduceAdd,Nat.reduceLeDiff,V0,lt_F hlt,h1]
 generalize hXc:q.cs.map (at0 cells)=XC at h10 hes
 refine AU (λv:VCq=>⟨[(2,true,eIs letters),(5,true,.ptr 1 0),(9,true,.ptr 4 0),(10,true,.ptr 10 0),(38,true,eIs q.ls),(39,true,.int .i64 q.ls.length),(40,true,.int .i64 v.i)],v.H,v.n⟩)
  (IC1 k q q.ls.length (λi=>(q.ls.take i).map (at0 letters)) λa=>[.fn (.func 76) [] [.ptr 0 0],.sl tk (XC.map eI),a,.int .i64 q.n]) (λv=>q.ls.length-v.i)
  ⟨0,.nil,H,n⟩ rfl ⟨Vi _,hn,hfr,h0,h1,h4,h10,.inl rfl,.inr rfl⟩ ?_
 rintro⟨j,tj,H1,n1⟩ ⟨hj,hn1,hfr1,h01,h11,h41,h101,htj,hej⟩
 simp only at hj hn1 hfr1 h01 h11 h41 h101 htj hej
 by_cases hlj:j<q.ls.length
 ·have hg:=V5 hlj
  have e:=AJ (k:=j) (by omega)
  have hci:=h.li _ (Vn hlj)
  have htake:q.ls.take (j+1)=q.ls.take j++[q.ls[j]]:=by rw[VX,hg];rfl
  generalize q.ls[j]=x at hg hci htake
  have hgx:=Cy hci.1 hci.2
  have hX:((q.ls.take j).map (at0 letters)).length<=j:=by simp;omega
  have q1:Bh H1 1 tj=True:=V3 htj.app
  have q2:(((q.ls.take j).map (at0 letters)).length<=35184372088831)=True:=V3 (by omega)
  have q3:Al (((q.ls.take j).map (at0 letters)).length+1) 8=True:=V3 (AX (by omega) (by decide))
  have y1:∀k,(10=n1+k)=False:=λk=>Vd (by omega)
  have y2:(n1=3)=False:=Vd (by omega)
  have y3:(3=n1)=False:=Vd (by omega)
  have hk10:=Ai htj (i:=10) (.inl (by decide))
  rw[h101]at hk10
  generalize hXd:(q.ls.take j).map (at0 letters)=X at hX q2 q3 h101 hk10 hej
  simp only[eE,eC,eN,reduceCtorEq,Nat.reduceEqDiff,↓reduceIte,Nat.reduceAdd,Nat.reduceLeDiff,Nat.reduceMul,Nat.reduceLT,Int.reduceEq,V1,V2,V4,V0,V6,lt_T hlj,hg,h101,V3 hci.1,V3 hci.2,hgx,q1,q2,q3,fr1 hfr1,hk10,y2,e]
  refine .mk ⟨j+1,.own (n1+7) 1,hset (hset (AW H1 tj) (n1+7) .tok) 10 (.box [.fn (.func 76) [] [.ptr 0 0],.sl tk (XC.map eI),.sl (.own (n1+7) 1) ((X++[at0 letters x]).map eI),.int .i64 q.n]),n1+10⟩ ?_ ⟨hlj,by simp only[];omega,((Ak htj hfr1).hset (m:=n1+10) (by omega) (by omega)).hset (V9 _) (show 10<n1+10 by omega),?_,?_,?_,?_,.inr (.inr ⟨n1+7,rfl,by omega,?_⟩),.inl rfl⟩ (by simp only[];omega)
  ·simp only[Vl,Vs,VP]
  all_goals simp only[]
  ·grind [AA,Ai]
  ·grind [AA,Ai]
  ·grind [AA,Ai]
  ·rw[AC];simp only[htake,Vl,Vs,VP,hXd]
  ·rw[AA _ _ _ _ (by omega),AC]
 obtain rfl:j=q.ls.length:=by omega
 rw[VQ]at hej h101
 generalize hXl:q.ls.map (at0 letters)=XL at h101 hej
 have hV:VwOK k XC XL q.n:=by
  refine⟨?_,?_,?_,h.vl,h.n⟩
  ·grind
  ·grind
  ·subst hXc
   intro s hs h0
   obtain⟨c,hc,rfl⟩:=W2.1 hs
   have:=h.ci c hc
   exact h.sy _ (Wl (Cy this.1 this.2)) h0
 have hB:IA (AR k) q letters cells=BO (AR k) q.k q.n XL XC:=by unfold IA;rw[hXc,hXl]
 rw[hB]
 have k1:dIs.ok (.sl tk (XC.map eI))=True:=V3 ⟨hes.imp id λq=>by rw[q];rfl,by rw[A0]⟩
 have k2:dIs.ok (.sl tj (XL.map eI))=True:=V3 ⟨hej.imp id λq=>by rw[q];rfl,by rw[A0]⟩
 have hk6:q.k=1\/q.k=2\/q.k=3\/q.k=4\/q.k=5\/q.k=6:=by have:=h.kind;omega
 rcases hk6 with hk|hk|hk|hk|hk|hk
 all_goals
  simp only[Se,hk]at h11
  rw[hk]
  simp only[eE,eC,eN,Nat.reduceEqDiff,↓reduceIte,Nat.reduceAdd,Nat.reduceLeDiff,Nat.reduceMul,Int.reduceLE,Int.reduceToNat,Wr,lt_F hlj,h11,h41,h101,h01,Tcq_1,Tcq_2,Tcq_3,Tcq_4,Tcq_5,Tcq_6,rowC,k1,k2,A0,V3 hV]
  decide
end Go.AM
namespace Go.AM
open Go.Proofs Go.Lib
section
variable {P:Program} {T:Tab} {Q:AExit->AS->Prop} {k:List Item} {s:AS} {b:Nat} {cx:Nat->AVal} {kp:List Nat} {rx:List (Nat×AOp)}
theorem OX{d:Option Nat}{t sz:Nat}{w ag:Bool}{x:Opd}:Ah P T b cx ((2,⟨d,some (t,w),.v (.ld sz ag x)⟩)::rx) kp k Q s=((gvb s.env (some (t,w))=true->isP (lkv s.env x))/\gok s.env (some (t,w))/\(gvb s.env (some (t,w))=true->oks s.env [x]/\(evk s.H (lkv s.env) (.ld sz ag x)).1)/\Ah P T b cx rx kp k Q (s.put d (gvb s.env (some (t,w))) (evk s.H (lkv s.env) (.ld sz ag x)).2)):=by
 rw[Pq,IV];rfl
def JE(P:Program)(T:Tab)(b:Nat)(cx:Nat->AVal)(d:Option Nat)(rel esz bytes:Nat)(z:AVal)(x y:Opd)(str:Bool)(rx:List (Nat×AOp))(kp:List Nat)(k:List Item)(Q:AExit->AS->Prop)(s:AS):Bool->Prop
 |true=>(lk s.env x).1=true/\(lk s.env y).1=true/\HF s.H (b+rel) esz bytes z (Gl P T b cx d rx kp k Q s) (lkv s.env x) (BL s.H (lkv s.env) esz y str)
 |false=>Ah P T b cx rx kp k Q (s.put d false (.tup []))
theorem Lf{d:Option Nat}{t:Nat}{w:Bool}{rel esz bytes:Nat}{z:AVal}{x y:Opd}{str:Bool}:Ah P T b cx ((2,⟨d,some (t,w),.appR rel esz bytes z x y str⟩)::rx) kp k Q s=(gok s.env (some (t,w))/\JE P T b cx d rel esz bytes z x y str rx kp k Q s (gvb s.env (some (t,w)))):=by
 simp only[Ah,Cd,Au,Az,WZ,We,AQ,An,AOpK.opds,ED,J3]
 cases gvb s.env (some (t,w))
 ·simp only[JE,Vo,Ws,We,Wc,Ah,oks]
  refine congrArg _ ?_
  refine propext ⟨λh=>h.2,λh=>⟨λ_ _ q=>q,h⟩⟩
 ·simp only[JE,Wc,oks,WM,WK,reduceCtorEq,Ws]
  rw[Gk];rfl
theorem Qw{d:Option Nat}{rel esz bytes:Nat}{z:AVal}{x y:Opd}{str:Bool}:JE P T b cx d rel esz bytes z x y str rx kp k Q s true=((lk s.env x).1=true/\(lk s.env y).1=true/\HF s.H (b+rel) esz bytes z (Gl P T b cx d rx kp k Q s) (lkv s.env x) (BL s.H (lkv s.env) esz y str)):=rfl
theorem Qx{d:Option Nat}{rel esz bytes:Nat}{z:AVal}{x y:Opd}{str:Bool}:JE P T b cx d rel esz bytes z x y str rx kp k Q s false=Ah P T b cx rx kp k Q (s.put d false (.tup [])):=rfl
def Qy(P:Program)(T:Tab)(b:Nat)(cx:Nat->AVal)(d:Option Nat)(r:List (Nat×AOp))(kp:List Nat)(k:List Item)(Q:AExit->AS->Prop)(s:AS):AOut->AB->Nat->Prop
 | .ret v,H',n'=>Ah P T b cx r kp k Q ({s with H:=H',n:=n'}.put d true v)
 | .pan v,H',n'=>kont P T Q k (.pan v) ⟨[],H',n'⟩
def yldXg(P:Program)(T:Tab)(b:Nat)(cx:Nat->AVal)(d:Option Nat)(r:List (Nat×AOp))(kp:List Nat)(k:List Item)(Q:AExit->AS->Prop)(s:AS)(x:Bool)(H':AB)(n':Nat):Prop:=Ah P T b cx r kp k Q ({s with H:=H',n:=n'}.put d true (.bool x))
def JF(P:Program)(T:Tab)(b:Nat)(cx:Nat->AVal)(d:Option Nat)(f:Opd)(xs:List Opd)(rx:List (Nat×AOp))(kp:List Nat)(k:List Item)(Q:AExit->AS->Prop)(s:AS):Bool->Prop
 |true=>(lk s.env f).1=true/\oks s.env xs/\J0 P (xs.map (lkv s.env)) s.H s.n (Qy P T b cx d rx kp k Q s) (yldXg P T b cx d rx kp k Q s) (lkv s.env f)
 |false=>Ah P T b cx rx kp k Q (s.put d false (.tup []))
theorem HN{d:Option Nat}{t:Nat}{w:Bool}{f:Opd}{xs:List Opd}:Ah P T b cx ((0,⟨d,some (t,w),.call false f xs⟩)::rx) kp k Q s=(gok s.env (some (t,w))/\JF P T b cx d f xs rx kp k Q s (gvb s.env (some (t,w)))):=by
 simp only[Ah,Cd,Au,AQ,An,oks,AOpK.opds,Az,Cu,WZ,We,WK]
 cases gvb s.env (some (t,w))
 ·simp only[JF,Vo,Ws,We,Wc];rfl
 ·simp only[JF,Wc,reduceCtorEq,Ws,WM]
  refine congrArg (λz=>gok s.env (some (t,w))/\(lk s.env f).1=true/\oks s.env xs/\z) ?_
  generalize lkv s.env f=v
  cases v<;>try rfl
  rename_i ff first cap
  cases ff<;>try rfl
  ·refine congrArg (AI P _ _ s.H s.n) ?_
   funext o H' n';cases o<;>rfl
  ·cases first<;>cases cap<;>rfl
theorem Qz{d:Option Nat}{f:Opd}{xs:List Opd}:JF P T b cx d f xs rx kp k Q s true=((lk s.env f).1=true/\oks s.env xs/\J0 P (xs.map (lkv s.env)) s.H s.n (Qy P T b cx d rx kp k Q s) (yldXg P T b cx d rx kp k Q s) (lkv s.env f)):=rfl
theorem Q0{d:Option Nat}{f:Opd}{xs:List Opd}:JF P T b cx d f xs rx kp k Q s false=Ah P T b cx rx kp k Q (s.put d false (.tup [])):=rfl
end
def rdL(H:AB):AVal->List Int
 | .sl _ L=>L.map toI
 | .ref id _ _ len _=>match hget H id with
  |some (.arr _ L)=>(L.take len).map toI
  |_=>[]
 |_=>[]
theorem KY{H:AB}{av:AVal}{l:List Int}(h:RdI H av l):rdL H av=l:=by
 rcases h with⟨t,rfl,-⟩|⟨id,cap,rest,rfl,h1,-⟩
 ·exact A0 l
 ·simp only[rdL,h1]
  rw[Vl,List.take_left' (by rw[V0]),A0]
theorem OY{H:AB}{av:AVal}{l:List Int}(h:RdI H av l):View H (eIs l) av:=by
 rcases h with⟨t,rfl,ht⟩|⟨id,cap,rest,rfl,h1,h2⟩
 ·exact .wk (Wk.sl (ht.imp (λz=>z) λq=>by rw[q];rfl))
 ·have:=View.ref (H:=H) (id:=id) (e:=1) (off:=0) (len:=l.length) (cap:=cap) h1 (by simp) h2
  rw[List.drop_zero,Vl,List.take_left' (by rw[V0])]at this
  exact this
theorem q_clnI{H:AB}{n:Nat}{av:AVal}{l:List Int}(h:RdI H av l)(hl:few l):AZ Tryz.prog 62 [av] H n (eIs l):=by
 refine AZ.of l62 (Aa n l) λhf=>?_
 refine AI.out (R:=λo H' _=>∃lv,o= .ret lv/\LF 1 lv H' (l.map eI)/\BR H H') (AI.seal (ON h hl) ?_) ?_
 ·rintro o H' n' (⟨h1,rfl,-,t,rfl,ht⟩|⟨h1,-,rest,rfl,rfl⟩)
  ·exact .inl ⟨_,rfl,.inl ⟨by rw[h1];rfl,t,rfl,ht⟩,BR.refl _⟩
  ·refine .inr ⟨n+2,1,_,AC ..,_,rfl,.inr ⟨by simpa using h1,n+2,_,rest.map eI,by rw[V0],?_,by simp⟩,λi ob h0=>?_⟩
   ·rw[AC,Vl]
   ·have:=hf.lt h0
    rw[AA _ _ _ _ (by omega),AA _ _ _ _ (by omega)];exact h0
 ·rintro o H' n' ⟨lv,rfl,hL,hK⟩
  refine⟨.ret (eIs l),⟨⟨_,rfl,Wk.refl _⟩,hK⟩,λg w e hR he=>?_⟩
  cases e with
  |returned v=>exact Hy hL hR he
  |panicked c=>exact he.elim
  |outgrown=>exact he.elim
def KZ:List AVal->AB->Prop×AVal:=λa H=>match a with
 |[av]=>(RdI H av (rdL H av)/\few (rdL H av),eIs (rdL H av))
 |_=>(False,.tup [])
theorem rowClq:∀args H n,(KZ args H).1->AZ Tryz.prog 62 args H n (KZ args H).2:=by
 intro args H n hh
 unfold KZ at hh⊢
 split at hh
 ·exact q_clnI hh.1 hh.2
 ·exact hh.elim
def B8:List AVal->AB->Prop×AVal:=λa H=>match a with
 |[av,.int .i64 x]=>(RdI H av (rdL H av)/\few (rdL H av),.bool ((rdL H av).contains x))
 |_=>(False,.tup [])
theorem OZ:∀args H n,(B8 args H).1->AZ Tryz.prog 36 args H n (B8 args H).2:=by
 intro args H n hh
 unfold B8 at hh⊢
 split at hh
 ·exact(p36 _ _ hh.2).view trivial (.cons (OY hh.1) (.cons (.wk (Wk.refl _)) .nil)) n
 ·exact hh.elim
def Tgw:Tab:=tadd 62 KZ (tadd 36 B8 tnil)
theorem Sf:AH Tryz.prog Tgw:=(AH.tnil.add OZ).add rowClq
theorem Tgw_c(a:List AVal)(H:AB):Tgw 62 a H=KZ a H:=rfl
theorem Tgw_h(a:List AVal)(H:AB):Tgw 36 a H=B8 a H:=rfl
structure Gen(A:List (List Int))(l':Nat)(J:(Nat->Prop)->List (List Int)->AB->Nat->Prop)(S:AB->Nat->Prop):Prop where
 fr:∀F D H m,J F D H m->AN H m
 frame:∀F F' D H H' m m',J F D H m->(∀i,F' i->F i\/m<=i)->(∀i,¬F' i->hget H' i=hget H i)->AN H' m'->m<=m'->J F' D H' m'
 yld:∀F D x H m (R:Bool->AB->Nat->Prop),J F D H m->(∀i,F i->i<m)->D++[x]<+:A->(∀H' m',J F (D++[x]) H' m'->(∀i,F i->hget H' i=hget H i)->m<=m'->R true H' m')->(∀H' m',S H' m'->R false H' m')->BK Tryz.prog l' [eIs x] H m R
def GV(H:AB)(lv:AVal)(L:List Int)(F:Nat->Prop):Prop:=(lv= .sl .nil []/\L=[])\/∃id rest,lv= .ref id 1 0 L.length (L.length+rest.length)/\F id/\hget H id=some (.arr 1 ((L++rest).map eI))
theorem GV.rd{H:AB}{lv:AVal}{L:List Int}{F:Nat->Prop}(h:GV H lv L F):RdI H lv L:=by
 rcases h with⟨rfl,rfl⟩|⟨id,rest,rfl,-,h3⟩
 ·exact .inl ⟨_,rfl,.inr rfl⟩
 ·exact .inr ⟨id,_,rest,rfl,h3,by omega⟩
def chsT(M j:Nat)(L:List Int)(i:Nat):List (List Int):=((symI i).filter λs=>!L.contains s).flatMap λs=>chsE M j (L++[s])
theorem JG(M j:Nat)(L:List Int)(i:Nat):chsT M j L (i+1)=chsT M j L i++if L.contains (i:Int)then[]else chsE M j (L++[(i:Int)]):=by grind [chsT,symI,List.range_succ]
theorem Oa(M j:Nat)(L:List Int)(i:Nat):∀k,chsT M j L i<+:chsT M j L (i+k)
 |0=>List.prefix_refl _
 |k+1=>by
  rw[<-Nat.add_assoc,JG]
  exact(Oa M j L i k).trans (List.prefix_append _ _)
theorem Td{α:Type}{D a b A:List α}(h:a<+:b)(hb:D++b<+:A):D++a<+:A:=by
 obtain⟨t,rfl⟩:=h
 rw[<-VG]at hb
 exact(List.prefix_append _ _).trans hb
theorem app_gv{H:AB}{m:Nat}{lv:AVal}{L:List Int}{F:Nat->Prop}{y:Int}{K:AB->AVal->Prop}(h:GV H lv L F)(hl:L.length<1000000)(hm:hget H m=none)
  (hK:∀id (rest:List Int),(id=m\/lv= .ref id 1 0 L.length (L.length+1+rest.length)/\F id)->K (hset H id (.arr 1 (((L++[y])++rest).map eI))) (.ref id 1 0 (L++[y]).length ((L++[y]).length+rest.length))):HF H m 1 8 (.int .i64 0) K lv (some [eI y]):=by
 have el:(L++[y]).length=L.length+1:=by simp
 rcases h with⟨rfl,rfl⟩|⟨id,rest,rfl,h2,h3⟩
 ·rw[Bk]
  refine⟨hm,by decide,rfl,.inl rfl,by simp [Al],by simp,(λe=>by cases e),λ_ cap hcap=>?_⟩
  have:=hK m (List.replicate (cap-1) 0) (.inl rfl)
  simp only[Vw,Vs,Vq,W8,Wz,Vu,X0]at this hcap⊢
  rw[show 0+1+(cap-1)=cap by omega]at this
  exact this
 ·rw[Gj h3]
  refine⟨hm,by decide,rfl,rfl,rfl,AX (by simp only[Vq,W8];omega) (by decide),by simp only[Vq,W8];omega,rfl,by simp,by omega,λhr=>?_,λhr cap' hc=>?_⟩
  ·simp only[Vq,W8]at hr⊢
   have:=hK id (rest.drop 1) (.inr ⟨by rw[Wf,show L.length+1+(rest.length-1)=L.length+rest.length by omega],h2⟩)
   have e1:List.take L.length ((L++rest).map eI)=L.map eI:=by rw[Vl,Wt (by simp),VZ (by simp)]
   have e2:List.drop (L.length+(0+1)) ((L++rest).map eI)=(rest.drop 1).map eI:=by rw[Vl,List.drop_append,WY (by simp)];simp
   rw[e1,e2]
   rw[el,Vl,Vl,Wf,show L.length+1+(rest.length-1)=L.length+rest.length by omega]at this
   exact this
  ·have:=hK m (List.replicate (cap'-(L.length+1)) 0) (.inl rfl)
   simp only[Vq,W8]at hr hc⊢
   have e1:List.take L.length ((L++rest).map eI)=L.map eI:=by rw[Vl,Wt (by simp),VZ (by simp)]
   rw[e1]
   rw[el,Vl,Vl,X0,Wz,show L.length+1+(cap'-(L.length+1))=cap' by omega]at this
   exact this
structure CB(l' M n cn cy cm cg:Nat)(F:Nat->Prop)(H:AB):Prop where
 fn:F cn
 fy:F cy
 fm:F cm
 fg:F cg
 hn:hget H cn=some (.box [.int .i64 n])
 hy:hget H cy=some (.box [.fn (.yield l') [] []])
 hm:hget H cm=some (.box [.int .i64 M])
 hg:hget H cg=some (.box [.fn (.func 61) [] [.ptr cn 0,.ptr cy 0,.ptr cm 0,.ptr cg 0]])
def GrP(J:(Nat->Prop)->List (List Int)->AB->Nat->Prop)(S:AB->Nat->Prop)(F:Nat->Prop)(D':List (List Int))(L:List Int)(lv:AVal)(H:AB)(m:Nat):AOut->AB->Nat->Prop:=λo H' m'=>
 (o= .ret (.bool true)/\∃F':Nat->Prop,(∀i,F i->F' i)/\(∀i,F' i->F i\/m<=i)/\(∀i,F' i->i<m')/\J F' D' H' m'/\GV H' lv L F'/\(∀i,F i->OF lv≠some i->hget H' i=hget H i)/\m<=m')\/(o= .ret (.bool false)/\S H' m')
structure VGr where
 i:Nat
 F:Nat->Prop
 H:AB
 n:Nat
structure IGr(J:(Nat->Prop)->List (List Int)->AB->Nat->Prop)(M j:Nat)(L:List Int)(lv:AVal)(D:List (List Int))(F0:Nat->Prop)(H0:AB)(m0:Nat)(v:VGr):Prop where
 hi:v.i<=M
 f1:∀i,F0 i->v.F i
 f2:∀i,v.F i->F0 i\/m0<=i
 f3:∀i,v.F i->i<v.n
 hj:J v.F (D++chsT M j L v.i) v.H v.n
 gv:GV v.H lv L v.F
 kp:∀i,F0 i->OF lv≠some i->hget v.H i=hget H0 i
 hm:m0<=v.n
theorem Sg{A:List (List Int)}{l':Nat}{J:(Nat->Prop)->List (List Int)->AB->Nat->Prop}{S:AB->Nat->Prop}(G:Gen A l' J S){M n:Nat}(hM:M<=1000)(hn:n<=1000)(cn cy cm cg:Nat):
  ∀(j:Nat) (L:List Int) (lv:AVal) (F:Nat->Prop) (D:List (List Int)) (H:AB) (m:Nat),L.length+j=n->GV H lv L F->J F D H m->(∀i,F i->i<m)->CB l' M n cn cy cm cg F H->D++chsE M j L<+:A->
   AI Tryz.prog 61 [lv,.ptr cn 0,.ptr cy 0,.ptr cm 0,.ptr cg 0] H m (GrP J S F (D++chsE M j L) L lv H m)
 |0,L,lv,F,D,H,m,hL,hgv,hJ,hF,hC,hA=>by
  have hLn:L.length=n:=by omega
  refine a61 (AE Sf (AF ?_))
  have hrd:=hgv.rd
  have r1:=KY hrd
  have hfw:few L:=by show L.length<_;omega
  obtain⟨k1,k2,k3,k4,bn,by',bm,bg⟩:=hC
  have fin:BK Tryz.prog l' [eIs L] H m (λb H' m'=>GrP J S F (D++chsE M 0 L) L lv H m (.ret (.bool b)) H' m'):=by
   refine G.yld F D L H m _ hJ hF hA (λH' m' hj hk hmm=>.inl ⟨rfl,F,λi h=>h,λi h=>.inl h,λi h=>by have:=hF i h;omega,hj,?_,λi h _=>hk i h,hmm⟩) (λH' m' hs=>.inr ⟨rfl,hs⟩)
   rcases hgv with h|⟨id,rest,h1,h2,h3⟩
   ·exact .inl h
   ·exact .inr ⟨id,rest,h1,h2,by rw[hk id h2];exact h3⟩
  rcases hgv with⟨rfl,rfl⟩|⟨id,rest,rfl,h2,h3⟩
  ·have hz:(n:Int)=0:=by simp at hLn;omega
   have hz':((0:Int)=(n:Int))=True:=V3 hz.symm
   simp only[eE,eC,eN,reduceCtorEq,Nat.reduceEqDiff,↓reduceIte,Nat.reduceAdd,c0,c61,bn,hz',by',Tgw_c,KZ,r1,V3 hrd,V3 hfw]
   refine fin.mono λb H' m' h=>?_
   simp only[eE,eN,↓reduceIte,yldK]
   exact h
  ·have hz':((L.length:Int)=(n:Int))=True:=V3 (by omega)
   simp only[eE,eC,eN,reduceCtorEq,Nat.reduceEqDiff,↓reduceIte,Nat.reduceAdd,c61,bn,hz',by',Tgw_c,KZ,r1,V3 hrd,V3 hfw]
   refine fin.mono λb H' m' h=>?_
   simp only[eE,eN,↓reduceIte,yldK]
   exact h
 |j+1,L,lv,F,D,H,m,hL,hgv,hJ,hF,hC,hA=>by
  have hLn:((L.length:Int)=(n:Int))=False:=Vd (by omega)
  have hLn0:L=[]->((0:Int)=(n:Int))=False:=λe=>by subst e;exact Vd (by simp at hL;omega)
  have hfw:few L:=by show L.length<_;omega
  refine a61 (AE Sf (AF ?_))
  obtain⟨k1,k2,k3,k4,bn,by',bm,bg⟩:=hC
  have hend:chsT M j L M=chsE M (j+1) L:=rfl
  have hnr:∀c cs,hget H c=some (.box cs)->OF lv≠some c:=λc cs hb hr=>by
   rcases hgv with⟨rfl,-⟩|⟨id,rest,rfl,-,h3⟩
   ·cases hr
   ·obtain rfl:=Option.some.inj hr
    rw[hb]at h3;cases h3
  have hgv0:=hgv
  rcases hgv with⟨ev,e2⟩|⟨id,rest,ev,h2,h3⟩
  case' inl=>
   have hz':=hLn0 e2
   simp only[eE,eC,eN,reduceCtorEq,Nat.reduceEqDiff,↓reduceIte,Nat.reduceAdd,c0,c61,bn,hz',bm,ev]
   rw[<-ev]
  case' inr=>
   simp only[eE,eC,eN,reduceCtorEq,Nat.reduceEqDiff,↓reduceIte,Nat.reduceAdd,c61,bn,hLn,bm,ev]
   rw[<-ev]
  all_goals
   refine AU (λv:VGr=>⟨[(0,true,lv),(4,true,.ptr cg 0),(16,true,.int .i64 M),(17,true,.int .i64 v.i)],v.H,v.n⟩) (IGr J M j L lv D F H m) (λv=>M-v.i)
    ⟨0,F,H,m⟩ rfl ⟨Vi _,λi h=>h,λi h=>.inl h,hF,by
     show J F (D++chsT M j L 0) H m
     rw[show chsT M j L 0=[]from rfl,Vy];exact hJ,hgv0,λi _ _=>rfl,V9 _⟩ ?_
   rintro⟨i,F1,H1,n1⟩ ⟨hi,f1,f2,f3,hj1,gv1,kp1,hm1⟩
   simp only at hi f1 f2 f3 hj1 gv1 kp1 hm1
   by_cases hlt:i<M
   case neg=>
    obtain rfl:i=M:=by omega
    simp only[eE,eC,eN,reduceCtorEq,Nat.reduceEqDiff,↓reduceIte,lt_F hlt]
    exact .inl ⟨rfl,F1,f1,f2,f3,by rw[<-hend];exact hj1,gv1,kp1,hm1⟩
   have e:=AJ (k:=i) (by omega)
   have hrd:=gv1.rd
   have r1:=KY hrd
   have hsu:=JG M j L i
   have hpre:D++chsT M j L (i+1)<+:A:=by
    refine Td (b:=chsE M (j+1) L) ?_ hA
    rw[<-hend]
    have:=Oa M j L (i+1) (M-(i+1))
    rwa[show i+1+(M-(i+1))=M by omega]at this
   cases hct:L.contains (i:Int)with
   |true=>
    rw[hct,Vk rfl,Vy]at hsu
    simp only[eE,eC,eN,eX,reduceCtorEq,Nat.reduceEqDiff,↓reduceIte,Nat.reduceLeDiff,Nat.reduceMul,Nat.reduceLT,Int.reduceEq,V8,Ve,lt_T hlt,Tgw_h,B8,r1,V3 hrd,V3 hfw,hct,V8,OX,Lf,Qx,HN,Q0,e]
    exact .mk ⟨i+1,F1,H1,n1+13⟩ rfl ⟨hlt,f1,f2,λx h=>by have:=f3 x h;simp only[];omega,by simp only[hsu];exact G.frame _ _ _ _ _ _ _ hj1 (λi h=>.inl h) (λ_ _=>rfl) (λx hx=>G.fr _ _ _ _ hj1 x (by have hx':n1+13<=x:=hx;omega)) (by omega),gv1,kp1,by simp only[];omega⟩ (by simp only[];omega)
   |false=>
    rw[hct,Vb (by decide)]at hsu
    rw[hsu,<-VG]at hpre
    have c1:hget H1 cg=some (.box [.fn (.func 61) [] [.ptr cn 0,.ptr cy 0,.ptr cm 0,.ptr cg 0]]):=by rw[kp1 cg k4 (hnr _ _ bg)];exact bg
    have hfr1:=G.fr _ _ _ _ hj1
    simp only[eE,eC,eN,eX,reduceCtorEq,Nat.reduceEqDiff,↓reduceIte,Nat.reduceLeDiff,Nat.reduceMul,Nat.reduceLT,Ve,lt_T hlt,Tgw_h,B8,r1,V3 hrd,V3 hfw,hct,Ve,OX,Lf,Qw,c1]
    refine app_gv gv1 (by omega) (hfr1 _ (by omega)) λz rest' hz=>?_
    have hzn:z<n1+13:=by
     rcases hz with rfl|⟨-,h⟩
     ·omega
     ·have:=f3 z h;omega
    simp only[eE,Nat.reduceEqDiff,↓reduceIte,Gl,Qz,HN]
    have hf2:AN (hset H1 z (.arr 1 (((L++[(i:Int)])++rest').map eI))) (n1+13):=hfr1.hset (by omega) hzn
    have hL':(L++[(i:Int)]).length+j=n:=by simp;omega
    have hg2:GV (hset H1 z (.arr 1 (((L++[(i:Int)])++rest').map eI))) (.ref z 1 0 (L++[(i:Int)]).length ((L++[(i:Int)]).length+rest'.length)) (L++[(i:Int)]) (λx=>F1 x\/x=z):=.inr ⟨z,rest',rfl,.inr rfl,AC ..⟩
    have hj2:J (λx=>F1 x\/x=z) (D++chsT M j L i) (hset H1 z (.arr 1 (((L++[(i:Int)])++rest').map eI))) (n1+13):=by
     refine G.frame _ _ _ _ _ _ _ hj1 (λx h=>?_) (λx h=>?_) hf2 (by omega)
     ·grind
     ·exact AA _ _ _ _ (λe=>h (.inr e.symm))
    have hbx:∀c cs,F c->hget H c=some (.box cs)->hget (hset H1 z (.arr 1 (((L++[(i:Int)])++rest').map eI))) c=some (.box cs):=λc cs hc hb=>by
     have hne:z≠c:=λe=>by
      subst e
      rcases hz with rfl|⟨h,-⟩
      ·have:=f3 _ (f1 _ hc);omega
      ·exact hnr _ _ hb (by rw[h];rfl)
     rw[AA _ _ _ _ hne,kp1 c hc (hnr c cs hb)];exact hb
    have hF2:∀x,(F1 x\/x=z)->x<n1+13:=λx h=>by
     rcases h with h|rfl
     ·have:=f3 x h;omega
     ·exact hzn
    refine(Sg G hM hn cn cy cm cg j (L++[(i:Int)]) _ (λx=>F1 x\/x=z) (D++chsT M j L i) _ (n1+13) hL' hg2 hj2 hF2
     ⟨.inl (f1 _ k1),.inl (f1 _ k2),.inl (f1 _ k3),.inl (f1 _ k4),hbx _ _ k1 bn,hbx _ _ k2 by',hbx _ _ k3 bm,hbx _ _ k4 bg⟩ hpre).mono ?_
    rintro o H3 n3 (⟨rfl,F3,g1,g2,g3,hj3,gv3,kp3,hm3⟩|⟨rfl,hS⟩)
    ·simp only[eE,eC,eN,reduceCtorEq,Nat.reduceEqDiff,↓reduceIte,Int.reduceEq,V8,Qy,V8,e]
     refine .mk ⟨i+1,F3,H3,n3⟩ rfl ⟨hlt,λx h=>g1 x (.inl (f1 x h)),λx h=>?_,g3,by simp only[hsu];rw[<-VG];exact hj3,?_,λx h hne=>?_,by simp only[];omega⟩ (by simp only[];omega)
     ·grind
     ·rcases gv1 with⟨h1,h2⟩|⟨id1,rest1,h1,h2,h3⟩
      ·exact .inl ⟨h1,h2⟩
      ·right
       by_cases hzz:z=id1
       ·subst hzz
        rcases hz with hz|⟨hz,-⟩
        ·have:=f3 z h2;omega
        ·rcases gv3 with⟨h4,-⟩|⟨id3,rest3,h4,h5,h6⟩
         ·cases h4
         ·simp only[AVal.ref.injEq]at h4
          obtain⟨rfl,-,-,-,h7⟩:=h4
          rw[h1]at hz
          simp only[AVal.ref.injEq]at hz
          refine⟨z,(i:Int)::rest3,?_,h5,?_⟩
          ·rw[h1];simp only[Vm,Vq,W8]at h7⊢;congr 1;omega
          ·rw[h6];simp
       ·refine⟨id1,rest1,h1,g1 _ (.inl h2),?_⟩
        rw[kp3 id1 (.inl h2) (λe=>hzz (Option.some.inj e)),AA _ _ _ _ hzz];exact h3
     ·have hxz:z≠x:=λe=>by
       subst e
       rcases hz with rfl|⟨hz,-⟩
       ·have:=f3 _ (f1 _ h);omega
       ·exact hne (by rw[hz];rfl)
      rw[kp3 x (.inl (f1 x h)) (λe=>hxz (Option.some.inj e)),AA _ _ _ _ hxz]
      exact kp1 x h hne
    ·simp only[eE,eC,eN,reduceCtorEq,Nat.reduceEqDiff,↓reduceIte,Ve,Qy,Ve]
     exact .inr ⟨rfl,hS⟩
theorem Ka{l':Nat}{J:(Nat->Prop)->List (List Int)->AB->Nat->Prop}{S:AB->Nat->Prop}{M n:Nat}(G:Gen (chs M n) l' J S)(hM:M<=1000)(hn:n<=1000){cn cm:Nat}{F:Nat->Prop}{H:AB}{m:Nat}
  (hJ:J F [] H m) (hF:∀i,F i->i<m) (fn:F cn) (fm:F cm) (bn:hget H cn=some (.box [.int .i64 n])) (bm:hget H cm=some (.box [.int .i64 M])):
  AI Tryz.prog 60 [.fn (.yield l') [] [],.ptr cn 0,.ptr cm 0] H m λo H' m'=>o= .ret (.tup [])/\((∃F':Nat->Prop,(∀i,F i->F' i)/\(∀i,F' i->F i\/m<=i)/\J F' (chs M n) H' m')\/S H' m'):=by
 have hf:=G.fr _ _ _ _ hJ
 have x1:=hf.lt bn
 have x2:=hf.lt bm
 refine a60 (AE AH.tnil (AF ?_))
 simp only[eE,eN,reduceCtorEq,Nat.reduceEqDiff,↓reduceIte,Nat.reduceAdd,c60,fr0 hf,fr1 hf,AK]
 have hf2:AN (hset (hset H m (.box [.fn (.yield l') [] []])) (m+1) (.box [.fn (.func 61) [] [.ptr cn 0,.ptr m 0,.ptr cm 0,.ptr (m+1) 0]])) (m+2):=(hf.hset (m:=m+2) (by omega) (by omega)).hset (V9 _) (by omega)
 have hj2:=G.frame F (λx=>F x\/x=m\/x=m+1) [] H _ m (m+2) hJ (λx h=>by
  rcases h with h|h|h
  ·exact .inl h
  ·exact .inr (by omega)
  ·exact .inr (by omega)) (λx h=>by
   rw[AA _ _ _ _ (λe=>h (.inr (.inr e.symm))),AA _ _ _ _ (λe=>h (.inr (.inl e.symm)))]) hf2 (by omega)
 refine(Sg G hM hn cn m cm (m+1) n [] (.sl .nil []) (λx=>F x\/x=m\/x=m+1) [] _ (m+2) (by simp) (.inl ⟨rfl,rfl⟩) hj2 (λx h=>by
  rcases h with h|h|h
  ·have:=hF x h;omega
  ·omega
  ·omega) ⟨.inl fn,.inr (.inl rfl),.inl fm,.inr (.inr rfl),?_,?_,?_,AC ..⟩ (List.prefix_refl _)).mono ?_
 ·grind [AA]
 ·rw[AA _ _ _ _ (by omega),AC]
 ·grind [AA]
 rintro o H' m' (⟨rfl,F',g1,g2,-,hj,-⟩|⟨rfl,hS⟩)
 ·simp only[eE,eN,retK]
  exact .inl ⟨F',λx h=>g1 x (.inl h),λx h=>by
   rcases g2 x h with(h|h|h)|h
   ·exact .inl h
   ·exact .inr (by omega)
   ·exact .inr (by omega)
   ·exact .inr (by omega),hj⟩
 ·simp only[eE,eN,retK]
  exact .inr hS
theorem EQ{H:AB}{m:Nat}{M n:Int}(hf:AN H m):AI Tryz.prog 34 [.int .i64 M,.int .i64 n] H m λo H' m'=>o= .ret (.fn (.func 60) [] [.ptr (m+1) 0,.ptr m 0])/\H'=hset (hset H m (.box [.int .i64 M])) (m+1) (.box [.int .i64 n])/\m'=m+3:=by
 refine a34 (AE AH.tnil (AF ?_))
 simp only[eE,eN,reduceCtorEq,Nat.reduceEqDiff,↓reduceIte,Nat.reduceAdd,c34,fr0 hf,fr1 hf]
theorem Lg(m:Nat):∀n,(chsR m n).length<=m^n
 |0=>by simp [chsR]
 |n+1=>by
  have ih:=Lg m n
  rw[chsR]
  have key:∀l:List (List Int),(l.flatMap λl=>(Nq m l).map λs=>l++[s]).length<=l.length*m:=by
   intro l
   induction l with
   |nil=>simp
   |cons x l ih=>
    rw[Xm,Vm,V0,Vq]
    have:(Nq m x).length<=m:=by
     refine W1 (Wm ..) ?_
     unfold symI;simp
    rw[W5];omega
  refine W1 (key _) ?_
  rw[Nat.pow_succ]
  exact WD _ ih
theorem Te(m n:Nat):(chs m n).length<=m^n:=by rw[QG];exact Lg m n
end Go.AM
namespace Go.AM
open Go.Proofs Go.Lib
abbrev clC(q1 q2:Nat):AVal:=.fn (.func 60) [] [.ptr q1 0,.ptr q2 0]
abbrev Mu(f:AVal)(c:Nat):List (Nat×Bool×AVal):=[(2,true,.ptr c 0),(4,true,.sl .nil []),(6,true,f)]
structure AppL(f:AVal)(c L l':Nat)(F:Nat->Prop)(D:List (List Int))(H:AB)(m:Nat):Prop where
 fr:AN H m
 cl:c<L
 lm:L<m
 nc:¬F c
 nL:¬F L
 hc:∃tl E,hget H c=some (.box [.sl tl E])/\Wks E (D.map eIs)/\tkG 1 (L+1) H tl/\(tl.esz=1\/E=[])/\∀id e,tl= .own id e->¬F id
 hL:hget H L=some (.lp ⟨l',.ready,none,13,Mu f c, #[7],FV,FW⟩)
theorem Q1{A:List (List Int)}{f:AVal}{c L l':Nat}(hA:A.length<=1000000000):Gen A l' (AppL f c L l') (λ_ _=>False) where
 fr:=λF D H m h=>h.fr
 frame:=by
  rintro F F' D H H' m m' ⟨fr,cl,lm,nc,nL,⟨tl,E,hc,hE,ht,hz,hid⟩,hL⟩ hF hH hf hm
  have n1:∀i,i<m->¬F i->¬F' i:=λi hi h h'=>(hF i h').elim h (λq=>by omega)
  refine⟨hf,cl,by omega,n1 _ (by omega) nc,n1 _ (by omega) nL,⟨tl,E,by rw[hH _ (n1 _ (by omega) nc)];exact hc,hE,?_,hz,λid e he=>?_⟩,by rw[hH _ (n1 _ (by omega) nL)];exact hL⟩
  ·rcases ht with rfl|rfl|⟨id,rfl,h1,h2⟩
   ·exact .inl rfl
   ·exact .inr (.inl rfl)
   ·exact .inr (.inr ⟨id,rfl,h1,by rw[hH _ (n1 _ (fr.lt h2) (hid _ _ rfl))];exact h2⟩)
  ·subst he
   rcases ht with h|h|⟨id',h,h1,h2⟩
   ·cases h
   ·cases h
   ·obtain⟨rfl,rfl⟩:id=id'/\e=1:=by injection h with a b;exact⟨a,b⟩
    exact n1 _ (fr.lt h2) (hid _ _ rfl)
 yld:=by
  rintro F D x H m R ⟨fr,cl,lm,nc,nL,⟨tl,E,hc,hE,ht,hz,hid⟩,hL⟩ hF hA' hR -
  have hlen:D.length<1000000000:=by
   obtain⟨t,rfl⟩:=hA'
   simp at hA;omega
  have hEl:E.length=D.length:=by have:=hE.len;rw[V0]at this;exact this
  refine y59_0 hL rfl (AE AH.tnil (AF ?_))
  simp only[eE,eN,Nat.reduceEqDiff,↓reduceIte,Pz,renv,WS,WW,Wg,Xa]
  refine⟨_,hL,rfl,AE AH.tnil (AF ?_)⟩
  have y1:∀k,(L=m+k)=False:=λk=>Vd (by omega)
  have y2:(L=c)=False:=Vd (by omega)
  have y3:(c=L)=False:=Vd (by omega)
  have ht':tkG 1 (L+1) (hset H L (.lp ⟨l',.busy,none,13,Mu f c, #[7],FV,FW⟩)) tl:=ht.set (.inl (by omega))
  have hf':AN (hset H L (.lp ⟨l',.busy,none,13,Mu f c, #[7],FV,FW⟩)) m:=fr.hset (V9 _) lm
  generalize hH1:hset H L (.lp ⟨l',.busy,none,13,Mu f c, #[7],FV,FW⟩)=H1 at ht' hf'⊢
  have hc1:hget H1 c=some (.box [.sl tl E]):=by rw[<-hH1,AA _ _ _ _ (by omega)];exact hc
  have hL1:hget H1 L=some (.lp ⟨l',.busy,none,13,Mu f c, #[7],FV,FW⟩):=by rw[<-hH1,AC]
  have hk1:∀i,i≠L->hget H1 i=hget H i:=λi hi=>by rw[<-hH1,AA _ _ _ _ hi.symm]
  clear hH1
  have q1:Bh H1 1 tl=True:=V3 ht'.app
  have q2:(E.length<=35184372088831)=True:=V3 (by omega)
  have q3:Al (E.length+1) 24=True:=V3 (AX (by omega) (by decide))
  have y4:(m+3=c)=False:=Vd (by omega)
  have y5:(m+3=L)=False:=Vd (by omega)
  have kL:hget (AW H1 tl) L=hget H1 L:=Ai ht' (.inl (by omega))
  have kc:hget (AW H1 tl) c=hget H1 c:=Ai ht' (.inl (by omega))
  simp only[eE,eN,reduceCtorEq,Nat.reduceEqDiff,↓reduceIte,Nat.reduceLeDiff,Nat.reduceMul,Nat.reduceLT,Py,hc1,y4,q1,q2,q3,fr1 hf',kc]
  have ef:=hf'.lt hc1
  refine⟨⟨l',.busy,none,13,Mu f c, #[7],FV,FW⟩,by simp only[AD,y3,y5,Vv];rw[kL,hL1],hR _ _ ⟨?_,cl,by simp only[];omega,nc,nL,⟨.own (m+3) 1,E++[eIs x],?_,?_,.inr (.inr ⟨m+3,rfl,by omega,?_⟩),.inl rfl,?_⟩,by simp only[AD,Wd]⟩ ?_ (by simp only[];omega)⟩
  ·refine AN.hset (AN.hset (AN.hset (Ak ht' hf') ?_ ?_) (V9 _) ?_) (V9 _) ?_<;>simp only[]<;>omega
  ·simp only[AD,y2,Vv,Wd]
  ·rw[Vl]
   exact hE.app (.cons (Wk.refl _) .nil)
  ·simp_all [AD]<;>omega
  ·rintro id e he hFi
   cases he
   have:=hF _ hFi
   omega
  ·intro i hi
   have hil:=hF _ hi
   have h1:L≠i:=λe=>nL (e▸hi)
   have h2:c≠i:=λe=>nc (e▸hi)
   simp only[AD]
   rw[Vb h1,Vb h2,Vb (by omega)]
   have hk:hget (AW H1 tl) i=hget H1 i:=by
    rcases ht' with rfl|rfl|⟨id,rfl,-,-⟩
    ·rfl
    ·rfl
    ·simp only[AW]
     exact AA _ _ _ _ λe=>hid _ _ rfl (e▸hi)
   rw[hk,hk1 i (Ne.symm h1)]
theorem Tf{H:AB}{m cm cn:Nat}{M n:Nat}(hf:AN H m)(hM:M<=1000)(hn:n<=1000)(hA:M^n<=1000000000)(bn:hget H cn=some (.box [.int .i64 n]))(bm:hget H cm=some (.box [.int .i64 M])):
  AI Tryz.prog 59 [.sl .nil [],clC cn cm] H m λo H' m'=>∃tl E,o= .ret (.sl tl E)/\Wks E ((chs M n).map eIs)/\(tl.esz=1\/E=[]):=by
 have x1:=hf.lt bn
 have x2:=hf.lt bm
 refine a59 (AE AH.tnil (AF ?_))
 simp only[eE,eN,reduceCtorEq,Nat.reduceEqDiff,↓reduceIte,Nat.reduceAdd,c59,fr0 hf,ES]
 intro l'
 generalize hH1:hset (hset H m (.box [.sl .nil []])) (m+2) _=H1
 have k1:∀i,i≠m->i≠m+2->hget H1 i=hget H i:=λi h1 h2=>by
  rw[<-hH1,AA _ _ _ _ h2.symm,AA _ _ _ _ h1.symm]
 have hJ:AppL (clC cn cm) m (m+2) l' (λi=>i=cn\/i=cm) [] H1 (m+3):=by
  refine⟨λj hj=>by rw[k1 j (by omega) (by omega)];exact hf j (by omega),by omega,by omega,λh=>by omega,λh=>by omega,⟨.nil,[],?_,.nil,.inl rfl,.inr rfl,λ_ _ e=>by cases e⟩,?_⟩
  ·rw[<-hH1,AA _ _ _ _ (by omega),AC]
  ·rw[<-hH1,AC]
 refine(Ka (Q1 (A:=chs M n) (W1 (Te M n) hA)) hM hn hJ (λi h=>by omega) (.inl rfl) (.inr rfl) (by rw[k1 cn (by omega) (by omega)];exact bn) (by rw[k1 cm (by omega) (by omega)];exact bm)).mono ?_
 rintro o H' m' ⟨rfl,⟨F',-,hF,hj⟩|hF⟩
 ·obtain⟨fr,cl,lm,nc,nL,⟨tl,E,hc,hE,ht,hz,-⟩,hL⟩:=hj
  have y1:(m+2=m)=False:=Vd (by omega)
  simp only[eE,eN,reduceCtorEq,↓reduceIte,ER,hL,hc,y1]
  exact⟨tl,E,rfl,hE,hz⟩
 ·exact hF.elim
theorem Tg{H:AB}{m cm cn:Nat}{M n:Nat}(hf:AN H m)(hM:M<=1000)(hn:n<=1000)(hA:M^n<=1000000000)(bn:hget H cn=some (.box [.int .i64 n]))(bm:hget H cm=some (.box [.int .i64 M])):
  AI Tryz.prog 33 [clC cn cm] H m λo H' m'=>∃tl E,o= .ret (.sl tl E)/\Wks E ((chs M n).map eIs)/\(tl.esz=1\/E=[]):=by
 refine a33 (AE AH.tnil (AF ?_))
 simp only[eE,eN,reduceCtorEq,↓reduceIte,c33]
 refine(Tf hf hM hn hA bn bm).mono ?_
 rintro o H' n' ⟨tl,E,rfl,h1,h2⟩
 simp only[eE,eN,↓reduceIte,retK]
 exact⟨tl,E,rfl,h1,h2⟩
end Go.AM
namespace Go.AM
open Go.Proofs Go.Lib
theorem C0{k:Knd}(h:Bf k=0):0<k.d.syms.length/\k.d.syms.length<=16:=by
 have h1:HL k=true:=by
  unfold Bf at h
  split at h
  ·assumption
  ·cases h
 obtain⟨x,cells,-,h3,-,h4⟩:=IH (Lb h1)
 have h5:k.d=x:=by rw[h4];rfl
 rw[<-h5]at h3
 unfold chkD at h3
 split at h3
 ·cases h3
 ·simp_all [limD,V7,Vf]
def IP(k:Knd)(n:Int):AVal:=if Bf k≠0 then .tup [.sl .nil [],.int .i64 (Bf k)]else if n<0\/3<n then .tup [.sl .nil [],.int .i64 1]else .tup [.sl (.none 1) ((chs k.d.syms.length n.toNat).map eIs),.int .i64 0]
def Tlt:Tab:=tadd 32 (s1 dKn (λk=>FewD k.d) λk=>.int .i64 (Bf k)) tnil
theorem Si:AH Tryz.prog Tlt:=AH.tnil.add (q1 λk h=>p32 k h)
theorem Q2(a:List AVal)(H:AB):Tlt 32 a H=s1 dKn (λk=>FewD k.d) (λk=>.int .i64 (Bf k)) a H:=rfl
theorem p11(k:Knd)(n:Int)(h1:FewD k.d):Pur Tryz.prog 11 [Bq k,.int .i64 n] (IP k n):=by
 have u1:dKn.ok (.agg (AL k))=True:=EF k
 have u2:dKn.dec (.agg (AL k))=k:=Ct k
 simp only[AL,AG,AO,Vu,Vw]at u1 u2
 refine .mk ⟨Aj 0 k,trivial,trivial⟩ ?_ (a11 (AE Si (AF ?_)))
 ·unfold IP
  split
  ·exact⟨⟨trivial,trivial⟩,trivial,trivial⟩
  ·split
   ·exact⟨⟨trivial,trivial⟩,trivial,trivial⟩
   ·exact⟨⟨trivial,Ap (λl=>Aa 0 l) _⟩,trivial,trivial⟩
 unfold IP
 by_cases hk:Bf k=0
 case neg=>simp only[eE,eC,eN,reduceCtorEq,Nat.reduceEqDiff,↓reduceIte,Nat.reduceAdd,Ve,c11,AL,AG,AO,Q2,s1,u1,u2,V3 h1,Vd hk];exact Wk.refl _
 by_cases hn0:n<0
 ·simp only[eE,eC,eN,reduceCtorEq,Nat.reduceEqDiff,↓reduceIte,Nat.reduceAdd,V8,c11,AL,AG,AO,Q2,s1,u1,u2,V3 h1,V3 hk,V3 hn0];exact Wk.refl _
 by_cases hn3:3<n
 ·simp only[eE,eC,eN,reduceCtorEq,Nat.reduceEqDiff,↓reduceIte,Nat.reduceAdd,V8,c11,AL,AG,AO,Q2,s1,u1,u2,V3 h1,V3 hk,Vd hn0,V3 hn3];exact Wk.refl _
 obtain⟨n',rfl⟩:=X7 (Int.not_lt.1 hn0)
 have hsy:=C0 hk
 simp only[eE,eC,eN,reduceCtorEq,Nat.reduceEqDiff,↓reduceIte,Nat.reduceAdd,Nat.reduceLeDiff,V8,V2,V0,c11,AL,AG,AO,Q2,s1,u1,u2,V3 h1,V3 hk,Vd hn0,Vd hn3]
 generalize hH:hset hnil 0 (AObj.box _)=H
 have hf:AN H 3:=by rw[<-hH];exact AN.nil.hset (m:=3) (Vi _) (by decide)
 refine(EQ (M:=k.d.syms.length) (n:=n') hf).mono ?_
 rintro o H1 n1 ⟨rfl,rfl,rfl⟩
 simp only[eE,↓reduceIte,Nat.reduceAdd,retK]
 have hpow:k.d.syms.length^n'<=1000000000:=by
  refine W1 (Nat.pow_le_pow_left hsy.2 n') (W1 (Nat.pow_le_pow_right (by decide) (show n'<=3 by omega)) (by decide))
 refine(Tg (M:=k.d.syms.length) (n:=n') ((hf.hset (m:=6) (by omega) (by omega)).hset (V9 _) (by omega)) (by omega) (by omega) hpow (AC ..) (by rw[AA _ _ _ _ (by omega),AC])).mono ?_
 rintro o H2 n2 ⟨tl,E,rfl,hE,hz⟩
 simp only[eE,eN,Nat.reduceEqDiff,↓reduceIte,retK]
 exact Wk.tup (.cons (Wk.slx hz hE) (.cons (Wk.refl _) .nil))
end Go.AM
