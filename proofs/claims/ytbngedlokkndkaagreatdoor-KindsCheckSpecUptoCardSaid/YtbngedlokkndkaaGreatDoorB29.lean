/-
  From the abstract machine to a law's row whose readings are of a bulk that is bound: no text and no list is longer than .
  Conditions: none beyond those of its parts.
-/
import Derived.Test.YtbngedlokkndkaaGreatDoorB5
import Derived.Test.YtbngedlokkndkaaGreatDoorRows
import Derived.Deep.DeepHandedRow
import Derived.Test.YtbngedlokkndkaaGreatDoorB26
import Derived.Test.YtbngedlokkndkaaGreatDoorB25

set_option maxRecDepth 20000
set_option linter.all false
namespace Go.AM
open Go.Proofs Go.Lib Go.Proofs.YtbngedlokkndkaaGreatDoor
def Yq{H:Type}(d:DataW H):1<=Rows.uptoBulk d:=by
 cases d with
 |lit l=>cases l<;>simp [Rows.uptoBulk]
 |nil=>simp [Rows.uptoBulk]
 |ptr d=>simp [Rows.uptoBulk]
 |slice elems spare=>simp [Rows.uptoBulk]
 |agg parts=>simp [Rows.uptoBulk]
 |iface t d=>simp [Rows.uptoBulk]
 |map entries=>simp [Rows.uptoBulk]
 |held h=>simp [Rows.uptoBulk]
theorem IR{H:Type}{d:DataW H}:∀{l:List (DataW H)},d∈l->Rows.uptoBulk d<=Rows.uptoBulkAll l
 |x::r,h=>by
  simp only[Rows.uptoBulkAll];rcases ph.1 h with rfl|h
  ·omega
  ·have:=IR h;omega
theorem RI{H:Type}:∀l:List (DataW H),l.length<=Rows.uptoBulkAll l
 |[]=>by simp [Rows.uptoBulkAll]
 |x::r=>by have:=Yq x;have:=RI r;simp only[Rows.uptoBulkAll,oI];omega
theorem RJ{H:Type}:∀l r:List (DataW H),Rows.uptoBulkAll (l++r)=Rows.uptoBulkAll l+Rows.uptoBulkAll r
 |[],r=>by simp [Rows.uptoBulkAll]
 |x::l,r=>by simp only[pp,Rows.uptoBulkAll,RJ l r];omega
mutual
def Sh.rdU:Sh->List Fs->Prop
 | .bool,zs=>∃b,zs=[.bool b]
 | .int k,zs=>∃n,zs=[.int k n]/\(Lit.int k n).wf=true
 | .str,zs=>∃s,zs=[.str s]/\s.length<=1048576
 | .sl e,zs=>∃l:List (List Fs),zs=[.sl (.none e.size) (l.map e.wrap)]/\l.length<=1048576/\∀x∈l,e.rdU x
 | .st fs,zs=>Sh.rdLU fs zs
 | .ar n k,zs=>∃l:List Int,zs=l.map (.int k)/\l.length=n/\∀x∈l,(Lit.int k x).wf=true
def Sh.rdLU:List Sh->List Fs->Prop
 |[],zs=>zs=[]
 |s::r,zs=>∃a b,zs=a++b/\s.rdU a/\Sh.rdLU r b
end
mutual
theorem Sh.rdU_length:∀(s:Sh) (zs:List Fs),s.rdU zs->zs.length=s.size
 | .bool,_,⟨_,h⟩=>by rw[h];rfl
 | .int _,_,⟨_,h,_⟩=>by rw[h];rfl
 | .str,_,⟨_,h,_⟩=>by rw[h];rfl
 | .sl _,_,⟨_,h,_⟩=>by rw[h];rfl
 | .st fs,zs,h=>Sh.rdLU_length fs zs (by simpa only[Sh.rdU]using h)
 | .ar _ _,_,⟨_,h,h1,_⟩=>by rw[h,o6,h1];rfl
theorem Sh.rdLU_length:∀(s:List Sh) (zs:List Fs),Sh.rdLU s zs->zs.length=Sh.uZ s
 |[],zs,h=>by
  simp only[Sh.rdLU]at h;subst h;rfl
 |s::r,zs,h=>by
  simp only[Sh.rdLU]at h;obtain⟨a,b,rfl,h1,h2⟩:=h;rw[ou,Sh.rdU_length s a h1,Sh.rdLU_length r b h2];rfl
end
theorem Sh.elemU{g:z8}(s:Sh){zs:List Fs}{cs:List Value}(h:s.rdU zs)(hv:sG g zs cs)(h1:∀c∈cs,c.oneCell'=true):
  ∃v,AP g (s.wrap zs) v/\EM s.size v/\v.cells.toList=cs:=by
 have hl:=s.rdU_length zs h;have hlc:=sG.length _ _ hv;cases s with
 |st fs=>
  refine⟨.agg cs.toArray,⟨cs.toArray,rfl,by simpa using hv,by simpa using h1⟩,⟨by show cs.toArray.size=_;simp;omega,by simpa [Value.cells]using h1⟩,by simp [Value.cells]⟩
 |ar n k=>
  refine⟨.agg cs.toArray,⟨cs.toArray,rfl,by simpa using hv,by simpa using h1⟩,⟨by show cs.toArray.size=_;simp;omega,by simpa [Value.cells]using h1⟩,by simp [Value.cells]⟩
 |_=>
  match zs,hl with
  |[a],_=>
   obtain⟨v,rest,rfl,k1,k2⟩:=hv;have k3:rest=[]:=k2;subst k3;have o:=h1 v zw;refine⟨v,k1,⟨by rw[C4 o];rfl,by rw[C4 o];simpa using o⟩,by rw[C4 o]⟩
section
variable {H:Type} {enc:TypeId×Value->H} {P:Program} {W:World} {base:Nat} {spare:Nat->Bool} {held:Bool}
open Go.ChangeShapes Go.WideShapes Go.ChangeAt Go.RowKit Go.WideElems Go.WideMaps Go.Joins
mutual
theorem Sh.readsU(s:Sh)(t:TypeId)(cs:List Value)(n:Nat)(x:DataW H×List MemPlace)(hf:s.fits P t=true)
  (h:DataW.trod enc P W base spare held n t cs=some x) (hw:Rows.uptoBulk x.1<=1048576):∃zs,s.rdU zs/\sG (gW W) zs cs/\∀c∈cs,c.oneCell'=true:=by
 match s,hf with
 | .bool,hf=>
  simp only[Sh.fits]at hf;split at hf
  ·rename_i ht;obtain⟨b,rfl,_⟩:=DataW.trod_bool ht h;exact⟨[.bool b],⟨b,rfl⟩,⟨_,_,rfl,rfl,rfl⟩,by simp [Value.oneCell']⟩
  ·cases hf
 | .int k,hf=>
  simp only[Sh.fits]at hf;split at hf
  ·rename_i k' ht;simp only[oC]at hf;subst hf;obtain⟨m,rfl,_,hw⟩:=DataW.trod_int ht h;exact⟨[.int k' m],⟨m,rfl,hw⟩,⟨_,_,rfl,rfl,rfl⟩,by simp [Value.oneCell']⟩
  ·cases hf
 | .str,hf=>
  simp only[Sh.fits]at hf;split at hf
  ·rename_i ht;obtain⟨b,rfl,rfl,hl⟩:=DataW.trod_string ht h;exact⟨[.str b.data.toList],⟨_,rfl,by simp only[Rows.uptoBulk]at hw;omega⟩,⟨_,_,rfl,by simp [AP],rfl⟩,by simp [Value.oneCell']⟩
  ·cases hf
 | .sl e,hf=>
  simp only[Sh.fits]at hf;split at hf
  ·rename_i u ht;simp only[oo,qF,oC]at hf;obtain⟨⟨⟨hc,hpos⟩,hby⟩,hfe⟩:=hf;rcases Go.Deep.open_slice ht h with⟨rfl,_⟩|⟨a,len,cap,m,n',D,Pl,rfl,_,l9,hcap,hm,hx,hel⟩
   ·exact⟨[.sl (.none e.size) []],⟨[],rfl,zw,zw⟩,⟨_,_,rfl,.inl ⟨rfl,rfl,zt⟩,rfl⟩,by simp [Value.oneCell']⟩
   ·subst hx;simp only[Rows.uptoBulk]at hw;have hlr:len<=1048576:=by
     have h1:=RI ((List.range len).map D);rw[o6,qi]at h1;omega
    have hwe:∀i,i<len->Rows.uptoBulk (D i)<=1048576:=λi hi=>by
     have:=IR (pz.2 ⟨i,px.2 hi,rfl⟩:D i∈(List.range len).map D);omega
    by_cases sf:len=0
    ·subst sf;obtain⟨b,o,sp⟩:=a;exact⟨[.sl (.none e.size) []],⟨[],rfl,zw,zw⟩,⟨_,_,rfl,.inr ⟨zt,b,o,cap,⟨sp,rfl,.inr ⟨rfl,.inr ⟨e.size,rfl⟩⟩⟩,oq _,zt,zt⟩,rfl⟩,by simp [Value.oneCell']⟩
    have uE:a.spot=none:=by
     obtain⟨cs',h1,_⟩:=hel 0 (by rw[hm];split<;>omega);obtain⟨_,_,tK⟩:=World.cells?_some h1;have hc0:=tK 0 (by rw[hc];exact hpos);rw[qR]at hc0;have h2:cs'[0]?≠none:=by
      obtain⟨_,hl',_⟩:=World.cells?_some h1;rw[o8 zo];simp
     obtain⟨y,hy⟩:=Option.ne_none_iff_exists'.1 h2;have:=World.cell?_spot (hc0.trans hy);obtain⟨b,o,sp⟩:=a;exact this
    obtain⟨b,o,sp⟩:=a;have hsp':sp=none:=uE;subst hsp';have hml:len<=m:=by rw[hm];split<;>omega
    have key:∀i,i<len->∃zs,e.rdU zs/\∃v,AP (gW W) (e.wrap zs) v/\EM e.size v/\∀(j:Nat) y,v.cells[j]?=some y->(gW W).σ b (o+i*e.size+j)=some y:=by
     intro i hi;obtain⟨cs',h1,h2⟩:=hel i zo;obtain⟨_,hl',tK⟩:=World.cells?_some h1;have hadd:∀j,((⟨b,o,none⟩:Addr).add (i*P.cellsOf u)).add j=⟨b,o+i*e.size+j,none⟩:=by
      intro j;rw[hc];unfold Addr.add;split<;>split<;>simp_all<;>omega
     have hcs:∀j,j<e.size->W.cell? ⟨b,o+i*e.size+j,none⟩=cs'[j]?:=λj hj=>by
      rw[<-hadd j];exact tK j (by rw[hc];exact hj)
     obtain⟨zs,k1,k2,k3⟩:=Sh.readsU e u cs' n' _ hfe h2 (hwe i hi);obtain⟨v,q1,q2,q3⟩:=e.elemU k1 k2 k3;refine⟨zs,k1,v,q1,q2,λj y hy=>?_⟩;have ug:cs'[j]?=some y:=by rw[<-q3];simpa using hy
     have hj:j<e.size:=by
      have:=(pK.1 ug).1;omega
     show W.cell? ⟨b,o+i*e.size+j,none⟩=some y;rw[hcs j hj,ug]
    have hch:∃F:Nat->List Fs,∀i,i<len->e.rdU (F i)/\∃v,AP (gW W) (e.wrap (F i)) v/\EM e.size v/\∀(j:Nat) y,v.cells[j]?=some y->(gW W).σ b (o+i*e.size+j)=some y:=by
     refine⟨λi=>if hi:i<len then(key i hi).choose else[],λi hi=>?_⟩;simp only[hi,dif_pos];exact(key i hi).choose_spec
    obtain⟨F,hF⟩:=hch;refine⟨[.sl (.none e.size) (((List.range len).map F).map e.wrap)],⟨(List.range len).map F,rfl,by simpa using hlr,?_⟩,⟨_,_,rfl,.inr ⟨zt,b,o,cap,⟨none,zw,.inl rfl⟩,by simpa using l9,?_,zt⟩,rfl⟩,by simp [Value.oneCell']⟩
    ·simp_all
    ·refine Pv _ _ λi y hy=>?_
     rw[oO,oO]at hy;by_cases hi:i<len
     ·rw[qP hi]at hy;simp only[pr,Option.some.injEq]at hy;subst hy;exact(hF i hi).2
     ·rw[qY (by simp;omega)]at hy;simp at hy
  ·cases hf
 | .st fs,hf=>
  simp only[Sh.fits]at hf;split at hf
  ·rename_i gs ht;simp only[oo,qF]at hf;obtain⟨xs,m,_,hx,hl,l9,hfi⟩:=DataW.trod_struct ht h;subst hx;simp only[Rows.uptoBulk]at hw;obtain⟨zs,k1,k2,k3⟩:=Sh.readsLU fs gs.toList 0 cs m (λf hfm=>by
    obtain⟨i,hi,he⟩:=List.getElem_of_mem hfm;have hfg:gs[i]?=some f:=by rw[<-he];simp at hi;simp [hi]
    have:=hfi i f hfg;have v7:i<xs.length:=by rw[l9];simpa using hi
    rw[o8 v7]at this;exact⟨_,this,by
     have:=IR (pz.2 ⟨_,oK v7,rfl⟩:xs[i].1∈xs.map (·.1));omega⟩) hf.2 (by rw[hl,hf.1];simp)
   exact⟨zs,by simpa only[Sh.rdU]using k1,by simpa using k2,by simpa using k3⟩
  ·cases hf
 | .ar n' k,hf=>
  simp only[Sh.fits]at hf;split at hf
  ·rename_i m e ht;simp only[oo,qF]at hf;obtain⟨⟨⟨rfl,hc⟩,he⟩,hi⟩:=hf;split at hi
   ·rename_i k' hu;simp only[oC]at hi;subst hi;obtain⟨xs,q,_,_,hl,l9,hfi⟩:=DataW.trod_array ht h;obtain⟨l,h1,h2⟩:=Pw (k:=k') cs λi hi=>by
     have v7:i<m:=zo
     have hx:=hfi i v7;rw[he,qI,o8 zo]at hx;obtain⟨z,hz,_,hw'⟩:=DataW.trod_int hu hx;refine⟨z,?_,hw'⟩;have:=congrArg (λl=>l[0]?) hz;simpa [List.getElem?_take,rp]using this
    subst h1;exact⟨l.map (.int k'),⟨l,rfl,by simpa [hc]using hl,h2⟩,M8 l,by simp [Value.oneCell']⟩
   ·cases hi
  ·cases hf
theorem Sh.readsLU(ss:List Sh)(fs:List Field)(o:Nat)(cs:List Value)(n:Nat)(hr:∀f∈fs,∃x,DataW.trod enc P W base spare held n f.type ((cs.drop f.offset).take (P.cellsOf f.type))=some x/\Rows.uptoBulk x.1<=1048576)(hf:Sh.fitsL P ss fs o=true)
  (hl:cs.length=o+Sh.uZ ss):∃zs,Sh.rdLU ss zs/\sG (gW W) zs (cs.drop o)/\∀c∈cs.drop o,c.oneCell'=true:=by
 match ss,fs,hf with
 |[],[],hf=>
  refine⟨[],rfl,?_,?_⟩
  ·rw[qS (by simp [Sh.uZ]at hl;omega)];rfl
  ·rw[qS (by simp [Sh.uZ]at hl;omega)];simp
 |s::r,f::fs,hf=>
  simp only[Sh.fitsL,oo,qF]at hf;obtain⟨⟨⟨h1,h2⟩,h3⟩,h4⟩:=hf;obtain⟨x,hx,hxw⟩:=hr f zw;rw[h2,h3]at hx;have tB:cs.length=o+(s.size+Sh.uZ r):=hl;obtain⟨a,k1,k2,k3⟩:=Sh.readsU s f.type ((cs.drop o).take s.size) n x h1 hx hxw;obtain⟨b,q1,q2,q3⟩:=Sh.readsLU r fs (o+s.size) cs n (λg hg=>hr g (by simp [hg])) h4 zo;have e:cs.drop o=(cs.drop o).take s.size++cs.drop (o+s.size):=by
   rw[<-rf,qX]
  refine⟨a++b,⟨a,b,rfl,k1,q1⟩,by rw[e];exact sG.append _ _ _ _ k2 q2,λc hc=>?_⟩;rw[e]at hc;rcases pI.1 hc with hc|hc
  ·exact k3 c hc
  ·exact q3 c hc
end
theorem Sh.argU(s:Sh){t:TypeId}{v:Value}{b0:Nat}(hf:s.fits P t=true)(hv:Value.okWide P W .any b0 t v){d:DataW H}{ps:List MemPlace}(h:DataW.Trod enc P W base spare held t v d ps)(hw:Rows.uptoBulk d<=1048576):
  ∃zs,s.rdU zs/\AP (gW W) (s.wrap zs) v:=by
 obtain⟨n,hn⟩:=h;obtain⟨zs,h1,h2,h3⟩:=s.readsU t v.cells.toList n _ hf hn hw;refine⟨zs,h1,?_⟩;cases s with
 |st fs=>
  simp only[Sh.fits]at hf;split at hf
  ·rename_i gs ht;obtain⟨cs,rfl,_⟩:=okWide_struct ht hv;exact⟨cs,rfl,h2,h3⟩
  ·cases hf
 |ar n k=>
  simp only[Sh.fits]at hf;split at hf
  ·rename_i m e ht;simp only[Value.okWide,ht]at hv;obtain⟨cs,rfl,_⟩:=hv;exact⟨cs,rfl,h2,h3⟩
  ·cases hf
 |_=>
  have hl:=Sh.rdU_length _ _ h1
  match zs,hl with
  |[a],_=>
   obtain⟨u,rest,hu,k1,k2⟩:=h2;have k3:rest=[]:=k2;subst k3;have o:=h3 u (by rw[hu];simp);have huv:v=u:=by
    simp only[Sh.fits]at hf;split at hf
    ·rename_i ht;first
      |(obtain⟨b,rfl⟩:=okWide_bool ht hv;simpa [Value.cells]using hu)
      |(obtain⟨b,rfl⟩:=okWide_int ht hv;simpa [Value.cells]using hu)
      |(obtain⟨b,rfl⟩:=okWide_string ht hv;simpa [Value.cells]using hu)
      |(obtain⟨b,l,c,rfl⟩:=okWide_slice ht hv;simpa [Value.cells]using hu)
    ·cases hf
   subst huv;exact k1
def Sh.rdAU:List Sh->List Fs->Prop
 |[],zs=>zs=[]
 |s::r,zs=>∃x b,zs=s.wrap x::b/\s.rdU x/\Sh.rdAU r b
open Go.ChangeShapes in
theorem Sh.argsU{b0:Nat}:∀(ss:List Sh) (ts:List TypeId) (vs:List Value) (ds:List (DataW H)) (ps:List MemPlace),Sh.fitsA P ss ts=true->
  (∀(j:Nat) t v,ts[j]?=some t->vs[j]?=some v->Value.okWide P W .any b0 t v)->DataW.TrodAll enc P W base spare held ts vs ds ps->(∀d∈ds,Rows.uptoBulk d<=1048576)->∃zs,Sh.rdAU ss zs/\sG (gW W) zs vs
 |[],[],vs,ds,ps,_,_,h,_=>by
  obtain⟨rfl,rfl,rfl⟩:=trodAll_nil h;exact⟨[],rfl,rfl⟩
 |s::r,t::ts,vs,ds,ps,hf,hv,h,hw=>by
  obtain⟨v,vs1,d,ds1,a,c,rfl,rfl,rfl,h1,h2⟩:=trodAll_cons h;simp only[Sh.fitsA,oo]at hf;have hv0:=hv 0 t v rfl rfl;obtain⟨x,k1,k2⟩:=s.argU hf.1 hv0 h1 (hw d (po ..));obtain⟨b,q1,q2⟩:=Sh.argsU r ts vs1 ds1 _ hf.2 (λj t' v' e1 e2=>hv (j+1) t' v' e1 e2) h2 (λd' e=>hw d' (pE _ e));exact⟨_,⟨x,b,rfl,k1,q1⟩,_,_,rfl,k2,q2⟩
 |[],_::_,_,_,_,hf,_,_,_=>by cases hf
 |_::_,[],_,_,_,hf,_,_,_=>by cases hf
open Go.ChangeShapes in
theorem S0{f:FuncId}{fn:Func}{s:ChangeSpec}{apart fresh handsOn again:Bool}{args:Array Value}{ds gs:List (DataW H)}{before:List MemPlace}{b0:Nat}{tb:TypeId}(ss:List Sh)
  (hval:∀(j:Nat) t v,fn.params[j]?=some t->args[j]?=some v->Value.okWide P W .any b0 t v)
  (hW:DataW.Whole enc P fn.params.toList s.vars apart W args.toList ds gs before)
  (hwt:Rows.uptoBulkAll (ds++gs)<=1048576)
  (hvars:s.vars=[]) (uA:∀ds:List (DataW H),ds.length=ss.length->s.fn H ds={results:=[.lit (.bool true)],args:=ds,vars:=[]})
  (tO:Sh.fitsA P ss fn.params.toList=true)
  (uq:fn.resultTypes= #[tb]) (htb:P.underlying tb=some .bool)
  (hk:laidOutB P=true) (hm:mapsRowed P=true) (hfull:((List.range P.types.size).all λt=>match P.underlying t with|some (.slice e)=>decide (0<P.cellsOf e)|_=>true)=true)
  (hts:(fn.params.toList.all λt=>decide (t<P.types.size))=true)
  (hg:EN (gW W)) (hgz:F7 W) (hpur:∀zs,Sh.rdAU ss zs->sG (gW W) zs args.toList->A6 P f zs (.bool true)):
  Calls P f args W λe W'=>∃v,e= .returned v/\s.post enc P fn apart fresh handsOn again W args v W':=by
 have hW':=hW;obtain⟨p,q,hA,hV,rfl,hfz,sg⟩:=hW;rw[hvars]at hV;obtain⟨rfl,rfl⟩:=trodVars_none hV;simp only[oR]at hW';have l9:=Hu hA;have hwd:∀d∈ds,Rows.uptoBulk d<=1048576:=λd hd=>by
  have:=IR hd;have:=RJ ds ([]:List (DataW H));omega
 have hss:ss.length=fn.params.toList.length:=by
  clear hpur uA hval hW' l9 hA hts hwd hwt;generalize fn.params.toList=ts at tO;induction ss generalizing ts with
  |nil=>cases ts<;>first|rfl|cases tO
  |cons s r ih=>
   cases ts with
   |nil=>cases tO
   |cons t ts=>simp only[Sh.fitsA,oo]at tO;simp [ih ts tO.2]
 have uE:=uA ds (by rw[l9.2,hss]);have hspn:s.fn H (ds++[])={results:=[.lit (.bool true)],args:=ds,vars:=[]}:=by rw[oR];exact uE
 obtain⟨zs,h1,h2⟩:=Sh.argsU ss _ _ _ _ tO (λj t v e1 e2=>hval j t v (by simpa using e1) (by simpa using e2)) hA hwd;have e9:=hW'.lt;refine((hpur zs h1 h2).calls hg hgz h2).mono ?_;rintro e W' ⟨rfl,hgr⟩;have t9:Value.okWide P W' .any 0 tb (.bool true):=by simp [Value.okWide,htb,Cell.okWide,Cell.ok]
 refine⟨_,rfl,M7 (pa:=p) (pv:=[]) hgr hW' (λb sp hd=>?_) (λsp hsp'=>?_) (λ_ _=>?_) zw ?_⟩
 ·rw[hspn,uq];exact trodAll_mk1 ⟨1,by simp [DataW.trod,Value.cells,htb]⟩
 ·rw[hspn];refine Ht hgr (DataW.TrodAll.respare (T:=(· <P.types.size)) (kids_rows hk hm) (slices_full_of P hfull) (λt ht=>by simpa using oM.1 hts t ht) hA hsp') λy hy=>e9 y hy
 ·rw[hspn,hvars];exact rfl
 ·rw[uq];intro j t r e1 e2
  match j,e1,e2 with
  |0,e1,e2=>simp_all [Value.resultList]
  |j+1,e1,e2=>simp at e1
end
end Go.AM
namespace Go.AM
open Go.ChangeAt Go.ChangeShapes Go.Lib Go.Proofs Go.RowKit Go.WideElems Go.WideMaps Go.WideShapes
abbrev shGr:Sh:=.st [.int .i64,.int .i64,.int .i64,WE,WE]
abbrev WF:Sh:=.st [gC,shGr,.sl WE,.sl (.sl WE)]
abbrev cap(n:Nat):Prop:=n<=1048576
def Hj{α:Type}{l:List α}(h:cap l.length):wide l:=by show l.length<_;omega
def Jf{e:Sh}{α:Type}{enc:α->Fs}{Q:α->Prop}(he:∀vs,e.rdU vs->∃a,Q a/\e.wrap vs=enc a){av:List Fs}(h:(Sh.sl e).rdU av):∃l:List α,cap l.length/\(∀x∈l,Q x)/\av=[.sl (.none e.size) (l.map enc)]:=by
 simp only[Sh.rdU]at h;obtain⟨l,rfl,uz,h⟩:=h
 suffices ∃m:List α,m.length=l.length/\(∀x∈m,Q x)/\l.map e.wrap=m.map enc by
  obtain⟨m,hm,hq,hm2⟩:=this;exact⟨m,by rw[hm];exact uz,hq,by rw[hm2]⟩
 clear uz;induction l with
 |nil=>exact⟨[],rfl,(λx hx=>by cases hx),rfl⟩
 |cons x l ih=>
  obtain⟨m,h1,h2,h3⟩:=ih λy hy=>h y (by simp [hy])
  obtain⟨a,hq,ha⟩:=he x (h x zw);exact⟨a::m,by simp [h1],λy hy=>by
   rcases ph.1 hy with rfl|hy
   ·exact hq
   ·exact h2 y hy,by rw[oL,oL,h3,ha]⟩
def Lb{n:Int}(h:(Lit.int .i64 n).wf=true):DR n:=by
 simp [Lit.wf,IntKind.min,IntKind.max,IntKind.signed,IntKind.bits]at h;exact⟨zo,zo⟩
def uI(vs:List Fs)(h:(Sh.int .i64).rdU vs):∃n:Int,DR n/\(Sh.int .i64).wrap vs=eI n:=by
 obtain⟨n,rfl,hw⟩:=h;exact⟨n,Lb hw,rfl⟩
def uS(vs:List Fs)(h:Sh.str.rdU vs):∃s:Bs,tx s/\Sh.str.wrap vs= .str s:=by
 obtain⟨s,rfl,hs⟩:=h;exact⟨s,hs,rfl⟩
def uIs(vs:List Fs)(h:(Sh.sl (.int .i64)).rdU vs):∃l:List Int,(cap l.length/\∀x∈l,DR x)/\(Sh.sl (.int .i64)).wrap vs=BY l:=by
 obtain⟨l,h1,h2,rfl⟩:=Jf uI h;exact⟨l,⟨h1,h2⟩,rfl⟩
def uLl(vs:List Fs)(h:(Sh.sl (.sl (.int .i64))).rdU vs):∃l:List (List Int),(wide l/\∀m∈l,wide m)/\(Sh.sl (.sl (.int .i64))).wrap vs=Bm l:=by
 obtain⟨l,h1,h2,rfl⟩:=Jf uIs h;exact⟨l,⟨Hj h1,λm hm=>Hj (h2 m hm).1⟩,rfl⟩
def uSy(vs:List Fs)(h:Sy.rdU vs):∃s:xz,(tx s.nm/\DR s.v)/\Sy.wrap vs=Cb s:=by
 simp only[Sh.rdU.eq_5,Sh.rdLU]at h;obtain⟨_,_,rfl,⟨nm,rfl,h1⟩,_,_,rfl,⟨v,rfl,h2⟩,rfl⟩:=h;exact⟨⟨nm,v⟩,⟨h1,Lb h2⟩,rfl⟩
def uRg(vs:List Fs)(h:Yn.rdU vs):∃r:x9,(tx r.nm/\∀l∈r.ls,∀x∈l,DR x)/\Yn.wrap vs=Fb r:=by
 simp only[Sh.rdU.eq_5,Sh.rdLU]at h;obtain⟨_,_,rfl,⟨nm,rfl,h1⟩,_,_,rfl,h2,rfl⟩:=h;obtain⟨ls,-,l2,rfl⟩:=Jf uIs h2;exact⟨⟨nm,ls⟩,⟨h1,λl hl=>(l2 l hl).2⟩,rfl⟩
def uCl(vs:List Fs)(h:Yo.rdU vs):∃c:x7,(tx c.nm/\tx c.on/\DR c.ty/\DR c.lo/\DR c.hi)/\Yo.wrap vs=BO c:=by
 simp only[Sh.rdU.eq_5,Sh.rdLU]at h;obtain⟨_,_,rfl,⟨nm,rfl,h1⟩,_,_,rfl,⟨on,rfl,h2⟩,_,_,rfl,⟨a,rfl,h3⟩,_,_,rfl,⟨b,rfl,h4⟩,_,_,rfl,⟨c,rfl,h5⟩,_,_,rfl,⟨d,rfl,h6⟩,rfl⟩:=h;exact⟨⟨nm,on,a,b,c,d⟩,⟨h1,h2,Lb h4,Lb h5,Lb h6⟩,rfl⟩
def uRu(vs:List Fs)(h:Sz.rdU vs):∃r:zj,(tx r.nm/\tx r.on/\DR r.kind/\(∀x∈r.ns,tx x)/\(∀x∈r.os,tx x)/\DR r.op/\DR r.n/\tx r.tY)/\Sz.wrap vs=Ao r:=by
 simp only[Sh.rdU.eq_5,Sh.rdLU]at h;obtain⟨_,_,rfl,⟨nm,rfl,h1⟩,_,_,rfl,⟨on,rfl,h2⟩,_,_,rfl,⟨k,rfl,hk⟩,_,_,rfl,⟨f,rfl,_⟩,_,_,rfl,h3,_,_,rfl,h4,_,_,rfl,⟨set,rfl,_⟩,_,_,rfl,⟨sU,rfl,_⟩,_,_,rfl,⟨op,rfl,ho⟩,_,_,rfl,⟨n,rfl,hn⟩,_,_,rfl,⟨b,rfl,h5⟩,_,_,rfl,⟨c,rfl,_⟩,rfl⟩:=h;obtain⟨ns,n1,n2,rfl⟩:=Jf uS h3;obtain⟨os,o1,o2,rfl⟩:=Jf uS h4;exact⟨⟨nm,on,k,f,ns,os,set,sU,op,n,b,c⟩,⟨h1,h2,Lb hk,n2,o2,Lb ho,Lb hn,h5⟩,rfl⟩
def uD(vs:List Fs)(h:gC.rdU vs):∃d:x8,BdD d/\vs=AL d:=by
 simp only[Sh.rdU.eq_5,Sh.rdLU]at h;obtain⟨_,_,rfl,⟨nm,rfl,h1⟩,_,_,rfl,⟨v,rfl,i1⟩,_,_,rfl,⟨sh,rfl,i2⟩,_,_,rfl,⟨w,rfl,i3⟩,_,_,rfl,⟨hh,rfl,i4⟩,_,_,rfl,h2,_,_,rfl,h3,_,_,rfl,h4,_,_,rfl,h5,_,_,rfl,h6,rfl⟩:=h;obtain⟨ho,-,a2,rfl⟩:=Jf uI h2;obtain⟨sy,-,a3,rfl⟩:=Jf uSy h3;obtain⟨rg,-,a4,rfl⟩:=Jf uRg h4;obtain⟨cl,-,a5,rfl⟩:=Jf uCl h5;obtain⟨ru,-,a6,rfl⟩:=Jf uRu h6;exact⟨⟨nm,v,sh,w,hh,ho,sy,rg,cl,ru⟩,⟨h1,Lb i1,Lb i2,Lb i3,Lb i4,a2,a3,a4,a5,a6⟩,rfl⟩
def uGr(vs:List Fs)(h:shGr.rdU vs):∃g:xk,vs=AK g.sh g.w g.h g.sB g.cells:=by
 simp only[Sh.rdU.eq_5,Sh.rdLU]at h;obtain⟨_,_,rfl,⟨sh,rfl,_⟩,_,_,rfl,⟨w,rfl,_⟩,_,_,rfl,⟨hh,rfl,_⟩,_,_,rfl,h2,_,_,rfl,h3,rfl⟩:=h;obtain⟨ho,-,-,rfl⟩:=Jf uI h2;obtain⟨ce,-,-,rfl⟩:=Jf uI h3;exact⟨⟨sh,w,hh,ho,ce⟩,rfl⟩
def uKn(vs:List Fs)(h:WF.rdU vs):∃k:uV,(WdS k/\sR k.ls/\BdD k.d)/\WF.wrap vs=BM k:=by
 rw[Sh.rdU.eq_5]at h;simp only[Sh.rdLU]at h;obtain⟨_,_,rfl,h1,_,_,rfl,h2,_,_,rfl,h3,_,_,rfl,h4,rfl⟩:=h;obtain⟨d,hd,rfl⟩:=uD _ h1;obtain⟨g,rfl⟩:=uGr _ h2;obtain⟨nb,n1,w3,rfl⟩:=Jf uIs h3;obtain⟨ls,n2,w4,rfl⟩:=Jf uLl h4;exact⟨⟨d,g,nb,ls⟩,⟨⟨⟨Hj n1,λl hl=>Hj (w3 l hl).1⟩,Hj n2,w4⟩,show ls.length<_ by omega,hd⟩,rfl⟩
def argKK{av:List Fs}(h:Sh.rdAU [WF,WF] av):∃a b:uV,(WdS a/\sR a.ls/\BdD a.d)/\(WdS b/\sR b.ls)/\av=[BM a,BM b]:=by
 simp only[Sh.rdAU]at h;obtain⟨_,_,rfl,h1,_,_,rfl,h2,rfl⟩:=h;obtain⟨a,ha,e1⟩:=uKn _ h1;obtain⟨b,hb,e2⟩:=uKn _ h2;exact⟨a,b,ha,⟨hb.1,hb.2.1⟩,by rw[e1,e2]⟩
end Go.AM
