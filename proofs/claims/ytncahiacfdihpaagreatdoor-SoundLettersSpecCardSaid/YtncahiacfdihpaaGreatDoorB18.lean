/-
  Parts of the proof. Conditions: none.
-/
import Derived.Test.YtncahiacfdihpaaGreatDoorB17
set_option maxRecDepth 20000
set_option linter.all false
set_option maxHeartbeats 1000000
namespace Go.AM
open Go.Lib Go.Proofs Go.Proofs.Tryz
def p15(a b:List (List Int))(ha:few a)(hl:∀l∈a,few l):Pur prog 15 [eLl a,eLl b] (.bool (decide (a=b))):=by
 refine .mk ⟨⟨trivial,Au (λl=>AR 0 l) _⟩,⟨trivial,Au (λl=>AR 0 l) _⟩,trivial⟩ trivial (c15.a (AF AI.tnil (AG ?_)));have l6:a.length<1000000000:=ha;by_cases hlen:a.length=b.length;case neg=>
  have hq:((a.length:Int)=(b.length:Int))=False:=W4 zo;rw[Wp (λe=>hlen (by rw[e]))];simp only[eZ,seval,W6,W0,c15,hq]
 have hq:((a.length:Int)=(b.length:Int))=True:=W1 zo;simp only[eZ,seval,W3,W0,c15,hq];refine AL (λi:Nat=>⟨[(0,true,eLl a),(1,true,eLl b),(13,true,.int .i64 a.length),(14,true,.int .i64 i)],hnil,0⟩) (λi=>i<=a.length/\a.take i=b.take i) (λi=>a.length-i) 0 rfl ⟨We _,rfl⟩ ?_;rintro i ⟨hi,c7⟩;by_cases c5:i<a.length;case neg=>
  obtain rfl:i=a.length:=zo
  rw[Wj,hlen,Wj]at c7;rw[Wv c7];simp only[eZ,seval,lt_F c5]
 have hltb:i<b.length:=zo
 have hg:=W2 c5;have hgb:=W2 hltb;have e:=AE (k:=i) zo;have ta:a.take (i+1)=a.take i++[a[i]]:=by rw[Wl,hg];rfl
 have tb:b.take (i+1)=b.take i++[b[i]]:=by rw[Wl,hgb];rfl
 have hxl:a[i].length<1000000000:=hl _ (Wn c5);have d8:a[i]≠b[i]->decide (a=b)=false:=λq=>Wp λr=>q (by simp only[r])
 generalize a[i]=x at hg ta hxl d8;generalize b[i]=y at hgb tb d8;by_cases hxy:x.length=y.length;case neg=>
  have hq2:((x.length:Int)=(y.length:Int))=False:=W4 zo;rw[d8 λe=>hxy (by rw[e])];simp only[eZ,seval,W6,eY,lt_T c5,lt_T hltb,hg,hgb,hq2]
 have hq2:((x.length:Int)=(y.length:Int))=True:=W1 zo;simp only[eZ,seval,W3,eY,lt_T c5,lt_T hltb,hg,hgb,hq2];refine AL (λj:Nat=>⟨[(0,true,eLl a),(1,true,eLl b),(5,true,.int .i64 i),(13,true,.int .i64 a.length),(14,true,.int .i64 i),(32,true,.int .i64 x.length),(33,true,.int .i64 j)],hnil,0⟩) (λj=>j<=x.length/\x.take j=y.take j) (λj=>x.length-j) 0 rfl ⟨We _,rfl⟩ ?_;rintro j ⟨hj,hxk⟩;by_cases hjt:j<x.length;case neg=>
  obtain rfl:j=x.length:=zo
  rw[Wj,hxy,Wj]at hxk;subst hxk;simp only[eZ,seval,lt_F hjt,e];exact .mk (i+1) rfl ⟨c5,by rw[ta,tb,c7]⟩ zo
 have hjb:j<y.length:=zo
 have gj:=W2 hjt;have gb:=W2 hjb;have e':=AE (k:=j) zo;have xa:x.take (j+1)=x.take j++[x[j]]:=by rw[Wl,gj];rfl
 have xb:y.take (j+1)=y.take j++[y[j]]:=by rw[Wl,gb];rfl
 by_cases hs:x[j]=y[j]
 ·simp only[eZ,seval,W3,eY,lt_T c5,lt_T hltb,hg,hgb,lt_T hjt,lt_T hjb,gj,gb,hs,e'];exact .mk (j+1) rfl ⟨hjt,by rw[xa,xb,hxk,hs]⟩ zo
 ·rw[d8 λe=>hs (by simp only[e])];simp only[eZ,seval,W6,eY,lt_T c5,lt_T hltb,hg,hgb,lt_T hjt,lt_T hjb,gj,gb,hs]
def Tsl:Tab:=tadd 9 (s0v (.bool true)) (tadd 10 (s1 dKn WdS λk=>.bool (J7 k)) (tadd 11 (s2 dKn dI (λk _=>Zh k.d) B2) (tadd 12 (s2 dKn dI (λk _=>RfK k) B2) (tadd 13 (s4 dKn dQ dIs dIs (λk q l c=>Zh k.d/\(few q.cs/\few q.ls)/\few l/\few c) ED) (tadd 14 (s4 dKn dQ dIs dIs (λk q l c=>RfK k/\(few q.cs/\few q.ls)/\few l/\few c) ED) (tadd 15 (s2 dLl dLl (λa _=>few a/\∀l∈a,few l) λa b=>.bool (decide (a=b))) tnil))))))
def Tsl_ok:AI prog Tsl:=(((((((AI.tnil.add (q2 λa b h=>p15 a b h.1 h.2)).add (q4 λk q l c h=>p14 k q l c h.1 h.2.1 h.2.2.1 h.2.2.2)).add (q4 λk q l c h=>p13 k q l c h.1 h.2.1 h.2.2.1 h.2.2.2)).add (q2 λk n h=>p12 k n h)).add (q2 λk n h=>p11 k n h)).add (q1 λk h=>p10 k h)).add (q0v p9))
section
variable (a:List Fs) (H:AC)
theorem KA:Tsl 9 a H=s0v (.bool true) a H:=rfl
theorem KB:Tsl 10 a H=s1 dKn WdS (λk=>.bool (J7 k)) a H:=rfl
theorem Tsl_l:Tsl 11 a H=s2 dKn dI (λk _=>Zh k.d) B2 a H:=rfl
theorem Tsl_m:Tsl 12 a H=s2 dKn dI (λk _=>RfK k) B2 a H:=rfl
theorem Tsl_c:Tsl 13 a H=s4 dKn dQ dIs dIs (λk q l c=>Zh k.d/\(few q.cs/\few q.ls)/\few l/\few c) ED a H:=rfl
theorem Tsl_d:Tsl 14 a H=s4 dKn dQ dIs dIs (λk q l c=>RfK k/\(few q.cs/\few q.ls)/\few l/\few c) ED a H:=rfl
theorem Tsl_s:Tsl 15 a H=s2 dLl dLl (λa _=>few a/\∀l∈a,few l) (λa b=>.bool (decide (a=b))) a H:=rfl
end
def Vb:dLl.ok (.sl .nil [])=True:=W1 ⟨.inr rfl,rfl⟩
def p3(k:Zm)(n:Int)(q:Cnd)(letters cells:List Int)(hw:WdS k):Pur prog 3 [Bh k,.int .i64 n,encQ q,eIs letters,eIs cells] (.bool true):=by
 have u1:dKn.ok (.agg (AJ k))=True:=DE k
 have u2:dKn.dec (.agg (AJ k))=k:=CC k
 simp only[AJ,AD,AH,X3,X1]at u1 u2
 have v1:dQ.ok (.agg [.int .i64 q.k,eIs q.cs,eIs q.ls,.int .i64 q.n])=True:=Rn q
 have v2:dQ.dec (.agg [.int .i64 q.k,eIs q.cs,eIs q.ls,.int .i64 q.n])=q:=LE q
 refine .mk ⟨Ah 0 k,trivial,CI 0 q,AR 0 _,AR 0 _,trivial⟩ trivial (c3.a (AF Tsl_ok (AG ?_)))
 cases hf:J7 k with
 |false=>simp only[eZ,seval,W3,W6,W0,c3,KA,KB,s0v,s1,AJ,AD,AH,u1,u2,W1 hw,hf,W6,W3]
 |true=>
 by_cases g1:(4:Int)<(k.d.syms.length:Int)
 ·simp only[eZ,seval,W3,W0,c3,KA,KB,s0v,s1,AJ,AD,AH,u1,u2,W1 hw,hf,W3,W1 g1]
 by_cases g2:(10:Int)<(q.cs.length:Int)
 ·simp only[eZ,seval,W3,W0,c3,KA,KB,s0v,s1,AJ,AD,AH,u1,u2,W1 hw,hf,W3,W4 g1,W1 g2]
 by_cases g3:(10:Int)<(q.ls.length:Int)
 ·simp only[eZ,seval,W3,W0,c3,KA,KB,s0v,s1,AJ,AD,AH,u1,u2,W1 hw,hf,W3,W4 g1,W4 g2,W1 g3]
 by_cases g4:(10:Int)<(letters.length:Int)
 ·simp only[eZ,seval,W3,W0,c3,KA,KB,s0v,s1,AJ,AD,AH,u1,u2,W1 hw,hf,W3,W4 g1,W4 g2,W4 g3,W1 g4]
 by_cases g5:(10:Int)<(cells.length:Int)
 ·simp only[eZ,seval,W3,W0,c3,KA,KB,s0v,s1,AJ,AD,AH,u1,u2,W1 hw,hf,W3,W4 g1,W4 g2,W4 g3,W4 g4,W1 g5]
 have hR:=wds_rf hf hw
 have hD:=hR.kn.d
 have hq:few q.cs/\few q.ls:=⟨show q.cs.length<_ by omega,show q.ls.length<_ by omega⟩
 have hl:few letters:=by show letters.length<_;omega
 have hc:few cells:=by show cells.length<_;omega
 obtain⟨a,e,m5⟩:∃a e,ED k q letters cells= .tup [.bool a,.int .i64 e]:=by
  unfold ED
  repeat' split
  all_goals exact⟨_,_,rfl⟩
 have hL:(∃e,B2 k n= .tup [.sl .nil [],.int .i64 e])\/∃A:List (List Int),B2 k n= .tup [eLl A,.int .i64 0]/\few A/\∀l∈A,few l:=by
  unfold B2
  split
  ·exact .inl ⟨_,rfl⟩
  ·rename_i hk
   split
   ·exact .inl ⟨_,rfl⟩
   ·rename_i hn
    refine .inr ⟨_,rfl,?_,λl hm=>?_⟩
    ·have hsy:=B1 (Decidable.not_not.1 hk)
     have:(chs k.d.syms.length n.toNat).length<=4096:=Xb (Pi _ _) (Xb (Nat.pow_le_pow_left hsy.2 _) (Xb (Nat.pow_le_pow_right zd (show n.toNat<=3 by omega)) zd))
     show(chs k.d.syms.length n.toNat).length<_
     omega
    ·show l.length<_
     have:=(Jk hm).1
     omega
 rcases hL with⟨e',hL⟩|⟨A,hL,hA,hAl⟩
 ·have z:(few ([]:List (List Int))/\∀l∈([]:List (List Int)),few l)=True:=W1 ⟨zd,λl h=>by cases h⟩
  have d0:dLl.dec (.sl .nil [])=[]:=rfl
  simp only[eZ,seval,W3,eY,c3,KA,KB,Tsl_l,Tsl_m,Tsl_c,Tsl_d,Tsl_s,s0v,s1,s2,s4,AJ,AD,AH,u1,u2,v1,v2,W1 hw,hf,W3,W4 g1,W4 g2,W4 g3,W4 g4,W4 g5,Aw,Ag,W1 hD,W1 hR,hL,Ad,AY,W1 hq,W1 hl,W1 hc,m5,Vb,d0,z,eq_self]
 ·have z:(few A/\∀l∈A,few l)=True:=W1 ⟨hA,hAl⟩
  simp only[eZ,seval,W3,eY,c3,KA,KB,Tsl_l,Tsl_m,Tsl_c,Tsl_d,Tsl_s,s0v,s1,s2,s4,AJ,AD,AH,u1,u2,v1,v2,W1 hw,hf,W3,W4 g1,W4 g2,W4 g3,W4 g4,W4 g5,Aw,Ag,W1 hD,W1 hR,hL,Ad,AY,W1 hq,W1 hl,W1 hc,m5,CH,Bd,z,eq_self]
end Go.AM
