/-
  Parts of the proof. Conditions: none.
-/
import Derived.Test.YtncahiacfdihpaaGreatDoorB17
set_option maxRecDepth 20000
set_option linter.all false
set_option maxHeartbeats 1000000
namespace Go.AM
open Go.Lib Go.Proofs Go.Proofs.Tryz
def Tsp:Tab:=tadd 9 (s0v (.bool true)) (tadd 16 (s2 dKn dX (λk _=>WdS k) λk x=>.bool (Oc k x)) (tadd 17 (s1 dPw (λp=>wide p) λp=>.bool (L4 p)) (tadd 18 (s3 dKn dX dPw (λk x p=>qv k.d/\jk x/\Oh p) Cl) (tadd 19 (s3 dKn dX dPw (λk x p=>RfK k/\jk x/\Oh p) Cl) (tadd 20 (s2 dKn dX (λk x=>qv k.d/\jk x) Dl) (tadd 21 (s2 dKn dX (λk x=>RfK k/\jk x) Dl) tnil))))))
def Tsp_ok:AJ prog Tsp:=(((((((AJ.tnil.add (q2 λk x h=>p21 k x h.1 h.2)).add (q2 λk x h=>p20 k x h.1 h.2)).add (q3 λk x p h=>p19 k x p h.1 h.2.1 h.2.2)).add (q3 λk x p h=>p18 k x p h.1 h.2.1 h.2.2.1 h.2.2.2)).add (q1 λp h=>p17 p h)).add (q2 λk x h=>p16 k x h)).add (q0v p9))
section
variable (a:List Fs) (H:AC)
end
def p4(k:qw)(x:zj)(p:List (List jj))(hw:WdS k)(hwp:wide p):Pur prog 4 [A9 k,encL x,D5 p] (.bool true):=by
 have u1:dKn.ok (.agg (AH k))=True:=CC k;have u2:dKn.dec (.agg (AH k))=k:=BP k;simp only[AH,AD,AI,Y7,Y5]at u1 u2;have v1:dX.ok (.agg (Ab x))=True:=Ff x;have v2:dX.dec (.agg (Ab x))=x:=DW x;simp only[Ab]at v1 v2;have t1:dPw.ok (.agg [eTr p])=True:=dPw_ok p;have t2:dPw.dec (.agg [eTr p])=p:=WQ p;refine .mk ⟨Aa 0 k,As 0 x,DL 0 p,trivial⟩ trivial (c4.a (AF Tsp_ok (AG ?_)));cases hf:Oc k x with
 |false=>simp only[eZ,seval,X3,X5,c4,Tsp,s0v,s2,AH,AD,AI,u1,u2,v1,v2,X1 hw,hf,X5,X3,tadd]
 |true=>
 cases hp:L4 p with
 |false=>simp only[eZ,seval,X3,X5,c4,Tsp,s0v,s1,s2,AH,AD,AI,u1,u2,v1,v2,t1,t2,X1 hw,X1 hwp,hf,hp,X5,X3,tadd]
 |true=>
 obtain⟨hD,hx⟩:=Qn hf;have hf18:Je k=true:=by
  unfold Oc at hf;simp only[X4]at hf;exact hf.1.1.1.1.1
 have hR:=wds_rf hf18 hw;have hpf:Oh p:=by
  obtain⟨h1,h2⟩:=Qo hp;exact⟨show p.length<_ by omega,λl hl=>show l.length<_ by have:=h2 l hl;omega⟩
 have hc:∃a e,Cl k x p= .tup [.bool a,.int .i64 e]:=by unfold Cl;split<;>exact⟨_,_,rfl⟩
 have ht:∃a e,Dl k x= .tup [.bool a,.int .i64 e]:=by unfold Dl;split<;>exact⟨_,_,rfl⟩
 obtain⟨a,e,hc⟩:=hc;obtain⟨b,f,ht⟩:=ht;simp only[eZ,seval,X3,eY,c4,Tsp,s0v,s1,s2,s3,AH,AD,AI,u1,u2,v1,v2,t1,t2,X1 hw,X1 hwp,hf,hp,X3,X1 hD,X1 hx,X1 hR,X1 hpf,hc,ht,tadd]
end Go.AM
