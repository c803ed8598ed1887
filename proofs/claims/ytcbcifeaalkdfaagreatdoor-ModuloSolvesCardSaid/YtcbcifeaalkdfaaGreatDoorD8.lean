/- What these Lean functions compute: plain arithmetic of congruences, the checks of a graph, the values of its registers. -/
import Derived.Test.YtcbcifeaalkdfaaGreatDoorD5
import Derived.Test.YtcbcifeaalkdfaaGreatDoorD7
import Derived.Test.YtcbcifeaalkdfaaGreatDoorD6
import Derived.Test.YtcbcifeaalkdfaaGreatDoorD2
import Derived.Test.YtcbcifeaalkdfaaGreatDoorD1
set_option linter.unusedVariables false
set_option linter.unusedSimpArgs false
set_option linter.unusedSectionVars false
open Bool renaming false_eq_true→Xb,not_true→Ub,not_false→Sb,true_and→Od,false_and→Cq,and_eq_true→Ab
open Int renaming tmod→zb,lt_tmod_of_pos→iu,tdiv→jb,mul_sub→Zg,dvd_mul_right→Zc,emod_nonneg→Tc,emod_lt_of_pos→uc,dvd_refl→Wh,natCast_mul→ae,mul_neg→ah,mul_assoc→Oc,dvd_sub→ag,dvd_trans→yb,dvd_mul_left→Ai,dvd_add→cg,eq_ofNat_of_zero_le→Ad,natAbs_natCast→ye,dvd_natAbs→Qb,mul_tdiv_cancel_left→xg,mul_nonneg→Xo,emod_emod_of_dvd→Wl,mul_comm→Ov,toNat_natCast→Pa,lt_irrefl→Tb,toNat→ia
open List renaming length→fa,mem_range→jg,length_set→Wa,mem_of_getElem?→Eb,replicate→fb,getD→Qi,range→mb,all_eq_true→ec,mem_cons→me,getElem?_map→xe,getElem?_eq_getElem→Da
open Nat renaming gcd→Ea,gcd_comm→Aq,div_le_self→Mm,mul_le_mul_left→Eu,lt_or_ge→dc,gcd_dvd_left→Zk,gcd_dvd_right→Oj,zero_le→Ac,not_lt_zero→Td,le_trans→Db,mul_le_mul_right→Vc,lt_of_lt_of_le→Sa,le_refl→ya
open Option renaming bind_some→da,bind_eq_some_iff→aa,map_eq_some_iff→ja
open Prod.mk renaming injEq→Qe
open Sum renaming elim_inr→zi
section
set_option maxRecDepth 20000
namespace Go.U
open Go
theorem oP(t:Int):YA t=some (Zb t):=by
 unfold YA qT Zb;by_cases h1:t=1
 ·simp[h1]
 ·by_cases h2:t=2
  ·simp[h2]
  ·by_cases h3:t=3
   ·simp[h3]
   ·simp[h1,h2,h3]
theorem sI{a b:Int}(h1: -2147483648<=a)(h2:a<=2147483647)(h3: -2147483648<=b)(h4:b<=2147483647):Mn (a,b)=some (if b<a then(1,0)else(a,b)):=by
 unfold Mn kK;have k1:¬(4611686018427387904:Int)<=a:=by omega
 have k2:¬b<=(-4611686018427387904:Int):=by omega
 have k3:¬a<=(-4611686018427387904:Int):=by omega
 have k4:¬(4611686018427387904:Int)<=b:=by omega
 simp only;by_cases h:b<a
 ·simp only[h,decide_true,cond_true,if_true]
 ·simp only[h,k1,k2,k3,k4,decide_false,cond_false,if_false]
theorem iZ(t:Int):TE (Zb t,(-2147483648,2147483647))=some (Zb t):=by
 unfold Zb;split
 ·decide +kernel
 ·split
  ·decide +kernel
  ·split<;>decide +kernel
theorem fac{x m:Int}(hm:0<m):zb (zb x m+m) m=x%m:=by
 have h1:=Int.tmod_add_mul_tdiv x m;have h2:=iu x hm;rw[Kq (by omega)];refine Fm ?_;rw[show zb x m+m-x=m * (1-jb x m)by rw[Zg,Int.mul_one];omega];exact Zc _ _
theorem K3{c:ga}(h:CR c)(t:Int):∃i,KD (c,Zb t)=some (uh c t,i):=by
 unfold KD rT;simp only;obtain⟨i1,i2,i3,i4⟩:=FI t;rw[oP];simp only[da];rw[show Zb 3=(-2147483648,2147483647)from rfl,iZ];simp only[da];unfold uh;cases hb:c.1
 ·obtain⟨a0,a1,a2,a3,a4,a5⟩:=h.bounds hb;simp only[cond_false,Xb,if_false];by_cases he:(Zb t).2<(Zb t).1
  ·simp only[he,decide_true,cond_true,if_true];exact⟨_,rfl⟩
  ·simp only[he,decide_false,cond_false,if_false];have snd:∀x:Int,Xz (Zb t,x)=some (decide ((Zb t).1<=x)&&decide (x<=(Zb t).2)):=λx=>by
    unfold Xz lK uv sJ;simp only;rw[sI i1 (by omega) (by omega) i4,if_neg he];simp only[da];have k0:(Zb t).1<=(Zb t).2:=by omega
    have k1:¬(Zb t).1= -4611686018427387904:=by omega
    have k2:¬(Zb t).2=4611686018427387904:=by omega
    simp only[k0,k1,k2,decide_true,decide_false,cond_true,cond_false];cases decide ((Zb t).1<=x)<;>rfl
   by_cases h0:c.2.1=0
   ·simp only[h0,decide_true,cond_true,if_true];rw[snd];simp only[da];by_cases Zt:(Zb t).1<=c.2.2/\c.2.2<=(Zb t).2
    ·have d1:=Zt.1;have d2:=Zt.2;simp only[d1,d2,decide_true,Bool.and_self,cond_true,and_self,if_true];rw[sI (by omega) (by omega) (by omega) (by omega)];exact⟨_,rfl⟩
    ·rw[if_neg Zt];have:(decide ((Zb t).1<=c.2.2)&&decide (c.2.2<=(Zb t).2))=false:=by
      rw[Bool.and_eq_false_iff];by_cases d1:(Zb t).1<=c.2.2
      ·right;exact decide_eq_false λd2=>Zt ⟨d1,d2⟩
      ·left;exact decide_eq_false d1
     rw[this];exact⟨_,rfl⟩
   ·simp only[h0,decide_false,cond_false,if_false];have hm:0<c.2.1:=by omega
    have b1:=iu (c.2.2-(Zb t).1) hm;have b2:=Int.tmod_lt_of_pos (c.2.2-(Zb t).1) hm;have b3:=iu ((Zb t).2-c.2.2) hm;have b4:=Int.tmod_lt_of_pos ((Zb t).2-c.2.2) hm;rw[Ya (n:=c.2.2-(Zb t).1) (by omega) (by omega),Ya (n:=(Zb t).2-c.2.2) (by omega) (by omega),Ya (n:=zb (c.2.2-(Zb t).1) c.2.1+c.2.1) (by omega) (by omega),Ya (n:=zb ((Zb t).2-c.2.2) c.2.1+c.2.1) (by omega) (by omega),fac hm,fac hm];have p1:=Tc (c.2.2-(Zb t).1) h0;have p2:=uc (c.2.2-(Zb t).1) hm;have p3:=Tc ((Zb t).2-c.2.2) h0;have p4:=uc ((Zb t).2-c.2.2) hm;generalize(c.2.2-(Zb t).1)%c.2.1=u at p1 p2 ⊢;generalize((Zb t).2-c.2.2)%c.2.1=v at p3 p4 ⊢;rw[Ya (n:=(Zb t).1+u) (by omega) (by omega),Ya (n:=(Zb t).2-v) (by omega) (by omega)];by_cases q1:(Zb t).2-v<(Zb t).1+u
    ·simp only[q1,decide_true,cond_true,if_true];exact⟨_,rfl⟩
    ·simp only[q1,decide_false,cond_false,if_false];by_cases q2:(Zb t).1+u=(Zb t).2-v
     ·simp only[q2,decide_true,cond_true,if_true];rw[sI (by omega) (by omega) (by omega) (by omega)];simp only[da];have hnf:nf 0 ((Zb t).2-v)=(false,(0,(Zb t).2-v)):=by
       unfold nf;rw[if_pos rfl,if_pos (show -2147483648<=(Zb t).2-v/\(Zb t).2-v<=2147483647 from⟨by omega,by omega⟩)]
      rw[hnf];exact⟨_,rfl⟩
     ·simp only[q2,decide_false,cond_false,if_false];rw[sI (by omega) (by omega) (by omega) (by omega)];exact⟨_,rfl⟩
 ·simp only[cond_true,if_true];exact⟨_,rfl⟩
theorem raa(op x y:Int):Hz (op,x,y)=some (Vu op x y):=by
 unfold Hz pJ Vu;simp only;cases decide (op=14)
 ·cases decide (op=15)
  ·cases decide (op=16)
   ·cases decide (op=17)
    ·cases decide (op=18)<;>rfl
    ·rfl
   ·rfl
  ·rfl
 ·rfl
theorem rab{op:Int}(h0:14<=op)(h1:op<=19):PE op=some (gl op):=by
 have:op=14\/op=15\/op=16\/op=17\/op=18\/op=19:=by omega
 rcases this with rfl|rfl|rfl|rfl|rfl|rfl<;>decide +kernel
theorem maa{a n:Nat}(hn:1<n)(n_:n<4294967296)(ha:a<n)(hg:Ea a n=1):∃v:Int,Gz ((a:Int),(n:Int))=some v/\0<=v/\v<(n:Int)/\(n:Int) ∣ v * (a:Int)-1:=by
 unfold Gz nJ;simp only;rw[Ya (n:=(a:Int)) (by omega) (by omega),Ya (n:=(n:Int)) (by omega) (by omega)];obtain⟨e,h1,h2⟩:=Gc (step:=Hx.m (n:Int)) (t:=((n:Int),(a:Int),0,1))
  (λt=>∃x y r s:Nat,t.1=(r:Int)/\t.2.1=(s:Int)/\((t.2.2.1=(x:Int)/\t.2.2.2= -(y:Int))\/(t.2.2.1= -(x:Int)/\t.2.2.2=(y:Int)))/\x * s+y * r<=n/\x<n/\y<=n/\r<=n/\s<n/\(s=0->x<n)/\Ea r s=1/\(n:Int) ∣ t.2.2.1 * (a:Int)-t.1/\(n:Int) ∣ t.2.2.2 * (a:Int)-t.2.1/\(y=n->s=0))
  (λt=>t.2.1.toNat) (λe=> -(n:Int)<e/\e<(n:Int)/\(n:Int) ∣ e * (a:Int)-1)
  ⟨0,1,n,a,rfl,rfl,.inr ⟨rfl,rfl⟩,by omega,by omega,by omega,by omega,ha,λ_=>by omega,by rw[Aq];exact hg,by simp only[Int.zero_mul,Int.zero_sub];exact Int.dvd_neg.2 (Wh _),by simp,λh=>by omega⟩ (by simp only;omega) (λt⟨x,y,r,s,hr,hs,JK,hI,hx,hy,hrn,hsn,_,hgg,d1,d2,hyn⟩=>by
   obtain⟨tr,ts,tx,ty⟩:=t;simp only at hr hs JK d1 d2;subst hr;subst hs;simp only[LD.m,Hx];by_cases h0:s=0
   ·subst h0;simp only[Int.natCast_zero,decide_true,Ub,cond_false];refine .inr ⟨_,rfl,?_⟩;rw[Nat.gcd_zero_right]at hgg;subst hgg;have hb: -(n:Int)<tx/\tx<(n:Int):=by rcases JK with⟨h,_⟩|⟨h,_⟩<;>omega
    exact⟨hb.1,hb.2,d1⟩
   ·have Xu:¬(s:Int)=0:=by omega
    simp only[Xu,decide_false,Sb,cond_true,cond_false];have hq:jb (r:Int) (s:Int)=((r/s:Nat):Int):=rfl;have hqr:r/s<=r:=Mm _ _;have I2:=JL (q:=r/s) rfl hI;have hqs:r/s * s<=r:=Nat.div_mul_le_self r s;have er:r%s=r-r/s * s:=by have:=Nat.mod_add_div r s;rw[Nat.mul_comm]at this;omega
    have NZ:r%s<s:=Nat.mod_lt _ (by omega);have VZ:Ea s (r%s)=1:=by rw[Aq,<- Nat.gcd_rec,Aq];exact hgg
    rw[hq];clear hI hq;generalize r/s=w at hqr I2 hqs er ⊢;generalize r%s=e at I2 er NZ VZ ⊢;have hy2:(x+w * y) * s<=n:=by omega
    have Ze:x+w * y<=n:=by
     have:(x+w * y) * 1<=(x+w * y) * s:=Eu _ (by omega);omega
    have zaf:y<n:=by
     rcases dc y n with h|h
     ·exact h
     ·exact absurd (hyn (by omega)) h0
    have YG:x+w * y=n->e=0:=λhf=>by
     rw[hf]at hy2 I2;have AZ:s=1:=by
      rcases dc s 2 with h|h
      ·omega
      ·have:n * 2<=n * s:=Eu _ h;omega
     omega
    rw[Ya (n:=(w:Int)) (by omega) (by omega)];have m1:(w:Int) * (s:Int)=((w * s:Nat):Int):=(ae _ _).symm;have m2:(w:Int) * (y:Int)=((w * y:Nat):Int):=(ae _ _).symm;rw[m1,Ya (n:=((w * s:Nat):Int)) (by omega) (by omega),Ya (n:=(r:Int)-((w * s:Nat):Int)) (by omega) (by omega)];have e1:(r:Int)-((w * s:Nat):Int)=(e:Int):=by omega
    have hyq:(w:Int) * ty=((w * y:Nat):Int)\/(w:Int) * ty= -((w * y:Nat):Int):=by
     rcases JK with⟨_,h⟩|⟨_,h⟩
     ·right;rw[h,ah,m2]
     ·left;rw[h,m2]
    obtain⟨wy,uZ⟩:∃wy,(w:Int) * ty=wy:=⟨_,rfl⟩;rw[uZ]at hyq ⊢;have hyb: -4294967296<=wy/\wy<=4294967296:=by
     rcases hyq with h|h<;>rw[h]<;>omega
    have uB: -4294967296<=tx/\tx<=4294967296:=by rcases JK with⟨h,_⟩|⟨h,_⟩<;>omega
    rw[Ya (n:=wy) (by omega) (by omega),Ya (n:=tx-wy) (by omega) (by omega)];refine .inl ⟨_,rfl,⟨y,x+w * y,s,e,rfl,e1,?_,I2,zaf,Ze,by omega,by omega,λ_=>zaf,VZ,d2,?_,YG⟩,by simp only;omega⟩
    ·rcases JK with⟨g1,g2⟩|⟨g1,g2⟩
     ·right;refine⟨g2,?_⟩;simp only;rw[g1,<- uZ,g2,ah,m2];omega
     ·left;refine⟨g2,?_⟩;simp only;rw[g1,<- uZ,g2,m2];omega
    ·simp only;have:(tx-wy) * (a:Int)-((r:Int)-((w * s:Nat):Int))=(tx * (a:Int)-(r:Int))-(w:Int) * (ty * (a:Int)-(s:Int)):=by
      rw[Int.sub_mul,Zg,<- Oc,uZ,m1];omega
     rw[this];exact ag d1 (yb d2 (Ai _ _)))
 rw[h1];simp only[da];obtain⟨b1,b2,b3⟩:=h2;by_cases hz:e<0
 ·simp only[hz,decide_true,cond_true];rw[Ya (n:=e+(n:Int)) (by omega) (by omega),Yb (n:=e+(n:Int)) (by omega) (by omega)];refine⟨_,rfl,by omega,by omega,?_⟩;rw[show(e+(n:Int)) * (a:Int)-1=(e * (a:Int)-1)+(n:Int) * (a:Int)by rw[Int.add_mul];omega];exact cg b3 (Zc _ _)
 ·simp only[hz,decide_false,cond_false];rw[Yb (n:=e) (by omega) (by omega)];exact⟨_,rfl,by omega,b2,b3⟩
end Go.U
end
section
set_option maxRecDepth 20000
namespace Go.U
open Go
def gaf(e2:Bool×Int×Int×Bool×Int×Int):Option ga:=
 cond (decide (e2.2.2.2.2.1=(0:Int)))
 ((wu ((e2.1,(e2.2.1,e2.2.2.1)),e2.2.2.2.2.2)).bind λr3=>
 cond r3
 (some e2.2.2.2)
 (some (true,(0,0))))
 ((Kc e2.2.1).bind λr4=>
 (Kc e2.2.2.2.2.1).bind λr5=>
 (wg (r4,r5)).bind λr6=>
 (Kc (Ka (e2.2.2.1-e2.2.2.2.2.2))).bind λr7=>
 cond (decide (r6=(0:Int)))
 (none)
 (cond (!(decide ((zb r7 r6)=(0:Int))))
 (some (true,(0,0)))
 ((Kc e2.2.2.2.2.1).bind λr8=>
 cond (decide (r6=(0:Int)))
 (none)
 ((Kc e2.2.1).bind λr9=>
 cond (decide (r6=(0:Int)))
 (none)
 (cond (decide ((Ia (jb r8 r6))=(0:Int)))
 (none)
 (cond (decide ((Ka r6)=(0:Int)))
 (none)
 (cond (decide ((Ka (Ia (jb r8 r6)))=(0:Int)))
 (none)
 ((Oo.m (r6,(Ia (jb r8 r6)),(zb (Ia (jb r9 r6)) (Ia (jb r8 r6))),(zb (Ka (jb (Ka (e2.2.2.2.2.2-e2.2.2.1)) (Ka r6))) (Ka (Ia (jb r8 r6)))),(decide ((zb (Ka (jb (Ka (e2.2.2.2.2.2-e2.2.2.1)) (Ka r6))) (Ka (Ia (jb r8 r6))))<(0:Int))),e2,false,0,0)).bind λCu=>
 (No.m (r6,(Ia (jb r8 r6)),(zb (Ia (jb r9 r6)) (Ia (jb r8 r6))),Cu,0,(decide ((1:Int)<(Ia (jb r8 r6)))),e2,false,0,0)).bind λCU=>
 (Kc e2.2.1).bind λmI=>
 cond (decide (r6=(0:Int)))
 (none)
 ((Kc e2.2.2.2.2.1).bind λRX=>
 (Kc e2.2.2.1).bind λr14=>
 (Kc e2.2.1).bind λr15=>
 (Ln ((Ia ((Ia (jb mI r6)) * RX)),(Ia (r14+(Ia (r15 * CU)))),false)).bind λr16=>
 some r16)))))))))
theorem GR{a b:ga}(ha:CR a)(hb:CR b)(h1:a.1=false)(h2:b.1=false)(hle:b.2.1<=a.2.1):∃c,gaf (a.1,a.2.1,a.2.2,b.1,b.2.1,b.2.2)=some c/\xl a b c:=by
 unfold gaf;obtain⟨a0,a1,a2,a3,a4,a5⟩:=ha.bounds h1;obtain⟨b0,b1,b2,b3,b4,b5⟩:=hb.bounds h2;simp only;by_cases c2:b.2.1=0
 ·simp only[c2,decide_true,cond_true];rw[show wu ((a.1,(a.2.1,a.2.2)),b.2.2)=wu (a,b.2.2)from rfl,K2 ha];simp only[da];have:=(Su hb ha h2 c2).comm;cases hh:gz a b.2.2<;>rw[hh]at this
  ·exact⟨_,rfl,this⟩
  ·refine⟨_,rfl,?_⟩;rw[<- c2];exact this
 ·have c1:¬a.2.1=0:=by omega
  simp only[c2,decide_false,cond_false];obtain⟨M,hM⟩:=Ad a0;obtain⟨N,hN⟩:=Ad b0;obtain⟨_,ra0,ra1⟩:=ha.rem h1 c1;obtain⟨_,rb0,rb1⟩:=hb.rem h2 c2;obtain⟨pa,m,r1⟩:=a;obtain⟨pb,n,r2⟩:=b;simp only at h1 h2 hM hN ra0 ra1 rb0 rb1 a1 b1 a3 b3 c1 c2 ⊢;subst h1;subst h2;subst hM;subst hN;have hM0:0<M:=by omega
  have hN0:0<N:=by omega
  have z_:0<Ea M N:=Nat.gcd_pos_of_pos_left _ hM0;have hdM:Ea M N<=M:=Nat.le_of_dvd hM0 (Zk _ _);have hdN:Ea M N<=N:=Nat.le_of_dvd hN0 (Oj _ _);have fM:Kc (M:Int)=some (M:Int):=by rw[Se (by omega) (by omega),ye]
  have fN:Kc (N:Int)=some (N:Int):=by rw[Se (by omega) (by omega),ye]
  have fr:Kc r1=some r1:=by rw[Se (by omega) (by omega),show(r1.natAbs:Int)=r1 by omega]
  simp only[fM,fN,fr,da];rw[Ol _ _ (by omega),Ya (n:=r1-r2) (by omega) (by omega),Se (by omega) (by omega)];simp only[da];have x_:¬((Ea M N:Nat):Int)=0:=by omega
  simp only[x_,decide_false,cond_false];have dvM:((Ea M N:Nat):Int) ∣ (M:Int):=kW M N;have dvN:((Ea M N:Nat):Int) ∣ (N:Int):=kY M N;by_cases hr:((Ea M N:Nat):Int) ∣ r1-r2
  ·have bj:zb ((r1-r2).natAbs:Int) ((Ea M N:Nat):Int)=0:=Xd.2 (Qb.2 hr);simp only[bj,decide_true,Ub,cond_false];have q1:jb (N:Int) ((Ea M N:Nat):Int)=((N/Ea M N:Nat):Int):=rfl;have q2:jb (M:Int) ((Ea M N:Nat):Int)=((M/Ea M N:Nat):Int):=rfl;have qN:N/Ea M N<=N:=Mm _ _;have qM:M/Ea M N<=M:=Mm _ _;have NY:0<N/Ea M N:=Nat.div_pos hdN z_;have eN:Ea M N * (N/Ea M N)=N:=Nat.mul_div_cancel' (Oj _ _);have eM:Ea M N * (M/Ea M N)=M:=Nat.mul_div_cancel' (Zk _ _);have TO:Ea (M/Ea M N) (N/Ea M N)=1:=(Nat.coprime_div_gcd_div_gcd z_).gcd_eq_one;have hlm:∀{x z:Int},(M:Int) ∣ x-r1->(N:Int) ∣ x-r2->(((M * (N/Ea M N):Nat):Int) ∣ z-x↔(M:Int) ∣ z-r1/\(N:Int) ∣ z-r2):=λh1 h2=>VR h1 h2
   rw[q1,q2];clear q1 q2;have zax:Ea M N<4294967296:=by omega
   generalize N/Ea M N=n' at qN NY eN TO hlm ⊢;generalize M/Ea M N=m' at qM eM TO ⊢;have was:M * n'<=4294967295 * 4294967295:=Nat.mul_le_mul (by omega) (by omega);have hL0:0<M * n':=Nat.mul_pos hM0 NY;have xas:∀d A B:Nat,d * n'=B->d * m'=A->m' * B=A * n':=λd A B h1 h2=>by rw[<- h1,<- h2,Nat.mul_left_comm,Nat.mul_assoc]
   have hLe:=xas _ _ _ eN eM;rw[Yb (n:=(n':Int)) (by omega) (by omega),Yb (n:=(m':Int)) (by omega) (by omega)];have ZF:¬(n':Int)=0:=by omega
   have wd:Ka ((Ea M N:Nat):Int)=((Ea M N:Nat):Int):=Ya (by omega) (by omega);have wn:Ka (n':Int)=(n':Int):=Ya (by omega) (by omega);simp only[ZF,wd,wn,x_,decide_false,cond_false];obtain⟨t,ht⟩:((Ea M N:Nat):Int) ∣ r2-r1:=by rw[show r2-r1= -(r1-r2)by omega];exact Int.dvd_neg.2 hr
   rw[Ya (n:=r2-r1) (by omega) (by omega),ht,xg t x_];have htb: -4294967296<=t/\t<=4294967296:=by
    have e:=xg t x_;rw[<- ht]at e;have:=tdiv_le (a:=r2-r1) (b:=((Ea M N:Nat):Int));rw[e]at this;omega
   rw[Ya (n:=t) (by omega) (by omega)];have maf:(0:Int)<(n':Int):=by omega
   have tb1:=iu t maf;have tb2:=Int.tmod_lt_of_pos t maf;obtain⟨w,w0,w1,w2,w3⟩:∃w:Int,Oo.m (((Ea M N:Nat):Int),(n':Int),(zb (m':Int) (n':Int)),(zb t (n':Int)),(decide ((zb t (n':Int))<(0:Int))),(false,(M:Int),r1,false,(N:Int),r2),false,0,0)=some w/\0<=w/\w<(n':Int)/\(n':Int) ∣ w-t:=by
    have hd:=Int.tmod_add_mul_tdiv t (n':Int);simp only[PD.m,Oo];by_cases Qam:zb t (n':Int)<0
    ·simp only[Qam,decide_true,cond_true];rw[wn,Ya (by omega) (by omega)];refine⟨_,rfl,by omega,by omega,?_⟩;rw[show zb t (n':Int)+(n':Int)-t=(n':Int) * (1-jb t (n':Int))by rw[Zg,Int.mul_one];omega];exact Zc _ _
    ·simp only[Qam,decide_false,cond_false];refine⟨_,rfl,by omega,by omega,?_⟩;rw[show zb t (n':Int)-t=(n':Int) * (-jb t (n':Int))by rw[ah];omega];exact Zc _ _
   rw[w0];simp only[da];obtain⟨k,k0,k1,k2⟩:∃k:Nat,No.m (((Ea M N:Nat):Int),(n':Int),(zb (m':Int) (n':Int)),w,0,(decide ((1:Int)<(n':Int))),(false,(M:Int),r1,false,(N:Int),r2),false,0,0)=some (k:Int)/\k<n'/\(n':Int) ∣ (m':Int) * (k:Int)-t:=by
    simp only[PD.m,No];by_cases n_:1<n'
    ·have HO:(1:Int)<(n':Int):=by omega
     simp only[HO,decide_true,cond_true];have tm:zb (m':Int) (n':Int)=((m'%n':Nat):Int):=rfl;rw[tm];obtain⟨v,v1,v2,v3,v4⟩:=maa (a:=m'%n') (n:=n') n_ (by omega) (Nat.mod_lt _ (by omega)) (by rw[<- Nat.gcd_rec,Aq];exact TO);rw[v1];simp only[da];have hwv:0<=w * v:=Xo w1 v2;have uaw:w * v<=4294967295 * 4294967295:=Int.mul_le_mul (by omega) (by omega) v2 (by decide);unfold EE oJ;simp only[ZF,decide_false,cond_false];rw[Yb (n:=w) w1 (by omega),Yb (n:=w * v) hwv (by omega),Kq hwv];have k0:=Tc (w * v) ZF;have k1:=uc (w * v) maf;obtain⟨k,hk⟩:=Ad k0;refine⟨k,by rw[hk];rfl,by omega,?_⟩;have e1:(n':Int) ∣ (k:Int)-w * v:=by
      rw[<- hk];exact Ro (Wl _ (Wh _))
     have e2:(n':Int) ∣ v * (m':Int)-1:=by
      have:(n':Int) ∣ (m':Int)-((m'%n':Nat):Int):=by
       refine Ro ?_;rw[Int.natCast_emod,Wl _ (Wh _)]
      rw[show v * (m':Int)-1=v * ((m':Int)-((m'%n':Nat):Int))+(v * ((m'%n':Nat):Int)-1)by rw[Zg];omega];exact cg (yb this (Ai _ _)) v4
     have e3:w * (v * (m':Int))=(m':Int) * (w * v):=by rw[<- Oc,Ov]
     rw[show(m':Int) * (k:Int)-t=(m':Int) * ((k:Int)-w * v)+w * (v * (m':Int)-1)+(w-t)by rw[Zg,Zg,Int.mul_one,e3];omega];exact cg (cg (yb e1 (Ai _ _)) (yb e2 (Ai _ _))) w3
    ·have HO:¬(1:Int)<(n':Int):=by omega
     simp only[HO,decide_false,cond_false];have cz:n'=1:=by omega
     exact⟨0,rfl,by omega,by rw[cz];exact Int.one_dvd _⟩
   rw[k0];simp only[da];have hMk:(M:Int) * (k:Int)=((M * k:Nat):Int):=(ae _ _).symm;have vas:M * k+M<=M * n':=by rw[<- Nat.mul_succ];exact Eu _ k1
   have hLi:(m':Int) * (N:Int)=((M * n':Nat):Int):=by rw[<- ae,hLe]
   rw[hMk,hLi,Yb (n:=((M * n':Nat):Int)) (by omega) (by omega),Yb (n:=((M * k:Nat):Int)) (by omega) (by omega),Yb (n:=r1+((M * k:Nat):Int)) (by omega) (by omega),cC (by omega) (by omega) (by omega) (by omega)];refine⟨_,rfl,zg (by omega),λz=> ?_⟩;show mem (nf _ (r1+((M * k:Nat):Int))) z↔_;rw[Cp (by omega),hlm (by rw[show r1+((M * k:Nat):Int)-r1=((M * k:Nat):Int)by omega,<- hMk];exact Zc _ _) (by
    obtain⟨y,hy⟩:=k2;refine⟨y,?_⟩;have eMi:(M:Int)=((Ea M N:Nat):Int) * (m':Int):=by rw[<- ae,eM]
    have eNi:(N:Int)=((Ea M N:Nat):Int) * (n':Int):=by rw[<- ae,eN]
    rw[eNi,Oc,<- hy,Zg,<- ht,<- Oc,<- eMi,hMk];omega)]
   exact⟨λ⟨g1,g2,g3,g4⟩=>⟨⟨rfl,g1,g2,g3⟩,rfl,g1,g2,g4⟩,λ⟨⟨_,g1,g2,g3⟩,_,_,_,g4⟩=>⟨g1,g2,g3,g4⟩⟩
  ·have bj:¬zb ((r1-r2).natAbs:Int) ((Ea M N:Nat):Int)=0:=λe=>hr (Qb.1 (Xd.1 e))
   simp only[bj,decide_false,Sb,cond_true];refine⟨_,rfl,be,λz=>⟨λh=>absurd h um,λ⟨⟨_,_,_,g1⟩,_,_,_,g2⟩=>absurd ?_ hr⟩⟩;simp only at g1 g2;rw[show r1-r2=(z-r2)-(z-r1)by omega];exact ag (yb dvN g2) (yb dvM g1)
theorem PC{a b:ga}(ha:CR a)(hb:CR b):yj (a,b)=some (pg a b):=by
 cases h1:a.1
 ·cases h2:b.1
  ·have e:yj (a,b)=gaf (cond (decide (a.2.1<b.2.1)) (b.1,b.2.1,b.2.2,a.1,a.2.1,a.2.2) (a.1,a.2.1,a.2.2,b.1,b.2.1,b.2.2)):=by
    unfold yj Vz;simp only[PD.m,Lt,fC,h1,h2,cond_false,da];cases decide (a.2.1<b.2.1)<;>rfl
   rw[e];by_cases Mc:a.2.1<b.2.1
   ·rw[decide_eq_true Mc];obtain⟨c,q1,q2⟩:=GR hb ha h2 h1 (Int.le_of_lt Mc);rw[cond_true,q1,br q2.comm]
   ·rw[decide_eq_false Mc];obtain⟨c,q1,q2⟩:=GR ha hb h1 h2 (by omega);rw[cond_false,q1,br q2]
  ·have q:xl a b ld:=⟨be,λz=>⟨λh=>absurd h um,λh=>by have:=h.2.1;rw[h2]at this;cases this⟩⟩;rw[br q];unfold yj Vz;simp only[PD.m,Lt,h1,h2,cond_false,da,cond_true];rfl
 ·have q:xl a b ld:=⟨be,λz=>⟨λh=>absurd h um,λh=>by have:=h.1.1;rw[h1]at this;cases this⟩⟩;rw[br q];unfold yj Vz;simp only[PD.m,Lt,h1,da,cond_true];rfl
theorem oab{op:Int}{a b:ga}(ha:CR a)(hb:CR b):Wz (op,a,b)=some (mh op a b):=by
 unfold Wz cK mh VH;simp only;by_cases o1:op<14
 ·simp[o1]
 ·by_cases o2:19<op
  ·simp[o2]
  ·simp only[o1,o2,decide_false,cond_false,or_self,if_false];have hm:=PC ha hb;have fin:(cond (decide (op=14)) ((yj (a,b)).bind λr=>some (r,r)) (some (a,b)))=some (if op=14 then(pg a b,pg a b)else(a,b)):=by
    rw[hm];by_cases o3:op=14
    ·simp[o3]
    ·simp[o3]
   cases h1:a.1
   ·cases h2:b.1
    ·simp only[cond_false,Xb,false_or];by_cases c1:a.2.1=0
     ·by_cases c2:b.2.1=0
      ·simp only[c1,c2,decide_true,cond_true,true_and];rw[raa];simp only[da];cases hh:Vu op a.2.2 b.2.2
       ·simp[ld]
       ·simp only[Ub,cond_false,Bool.true_eq_false,if_false];exact fin
      ·simp only[c1,c2,decide_true,decide_false,cond_true,cond_false,false_and,and_false,if_false];exact fin
     ·simp only[c1,decide_false,cond_false,false_and,if_false];exact fin
    ·simp[ld]
   ·simp[ld]
end Go.U
end
section
set_option maxRecDepth 20000
namespace Go.U
open Go
theorem JD{l:List ga}{i:Int}{c:ga}(hn:l.length<=1048576)(h0:0<=i)(h1:i<(l.length:Int)):vx (l,i,c)=some (l.set i.toNat c):=by
 unfold vx pT;simp only[vA hn,Sd h0 h1,Fa]
theorem CV{a b:ga}(ha:CR a)(hb:CR b)(h:a.1=true):(pg a b).1=true:=by
 have m:=(Bi ha hb).2;cases hm:(pg a b).1
 ·obtain⟨z,z1,z2,z3⟩:=m.1.step hm;have b0:=(m.1.bounds hm).1;have:=((m.2 z).1 ⟨hm,z1,by omega,z3⟩).1.1;rw[h]at this;cases this
 ·rfl
theorem ON{op:Int}{a b:ga}(ha:CR a)(hb:CR b)(h0:14<=op)(h1:op<=19):(mh op a b).1.1=(mh op a b).2.1:=by
 unfold mh;rw[if_neg (by omega)];split
 ·rfl
 ·rename_i n;split
  ·rfl
  ·have e1:a.1=false:=by
    cases h:a.1
    ·rfl
    ·exact absurd (.inl h) n
   have e2:b.1=false:=by
    cases h:b.1
    ·rfl
    ·exact absurd (.inr (.inl h)) n
   rw[e1,e2]
section
variable {g:Ba}{D:List Int}{s:Ga}{out:List ga}
theorem Rah(hG:Fe g D)(hs:vi g s)(hb:s.1=true)(ho:Vo g s g.1.length out){y:Lb}{way:Int}
  (hA:0<=y.2.2.1/\y.2.2.1<g.2.2.1) (hB:0<=y.2.2.2.1/\y.2.2.2.1<g.2.2.1) (hn:14<=y.2.2.2.2.1/\y.2.2.2.2.1<=19) (h15:y.1=15):GD (g,(s.1,(s.2.1,s.2.2)),out,y,way)=some (Yh g s out y way):=by
 have hv:IK ((af g).length:Int) s.2.1:=⟨by have:=hs.sl;omega,hs.sc⟩;have hsm:=(eo hG hs).v;have cA:=yp hG hs ho hA.1 hA.2;have cB:=yp hG hs ho hB.1 hB.2;have hlen:=ho.len;have k1:¬(2<=y.1/\y.1<=8):=by omega
 have k2:¬y.1=13:=by omega
 have k3:¬y.1=14:=by omega
 unfold Yh;rw[if_neg k1,if_neg k2,if_neg k3,if_pos h15];have WG:∃op,op=(if way=1 then gl y.2.2.2.2.1 else y.2.2.2.2.1)/\14<=op/\op<=19:=by
  refine⟨_,rfl,?_⟩;split
  ·unfold gl
   repeat' split
   all_goals omega
  ·exact hn
 obtain⟨op,e0,o1,o2⟩:=WG;rw[<- e0];have c3:ID.m (out,y.2.2.2.2.1,(decide (way=(1:Int))),g,(s.1,(s.2.1,s.2.2)),y,false)=some op:=by
  simp only[PD.m,ID];by_cases hw:way=1
  ·simp only[hw,decide_true,cond_true];rw[rab hn.1 hn.2,e0,if_pos hw];rfl
  ·simp only[hw,decide_false,cond_false];rw[e0,if_neg hw]
 have iA:V.ua y.2.2.1 out.length=true:=Sd hA.1 (by omega);have iB:V.ua y.2.2.2.1 out.length=true:=Sd hB.1 (by omega);unfold GD nT;simp only;rw[c3];simp only[da,iA,iB,Fa];rw[oab cA cB];simp only[da];obtain⟨t1,t2⟩:=Lq (op:=op) cA cB;have t3:=ON (op:=op) cA cB o1 o2;generalize mh op (gx out y.2.2.1.toNat Aa) (gx out y.2.2.2.1.toNat Aa)=pq at t1 t2 t3 ⊢;obtain⟨p,q⟩:=pq;simp only at t1 t2 t3 ⊢;have r5:FD.m (g,(s.1,(s.2.1,s.2.2)),y,false,(p,q))=some p.1:=by
  simp only[PD.m,FD];cases hp:p.1
  ·simp only[cond_false];rw[<- t3,hp]
  ·rfl
 rw[r5];simp only[da];cases hp:p.1
 ·simp only[cond_false,Xb,false_and,if_false];have hvn:=hv.n;obtain⟨v1,a1,a2⟩:∃v1,HD.m (nt (fa g.2.2.2.2.2.1),(decide (y.2.2.1<nt (fa g.2.2.2.2.2.1))),(s.1,(s.2.1,s.2.2)),y,false,(p,q))=some v1/\v1=(if y.2.2.1<((af g).length:Int)then s.2.1.set y.2.2.1.toNat (pg (gx s.2.1 y.2.2.1.toNat Aa) p)else s.2.1):=by
   simp only[PD.m,HD];by_cases hr:y.2.2.1<((af g).length:Int)
   ·have hd:decide (y.2.2.1<nt (fa g.2.2.2.2.2.1))=true:=decide_eq_true hr;have hi:y.2.2.1<(s.2.1.length:Int):=by omega
    rw[if_pos hr,hd];simp only[cond_true,Sd hA.1 hi,Fa];rw[PC (hv.c y.2.2.1.toNat (by omega)) t1];simp only[da];rw[JD hsm hA.1 hi];exact⟨_,rfl,rfl⟩
   ·have hd:decide (y.2.2.1<nt (fa g.2.2.2.2.2.1))=false:=decide_eq_false hr;rw[if_neg hr,hd];exact⟨_,rfl,rfl⟩
  rw[a1];simp only[da];have v1l:v1.length=s.2.1.length:=by rw[a2];split<;>simp
  have v1c:∀i,i<v1.length->CR (gx v1 i Aa):=λi hi=>by
   rw[a2];rw[v1l]at hi;split
   ·rename_i hr;rw[Nc (by omega)];split
    ·exact(Bi (hv.c y.2.2.1.toNat (by omega)) t1).2.1
    ·exact hv.c i hi
   ·exact hv.c i hi
  obtain⟨v2,b1,b2⟩:∃v2,jx.m (nt (fa g.2.2.2.2.2.1),(decide (y.2.2.2.1<nt (fa g.2.2.2.2.2.1))),s.1,v1,s.2.2,y,false,q)=some v2/\v2=(if y.2.2.2.1<((af g).length:Int)then v1.set y.2.2.2.1.toNat (pg (gx v1 y.2.2.2.1.toNat Aa) q)else v1):=by
   simp only[PD.m,jx];by_cases hr:y.2.2.2.1<((af g).length:Int)
   ·have hd:decide (y.2.2.2.1<nt (fa g.2.2.2.2.2.1))=true:=decide_eq_true hr;have hi:y.2.2.2.1<(v1.length:Int):=by omega
    rw[if_pos hr,hd];simp only[cond_true,Sd hB.1 hi,Fa];rw[PC (v1c y.2.2.2.1.toNat (by omega)) t2];simp only[da];rw[JD (by omega) hB.1 hi];exact⟨_,rfl,rfl⟩
   ·have hd:decide (y.2.2.2.1<nt (fa g.2.2.2.2.2.1))=false:=decide_eq_false hr;rw[if_neg hr,hd];exact⟨_,rfl,rfl⟩
  rw[b1];simp only[da];have v2l:v2.length=s.2.1.length:=by rw[b2];split<;>simp[v1l]
  have mI:dx.m (nt (fa g.2.2.2.2.2.1),s.1,v2,s.2.2,y,false)=some ((decide (y.2.2.1<((af g).length:Int))&&(gx v2 y.2.2.1.toNat Aa).1)||(decide (y.2.2.2.1<((af g).length:Int))&&(gx v2 y.2.2.2.1.toNat Aa).1)):=by
   simp only[PD.m,dx];have eN:nt (fa g.2.2.2.2.2.1)=((af g).length:Int):=rfl;rw[eN];by_cases hr:y.2.2.1<((af g).length:Int)
   ·have hi:y.2.2.1<(v2.length:Int):=by omega
    simp only[hr,decide_true,cond_true,Sd hA.1 hi,Fa,Od];cases(gx v2 y.2.2.1.toNat Aa).1
    ·simp only[cond_false,Bool.false_or];by_cases Eo:y.2.2.2.1<((af g).length:Int)
     ·have fY:y.2.2.2.1<(v2.length:Int):=by omega
      simp only[Eo,decide_true,cond_true,Sd hB.1 fY,Fa,Od]
     ·simp only[Eo,decide_false,cond_false,Cq]
    ·rfl
   ·simp only[hr,decide_false,cond_false,Cq,Bool.false_or];by_cases Eo:y.2.2.2.1<((af g).length:Int)
    ·have fY:y.2.2.2.1<(v2.length:Int):=by omega
     simp only[Eo,decide_true,cond_true,Sd hB.1 fY,Fa,Od]
    ·simp only[Eo,decide_false,cond_false,Cq]
  rw[mI];simp only[da];unfold refs qk;by_cases hr:y.2.2.1<((af g).length:Int)
  ·rw[if_pos hr]at a2 ⊢;have hAi:y.2.2.1.toNat<s.2.1.length:=by omega
   rw[decide_eq_true hr];by_cases hm:(pg (gx s.2.1 y.2.2.1.toNat Aa) p).1=true
   ·rw[if_pos hm];have:(gx v2 y.2.2.1.toNat Aa).1=true:=by
     rw[b2];split
     ·rename_i Eo;rw[Nc (by omega)];split
      ·rename_i e;rw[e];refine CV (v1c _ (by omega)) t2 ?_;rw[a2,Nc hAi,if_pos rfl];exact hm
      ·rw[a2,Nc hAi,if_pos rfl];exact hm
     ·rw[a2,Nc hAi,if_pos rfl];exact hm
    rw[this];rfl
   ·rw[if_neg hm];simp only[da];rw[<- a2];have dz:=eq_false_of_ne_true hm;by_cases Eo:y.2.2.2.1<((af g).length:Int)
    ·rw[if_pos Eo]at b2 ⊢;have hBi:y.2.2.2.1.toNat<v1.length:=by omega
     have eB:gx v2 y.2.2.2.1.toNat Aa=pg (gx v1 y.2.2.2.1.toNat Aa) q:=by rw[b2,Nc hBi,if_pos rfl]
     rw[decide_eq_true Eo,eB];by_cases XV:(pg (gx v1 y.2.2.2.1.toNat Aa) q).1=true
     ·rw[if_pos XV,XV];simp only[Bool.and_self,Bool.or_true,cond_true];rfl
     ·rw[if_neg XV];have Yam:=eq_false_of_ne_true XV;have:(gx v2 y.2.2.1.toNat Aa).1=false:=by
       rw[b2,Nc hBi];split
       ·exact Yam
       ·rw[a2,Nc hAi,if_pos rfl];exact dz
      rw[this,Yam,b2];rfl
    ·rw[if_neg Eo]at b2 ⊢;have:(gx v2 y.2.2.1.toNat Aa).1=false:=by rw[b2,a2,Nc hAi,if_pos rfl];exact dz
     rw[this,decide_eq_false Eo,b2];rfl
  ·rw[if_neg hr]at a2 ⊢;simp only[da];rw[decide_eq_false hr,<- a2];by_cases Eo:y.2.2.2.1<((af g).length:Int)
   ·rw[if_pos Eo]at b2 ⊢;have hBi:y.2.2.2.1.toNat<v1.length:=by omega
    have eB:gx v2 y.2.2.2.1.toNat Aa=pg (gx v1 y.2.2.2.1.toNat Aa) q:=by rw[b2,Nc hBi,if_pos rfl]
    rw[decide_eq_true Eo,eB];by_cases XV:(pg (gx v1 y.2.2.2.1.toNat Aa) q).1=true
    ·rw[if_pos XV,XV];rfl
    ·rw[if_neg XV,eq_false_of_ne_true XV,b2];rfl
   ·rw[if_neg Eo]at b2 ⊢;rw[decide_eq_false Eo,b2];rfl
 ·have hq:q.1=true:=by rw[<- t3,hp]
  simp only[hq,cond_true,and_self,if_true];rfl
theorem FR{j:Nat}{way:Int}(hj:j<g.1.length):∃r,sE.m (((j:Int),way),g,s,false)=some r/\(r=true↔Nk g s j way):=lI hj
theorem U_{j:Nat}{way:Int}(hj:j<g.1.length)(hw:Nk g s j way):zu (g,s,(j:Int),way)=some Ye:=by
 unfold zu KM;obtain⟨r,h1,h2⟩:=FR (s:=s) (way:=way) hj;simp only;rw[h1];simp only[da];rw[h2.2 hw];rfl
theorem Uai(hG:Fe g D)(hs:vi g s)(hf:QD (g,s)=some out)(ho:Vo g s g.1.length out){j:Nat}{way:Int}(hj:j<g.1.length)(hw:¬Nk g s j way):zu (g,s,(j:Int),way)=some (Yh g s out (at' g j) way):=by
 have hb:s.1=true:=by
  cases h:s.1
  ·exact absurd (.inl h) hw
  ·rfl
 unfold zu KM;obtain⟨r,h1,h2⟩:=FR (s:=s) (way:=way) hj;simp only;rw[h1];have hr:r=false:=by
  cases hr:r
  ·rfl
  ·exact absurd (h2.1 hr) hw
 subst hr;simp only[da,cond_false,Tk hj,Fa,Pa];rw[hf];simp only[da];obtain⟨y,hy⟩:∃y,at' g j=y:=⟨_,rfl⟩;have Ze:gx g.1 j Pb=y:=hy;have Kg:=hG.Kg j hj;have use:∀x∈jf y,0<=x/\x<g.2.2.1:=λx hx=>by
  obtain⟨a,b,_⟩:=Ri hG (Kg.use x (by rw[hy];exact hx));exact⟨a,b⟩
 have idx:=Kg.idx;have tst:=Kg.tst;rw[hy]at idx tst;rw[hy];show((Jr.m (way,out,g,s,false,gx g.1 j Pb)).bind λe3=>
  cond e3 (some ((false,([],[])):Ga))
  ((Wp.m (way,out,(decide ((gx g.1 j Pb).1=(13:Int))),g,s,false,gx g.1 j Pb)).bind λe4=>
  Sum.elim (λe5=>some ((false,([],[])):Ga))
  (λe6=>(ck.m (way,out,(decide ((gx g.1 j Pb).1=(14:Int))),g,s.1,e6,s.2.2,false,gx g.1 j Pb)).bind λe7=>
  Sum.elim (λe8=>some ((false,([],[])):Ga))
  (λe9=>cond (decide ((gx g.1 j Pb).1=(15:Int)))
  ((GD (g,(s.1,(e6,e9)),out,gx g.1 j Pb,way)).bind λEN=>some EN)
  (some (s.1,(e6,e9)))) e7) e4))=_
 rw[Ze];have hsl:=hs.sl;have hil:=hs.il;have hlen:=ho.len;have hsm:=eo hG hs;have inO:∀{x:Int},0<=x->x<g.2.2.1->V.ua x out.length=true:=λh0 h1=>Sd h0 (by omega)
 by_cases k1:2<=y.1/\y.1<=8
 ·have d1:=k1.1;have d2:=k1.2;have hd:wk (at' g j)=true:=by rw[hy];exact Bg.2 ⟨by omega,by omega⟩
  obtain⟨u1,u2⟩:=fy hG hj hd;rw[hy]at u1 u2;have n13:¬y.1=13:=by omega
  have n14:¬y.1=14:=by omega
  have n15:¬y.1=15:=by omega
  simp only[PD.m,Jr,Wp,ck,d1,d2,n13,n14,n15,decide_true,decide_false,cond_true,cond_false,inO (show 0<=y.2.1 by omega) u2,Fa,da,zi];unfold Yh;rw[if_pos k1];cases hc:(gx out y.2.1.toNat Aa).1
  ·simp
  ·simp[Ye]
 ·have r5:Jr.m (way,out,g,s,false,y)=some false:=by
   simp only[PD.m,Jr];by_cases d1:2<=y.1
   ·have d2:¬y.1<=8:=λd2=>k1 ⟨d1,d2⟩
    simp only[d1,d2,decide_true,decide_false,cond_true,cond_false]
   ·simp only[d1,decide_false,cond_false]
  rw[r5];simp only[da,cond_false];unfold Yh;rw[if_neg k1];by_cases k2:y.1=13
  ·have n14:¬y.1=14:=by omega
   have n15:¬y.1=15:=by omega
   obtain⟨i1,i2⟩:=idx.k13 k2;have xO:y.2.1<(fa g.2.2.2.2.2.1:Int):=i2;have i3:y.2.1<(fa s.2.1:Int):=by omega
   obtain⟨a1,a2⟩:=use y.2.2.1 (by simp[jf,k2]);rw[if_pos k2];simp only[PD.m,Wp,ck,n14,n15,decide_false,cond_false];simp only[k2,decide_true,cond_true,inO a1 a2,Sd i1 xO,Fa];rw[oP];simp only[da];obtain⟨iv,hiv⟩:=K3 (yp hG hs ho a1 a2) (gx g.2.2.2.2.2.1 y.2.1.toNat ud).2.1;rw[hiv];simp only[da];show _=some (if(uh (gx out y.2.2.1.toNat Aa) (gx g.2.2.2.2.2.1 y.2.1.toNat ud).2.1).1=true then Ye else(s.1,(s.2.1.set y.2.1.toNat (uh (gx out y.2.2.1.toNat Aa) (gx g.2.2.2.2.2.1 y.2.1.toNat ud).2.1),s.2.2)));cases hc:(uh (gx out y.2.2.1.toNat Aa) (gx g.2.2.2.2.2.1 y.2.1.toNat ud).2.1).1
   ·simp only[cond_false,Xb,if_false];rw[JD hsm.v i1 i3];rfl
   ·simp only[cond_true,if_true];rfl
  ·rw[if_neg k2];have c8:∀z:Bool,Wp.m (way,out,false,g,s,z,y)=some (.inr s.2.1):=λz=>by simp only[PD.m,Wp,cond_false]
   by_cases k3:y.1=14
   ·have n15:¬y.1=15:=by omega
    obtain⟨i1,i2⟩:=idx.k11 (.inr k3);have xO:y.2.2.1<(fa g.2.2.2.2.2.2.1:Int):=i2;have i3:y.2.2.1<(fa s.2.2:Int):=by omega
    obtain⟨a1,a2⟩:=use y.2.1 (by simp[jf,k3]);have cr:=yp hG hs ho a1 a2;rw[if_pos k3,decide_eq_false k2,c8];simp only[da,zi];simp only[PD.m,ck];simp only[k3,decide_true,cond_true,inO a1 a2,Sd i1 xO,Fa];rw[oP];simp only[da];obtain⟨iv,hiv⟩:=K3 cr (gx g.2.2.2.2.2.2.1 y.2.2.1.toNat Ob).2.1;rw[hiv];have tcr:=Tm cr (gx g.2.2.2.2.2.2.1 y.2.2.1.toNat Ob).2.1;simp only[da];show _=some (if(uh (gx out y.2.1.toNat Aa) (gx g.2.2.2.2.2.2.1 y.2.2.1.toNat Ob).2.1).1=true then Ye else(s.1,(s.2.1,s.2.2.set y.2.2.1.toNat (if 1<(gx g.2.2.2.2.2.2.1 y.2.2.1.toNat Ob).2.2.1 then Pf (gx s.2.2 y.2.2.1.toNat Aa) (uh (gx out y.2.1.toNat Aa) (gx g.2.2.2.2.2.2.1 y.2.2.1.toNat Ob).2.1)else uh (gx out y.2.1.toNat Aa) (gx g.2.2.2.2.2.2.1 y.2.2.1.toNat Ob).2.1))));generalize uh (gx out y.2.1.toNat Aa) (gx g.2.2.2.2.2.2.1 y.2.2.1.toNat Ob).2.1=c at tcr ⊢;cases hc:c.1
    ·simp only[cond_false,Xb,if_false,PD.m,zx];by_cases k4:1<(gx g.2.2.2.2.2.2.1 y.2.2.1.toNat Ob).2.2.1
     ·simp only[k4,decide_true,cond_true,if_true,Sd i1 i3,Fa];rw[(join_eq (hs.ic y.2.2.1.toNat (by omega)) tcr).2.1];simp only[da];rw[JD hsm.w i1 i3];rfl
     ·simp only[k4,decide_false,cond_false,if_false,da];rw[JD hsm.w i1 i3];rfl
    ·simp only[cond_true,if_true];rfl
   ·have c13:∀(z w:Bool)(v u:List ga),ck.m (way,out,false,g,z,v,u,w,y)=some (.inr u):=λz w v u=>by simp only[PD.m,ck,cond_false]
    rw[if_neg k3,decide_eq_false k2,decide_eq_false k3,c8];simp only[da,zi];rw[c13];simp only[da,zi];by_cases k4:y.1=15
    ·rw[decide_eq_true k4];obtain⟨a1,a2⟩:=use y.2.2.1 (by simp[jf,k4]);obtain⟨b1,b2⟩:=use y.2.2.2.1 (by simp[jf,k4]);simp only[cond_true];rw[Rah hG hs hb ho ⟨a1,a2⟩ ⟨b1,b2⟩ (tst k4) k4];unfold Yh;rw[if_neg k1,if_neg k2,if_neg k3];rfl
    ·rw[decide_eq_false k4,if_neg k4];rfl
end
end Go.U
end
section
set_option maxRecDepth 100000
namespace Go.U
open Go
theorem laq(g:Ba)(x:List Ga)(R:List Bool)(p:Int):Zw (g,x,R,p)=sq (g,R,p,x):=by kernel_rfl
theorem a_{c d:ga}(hc:CR c)(hd:CR d)(h:Pd c d=true)(h':Pd d c=true):c=d:=by
 cases h1:c.1
 ·obtain⟨d1,e1,e2⟩:=Be hc hd h h1;obtain⟨_,e3,e4⟩:=Be hd hc h' d1;obtain⟨c0,_⟩:=hc.bounds h1;obtain⟨d0,_⟩:=hd.bounds d1;have em:d.2.1=c.2.1:=Int.dvd_antisymm d0 c0 e1 e3;by_cases z:d.2.1=0
  ·exact Fh hc hd h h1 z
  ·obtain⟨r1,r2,r3⟩:=hc.rem h1 (by omega);obtain⟨s1,s2,s3⟩:=hd.rem d1 z;have:=Fm e2;rw[em]at this s1;have er:c.2.2=d.2.2:=by rw[r1,this,<- s1]
   obtain⟨a,b,e⟩:=c;obtain⟨a',b',e'⟩:=d;simp only at h1 d1 em er;subst h1;subst d1;subst em;subst er;rfl
 ·have:=hc.true h1;subst this;cases h2:d.1
  ·unfold Pd at h';rw[h2]at h';cases h'
  ·exact(hd.true h2).symm
section
variable {g:Ba}{D:List Int}{O:List Int}{a b:Ga}
theorem Vv.fR{v w:List ga}(h:Vv v w)(h':Vv w v):v=w:=by
 rw[<- Vq (l:=v) (d:=Aa),<- Vq (l:=w) (d:=Aa),h.e];refine List.map_congr_left λi hi=> ?_
 have hi:=jg.1 hi;rw[<- h.e]at hi;exact a_ (h.ca i hi) (h.cb i hi) (h.le i hi) (h'.le i (by rw[<- h.e];exact hi))
theorem cj.fR(ha:Jj g a)(hb:Jj g b)(h:cj a b)(h':cj b a):a=b:=by
 cases h1:a.1
 ·cases h2:b.1
  ·rw[ha.dd h1,hb.dd h2]
  ·have:=(h' h2).live;rw[h1]at this;cases this
 ·have m:=h h1;have m':=h' m.live;have e1:=m.v.fR m'.v;have e2:=m.w.fR m'.w;have e3:=m.live;obtain⟨x,y,z⟩:=a;obtain⟨x',y',z'⟩:=b;simp only at h1 e1 e2 e3;subst h1;subst e1;subst e2;subst e3;rfl
theorem Tai(hG:Fe g D)(hn:ri g)(ha:Jj g a){j:Nat}(hj:j<g.1.length)(way:Int):zu (g,a,(j:Int),way)=some (ng g a j way):=by
 by_cases wa:Nk g a j way
 ·rw[U_ hj wa];unfold ng;rw[Cx hG hj wa];rfl
 ·have la:a.1=true:=by
   cases h:a.1
   ·exact absurd (.inl h) wa
   ·rfl
  obtain⟨out,o1,o2⟩:=O3 hG (ha.fit la) hn;rw[Uai hG (ha.fit la) o1 o2 hj wa];unfold ng;rw[vE hG (ha.fit la) (λ_=>o2) hj wa];rfl
structure qG(g:Ba)(x:List Ga)(p:Int)(E:Nat->Int->Prop)(s:Ga):Prop where
 st:Jj g s
 ini:p=0->cj (Bo g) s
 up:∀q k,E q k->cj (ng g (gx x q Kb) q k) s
 lst:∀u,Jj g u->(p=0->cj (Bo g) u)->(∀q k,E q k->cj (ng g (gx x q Kb) q k) u)->cj s u
theorem qG.imp{x:List Ga}{p:Int}{E E':Nat->Int->Prop}{s:Ga}(h:qG g x p E s)(he:∀q k,E q k↔E' q k):qG g x p E' s:=
 ⟨h.st,h.ini,λq k hk=>h.up q k ((he q k).2 hk),λu hu hi hk=>h.lst u hu hi λq k hq=>hk q k ((he q k).1 hq)⟩
theorem qG.join(hG:Fe g D)(hn:ri g){x:List Ga}{p:Int}{E:Nat->Int->Prop}{s:Ga}(h:qG g x p E s){q:Nat}(hq:q<g.1.length)(k:Int)(hx:Jj g (gx x q Kb)):
  qG g x p (λq' k'=>E q' k'\/(q'=q/\k'=k)) (Af s (ng g (gx x q Kb) q k)):=by
 obtain⟨_,sr⟩:=Zn hG hn hx hq k;obtain⟨u1,u2,_⟩:=VC hG h.st.fit sr.fit;refine⟨h.st.join sr,λe=>(h.ini e).trans u1,λq' k' he=> ?_,λu hu hi hk=> ?_⟩
 ·rcases he with he|⟨rfl,rfl⟩
  ·exact(h.up q' k' he).trans u1
  ·exact u2
 ·exact(h.lst u hu hi λq' k' he=>hk q' k' (.inl he)).join (hk q k (.inr ⟨rfl,rfl⟩))
theorem Tal(hG:Fe g D)(hn:ri g){R:List Bool}{x:List Ga}{p:Int}{q:Nat}{s:Ga}{E:Nat->Int->Prop}(hR:R.length=g.1.length)(hx:x.length=g.1.length)(Ec:∀j,j<g.1.length->Jj g (gx x j Kb))(hq:q<g.1.length)(h:qG g x p E s):
  ∃e,Ua (Wk.m (R,p,(q:Int),g,false,x)) (0,s)=some e/\qG g x p (λq' k=>E q' k\/(q'=q/\(k=0\/k=1)/\gx R q false=true/\Ue g q k=p)) e:=by
 have bR:V.ua (q:Int) R.length=true:=Tk (by omega);have bg:V.ua (q:Int) g.1.length=true:=Tk hq;have bx:V.ua (q:Int) x.length=true:=Tk (by omega);have one:∀(k:Int)(E:Nat->Int->Prop)(s:Ga),k=0\/k=1->qG g x p E s->∃s',((Bt.m (R,p,(q:Int),k,g,false,s,x)).bind λe1=>Ct.m (R,p,(q:Int),k,e1,g,false,s,x))=some s'/\qG g x p (λq' k'=>E q' k'\/(q'=q/\k'=k/\gx R q false=true/\Ue g q k=p)) s':=λk E s hk h=>by
  have er:Bt.m (R,p,(q:Int),k,g,false,s,x)=some (gx R q false&&decide (Ue g q k=p)):=by
   simp only[PD.m,Bt,bR,bg,Fa,Pa];have z10:¬(1:Int)=0:=by decide
   cases gx R q false
   ·rfl
   ·rcases hk with rfl|rfl
    ·simp only[cond_true,decide_true,Od];rfl
    ·simp only[cond_true,z10,decide_true,decide_false,cond_false,Od];rfl
  rw[er];simp only[da];cases hb:gx R q false&&decide (Ue g q k=p)
  ·simp only[PD.m,Ct,cond_false];refine⟨_,rfl,h.imp λq' k'=>⟨.inl,λh=>h.resolve_right λ⟨_,_,h1,h2⟩=>by rw[h1,h2]at hb;simp at hb⟩⟩
  ·simp only[Ab,decide_eq_true_eq]at hb;have sx:=Ec q hq;obtain⟨_,sr⟩:=Zn hG hn sx hq k;simp only[PD.m,Ct,cond_true,bx,Fa,Pa];rw[Tai hG hn sx hq k];simp only[da];have ej:=yai (a:=s) (b:=ng g (gx x q Kb) q k) (λh1 h2=>h.st.pA hG sr h1 h2);rw[ej];refine⟨_,rfl,(h.join hG hn hq k sx).imp λq' k'=>⟨λh=>h.imp id λ⟨a,b⟩=>⟨a,b,hb.1,hb.2⟩,λh=>h.imp id λ⟨a,b,_⟩=>⟨a,b⟩⟩⟩
 have z0:(0:Int)<2:=by decide
 have z1:(1:Int)<2:=by decide
 have w0:Ka ((0:Int)+1)=1:=by decide
 have w1:Ka ((1:Int)+1)=2:=by decide
 obtain⟨s1,a1,a2⟩:=one 0 E s (.inl rfl) h;obtain⟨s2,b1,b2⟩:=one 1 _ s1 (.inr rfl) a2;obtain⟨e1,a3,a4⟩:=aa.1 a1;obtain⟨e2,b3,b4⟩:=aa.1 b1;have Q9:Wk.m (R,p,(q:Int),g,false,x) (0,s)=some (.inl (1,s1)):=by
  simp only[LD.m,Wk,z0,decide_true,cond_true,w0];rw[a3];simp only[da];rw[a4];rfl
 have st1:Wk.m (R,p,(q:Int),g,false,x) (1,s1)=some (.inl (2,s2)):=by
  simp only[LD.m,Wk,z1,decide_true,cond_true,w1];rw[b3];simp only[da];rw[b4];rfl
 have st2:Wk.m (R,p,(q:Int),g,false,x) (2,s2)=some (.inr s2):=by
  simp only[LD.m,Wk,Tb,decide_false,cond_false]
 refine⟨s2,?_,b2.imp λq' k=> ?_⟩
 ·obtain⟨e,h1,h2⟩:=Gc (step:=Wk.m (R,p,(q:Int),g,false,x)) (t:=(0,s)) (λt=>t=(0,s)\/t=(1,s1)\/t=(2,s2)) (λt=>2-t.1.toNat) (λe=>e=s2) (.inl rfl) (by simp) (λt ht=>by
   rcases ht with rfl|rfl|rfl
   ·exact .inl ⟨_,Q9,.inr (.inl rfl),Nat.lt_add_one 1⟩
   ·exact .inl ⟨_,st1,.inr (.inr rfl),Nat.lt_add_one 0⟩
   ·exact .inr ⟨_,st2,rfl⟩)
  rw[h1,h2]
 ·constructor
  ·rintro((h|⟨a,b,c,d⟩)|⟨a,b,c,d⟩)
   ·exact .inl h
   ·subst b;exact .inr ⟨a,.inl rfl,c,d⟩
   ·subst b;exact .inr ⟨a,.inr rfl,c,d⟩
  ·rintro(h|⟨a,rfl|rfl,c,d⟩)
   ·exact .inl (.inl h)
   ·exact .inl (.inr ⟨a,rfl,c,d⟩)
   ·exact .inr ⟨a,rfl,c,d⟩
def Ed(g:Ba)(R:List Bool)(p:Int)(q:Nat)(k:Int):Prop:=q<g.1.length/\(k=0\/k=1)/\gx R q false=true/\Ue g q k=p
theorem V2(hG:Fe g D)(hn:ri g){R:List Bool}{x:List Ga}(p:Int)(hR:R.length=g.1.length)(hx:x.length=g.1.length)(Ec:∀j,j<g.1.length->Jj g (gx x j Kb)):∃s,sq (g,R,p,x)=some s/\qG g x p (Ed g R p) s:=by
 have hN:=hG.N;obtain⟨s0,h0,hI⟩:∃s0,qz.m (R,p,decide (p=0),g,false,false,x)=some s0/\qG g x p (λ_ _=>False) s0:=by
  by_cases h:p=0
  ·simp only[PD.m,qz,h,decide_true,cond_true];rw[zai (GI hG)];exact⟨Bo g,rfl,NB hG,λ_=>cj.refl (NB hG),λ_ _ h=>h.elim,λu _ hi _=>hi rfl⟩
  ·simp only[PD.m,qz,h,decide_false,cond_false];exact⟨Ye,rfl,.dead,λe=>absurd e h,λ_ _ h=>h.elim,λu _ _ _=> .dead⟩
 unfold sq iT;simp only;rw[h0];simp only[da];obtain⟨e,q1,q2⟩:=Gc (step:=pz.m (R,p,g,false,x)) (t:=(0,s0)) (λt=>∃i:Nat,i<=g.1.length/\t.1=(i:Int)/\qG g x p (λq k=>q<i/\(k=0\/k=1)/\gx R q false=true/\Ue g q k=p) t.2) (λt=>g.1.length-t.1.toNat) (λe=>qG g x p (Ed g R p) e)
  ⟨0,Ac _,rfl,hI.imp λq k=>⟨λh=>h.elim,λh=>absurd h.1 (Td _)⟩⟩ (by simp only;omega) (λt⟨i,hi,ht,hS⟩=>by
  obtain⟨ti,s⟩:=t;simp only at ht hS;subst ht;simp only[LD.m,pz,nt];by_cases Mc:i<g.1.length
  ·have h':(i:Int)<(g.1.length:Int):=by omega
   simp only[h',decide_true,cond_true];obtain⟨e,e1,e2⟩:=Tal hG hn hR hx Ec Mc hS;have e1':Ua (Wk.m (R,p,(i:Int),g,false,x)) (0,s.1,s.2.1,s.2.2)=some e:=e1;rw[e1',Ya (n:=(i:Int)+1) (by omega) (by omega)];refine .inl ⟨_,rfl,⟨i+1,Mc,by simp only;omega,e2.imp λq k=> ?_⟩,by simp only;omega⟩;constructor
   ·rintro(⟨a,b⟩|⟨rfl,b⟩)
    ·exact⟨by omega,b⟩
    ·exact⟨by omega,b⟩
   ·rintro⟨a,b⟩
    by_cases e:q=i
    ·subst e;exact .inr ⟨rfl,b⟩
    ·exact .inl ⟨by omega,b⟩
  ·have MK:i=g.1.length:=by omega
   subst MK;simp only[Tb,decide_false,cond_false];exact .inr ⟨_,rfl,hS⟩)
 have OY:Ua (pz.m (R,p,g,false,x)) (0,s0.1,s0.2.1,s0.2.2)=some e:=q1;rw[OY];exact⟨e,rfl,q2⟩
theorem Iah(hG:Fe g D)(ha:Jj g a)(hb:Jj g b):∃r,kH (a,b)=some r/\(r=true↔a=b):=by
 have same:a=b->a.1=b.1/\a.2.1.length=b.2.1.length/\a.2.2.length=b.2.2.length:=λe=>by subst e;exact⟨rfl,rfl,rfl⟩
 unfold kH fT;simp only[nt];by_cases h1:a.1=b.1
 ·have b1:(a.1==b.1)=true:=by rw[h1];simp
  simp only[b1,cond_true];by_cases h2:(a.2.1.length:Int)=b.2.1.length
  ·simp only[h2,decide_true,cond_true];by_cases h3:(a.2.2.length:Int)=b.2.2.length
   ·simp only[h3,decide_true,cond_true];rw[yP (λl1 l2=>ha.pA hG hb l1 l2),yP (λl1 l2=>hb.pA hG ha l1 l2)];simp only[da];cases q1:Fl a b
    ·refine⟨_,rfl,λh=>(by cases h),λe=> ?_⟩;subst e;rw[(cj.refl ha).leq]at q1;cases q1
    ·cases q2:Fl b a
     ·refine⟨_,rfl,λh=>(by cases h),λe=> ?_⟩;subst e;rw[(cj.refl ha).leq]at q2;cases q2
     ·exact⟨_,rfl,λ_=>cj.fR ha hb (Ys ha hb q1) (Ys hb ha q2),λ_=>rfl⟩
   ·simp only[h3,decide_false,cond_false];exact⟨_,rfl,λh=>(by cases h),λe=>absurd (by rw[(same e).2.2]) h3⟩
  ·simp only[h2,decide_false,cond_false];exact⟨_,rfl,λh=>(by cases h),λe=>absurd (by rw[(same e).2.1]) h2⟩
 ·have b1:(a.1==b.1)=false:=by simpa using h1
  simp only[b1,cond_false];exact⟨_,rfl,λh=>(by cases h),λe=>absurd (same e).1 h1⟩
end
end Go.U
end
section
set_option maxRecDepth 20000
namespace Go.U
open Go
section
variable {g:Ba}{D:List Int}{O:List Int}{R:List Bool}
theorem KR{O O':List Int}(h:Ij g O)(h':Ij g O')(x:Int):x∈O↔x∈O':=
 ⟨λhx=>h.mn (· ∈O') ⟨h'.z,λy hy k hk h0=>h'.cl y hy k hk h0⟩ x hx,λhx=>h'.mn (· ∈O) ⟨h.z,λy hy k hk h0=>h.cl y hy k hk h0⟩ x hx⟩
def RO(g:Ba)(R:List Bool)(O:List Int):Prop:=R.length=g.1.length/\∀q,q<g.1.length->(gx R q false=true↔(q:Int)∈O)
structure XI(g:Ba)(O:List Int)(R:List Bool)(x:List Ga):Prop where
 len:x.length=g.1.length
 st:∀j,j<g.1.length->Jj g (gx x j Kb)
 grow:∀p∈O,∀u,Jj g u->(p=0->cj (Bo g) u)->(∀q k,Ed g R p q k->cj (ng g (gx x q Kb) q k) u)->cj (gx x p.toNat Kb) u
 least:∀l,L8 g O l->∀j,j<g.1.length->cj (gx x j Kb) (gx l j Kb)
theorem XI.set(hG:Fe g D)(hn:ri g)(hO:Ij g O)(hR:RO g R O){x:List Ga}{p:Int}{s:Ga}(h:XI g O R x)(hp:p∈O)(hs:qG g x p (Ed g R p) s)(td:s≠gx x p.toNat Kb):
  XI g O R (x.set p.toNat s)/\RK g (x.set p.toNat s)<RK g x:=by
 obtain⟨p0,p1⟩:=hO.dO p hp;have hl:=h.len;have Zo:p.toNat<g.1.length:=by omega
 have hxp:=h.st p.toNat Zo;have up:=h.grow p hp s hs.st hs.ini hs.up;have get:=λj=>Nc (l:=x) (i:=p.toNat) (j:=j) (d:=Kb) (x:=s) (by omega)
 have le:∀q,q<g.1.length->cj (gx x q Kb) (gx (x.set p.toNat s) q Kb):=λq hq=>by
  rw[get];split
  ·rename_i e;rw[<- e];exact up
  ·exact cj.refl (h.st q hq)
 have Ec:∀j,j<g.1.length->Jj g (gx (x.set p.toNat s) j Kb):=λj hj=>by
  rw[get];split
  ·exact hs.st
  ·exact h.st j hj
 have down:∀{p':Int}{u:Ga},(∀q k,Ed g R p' q k->cj (ng g (gx (x.set p.toNat s) q Kb) q k) u)->∀q k,Ed g R p' q k->cj (ng g (gx x q Kb) q k) u:=λhu q k he=>
  (Ku hG hn (h.st q he.1) (Ec q he.1) (le q he.1) he.1 k).trans (hu q k he)
 refine⟨⟨by rw[Wa];exact hl,Ec,λp' bz u hu hi hk=> ?_,λl hL j hj=> ?_⟩,?_⟩
 ·rw[get];split
  ·rename_i e;have:p'=p:=by have:=hO.dO p' bz;omega
   subst this;exact hs.lst u hu hi (down hk)
  ·exact h.grow p' bz u hu hi (down hk)
 ·rw[get];split
  ·rename_i e;rw[<- e];refine hs.lst _ (hL.st _ Zo) (λe0=>by subst e0;exact hL.init) λq k he=> ?_
   obtain⟨h1,h2,h3,h4⟩:=he;have hq:=(hR.2 q h1).1 h3;have:=hL.step (q:Int) hq k h2 (by rw[Pa,h4];exact p0);rw[Pa,h4]at this;exact(Ku hG hn (h.st q h1) (hL.st q h1) (h.least l hL q h1) h1 k).trans this
  ·exact h.least l hL j hj
 ·have dD:¬cj s (gx x p.toNat Kb):=λhh=>td (cj.fR hs.st hxp hh up)
  have hr:=zR hG hxp hs.st dD;obtain⟨u1,u2,_⟩:=VC hG hxp.fit hs.st.fit;have e:Af (gx x p.toNat Kb) s=s:=cj.fR (hxp.join hs.st) hs.st (up.join (cj.refl hs.st)) u2;rw[e]at hr;have wZ:=dw (f:=λj=>rk (gx x j Kb)) (h:=λj=>rk (gx (x.set p.toNat s) j Kb)) (i:=p.toNat) (n:=g.1.length) Zo (λj hj td=>by(try simp only);rw[get,if_neg (λe=>td e.symm)])
  try simp only at wZ
  rw[get p.toNat,if_pos rfl]at wZ;unfold RK;omega
theorem Xal(hG:Fe g D)(hn:ri g)(hO:Ij g O)(hR:RO g R O){O':List Int}(hO':Ij g O'){x:List Ga}(h:XI g O R x):
  ∃e,Ua (yz.m (R,O',g)) (false,0,x)=some e/\XI g O R e.2/\((e.1=true/\RK g e.2<RK g x)\/(e.1=false/\e.2=x/\∀p∈O',qG g e.2 p (Ed g R p) (gx e.2 p.toNat Kb))):=by
 have hON:=hO'.n;refine Gc (step:=yz.m (R,O',g)) (t:=(false,0,x)) (λt=>∃i:Nat,i<=O'.length/\t.2.1=(i:Int)/\XI g O R t.2.2/\((t.1=true/\RK g t.2.2<RK g x)\/(t.1=false/\t.2.2=x/\∀j,j<i->qG g x (gx O' j 0) (Ed g R (gx O' j 0)) (gx x (gx O' j 0).toNat Kb)))) (λt=>O'.length-t.2.1.toNat) _
  ⟨0,Ac _,rfl,h,.inr ⟨rfl,rfl,λj hj=>absurd hj (Td _)⟩⟩ (by simp only;omega) λt⟨i,hi,ht,hX,hm⟩=> ?_
 obtain⟨mv,ti,y⟩:=t;simp only at ht hX hm;subst ht;simp only[LD.m,yz,nt];by_cases Mc:i<O'.length
 ·have h':(i:Int)<(O'.length:Int):=by omega
  have bz:gx O' i (0:Int)∈O':=Eb (ym Mc);obtain⟨p0,p1⟩:=hO'.dO _ bz;have hp:=(KR hO hO' _).2 bz;have AO:=hX.len;generalize j_:gx O' i (0:Int)=p at *
  have bp:V.ua p y.length=true:=Sd p0 (by omega);have Zo:p.toNat<g.1.length:=by omega
  obtain⟨s,s1,s2⟩:=V2 hG hn (R:=R) (x:=y) p hR.1 AO hX.st;obtain⟨r,r1,r2⟩:=Iah hG s2.st (hX.st p.toNat Zo);simp only[h',decide_true,cond_true,Tk Mc,Fa,Pa,j_];rw[s1];simp only[da,bp,Fa];rw[r1];simp only[da];rw[Ya (n:=(i:Int)+1) (by omega) (by omega)];cases r with
  |false=>
   have td:s≠gx y p.toNat Kb:=λe=>by have:=r2.2 e;cases this
   obtain⟨q1,q2⟩:=hX.set hG hn hO hR hp s2 td;simp only[Sb,cond_true,bp,Fa];refine .inl ⟨_,rfl,⟨i+1,Mc,by simp only;omega,q1,.inl ⟨rfl,?_⟩⟩,by simp only;omega⟩;rcases hm with⟨_,hm⟩|⟨_,rfl,_⟩
   ·exact Nat.lt_trans q2 hm
   ·exact q2
  |true=>
   simp only[Ub,cond_false];refine .inl ⟨_,rfl,⟨i+1,Mc,by simp only;omega,hX,hm.imp id λ⟨a,b,c⟩=>⟨a,b,λj hj=> ?_⟩⟩,by simp only;omega⟩;by_cases e:j=i
   ·subst e;subst b;rw[j_];have e2:=r2.1 rfl;rw[<- e2];exact s2
   ·exact c j (by omega)
 ·have MK:i=O'.length:=by omega
  subst MK;simp only[Tb,decide_false,cond_false];refine .inr ⟨_,rfl,hX,hm.imp id λ⟨a,b,c⟩=>⟨a,b,λp hp=> ?_⟩⟩;obtain⟨q,q1,q2⟩:=(Ty (0:Int)).1 hp;simp only at b ⊢;subst b;have:=c q q1;rw[q2]at this;exact this
theorem Oai(hG:Fe g D)(hn:ri g)(hO:Ij g O):∃X,pE g=some X/\L8 g O X/\∀l,L8 g O l->∀j,j<g.1.length->cj (gx X j Kb) (gx l j Kb):=by
 have hN:=hG.N;have gW:=hG.N1;obtain⟨R,a1,a2⟩:=x3 hG;obtain⟨O',o1,hO'⟩:=Nah hG;have hR:RO g R O:=⟨a2.len,λq hq=>by
  have:=a2.ord hO (q:Int);rw[<- this];unfold yf;rw[Pa];exact⟨λh=>⟨by omega,by rw[a2.len];omega,h⟩,λh=>h.2.2⟩⟩
 unfold pE ZT;have hT:ia (nt g.1.length)=g.1.length:=by simp[nt]
 have b1:(decide ((0:Int)<=nt g.1.length)&&decide (nt g.1.length<=nt g.1.length)&&decide (56 * nt g.1.length<=70368744177664)&&decide (nt g.1.length<9223372036854775808))=true:=by have hnt:nt g.1.length=(g.1.length:Int):=rfl;simp;omega
 simp only[hT,b1,Fa];rw[a1];simp only[da];rw[o1];simp only[da];obtain⟨Z,hZ⟩:∃Z,fb g.1.length ((false,([],[])):Ga)=Z:=⟨_,rfl⟩;have hZl:Z.length=g.1.length:=by rw[<- hZ];simp
 have hZg:∀j,j<g.1.length->gx Z j Kb=Ye:=λj hj=>by rw[<- hZ];simp[gx,Qi,hj,Ye]
 rw[hZ];have hX:XI g O R Z:=⟨hZl,λj hj=>by rw[hZg j hj];exact .dead,λp hp u _ _ _=>by rw[hZg _ (by have:=hO.dO p hp;omega)];exact .dead,λl _ j hj=>by rw[hZg j hj];exact .dead⟩;have war:∀{y:List Ga},XI g O R y->RK g y<=1424967069929472:=λ{y}h=>by
  have h1:=mm (f:=λj=>rk (gx y j Kb)) (n:=g.1.length) λj hj=>JY hG (h.st j hj)
  generalize hc:(347892351057:Nat)=c at h1;have h3:=Db h1 (Vc c hN);rw[<- hc]at h3;exact h3
 obtain⟨X,q1,q2,q3⟩:=Gc (step:=zz.m (R,O',g)) (t:=(true,Z)) (λt=>XI g O R t.2/\(t.1=false->∀p∈O',qG g t.2 p (Ed g R p) (gx t.2 p.toNat Kb))) (λt=>2 * RK g t.2+cond t.1 1 0) (λe=>XI g O R e/\∀p∈O',qG g e p (Ed g R p) (gx e p.toNat Kb)) ⟨hX,λh=>(by cases h)⟩ (by
  have:=war hX;simp only[cond_true];omega) (λt⟨hI,hF⟩=>by
  obtain⟨mv,y⟩:=t;simp only at hI hF;cases mv with
  |false=>
   simp only[LD.m,zz,cond_false];exact .inr ⟨_,rfl,hI,hF rfl⟩
  |true=>
   simp only[LD.m,zz,cond_true];obtain⟨e,e1,e2,e3⟩:=Xal hG hn hO hR hO' hI;rw[e1];refine .inl ⟨_,rfl,⟨e2,λh=> ?_⟩,?_⟩
   ·rcases e3 with⟨h',_⟩|⟨_,_,h'⟩
    ·rw[h']at h;cases h
    ·exact h'
   ·rcases e3 with⟨h',h''⟩|⟨h',h'',_⟩
    ·rw[h'];simp only[cond_true];omega
    ·rw[h',h''];simp only[cond_false,cond_true];omega)
 rw[q1];refine⟨X,rfl,⟨q2.len,q2.st,?_,λx hx k hk h0=> ?_⟩,q2.least⟩
 ·exact(q3 0 hO'.z).ini rfl
 ·have MZ:=hO.cl x hx k hk h0;obtain⟨x0,x1⟩:=hO.dO x hx;have BO:((x.toNat:Nat):Int)=x:=by omega
  exact(q3 _ ((KR hO hO' _).1 MZ)).up x.toNat k ⟨by omega,hk,(hR.2 _ (by omega)).2 (by rw[BO];exact hx),rfl⟩
theorem gV(hG:Fe g D)(hn:ri g):∃P O,bB g=some P/\pE g=some P/\xu g=some O/\Ij g O/\L8 g O P:=by
 obtain⟨P,O,p1,p2,hO,hP,lP⟩:=Pai hG hn;obtain⟨X,x1,hX,lX⟩:=Oai hG hn hO;have e:X=P:=by
  have eX:=Vq (l:=X) (d:=Kb);have eP:=Vq (l:=P) (d:=Kb);rw[<- eX,<- eP,hX.len,hP.len];refine List.map_congr_left λi hi=> ?_
  have hi:=jg.1 hi;exact cj.fR (hX.st i hi) (hP.st i hi) (lX P hP i hi) (lP X hX i hi)
 exact⟨P,O,p1,e ▸ x1,p2,hO,hP⟩
theorem Kai{l:List Ga}(hG:Fe g D)(hn:ri g)(hO:Ij g O)(Ec:∀j,j<l.length->Jj g (gx l j Kb)):∃b,wH (g,l)=some b/\(b=true↔L8 g O l):=by
 have hN:=hG.N;have gW:=hG.N1;unfold wH XT;by_cases hlen:l.length=g.1.length
 ·have hd:decide (nt l.length=nt g.1.length)=true:=decide_eq_true (by rw[hlen]);simp only[hd,Ub,cond_false];obtain⟨R,a1,a2⟩:=x3 hG;have hR:RO g R O:=⟨a2.len,λq hq=>by
   have:=a2.ord hO (q:Int);rw[<- this];unfold yf;rw[Pa];exact⟨λh=>⟨by omega,by rw[a2.len];omega,h⟩,λh=>h.2.2⟩⟩
  rw[a1];simp only[da];have TV:∀j,j<g.1.length->Jj g (gx l j Kb):=λj hj=>Ec j (by omega)
  have key:∀i:Nat,i<l.length->∃s,sq (g,R,(i:Int),l)=some s/\qG g l (i:Int) (Ed g R (i:Int)) s:=λi _=>V2 hG hn (i:Int) hR.1 hlen TV
  let pb:Nat->Bool:=λi=>Fl ((sq (g,R,(i:Int),l)).getD Ye) (gx l i Kb)
  have:=Zh (n:=l.length) (by omega) (p:=pb) (step:=wz.m (l,R,g)) (λi hi=>by
   have h':(i:Int)<(l.length:Int):=by omega
   obtain⟨s,s1,s2⟩:=key i hi;have X8:pb i=Fl s (gx l i Kb):=by show Fl ((sq (g,R,(i:Int),l)).getD Ye) _=_;rw[s1];rfl
   simp only[LD.m,wz,nt,h',decide_true,cond_true];rw[laq,s1];simp only[da,Tk hi,Fa,Pa];rw[yP (λl1 l2=>s2.st.pA hG (Ec i hi) l1 l2),X8];simp only[da];cases Fl s (gx l i Kb)<;>rfl) (by
   simp only[LD.m,wz,nt,Tb,decide_false,cond_false])
  rw[this];simp only[da];have Zal:((mb l.length).all pb)=true↔L8 g O l:=by
   rw[ec];constructor
   ·intro h;have le:∀i:Nat,i<l.length->∃s,qG g l (i:Int) (Ed g R (i:Int)) s/\cj s (gx l i Kb):=λi hi=>by
     obtain⟨s,s1,s2⟩:=key i hi;have hp:=h i (jg.2 hi);have X8:pb i=Fl s (gx l i Kb):=by show Fl ((sq (g,R,(i:Int),l)).getD Ye) _=_;rw[s1];rfl
     rw[X8]at hp;exact⟨s,s2,Ys s2.st (Ec i hi) hp⟩
    refine⟨hlen,TV,?_,λx hx k hk h0=> ?_⟩
    ·obtain⟨s,s1,s2⟩:=le 0 (by omega);exact(s1.ini rfl).trans s2
    ·obtain⟨x0,x1⟩:=hO.dO x hx;have Mc:=NG hG (j:=x.toNat) (by omega) hk;obtain⟨s,s1,s2⟩:=le (Ue g x.toNat k).toNat (by omega);have BO:((x.toNat:Nat):Int)=x:=by omega
     exact(s1.up x.toNat k ⟨by omega,hk,(hR.2 _ (by omega)).2 (by rw[BO];exact hx),by omega⟩).trans s2
   ·intro h i hi;have hi:=jg.1 hi;obtain⟨s,s1,s2⟩:=key i hi;have X8:pb i=Fl s (gx l i Kb):=by show Fl ((sq (g,R,(i:Int),l)).getD Ye) _=_;rw[s1];rfl
    rw[X8];refine(s2.lst _ (Ec i hi) (λe=> ?_) λq k he=> ?_).leq
    ·have:i=0:=by omega
     subst this;exact h.init
    ·obtain⟨h1,h2,h3,h4⟩:=he;have:=h.step (q:Int) ((hR.2 q h1).1 h3) k h2 (by rw[Pa,h4];omega);rw[Pa,h4,Pa]at this;exact this
  cases hb:(mb l.length).all pb
  ·exact⟨false,rfl,λh=>(by cases h),λh=>by rw[Zal.2 h]at hb;cases hb⟩
  ·exact⟨true,rfl,λ_=>Zal.1 hb,λ_=>rfl⟩
 ·have hd:decide (nt l.length=nt g.1.length)=false:=decide_eq_false λe=>hlen (by simp only[nt]at e;omega)
  simp only[hd,Sb,cond_true];exact⟨false,rfl,λh=>(by cases h),λh=>absurd h.len hlen⟩
end
end Go.U
end
section
set_option maxRecDepth 100000
namespace Go.U
open Go Go.Proofs
theorem sd.stood{w w':World}{c:CT}{x:Ib c}{cs:List Value}(h:sd (ji w) w c x cs)(hS:Stood w w'):sd (ji w') w' c x cs:=h.mono ⟨λb h=>h.elim,λR hR=>⟨Sa hR hS.1,hS.2.1 R hR⟩⟩
theorem ny[Inhabited V.Rn]{g:V.Gx}{w:World}{c:CT}{x:Ib c}{cs:List Value}(h:sd g w c x cs):∃a,(∀m,RV m (qy true c x) a)/\V.Cb g w a (.agg cs.toArray):=by
 obtain⟨h1,h2,l,h3,h4,h5⟩:=h;exact⟨.agg l,λm=> .agg _ _ (h3 m).1 (h3 m).2,.agg l cs h4.symm h2 h5⟩
theorem Oab[Inhabited V.Rn]{g:V.Gx}{w:World}{c:CT}{x:List (Ib c)}{v:Value}(h:sd g w (.slice c) x [v]):∃a,(∀m,RV m (.lit c x) a)/\V.Cb g w a v:=by
 obtain⟨h1,h2,l,h3,h4,h5⟩:=h;rcases l with _|⟨a,_|⟨a2,rest⟩⟩<;>simp at h4
 exact⟨a,λm=>(h3 m).2 0 _ a rfl rfl,h5 0 a v rfl rfl⟩
theorem E_{w w':World}(h:∀i row,par.Na i=some row->V.tg (ji w) w i row)(hS:Stood w w'):∀i row,par.Na i=some row->V.tg (ji w') w' i row:=λi row hi=>(h i row hi).mono (g:=ji w) ⟨λb h=>False.elim h,λR hR=>⟨Sa hR hS.1,hS.2.1 R hR⟩⟩
theorem K0:∀i row,par.Na i=some row->∀(c:Nat)(x:V.AV),row[c]?=some x->noB 1 x:=λi row h c x hx=>by
 have hm:=uo (show vo none [(1,some sw)] i=some row from h);rcases me.1 hm with e|hm
 ·cases e;have hp:sw=Lib.pow10Tab.map (λz=>V.AV.int .u64 z):=rfl;rw[hp,xe]at hx;obtain⟨z,_,rfl⟩:=ja.1 hx;trivial
 ·cases hm
section
variable {k:Nat}{f:FuncId}{fn:Func}{sp:Spec}
theorem bat(hf:par.fns f=some fn)(hb:fn.body.isSome=true)(D0:Df (V.call par k) f sp){b:Bool}{x:Ba}{w:World}{cs:List Value}(ue:sp UV [qy true gh x] ⟨[],0⟩ (λr _=>some r)=some (.bool b))
  (hg:∀i row,par.Na i=some row->V.tg (ji w) w i row) (hx:sd (ji w) w gh x cs):Calls Tryz.prog f #[.agg cs.toArray] w (TK b w):=by
 obtain⟨a,a1,a2⟩:=ny hx;exact Zs (A:=par) jz VE Po dy hf hb D0 (av:=[a]) (vs:=[.agg cs.toArray]) ue (λm=>RL.cons (a1 m) RL.nil) (Xv hg) rfl λi x v hx hv=>by
  match i,hx,hv with
  |0,hx,hv=>simp at hx hv;subst hx;subst hv;exact a2
  |i+1,hx,_=>simp at hx
theorem sak(hf:par.fns f=some fn)(hb:fn.body.isSome=true)(D0:Df (V.call par k) f sp){b:Bool}{x:Ba}{l:List Ga}{w:World}{cs:List Value}{v:Value}(ue:sp UV [qy true gh x,.lit Rc l] ⟨[],0⟩ (λr _=>some r)=some (.bool b))
  (hg:∀i row,par.Na i=some row->V.tg (ji w) w i row) (hx:sd (ji w) w gh x cs) (hl:sd (ji w) w (.slice Rc) l [v]):Calls Tryz.prog f #[.agg cs.toArray,v] w (TK b w):=by
 obtain⟨a,a1,a2⟩:=ny hx;obtain⟨a',b1,b2⟩:=Oab hl;exact Zs (A:=par) jz VE Po dy hf hb D0 (av:=[a,a']) (vs:=[.agg cs.toArray,v]) ue (λm=>RL.cons (a1 m) (RL.cons (b1 m) RL.nil)) (Xv hg) rfl λi x v hx hv=>by
  match i,hx,hv with
  |0,hx,hv=>simp at hx hv;subst hx;subst hv;exact a2
  |1,hx,hv=>simp at hx hv;subst hx;subst hv;exact b2
  |i+2,hx,_=>simp at hx
theorem aat(hf:par.fns f=some fn)(hb:fn.body.isSome=true)(D0:Df (V.call par k) f sp){b:Bool}{x y:Ga}{w:World}{cs ds:List Value}(ue:sp UV [qy true Rc x,qy true Rc y] ⟨[],0⟩ (λr _=>some r)=some (.bool b))
  (hg:∀i row,par.Na i=some row->V.tg (ji w) w i row) (hx:sd (ji w) w Rc x cs) (hy:sd (ji w) w Rc y ds):Calls Tryz.prog f #[.agg cs.toArray,.agg ds.toArray] w (TK b w):=by
 obtain⟨a,a1,a2⟩:=ny hx;obtain⟨a',b1,b2⟩:=ny hy;exact Zs (A:=par) jz VE Po dy hf hb D0 (av:=[a,a']) (vs:=[.agg cs.toArray,.agg ds.toArray]) ue (λm=>RL.cons (a1 m) (RL.cons (b1 m) RL.nil)) (Xv hg) rfl λi x v hx hv=>by
  match i,hx,hv with
  |0,hx,hv=>simp at hx hv;subst hx;subst hv;exact a2
  |1,hx,hv=>simp at hx hv;subst hx;subst hv;exact b2
  |i+2,hx,_=>simp at hx
theorem eat(hf:par.fns f=some fn)(hb:fn.body.isSome=true)(D0:Df (V.call par k) f sp){b:Bool}{w:World}(ue:sp UV [] ⟨[],0⟩ (λr _=>some r)=some (.bool b))
  (hg:∀i row,par.Na i=some row->V.tg (ji w) w i row):Calls Tryz.prog f #[] w (TK b w):=
 Zs (A:=par) jz VE Po dy hf hb D0 (av:=[]) (vs:=[]) ue (λm=>RL.nil) (Xv hg) rfl λi x v hx hv=>by simp at hx
theorem G'[Inhabited V.Rn]{g:V.Gx}{w:World}(hn:∀R,¬V.nN R->¬V.nO R/\w.heap.size<=R)(hf:par.fns f=some fn)(hb:fn.body.isSome=true)(hW:V.Jc par.Na g w ⟨[],0⟩){a:V.AV}{v0:Value}(ha:V.Cb g w a v0){r':V.AV}{zd:V.AH}(h3:V.call par k (.fn f []) [a] ⟨[],0⟩=some (r',zd))
  {m':Mp} {P:List Ga} (h4:RV m' (.lit Rc P) r'):Calls Tryz.prog f #[v0] w (New Rc P w):=by
 refine(LX (A:=par) jz VE Po dy hf hb (av:=[a]) (vs:=[v0]) h3 hW rfl λi x v hx hv=> ?_).mono ?_
 ·match i,hx,hv with
  |0,hx,hv=>simp at hx hv;subst hx;subst hv;exact ha
  |i+1,hx,_=>simp at hx
 ·rintro e w' ⟨v,rfl,g',hv,hW',hE⟩
  have hc:sd g' w' (.slice Rc) P [v]:=by
   refine sd.one r' rfl (.lit Rc P) rfl ?_ (λm=> ?_) hv
   ·cases h4 with
    |bh _ _ h=>rcases h with rfl|rfl<;>cases hv<;>rfl
    |lit _ _ rows=>cases hv<;>rfl
   ·exact(RL.any (.slice Rc) P [r'] (RL.cons h4 RL.nil) m).2 0 _ _ rfl rfl
  have ha:=qn hW'.yF hn (.slice Rc) P [v] rfl hc;have ZG:=ha;obtain⟨p,cap,e,_⟩:=ZG;injection e with e;subst e
  exact⟨p,cap,rfl,⟨hE.size,λR hR=>hE.Al R hR (λ⟨b,⟨_,x,hx,_⟩,_⟩=>by simp at hx),hE.io⟩,ha⟩
theorem Oal(hf:par.fns f=some fn)(hb:fn.body.isSome=true)(D0:Df (V.call par k) f sp){P:List Ga}{x:Ba}{w:World}{cs:List Value}(ue:sp UV [qy true gh x] ⟨[],0⟩ (λr _=>some r)=some (.lit Rc P))
  (hg:∀i row,par.Na i=some row->V.tg (ji w) w i row) (hx:sd (ji w) w gh x cs):Calls Tryz.prog f #[.agg cs.toArray] w (New Rc P w):=by
 obtain⟨a,a1,a2⟩:=@ny (Aw w) (M0 w) w _ _ _ (hx.nb (by rfl) (Aw w) (M0 w) λ_ h=>h);obtain⟨r,H',h1,_,h2⟩:=D0 UV _ ⟨[],0⟩ _ _ ue;injection h1 with h1;subst h1
 obtain⟨r',zd,h3,m',_,h4,_⟩:=h2 ⟨λ_ _=>none,λ_ _=>0,0⟩ ⟨[],0⟩ [a] [] ⟨λb _ x h=>by simp at h,λb y h=>by simp at h,λb b' _ _ x h=>by obtain⟨_,h,_⟩:=h;simp at h,λb _ x h=>by simp at h,ya _,rfl⟩ (RL.cons (a1 _) RL.nil);exact @G' k f fn (Aw w) (M0 w) w (λR h=>⟨h,Nat.not_lt.1 h⟩) hf hb (sY hg K0) a _ a2 r' zd h3 m' P h4
end
end Go.U
end
section
set_option maxRecDepth 100000
namespace Go.U
open Go Go.Proofs
theorem ML{lo hi:Nat}{w:World}{l:List ga}{v:Value}(h:At lo hi w (.slice Ma) l [v]):∃p cap,v= .slice p l.length cap/\Inn lo hi w p l.length:=by
 obtain⟨p,cap,e,_,h1⟩:=h;injection e with e;subst e
 refine⟨p,cap,rfl,λhn=> ?_,λb o e i hi=> ?_⟩
 ·obtain⟨b,o,e,_,h2,h3,h4,_⟩:=h1 (by rintro rfl;exact hn rfl);exact⟨b,o,e,h2,h3,h4⟩
 ·obtain⟨b',o',e',_,_,_,_,h6⟩:=h1 (λe=>by rw[e]at hi;exact absurd hi (Td _));rw[e]at e';injection e' with e';injection e' with e1 e2;subst e1;subst e2
  obtain⟨ds,k1,k2,k3⟩:=h6 i _ (Da hi);generalize l[i]=c at k1;obtain⟨c0,c1,c2⟩:=c;have k2:ds.length=3:=k2
  match ds,k2 with
  |[x,y,z],_=>
   obtain⟨q0,q1,q2⟩:=k1;obtain rfl:x= .bool c0:=List.singleton_inj.1 (show[x]=[.bool c0]from q0);obtain rfl:y= .int .i64 c1:=List.singleton_inj.1 (show[y]=[.int .i64 c1]from q1);obtain rfl:z= .int .i64 c2:=List.singleton_inj.1 (show[z]=[.int .i64 c2]from q2);exact⟨c0,c1,c2,k3 0 _ rfl,k3 1 _ rfl,k3 2 _ rfl⟩
theorem waf{g:Ba}{D:List Int}(hG:Fe g D){lo hi:Nat}{w:World}{x:Ga}{d0 d1 d2:Value}(hx:Jj g x)(h:At lo hi w Rc x [d0,d1,d2]):∃b p1 n1 k1 p2 n2 k2,d0= .bool b/\d1= .slice p1 n1 k1/\d2= .slice p2 n2 k2/\n1<=64/\n2<=64/\Inn lo hi w p1 n1/\Inn lo hi w p2 n2:=by
 obtain⟨b,l,m⟩:=x;obtain⟨q0,q1,q2⟩:=h;have q0:[d0]=[.bool b]:=q0;injection q0 with q0
 obtain⟨p1,k1,e1,i1⟩:=ML (v:=d1) q1;obtain⟨p2,k2,e2,i2⟩:=ML (v:=d2) q2;have hl:l.length<=64/\m.length<=64:=by
  cases b with
  |false=>have e:=hx.dd rfl;simp only[Ye,Qe,true_and]at e;rw[e.1,e.2];exact⟨Ac _,Ac _⟩
  |true=>have a:=(hx.v rfl).n;have c:=(hx.w rfl).n;have hS:=hG.S;have hA:=hG.A;simp only at a c;exact⟨by omega,by omega⟩
 exact⟨b,p1,_,k1,p2,_,k2,q0,e1,e2,hl.1,hl.2,i1,i2⟩
theorem Eal(g:Ba):Saj UV [qy true gh g] ⟨[],0⟩ (λr _=>some r)=(CH g).bind λr=>some (.bool r):=by kernel_rfl
theorem Bal(g:Ba)(l:List Ga):Qai UV [qy true gh g,.lit Rc l] ⟨[],0⟩ (λr _=>some r)=(qE (g,l)).bind λr=>some (.bool r):=by kernel_rfl
theorem yal(g:Ba)(l:List Ga):R4 UV [qy true gh g,.lit Rc l] ⟨[],0⟩ (λr _=>some r)=(oE (g,l)).bind λr=>some (.bool r):=by kernel_rfl
theorem xal(g:Ba)(l:List Ga):Iai UV [qy true gh g,.lit Rc l] ⟨[],0⟩ (λr _=>some r)=(wH (g,l)).bind λr=>some (.bool r):=by kernel_rfl
theorem Aal(g:Ba):W4 UV [qy true gh g] ⟨[],0⟩ (λr _=>some r)=(bB g).bind λr=>some (.lit Rc r):=by kernel_rfl
theorem zal(g:Ba):Mai UV [qy true gh g] ⟨[],0⟩ (λr _=>some r)=(pE g).bind λr=>some (.lit Rc r):=by kernel_rfl
theorem Cal(x y:Ga):Vai UV [qy true Rc x,qy true Rc y] ⟨[],0⟩ (λr _=>some r)=(yH (x,y)).bind λr=>some (.bool r):=by kernel_rfl
theorem Dal:Daj UV [] ⟨[],0⟩ (λr _=>some r)=(OM ()).bind λr=>some (.bool r):=by kernel_rfl
theorem Ral{cs:List Value}(h:cs.length=8):∃c0 c1 c2 c3 c4 c5 c6 c7,cs=[c0,c1,c2,c3,c4,c5,c6,c7]:=by
 rcases cs with _|⟨c0,_|⟨c1,_|⟨c2,_|⟨c3,_|⟨c4,_|⟨c5,_|⟨c6,_|⟨c7,_|⟨c8,rest⟩⟩⟩⟩⟩⟩⟩⟩⟩<;>simp at h
 exact⟨c0,c1,c2,c3,c4,c5,c6,c7,rfl⟩
theorem kak{w0:World}{g:Ba}{l:List Ga}{cs:List Value}{v1:Value}(hg:rI maxLen gh g)(hl:rI maxLen (.slice Rc) l)(c9:∀i row,par.Na i=some row->V.tg (ji w0) w0 i row)(hx:sd (ji w0) w0 gh g cs)(hy:sd (ji w0) w0 (.slice Rc) l [v1]):
  Calls Tryz.prog 5 #[.agg cs.toArray,v1] w0 λe w'=>e= .returned (.bool true)/\Stood w0 w':=by
 have hL:=Y' (ya _) hg;have hn:=C' hg;obtain⟨⟨ll,_⟩,hle⟩:=hl;rw[Uy]at ll;have hM:∀j,j<l.length->tF (gx l j Kb):=λj hj=>mZ (ya _) (hle _ (Eb (ym hj)))
 have hlen:cs.length=8:=hx.1;have ho:=hx.2.1;have G:=λ{w:World}(h:Stood w0 w)=>E_ c9 h
 have X:=λ{w:World}(h:Stood w0 w)=>hx.stood h
 have Y:=λ{w:World}(h:Stood w0 w)=>hy.stood h
 have AW:∀w,Stood w0 w->Calls Tryz.prog 12 #[] w (TK true w):=λw h=>eat (fn:=Tryz.f12) (by kernel_rfl) (by kernel_rfl) (Eaj _ (ya _)) (Dal.trans (by rw[JU];rfl)) (G h)
 obtain⟨r1,q1,q2⟩:=Uaj hL;have FIT:∀w,Stood w0 w->Calls Tryz.prog 10 #[.agg cs.toArray] w (TK r1 w):=λw h=>bat (fn:=Tryz.f10) (by kernel_rfl) (by kernel_rfl) (Taj _ (ya _)) ((Eal g).trans (by rw[q1];rfl)) (G h) (X h)
 have dap:∀b,qE (g,l)=some b->∀w,Stood w0 w->Calls Tryz.prog 20 #[.agg cs.toArray,v1] w (TK b w):=λb hb w h=>sak (fn:=Tryz.f20) (by kernel_rfl) (by kernel_rfl) (Rai _ (ya _)) ((Bal g l).trans (by rw[hb];rfl)) (G h) (X h) (Y h)
 have F20:=Sai (g:=g) (l:=l) ll hM;obtain⟨c0,c1,c2,c3,c4,c5,c6,c7,rfl⟩:=Ral hlen;simp only[me,List.not_mem_nil,or_false,forall_eq_or_imp,forall_eq]at ho;obtain⟨o0,o1,o2,o3,o4,o5,o6,o7⟩:=ho;cases r1 with
 |false=>exact kT w0 c0 c1 c2 c3 c4 c5 c6 c7 v1 false FIT (λh=>by cases h) AW o0 o1 o2 o3 o4 o5 o6 o7
 |true=>
  obtain⟨D,hG⟩:=q2 rfl;cases hf:(mb l.length).all λi=>QI g (gx l i Kb)with
  |false=>
   rw[hf]at F20;exact kT w0 c0 c1 c2 c3 c4 c5 c6 c7 v1 true FIT (λ_=>dap false F20) AW o0 o1 o2 o3 o4 o5 o6 o7
  |true=>
   rw[hf]at F20;have Ec:∀j,j<l.length->Jj g (gx l j Kb):=λj hj=>sal (l:=l) (.inr trivial) (hM j hj) (ec.1 hf j (jg.2 hj))
   obtain⟨P,O,p1,p2,p3,hO,hP⟩:=gV hG hn;obtain⟨b,d1,d2⟩:=Lai hG hn p3 hO Ec;obtain⟨b',e1,e2⟩:=Kai hG hn hO Ec;have hbb:b'=b:=by
    cases b<;>cases b'<;>first|rfl|(have:=d2.2 (e2.1 rfl);cases this)|(have:=e2.2 (d2.1 rfl);cases this)
   subst hbb;have hN:=hG.N;have hPl:=hP.len;have Jan:∀x∈P,Jj g x:=λx hx=>by
    obtain⟨j,hj,rfl⟩:=(Ty Kb).1 hx;exact hP.st j (by omega)
   refine O_ (cM:=Rc) (P:=P) w0 c0 c1 c2 c3 c4 c5 c6 c7 v1 rfl ?_ o0 o1 o2 o3 o4 o5 o6 o7;exact{
    fit:=FIT
    fits:=dap true F20
    sol:=λw h=>Oal (fn:=Tryz.f21) (by kernel_rfl) (by kernel_rfl) (X4 _ (ya _)) ((Aal g).trans (by rw[p1];rfl)) (G h) (X h)
    tal:=λw h=>Oal (fn:=Tryz.f22) (by kernel_rfl) (by kernel_rfl) (Nai _ (ya _)) ((zal g).trans (by rw[p2];rfl)) (G h) (X h)
    eq:=λw lo hi lo' BA x d0 d1 d2 e0 e1 e2 h h1 h2 hm ha hb=>aat (fn:=Tryz.f17) (cs:=[d0,d1,d2]) (ds:=[e0,e1,e2]) (by kernel_rfl) (by kernel_rfl) (Wai _ (ya _)) ((Cal x x).trans (by have hs:=(Jan x hm).small hG;rw[u5 hs.v hs.w];rfl)) (G h) (ha.cells h1) (hb.cells h2)
    JU:=AW
    len:=Db (Nat.le_of_eq hPl) (by omega)
    inn:=λlo hi w x d0 d1 d2 hm ha=>waf hG (Jan x hm) ha
    ind:=⟨b',λw h=>sak (fn:=Tryz.f23) (by kernel_rfl) (by kernel_rfl) (S4 _ (ya _)) ((yal g l).trans (by rw[d1];rfl)) (G h) (X h) (Y h),λw h=>sak (fn:=Tryz.f24) (by kernel_rfl) (by kernel_rfl) (Jai _ (ya _)) ((xal g l).trans (by rw[e1];rfl)) (G h) (X h) (Y h)⟩ }
theorem MG{H:Type}{Pn:TypeId×Value->H}{P:Program}{w:World}{S:Nat}{Q:DataW H->Prop}(hQ:Down S Q){d:Nat}{t:TypeId}{c:CT}(h:Pm P d t=some c){v:Value}{dd:DataW H}{p:List MemPlace}(ht:DataW.Trod Pn P w 0 (λ_=>true) true t v dd p)(Co:Wt P Q t dd):∃x:Ib c,rI S c x/\sd (ji w) w c x v.cells.toList:=by
 obtain⟨fuel,hf⟩:=ht;exact Ap hQ (g:=ji w) (λ_ h=>h) d h hf Co
theorem uak{w:World}{c:CT}{x:Ib c}{v:Value}(h:sd (ji w) w c x v.cells.toList)(hw:2<=width c):v= .agg v.cells.toList.toArray:=by
 have:=h.1;cases v<;>first|rfl|(simp[Value.cells]at this;omega)
theorem kaf{P:Program}{w:World}{r:Reach}{b:Nat}{t e:TypeId}{v:Value}(hu:P.underlying t=some (.slice e))(PL:Value.okWide P w r b t v):v.cells.toList=[v]:=by
 cases v<;>first|rfl|(simp[Value.okWide,hu,Cell.okWide,Cell.ok]at PL)
end Go.U
end
