/- What these Lean functions compute: plain arithmetic of congruences, the checks of a graph, the values of its registers. -/
import Derived.Test.YtcbcifeaalkdfaaGreatDoorD6
import Derived.Test.YtcbcifeaalkdfaaGreatDoorD3
import Derived.Test.YtcbcifeaalkdfaaGreatDoorD5
import Derived.Test.YtcbcifeaalkdfaaGreatDoorD4
set_option linter.unusedVariables false
set_option linter.unusedSimpArgs false
set_option linter.unusedSectionVars false
section
set_option maxRecDepth 100000
namespace Go.U
open Go
def re47 (a:Int×TGraph×Bool×(List TCongr)×(List TCongr)×(List (Int×TInstr))×(List (Int×TCongr))):Int×TGraph×TMods×(List (Int×TInstr))×(List (Int×TCongr)):=(a.1,a.2.1,(a.2.2.1,(a.2.2.2.1,a.2.2.2.2.1)),a.2.2.2.2.2.1,a.2.2.2.2.2.2)
theorem ev_re:∀ n,f47v1_ev n=fun a=>f47_ev n (re47 a)
 |0=>by kernel_rfl
 |n+1=>by
  have h:f47v1_ev (n+1)=fun a=>@f47v1_m ⟨f47v1_ev n⟩ a:=by kernel_rfl
  have e:∀ F,F=(fun a=>f47_ev n (re47 a))->(fun a=>@f47v1_m ⟨F⟩ a)=fun a=>f47_ev (n+1) (re47 a):=fun F hF=>by
   subst hF
   kernel_rfl
  rw [h];exact e _ (ev_re n)
theorem rec_re (a):Rec47v1.m a=Rec47.m (re47 a):=by
 have h:(Rec47v1.m a)=f47v1_ev f47v1_fuel a:=rfl;have h2:f47v1_fuel=f47_fuel:=rfl;rw [h,ev_re,h2];rfl
theorem re46 (g:TGraph) (b:Bool) (v w:List TCongr):f46v1_m (g,b,v,w)=f46_m (g,(b,(v,w))):=by kernel_rfl
theorem re49 (b:Bool) (v w:List TCongr):f49v1_m (b,v,w)=f49_m (b,(v,w)):=by kernel_rfl
theorem re52 (y:TInstr) (way:Int) (l:Bool) (g:TGraph) (b:Bool) (v w:List TCongr) (T:List (Int×TInstr)) (M:List (Int×TCongr)) (c d:List TCongr):f52v1_m (y,way,l,g,b,v,w,T,M,c,d)=f52_m (y,way,l,g,(b,(v,w)),T,M,c,d):=by
 unfold f52v1_m f52v1_c;simp only [rec_re]
 kernel_rfl
theorem re16 (g:TGraph) (b:Bool) (at_ way:Int) (v w:List TCongr):f16v1_m (g,b,at_,way,v,w)=f16_m (g,(b,(v,w)),at_,way):=by
 unfold f16v1_m f16v1_c;simp only [PD.m,f16v1_c5,f16v1_c8,f16v1_c13,rec_re,re52,re46,re49]
 kernel_rfl
end Go.U
end
section
set_option maxRecDepth 20000
namespace Go.U
open Go
theorem f54_eq (t:Int):f54_m t=some (itvT t):=by
 unfold f54_m f54_c itvT;by_cases h1:t=1
 · simp [h1]
 · by_cases h2:t=2
   · simp [h2]
   · by_cases h3:t=3
     · simp [h3]
     · simp [h1,h2,h3]
theorem of2_in {a b:Int} (h1: -2147483648<=a) (h2:a<=2147483647) (h3: -2147483648<=b) (h4:b<=2147483647):f108_m (a,b)=some (if b<a then (1,0) else (a,b)):=by
 unfold f108_m f108_c;have k1:¬ (4611686018427387904:Int)<=a:=by omega
 have k2:¬ b<=(-4611686018427387904:Int):=by omega
 have k3:¬ a<=(-4611686018427387904:Int):=by omega
 have k4:¬ (4611686018427387904:Int)<=b:=by omega
 simp only;by_cases h:b<a
 · simp only [h,decide_true,cond_true,if_true]
 · simp only [h,k1,k2,k3,k4,decide_false,cond_false,if_false]
theorem meet2_in (t:Int):f103_m (itvT t,(-2147483648,2147483647))=some (itvT t):=by
 unfold itvT;split
 · decide +kernel
 · split
   · decide +kernel
   · split<;>decide +kernel
theorem tmod2 {x m:Int} (hm:0<m):Int.tmod (Int.tmod x m+m) m=x%m:=by
 have h1:=Int.tmod_add_mul_tdiv x m;have h2:=Int.lt_tmod_of_pos x hm;rw [tmod_nat (by omega)];refine dvd_emod ?_;rw [show Int.tmod x m+m-x=m * (1-Int.tdiv x m) by rw [Int.mul_sub,Int.mul_one];omega];exact Int.dvd_mul_right _ _
theorem f53_eq {c:TCongr} (h:CR c) (t:Int):∃ i,f53_m (c,itvT t)=some (typc c t,i):=by
 unfold f53_m f53_c;simp only;obtain ⟨i1,i2,i3,i4⟩:=itvT_in t;rw [f54_eq];simp only [Option.bind_some];rw [show itvT 3=(-2147483648,2147483647) from rfl,meet2_in];simp only [Option.bind_some];unfold typc;cases hb:c.1
 · obtain ⟨a0,a1,a2,a3,a4,a5⟩:=h.bounds hb;simp only [cond_false,Bool.false_eq_true,if_false];by_cases he:(itvT t).2<(itvT t).1
   · simp only [he,decide_true,cond_true,if_true];exact ⟨_,rfl⟩
   · simp only [he,decide_false,cond_false,if_false];have snd:∀ x:Int,f107_m (itvT t,x)=some (decide ((itvT t).1<=x)&&decide (x<=(itvT t).2)):=fun x=>by
       unfold f107_m f107_c f150_m f150_c;simp only;rw [of2_in i1 (by omega) (by omega) i4,if_neg he];simp only [Option.bind_some];have k0:(itvT t).1<=(itvT t).2:=by omega
       have k1:¬ (itvT t).1= -4611686018427387904:=by omega
       have k2:¬ (itvT t).2=4611686018427387904:=by omega
       simp only [k0,k1,k2,decide_true,decide_false,cond_true,cond_false];cases decide ((itvT t).1<=x)<;>rfl
     by_cases h0:c.2.1=0
     · simp only [h0,decide_true,cond_true,if_true];rw [snd];simp only [Option.bind_some];by_cases hin:(itvT t).1<=c.2.2/\c.2.2<=(itvT t).2
       · have d1:=hin.1;have d2:=hin.2;simp only [d1,d2,decide_true,Bool.and_self,cond_true,and_self,if_true];rw [of2_in (by omega) (by omega) (by omega) (by omega)];exact ⟨_,rfl⟩
       · rw [if_neg hin];have:(decide ((itvT t).1<=c.2.2)&&decide (c.2.2<=(itvT t).2))=false:=by
           rw [Bool.and_eq_false_iff];by_cases d1:(itvT t).1<=c.2.2
           · right;exact decide_eq_false fun d2=>hin ⟨d1,d2⟩
           · left;exact decide_eq_false d1
         rw [this];exact ⟨_,rfl⟩
     · simp only [h0,decide_false,cond_false,if_false];have hm:0<c.2.1:=by omega
       have b1:=Int.lt_tmod_of_pos (c.2.2-(itvT t).1) hm;have b2:=Int.tmod_lt_of_pos (c.2.2-(itvT t).1) hm;have b3:=Int.lt_tmod_of_pos ((itvT t).2-c.2.2) hm;have b4:=Int.tmod_lt_of_pos ((itvT t).2-c.2.2) hm;rw [wi64_of (n:=c.2.2-(itvT t).1) (by omega) (by omega),wi64_of (n:=(itvT t).2-c.2.2) (by omega) (by omega),wi64_of (n:=Int.tmod (c.2.2-(itvT t).1) c.2.1+c.2.1) (by omega) (by omega),wi64_of (n:=Int.tmod ((itvT t).2-c.2.2) c.2.1+c.2.1) (by omega) (by omega),tmod2 hm,tmod2 hm];have p1:=Int.emod_nonneg (c.2.2-(itvT t).1) h0;have p2:=Int.emod_lt_of_pos (c.2.2-(itvT t).1) hm;have p3:=Int.emod_nonneg ((itvT t).2-c.2.2) h0;have p4:=Int.emod_lt_of_pos ((itvT t).2-c.2.2) hm;generalize (c.2.2-(itvT t).1)%c.2.1=u at p1 p2 ⊢;generalize ((itvT t).2-c.2.2)%c.2.1=v at p3 p4 ⊢;rw [wi64_of (n:=(itvT t).1+u) (by omega) (by omega),wi64_of (n:=(itvT t).2-v) (by omega) (by omega)];by_cases q1:(itvT t).2-v<(itvT t).1+u
       · simp only [q1,decide_true,cond_true,if_true];exact ⟨_,rfl⟩
       · simp only [q1,decide_false,cond_false,if_false];by_cases q2:(itvT t).1+u=(itvT t).2-v
         · simp only [q2,decide_true,cond_true,if_true];rw [of2_in (by omega) (by omega) (by omega) (by omega)];simp only [Option.bind_some];have hnf:nf 0 ((itvT t).2-v)=(false,(0,(itvT t).2-v)):=by
             unfold nf;rw [if_pos rfl,if_pos (show -2147483648<=(itvT t).2-v/\(itvT t).2-v<=2147483647 from ⟨by omega,by omega⟩)]
           rw [hnf];exact ⟨_,rfl⟩
         · simp only [q2,decide_false,cond_false,if_false];rw [of2_in (by omega) (by omega) (by omega) (by omega)];exact ⟨_,rfl⟩
 · simp only [cond_true,if_true];exact ⟨_,rfl⟩
theorem f153_eq (op x y:Int):f153_m (op,x,y)=some (holdsb op x y):=by
 unfold f153_m f153_c holdsb;simp only;cases decide (op=14)
 · cases decide (op=15)
   · cases decide (op=16)
     · cases decide (op=17)
       · cases decide (op=18)<;>rfl
       · rfl
     · rfl
   · rfl
 · rfl
theorem f112_eq {op:Int} (h0:14<=op) (h1:op<=19):f112_m op=some (turnc op):=by
 have:op=14\/op=15\/op=16\/op=17\/op=18\/op=19:=by omega
 rcases this with rfl|rfl|rfl|rfl|rfl|rfl<;>decide +kernel
theorem f155_eq {a n:Nat} (hn:1<n) (hn1:n<4294967296) (ha:a<n) (hg:Nat.gcd a n=1):∃ v:Int,f155_m ((a:Int),(n:Int))=some v/\0<=v/\v<(n:Int)/\(n:Int) ∣ v * (a:Int)-1:=by
 unfold f155_m f155_c;simp only;rw [wi64_of (n:=(a:Int)) (by omega) (by omega),wi64_of (n:=(n:Int)) (by omega) (by omega)];obtain ⟨e,h1,h2⟩:=loopAll_of (step:=f155_l3.m (n:Int)) (t:=((n:Int),(a:Int),0,1))
   (fun t=>∃ x y r s:Nat,t.1=(r:Int)/\t.2.1=(s:Int)/\((t.2.2.1=(x:Int)/\t.2.2.2= -(y:Int))\/(t.2.2.1= -(x:Int)/\t.2.2.2=(y:Int)))/\x * s+y * r<=n/\x<n/\y<=n/\r<=n/\s<n/\(s=0->x<n)/\Nat.gcd r s=1/\(n:Int) ∣ t.2.2.1 * (a:Int)-t.1/\(n:Int) ∣ t.2.2.2 * (a:Int)-t.2.1/\(y=n->s=0))
   (fun t=>t.2.1.toNat) (fun e=> -(n:Int)<e/\e<(n:Int)/\(n:Int) ∣ e * (a:Int)-1)
   ⟨0,1,n,a,rfl,rfl,.inr ⟨rfl,rfl⟩,by omega,by omega,by omega,by omega,ha,fun _=>by omega,by rw [Nat.gcd_comm];exact hg,by simp only [Int.zero_mul,Int.zero_sub];exact Int.dvd_neg.2 (Int.dvd_refl _),by simp,fun h=>by omega⟩ (by simp only;omega) (fun t ⟨x,y,r,s,hr,hs,hxy,hI,hx,hy,hrn,hsn,_,hgg,d1,d2,hyn⟩=>by
    obtain ⟨tr,ts,tx,ty⟩:=t;simp only at hr hs hxy d1 d2;subst hr;subst hs;simp only [LD.m,f155_l3];by_cases h0:s=0
    · subst h0;simp only [Int.natCast_zero,decide_true,Bool.not_true,cond_false];refine .inr ⟨_,rfl,?_⟩;rw [Nat.gcd_zero_right] at hgg;subst hgg;have hb: -(n:Int)<tx/\tx<(n:Int):=by rcases hxy with ⟨h,_⟩|⟨h,_⟩<;>omega
      exact ⟨hb.1,hb.2,d1⟩
    · have h0':¬ (s:Int)=0:=by omega
      simp only [h0',decide_false,Bool.not_false,cond_true,cond_false];have hq:Int.tdiv (r:Int) (s:Int)=((r/s:Nat):Int):=rfl;have hqr:r/s<=r:=Nat.div_le_self _ _;have I2:=inv_step (q:=r/s) rfl hI;have hqs:r/s * s<=r:=Nat.div_mul_le_self r s;have er:r%s=r-r/s * s:=by have:=Nat.mod_add_div r s;rw [Nat.mul_comm] at this;omega
      have hmod:r%s<s:=Nat.mod_lt _ (by omega);have hgg':Nat.gcd s (r%s)=1:=by rw [Nat.gcd_comm,<- Nat.gcd_rec,Nat.gcd_comm];exact hgg
      rw [hq];clear hI hq;generalize r/s=w at hqr I2 hqs er ⊢;generalize r%s=e at I2 er hmod hgg' ⊢;have hy2:(x+w * y) * s<=n:=by omega
      have hy':x+w * y<=n:=by
        have:(x+w * y) * 1<=(x+w * y) * s:=Nat.mul_le_mul_left _ (by omega);omega
      have hylt:y<n:=by
        rcases Nat.lt_or_ge y n with h|h
        · exact h
        · exact absurd (hyn (by omega)) h0
      have hfull:x+w * y=n->e=0:=fun hf=>by
        rw [hf] at hy2 I2;have hs1:s=1:=by
          rcases Nat.lt_or_ge s 2 with h|h
          · omega
          · have:n * 2<=n * s:=Nat.mul_le_mul_left _ h;omega
        omega
      rw [wi64_of (n:=(w:Int)) (by omega) (by omega)];have m1:(w:Int) * (s:Int)=((w * s:Nat):Int):=(Int.natCast_mul _ _).symm;have m2:(w:Int) * (y:Int)=((w * y:Nat):Int):=(Int.natCast_mul _ _).symm;rw [m1,wi64_of (n:=((w * s:Nat):Int)) (by omega) (by omega),wi64_of (n:=(r:Int)-((w * s:Nat):Int)) (by omega) (by omega)];have e1:(r:Int)-((w * s:Nat):Int)=(e:Int):=by omega
      have hyq:(w:Int) * ty=((w * y:Nat):Int)\/(w:Int) * ty= -((w * y:Nat):Int):=by
        rcases hxy with ⟨_,h⟩|⟨_,h⟩
        · right;rw [h,Int.mul_neg,m2]
        · left;rw [h,m2]
      obtain ⟨wy,hwy⟩:∃ wy,(w:Int) * ty=wy:=⟨_,rfl⟩;rw [hwy] at hyq ⊢;have hyb: -4294967296<=wy/\wy<=4294967296:=by
        rcases hyq with h|h<;>rw [h]<;>omega
      have hxb: -4294967296<=tx/\tx<=4294967296:=by rcases hxy with ⟨h,_⟩|⟨h,_⟩<;>omega
      rw [wi64_of (n:=wy) (by omega) (by omega),wi64_of (n:=tx-wy) (by omega) (by omega)];refine .inl ⟨_,rfl,⟨y,x+w * y,s,e,rfl,e1,?_,I2,hylt,hy',by omega,by omega,fun _=>hylt,hgg',d2,?_,hfull⟩,by simp only;omega⟩
      · rcases hxy with ⟨g1,g2⟩|⟨g1,g2⟩
        · right;refine ⟨g2,?_⟩;simp only;rw [g1,<- hwy,g2,Int.mul_neg,m2];omega
        · left;refine ⟨g2,?_⟩;simp only;rw [g1,<- hwy,g2,m2];omega
      · simp only;have:(tx-wy) * (a:Int)-((r:Int)-((w * s:Nat):Int))=(tx * (a:Int)-(r:Int))-(w:Int) * (ty * (a:Int)-(s:Int)):=by
          rw [Int.sub_mul,Int.mul_sub,<- Int.mul_assoc,hwy,m1];omega
        rw [this];exact Int.dvd_sub d1 (Int.dvd_trans d2 (Int.dvd_mul_left _ _)))
 rw [h1];simp only [Option.bind_some];obtain ⟨b1,b2,b3⟩:=h2;by_cases hz:e<0
 · simp only [hz,decide_true,cond_true];rw [wi64_of (n:=e+(n:Int)) (by omega) (by omega),wu64_of (n:=e+(n:Int)) (by omega) (by omega)];refine ⟨_,rfl,by omega,by omega,?_⟩;rw [show (e+(n:Int)) * (a:Int)-1=(e * (a:Int)-1)+(n:Int) * (a:Int) by rw [Int.add_mul];omega];exact Int.dvd_add b3 (Int.dvd_mul_right _ _)
 · simp only [hz,decide_false,cond_false];rw [wu64_of (n:=e) (by omega) (by omega)];exact ⟨_,rfl,by omega,b2,b3⟩
end Go.U
end
section
set_option maxRecDepth 20000
namespace Go.U
open Go
def r114 (e2:Bool×Int×Int×Bool×Int×Int):Option TCongr:=
 cond (decide (e2.2.2.2.2.1=(0:Int)))
 ((f65_m ((e2.1,(e2.2.1,e2.2.2.1)),e2.2.2.2.2.2)).bind fun r3=>
 cond r3
 (some e2.2.2.2)
 (some (true,(0,0))))
 ((f111_m e2.2.1).bind fun r4=>
 (f111_m e2.2.2.2.2.1).bind fun r5=>
 (f110_m (r4,r5)).bind fun r6=>
 (f111_m (wi64 (e2.2.2.1-e2.2.2.2.2.2))).bind fun r7=>
 cond (decide (r6=(0:Int)))
 (none)
 (cond (!(decide ((Int.tmod r7 r6)=(0:Int))))
 (some (true,(0,0)))
 ((f111_m e2.2.2.2.2.1).bind fun r8=>
 cond (decide (r6=(0:Int)))
 (none)
 ((f111_m e2.2.1).bind fun r9=>
 cond (decide (r6=(0:Int)))
 (none)
 (cond (decide ((wu64 (Int.tdiv r8 r6))=(0:Int)))
 (none)
 (cond (decide ((wi64 r6)=(0:Int)))
 (none)
 (cond (decide ((wi64 (wu64 (Int.tdiv r8 r6)))=(0:Int)))
 (none)
 ((f114_c16.m (r6,(wu64 (Int.tdiv r8 r6)),(Int.tmod (wu64 (Int.tdiv r9 r6)) (wu64 (Int.tdiv r8 r6))),(Int.tmod (wi64 (Int.tdiv (wi64 (e2.2.2.2.2.2-e2.2.2.1)) (wi64 r6))) (wi64 (wu64 (Int.tdiv r8 r6)))),(decide ((Int.tmod (wi64 (Int.tdiv (wi64 (e2.2.2.2.2.2-e2.2.2.1)) (wi64 r6))) (wi64 (wu64 (Int.tdiv r8 r6))))<(0:Int))),e2,false,0,0)).bind fun e10=>
 (f114_c19.m (r6,(wu64 (Int.tdiv r8 r6)),(Int.tmod (wu64 (Int.tdiv r9 r6)) (wu64 (Int.tdiv r8 r6))),e10,0,(decide ((1:Int)<(wu64 (Int.tdiv r8 r6)))),e2,false,0,0)).bind fun e11=>
 (f111_m e2.2.1).bind fun r12=>
 cond (decide (r6=(0:Int)))
 (none)
 ((f111_m e2.2.2.2.2.1).bind fun r13=>
 (f111_m e2.2.2.1).bind fun r14=>
 (f111_m e2.2.1).bind fun r15=>
 (f123_m ((wu64 ((wu64 (Int.tdiv r12 r6)) * r13)),(wu64 (r14+(wu64 (r15 * e11)))),false)).bind fun r16=>
 some r16)))))))))
theorem r114_eq {a b:TCongr} (ha:CR a) (hb:CR b) (h1:a.1=false) (h2:b.1=false) (hle:b.2.1<=a.2.1):∃ c,r114 (a.1,a.2.1,a.2.2,b.1,b.2.1,b.2.2)=some c/\MeetS a b c:=by
 unfold r114;obtain ⟨a0,a1,a2,a3,a4,a5⟩:=ha.bounds h1;obtain ⟨b0,b1,b2,b3,b4,b5⟩:=hb.bounds h2;simp only;by_cases c2:b.2.1=0
 · simp only [c2,decide_true,cond_true];rw [show f65_m ((a.1,(a.2.1,a.2.2)),b.2.2)=f65_m (a,b.2.2) from rfl,f65_eq ha];simp only [Option.bind_some];have:=(meet_const hb ha h2 c2).comm;cases hh:hasc a b.2.2<;>rw [hh] at this
   · exact ⟨_,rfl,this⟩
   · refine ⟨_,rfl,?_⟩;rw [<- c2];exact this
 · have c1:¬ a.2.1=0:=by omega
   simp only [c2,decide_false,cond_false];obtain ⟨M,hM⟩:=Int.eq_ofNat_of_zero_le a0;obtain ⟨N,hN⟩:=Int.eq_ofNat_of_zero_le b0;obtain ⟨_,ra0,ra1⟩:=ha.rem h1 c1;obtain ⟨_,rb0,rb1⟩:=hb.rem h2 c2;obtain ⟨pa,m,r1⟩:=a;obtain ⟨pb,n,r2⟩:=b;simp only at h1 h2 hM hN ra0 ra1 rb0 rb1 a1 b1 a3 b3 c1 c2 ⊢;subst h1;subst h2;subst hM;subst hN;have hM0:0<M:=by omega
   have hN0:0<N:=by omega
   have hd0:0<Nat.gcd M N:=Nat.gcd_pos_of_pos_left _ hM0;have hdM:Nat.gcd M N<=M:=Nat.le_of_dvd hM0 (Nat.gcd_dvd_left _ _);have hdN:Nat.gcd M N<=N:=Nat.le_of_dvd hN0 (Nat.gcd_dvd_right _ _);have fM:f111_m (M:Int)=some (M:Int):=by rw [f111_eq (by omega) (by omega),Int.natAbs_natCast]
   have fN:f111_m (N:Int)=some (N:Int):=by rw [f111_eq (by omega) (by omega),Int.natAbs_natCast]
   have fr:f111_m r1=some r1:=by rw [f111_eq (by omega) (by omega),show (r1.natAbs:Int)=r1 by omega]
   simp only [fM,fN,fr,Option.bind_some];rw [f110_eq _ _ (by omega),wi64_of (n:=r1-r2) (by omega) (by omega),f111_eq (by omega) (by omega)];simp only [Option.bind_some];have hdz:¬ ((Nat.gcd M N:Nat):Int)=0:=by omega
   simp only [hdz,decide_false,cond_false];have dvM:((Nat.gcd M N:Nat):Int) ∣ (M:Int):=gdl M N;have dvN:((Nat.gcd M N:Nat):Int) ∣ (N:Int):=gdr M N;by_cases hr:((Nat.gcd M N:Nat):Int) ∣ r1-r2
   · have hr':Int.tmod ((r1-r2).natAbs:Int) ((Nat.gcd M N:Nat):Int)=0:=tmod_zero_iff.2 (Int.dvd_natAbs.2 hr);simp only [hr',decide_true,Bool.not_true,cond_false];have q1:Int.tdiv (N:Int) ((Nat.gcd M N:Nat):Int)=((N/Nat.gcd M N:Nat):Int):=rfl;have q2:Int.tdiv (M:Int) ((Nat.gcd M N:Nat):Int)=((M/Nat.gcd M N:Nat):Int):=rfl;have qN:N/Nat.gcd M N<=N:=Nat.div_le_self _ _;have qM:M/Nat.gcd M N<=M:=Nat.div_le_self _ _;have qpos:0<N/Nat.gcd M N:=Nat.div_pos hdN hd0;have eN:Nat.gcd M N * (N/Nat.gcd M N)=N:=Nat.mul_div_cancel' (Nat.gcd_dvd_right _ _);have eM:Nat.gcd M N * (M/Nat.gcd M N)=M:=Nat.mul_div_cancel' (Nat.gcd_dvd_left _ _);have hcop:Nat.gcd (M/Nat.gcd M N) (N/Nat.gcd M N)=1:=(Nat.coprime_div_gcd_div_gcd hd0).gcd_eq_one;have hlm:∀ {x z:Int},(M:Int) ∣ x-r1->(N:Int) ∣ x-r2->(((M * (N/Nat.gcd M N):Nat):Int) ∣ z-x↔(M:Int) ∣ z-r1/\(N:Int) ∣ z-r2):=fun h1 h2=>lcm_mem h1 h2
     rw [q1,q2];clear q1 q2;have hdlt:Nat.gcd M N<4294967296:=by omega
     generalize N/Nat.gcd M N=n' at qN qpos eN hcop hlm ⊢;generalize M/Nat.gcd M N=m' at qM eM hcop ⊢;have hLlt:M * n'<=4294967295 * 4294967295:=Nat.mul_le_mul (by omega) (by omega);have hL0:0<M * n':=Nat.mul_pos hM0 qpos;have hLe':∀ d A B:Nat,d * n'=B->d * m'=A->m' * B=A * n':=fun d A B h1 h2=>by rw [<- h1,<- h2,Nat.mul_left_comm,Nat.mul_assoc]
     have hLe:=hLe' _ _ _ eN eM;rw [wu64_of (n:=(n':Int)) (by omega) (by omega),wu64_of (n:=(m':Int)) (by omega) (by omega)];have hz':¬ (n':Int)=0:=by omega
     have wd:wi64 ((Nat.gcd M N:Nat):Int)=((Nat.gcd M N:Nat):Int):=wi64_of (by omega) (by omega);have wn:wi64 (n':Int)=(n':Int):=wi64_of (by omega) (by omega);simp only [hz',wd,wn,hdz,decide_false,cond_false];obtain ⟨t,ht⟩:((Nat.gcd M N:Nat):Int) ∣ r2-r1:=by rw [show r2-r1= -(r1-r2) by omega];exact Int.dvd_neg.2 hr
     rw [wi64_of (n:=r2-r1) (by omega) (by omega),ht,Int.mul_tdiv_cancel_left t hdz];have htb: -4294967296<=t/\t<=4294967296:=by
      have e:=Int.mul_tdiv_cancel_left t hdz;rw [<- ht] at e;have:=tdiv_le (a:=r2-r1) (b:=((Nat.gcd M N:Nat):Int));rw [e] at this;omega
     rw [wi64_of (n:=t) (by omega) (by omega)];have npos:(0:Int)<(n':Int):=by omega
     have tb1:=Int.lt_tmod_of_pos t npos;have tb2:=Int.tmod_lt_of_pos t npos;obtain ⟨w,w0,w1,w2,w3⟩:∃ w:Int,f114_c16.m (((Nat.gcd M N:Nat):Int),(n':Int),(Int.tmod (m':Int) (n':Int)),(Int.tmod t (n':Int)),(decide ((Int.tmod t (n':Int))<(0:Int))),(false,(M:Int),r1,false,(N:Int),r2),false,0,0)=some w/\0<=w/\w<(n':Int)/\(n':Int) ∣ w-t:=by
      have hd:=Int.tmod_add_mul_tdiv t (n':Int);simp only [PD.m,f114_c16];by_cases hneg:Int.tmod t (n':Int)<0
      · simp only [hneg,decide_true,cond_true];rw [wn,wi64_of (by omega) (by omega)];refine ⟨_,rfl,by omega,by omega,?_⟩;rw [show Int.tmod t (n':Int)+(n':Int)-t=(n':Int) * (1-Int.tdiv t (n':Int)) by rw [Int.mul_sub,Int.mul_one];omega];exact Int.dvd_mul_right _ _
      · simp only [hneg,decide_false,cond_false];refine ⟨_,rfl,by omega,by omega,?_⟩;rw [show Int.tmod t (n':Int)-t=(n':Int) * (-Int.tdiv t (n':Int)) by rw [Int.mul_neg];omega];exact Int.dvd_mul_right _ _
     rw [w0];simp only [Option.bind_some];obtain ⟨k,k0,k1,k2⟩:∃ k:Nat,f114_c19.m (((Nat.gcd M N:Nat):Int),(n':Int),(Int.tmod (m':Int) (n':Int)),w,0,(decide ((1:Int)<(n':Int))),(false,(M:Int),r1,false,(N:Int),r2),false,0,0)=some (k:Int)/\k<n'/\(n':Int) ∣ (m':Int) * (k:Int)-t:=by
      simp only [PD.m,f114_c19];by_cases hn1:1<n'
      · have hn1':(1:Int)<(n':Int):=by omega
        simp only [hn1',decide_true,cond_true];have tm:Int.tmod (m':Int) (n':Int)=((m'%n':Nat):Int):=rfl;rw [tm];obtain ⟨v,v1,v2,v3,v4⟩:=f155_eq (a:=m'%n') (n:=n') hn1 (by omega) (Nat.mod_lt _ (by omega)) (by rw [<- Nat.gcd_rec,Nat.gcd_comm];exact hcop);rw [v1];simp only [Option.bind_some];have hwv:0<=w * v:=Int.mul_nonneg w1 v2;have hwv1:w * v<=4294967295 * 4294967295:=Int.mul_le_mul (by omega) (by omega) v2 (by decide);unfold f154_m f154_c;simp only [hz',decide_false,cond_false];rw [wu64_of (n:=w) w1 (by omega),wu64_of (n:=w * v) hwv (by omega),tmod_nat hwv];have k0:=Int.emod_nonneg (w * v) hz';have k1:=Int.emod_lt_of_pos (w * v) npos;obtain ⟨k,hk⟩:=Int.eq_ofNat_of_zero_le k0;refine ⟨k,by rw [hk];rfl,by omega,?_⟩;have e1:(n':Int) ∣ (k:Int)-w * v:=by
         rw [<- hk];exact emod_dvd (Int.emod_emod_of_dvd _ (Int.dvd_refl _))
        have e2:(n':Int) ∣ v * (m':Int)-1:=by
         have:(n':Int) ∣ (m':Int)-((m'%n':Nat):Int):=by
          refine emod_dvd ?_;rw [Int.natCast_emod,Int.emod_emod_of_dvd _ (Int.dvd_refl _)]
         rw [show v * (m':Int)-1=v * ((m':Int)-((m'%n':Nat):Int))+(v * ((m'%n':Nat):Int)-1) by rw [Int.mul_sub];omega];exact Int.dvd_add (Int.dvd_trans this (Int.dvd_mul_left _ _)) v4
        have e3:w * (v * (m':Int))=(m':Int) * (w * v):=by rw [<- Int.mul_assoc,Int.mul_comm]
        rw [show (m':Int) * (k:Int)-t=(m':Int) * ((k:Int)-w * v)+w * (v * (m':Int)-1)+(w-t) by rw [Int.mul_sub,Int.mul_sub,Int.mul_one,e3];omega];exact Int.dvd_add (Int.dvd_add (Int.dvd_trans e1 (Int.dvd_mul_left _ _)) (Int.dvd_trans e2 (Int.dvd_mul_left _ _))) w3
      · have hn1':¬ (1:Int)<(n':Int):=by omega
        simp only [hn1',decide_false,cond_false];have hone:n'=1:=by omega
        exact ⟨0,rfl,by omega,by rw [hone];exact Int.one_dvd _⟩
     rw [k0];simp only [Option.bind_some];have hMk:(M:Int) * (k:Int)=((M * k:Nat):Int):=(Int.natCast_mul _ _).symm;have hMk1:M * k+M<=M * n':=by rw [<- Nat.mul_succ];exact Nat.mul_le_mul_left _ k1
     have hLi:(m':Int) * (N:Int)=((M * n':Nat):Int):=by rw [<- Int.natCast_mul,hLe]
     rw [hMk,hLi,wu64_of (n:=((M * n':Nat):Int)) (by omega) (by omega),wu64_of (n:=((M * k:Nat):Int)) (by omega) (by omega),wu64_of (n:=r1+((M * k:Nat):Int)) (by omega) (by omega),f123_eq (by omega) (by omega) (by omega) (by omega)];refine ⟨_,rfl,nf_cr (by omega),fun z=> ?_⟩;show mem (nf _ (r1+((M * k:Nat):Int))) z↔_;rw [mem_nf (by omega),hlm (by rw [show r1+((M * k:Nat):Int)-r1=((M * k:Nat):Int) by omega,<- hMk];exact Int.dvd_mul_right _ _) (by
      obtain ⟨y,hy⟩:=k2;refine ⟨y,?_⟩;have eMi:(M:Int)=((Nat.gcd M N:Nat):Int) * (m':Int):=by rw [<- Int.natCast_mul,eM]
      have eNi:(N:Int)=((Nat.gcd M N:Nat):Int) * (n':Int):=by rw [<- Int.natCast_mul,eN]
      rw [eNi,Int.mul_assoc,<- hy,Int.mul_sub,<- ht,<- Int.mul_assoc,<- eMi,hMk];omega)]
     exact ⟨fun ⟨g1,g2,g3,g4⟩=>⟨⟨rfl,g1,g2,g3⟩,rfl,g1,g2,g4⟩,fun ⟨⟨_,g1,g2,g3⟩,_,_,_,g4⟩=>⟨g1,g2,g3,g4⟩⟩
   · have hr':¬ Int.tmod ((r1-r2).natAbs:Int) ((Nat.gcd M N:Nat):Int)=0:=fun e=>hr (Int.dvd_natAbs.1 (tmod_zero_iff.1 e))
     simp only [hr',decide_false,Bool.not_false,cond_true];refine ⟨_,rfl,none_cr,fun z=>⟨fun h=>absurd h none_mem,fun ⟨⟨_,_,_,g1⟩,_,_,_,g2⟩=>absurd ?_ hr⟩⟩;simp only at g1 g2;rw [show r1-r2=(z-r2)-(z-r1) by omega];exact Int.dvd_sub (Int.dvd_trans dvN g2) (Int.dvd_trans dvM g1)
theorem meet2_eq {a b:TCongr} (ha:CR a) (hb:CR b):f114_m (a,b)=some (meetc a b):=by
 cases h1:a.1
 · cases h2:b.1
   · have e:f114_m (a,b)=r114 (cond (decide (a.2.1<b.2.1)) (b.1,b.2.1,b.2.2,a.1,a.2.1,a.2.2) (a.1,a.2.1,a.2.2,b.1,b.2.1,b.2.2)):=by
       unfold f114_m f114_c;simp only [PD.m,f114_r1,f114_c4,h1,h2,cond_false,Option.bind_some];cases decide (a.2.1<b.2.1)<;>rfl
     rw [e];by_cases hlt:a.2.1<b.2.1
     · rw [decide_eq_true hlt];obtain ⟨c,q1,q2⟩:=r114_eq hb ha h2 h1 (Int.le_of_lt hlt);rw [cond_true,q1,meetc_of q2.comm]
     · rw [decide_eq_false hlt];obtain ⟨c,q1,q2⟩:=r114_eq ha hb h1 h2 (by omega);rw [cond_false,q1,meetc_of q2]
   · have q:MeetS a b none31:=⟨none_cr,fun z=>⟨fun h=>absurd h none_mem,fun h=>by have:=h.2.1;rw [h2] at this;cases this⟩⟩;rw [meetc_of q];unfold f114_m f114_c;simp only [PD.m,f114_r1,h1,h2,cond_false,Option.bind_some,cond_true];rfl
 · have q:MeetS a b none31:=⟨none_cr,fun z=>⟨fun h=>absurd h none_mem,fun h=>by have:=h.1.1;rw [h1] at this;cases this⟩⟩;rw [meetc_of q];unfold f114_m f114_c;simp only [PD.m,f114_r1,h1,Option.bind_some,cond_true];rfl
theorem f113_eq {op:Int} {a b:TCongr} (ha:CR a) (hb:CR b):f113_m (op,a,b)=some (testc op a b):=by
 unfold f113_m f113_c testc NoneT;simp only;by_cases o1:op<14
 · simp [o1]
 · by_cases o2:19<op
   · simp [o2]
   · simp only [o1,o2,decide_false,cond_false,or_self,if_false];have hm:=meet2_eq ha hb;have fin:(cond (decide (op=14)) ((f114_m (a,b)).bind fun r=>some (r,r)) (some (a,b)))=some (if op=14 then (meetc a b,meetc a b) else (a,b)):=by
       rw [hm];by_cases o3:op=14
       · simp [o3]
       · simp [o3]
     cases h1:a.1
     · cases h2:b.1
       · simp only [cond_false,Bool.false_eq_true,false_or];by_cases c1:a.2.1=0
         · by_cases c2:b.2.1=0
           · simp only [c1,c2,decide_true,cond_true,true_and];rw [f153_eq];simp only [Option.bind_some];cases hh:holdsb op a.2.2 b.2.2
             · simp [none31]
             · simp only [Bool.not_true,cond_false,Bool.true_eq_false,if_false];exact fin
           · simp only [c1,c2,decide_true,decide_false,cond_true,cond_false,false_and,and_false,if_false];exact fin
         · simp only [c1,decide_false,cond_false,false_and,if_false];exact fin
       · simp [none31]
     · simp [none31]
end Go.U
end
section
set_option maxRecDepth 20000
namespace Go.U
open Go
theorem f55_eq {l:List TCongr} {i:Int} {c:TCongr} (hn:l.length<=1048576) (h0:0<=i) (h1:i<(l.length:Int)):f55_m (l,i,c)=some (l.set i.toNat c):=by
 unfold f55_m f55_c;simp only [len24 hn,inRI h0 h1,ask_true]
theorem meet_none {a b:TCongr} (ha:CR a) (hb:CR b) (h:a.1=true):(meetc a b).1=true:=by
 have m:=(meet_eq ha hb).2;cases hm:(meetc a b).1
 · obtain ⟨z,z1,z2,z3⟩:=m.1.step hm;have b0:=(m.1.bounds hm).1;have:=((m.2 z).1 ⟨hm,z1,by omega,z3⟩).1.1;rw [h] at this;cases this
 · rfl
theorem testc_none {op:Int} {a b:TCongr} (ha:CR a) (hb:CR b) (h0:14<=op) (h1:op<=19):(testc op a b).1.1=(testc op a b).2.1:=by
 unfold testc;rw [if_neg (by omega)];split
 · rfl
 · rename_i n;split
   · rfl
   · have e1:a.1=false:=by
      cases h:a.1
      · rfl
      · exact absurd (.inl h) n
     have e2:b.1=false:=by
      cases h:b.1
      · rfl
      · exact absurd (.inr (.inl h)) n
     rw [e1,e2]
section
variable {g:TGraph} {D:List Int} {s:TMods} {out:List TCongr}
theorem f57_eq (hG:FitG g D) (hs:FitS g s) (hb:s.1=true) (ho:Outs g s g.1.length out) {y:TInstr} {way:Int}
   (hA:0<=y.2.2.1/\y.2.2.1<g.2.2.1) (hB:0<=y.2.2.2.1/\y.2.2.2.1<g.2.2.1) (hn:14<=y.2.2.2.2.1/\y.2.2.2.2.1<=19) (h15:y.1=15):f57_m (g,(s.1,(s.2.1,s.2.2)),out,y,way)=some (stepM g s out y way):=by
 have hv:Vals ((scs g).length:Int) s.2.1:=⟨by have:=hs.sl;omega,hs.sc⟩;have hsm:=(small_fit hG hs).v;have cA:=out_cr hG hs ho hA.1 hA.2;have cB:=out_cr hG hs ho hB.1 hB.2;have hlen:=ho.len;have k1:¬ (2<=y.1/\y.1<=8):=by omega
 have k2:¬ y.1=13:=by omega
 have k3:¬ y.1=14:=by omega
 unfold stepM;rw [if_neg k1,if_neg k2,if_neg k3,if_pos h15];have hop:∃ op,op=(if way=1 then turnc y.2.2.2.2.1 else y.2.2.2.2.1)/\14<=op/\op<=19:=by
   refine ⟨_,rfl,?_⟩;split
   · unfold turnc
     repeat' split
     all_goals omega
   · exact hn
 obtain ⟨op,e0,o1,o2⟩:=hop;rw [<- e0];have c3:f57_c3.m (out,y.2.2.2.2.1,(decide (way=(1:Int))),g,(s.1,(s.2.1,s.2.2)),y,false)=some op:=by
   simp only [PD.m,f57_c3];by_cases hw:way=1
   · simp only [hw,decide_true,cond_true];rw [f112_eq hn.1 hn.2,e0,if_pos hw];rfl
   · simp only [hw,decide_false,cond_false];rw [e0,if_neg hw]
 have iA:V.inRange y.2.2.1 out.length=true:=inRI hA.1 (by omega);have iB:V.inRange y.2.2.2.1 out.length=true:=inRI hB.1 (by omega);unfold f57_m f57_c;simp only;rw [c3];simp only [Option.bind_some,iA,iB,ask_true];rw [f113_eq cA cB];simp only [Option.bind_some];obtain ⟨t1,t2⟩:=testc_cr (op:=op) cA cB;have t3:=testc_none (op:=op) cA cB o1 o2;generalize testc op (gx out y.2.2.1.toNat dCongr) (gx out y.2.2.2.1.toNat dCongr)=pq at t1 t2 t3 ⊢;obtain ⟨p,q⟩:=pq;simp only at t1 t2 t3 ⊢;have r5:f57_r5.m (g,(s.1,(s.2.1,s.2.2)),y,false,(p,q))=some p.1:=by
   simp only [PD.m,f57_r5];cases hp:p.1
   · simp only [cond_false];rw [<- t3,hp]
   · rfl
 rw [r5];simp only [Option.bind_some];cases hp:p.1
 · simp only [cond_false,Bool.false_eq_true,false_and,if_false];have hvn:=hv.n;obtain ⟨v1,a1,a2⟩:∃ v1,f57_c9.m (nt (List.length g.2.2.2.2.2.1),(decide (y.2.2.1<nt (List.length g.2.2.2.2.2.1))),(s.1,(s.2.1,s.2.2)),y,false,(p,q))=some v1/\v1=(if y.2.2.1<((scs g).length:Int) then s.2.1.set y.2.2.1.toNat (meetc (gx s.2.1 y.2.2.1.toNat dCongr) p) else s.2.1):=by
     simp only [PD.m,f57_c9];by_cases hr:y.2.2.1<((scs g).length:Int)
     · have hd:decide (y.2.2.1<nt (List.length g.2.2.2.2.2.1))=true:=decide_eq_true hr;have hi:y.2.2.1<(s.2.1.length:Int):=by omega
       rw [if_pos hr,hd];simp only [cond_true,inRI hA.1 hi,ask_true];rw [meet2_eq (hv.c y.2.2.1.toNat (by omega)) t1];simp only [Option.bind_some];rw [f55_eq hsm hA.1 hi];exact ⟨_,rfl,rfl⟩
     · have hd:decide (y.2.2.1<nt (List.length g.2.2.2.2.2.1))=false:=decide_eq_false hr;rw [if_neg hr,hd];exact ⟨_,rfl,rfl⟩
   rw [a1];simp only [Option.bind_some];have v1l:v1.length=s.2.1.length:=by rw [a2];split<;>simp
   have v1c:∀ i,i<v1.length->CR (gx v1 i dCongr):=fun i hi=>by
     rw [a2];rw [v1l] at hi;split
     · rename_i hr;rw [gx_set (by omega)];split
       · exact (meet_eq (hv.c y.2.2.1.toNat (by omega)) t1).2.1
       · exact hv.c i hi
     · exact hv.c i hi
   obtain ⟨v2,b1,b2⟩:∃ v2,f57_c11.m (nt (List.length g.2.2.2.2.2.1),(decide (y.2.2.2.1<nt (List.length g.2.2.2.2.2.1))),s.1,v1,s.2.2,y,false,q)=some v2/\v2=(if y.2.2.2.1<((scs g).length:Int) then v1.set y.2.2.2.1.toNat (meetc (gx v1 y.2.2.2.1.toNat dCongr) q) else v1):=by
     simp only [PD.m,f57_c11];by_cases hr:y.2.2.2.1<((scs g).length:Int)
     · have hd:decide (y.2.2.2.1<nt (List.length g.2.2.2.2.2.1))=true:=decide_eq_true hr;have hi:y.2.2.2.1<(v1.length:Int):=by omega
       rw [if_pos hr,hd];simp only [cond_true,inRI hB.1 hi,ask_true];rw [meet2_eq (v1c y.2.2.2.1.toNat (by omega)) t2];simp only [Option.bind_some];rw [f55_eq (by omega) hB.1 hi];exact ⟨_,rfl,rfl⟩
     · have hd:decide (y.2.2.2.1<nt (List.length g.2.2.2.2.2.1))=false:=decide_eq_false hr;rw [if_neg hr,hd];exact ⟨_,rfl,rfl⟩
   rw [b1];simp only [Option.bind_some];have v2l:v2.length=s.2.1.length:=by rw [b2];split<;>simp [v1l]
   have r12:f57_r12.m (nt (List.length g.2.2.2.2.2.1),s.1,v2,s.2.2,y,false)=some ((decide (y.2.2.1<((scs g).length:Int))&&(gx v2 y.2.2.1.toNat dCongr).1)||(decide (y.2.2.2.1<((scs g).length:Int))&&(gx v2 y.2.2.2.1.toNat dCongr).1)):=by
     simp only [PD.m,f57_r12];have eN:nt (List.length g.2.2.2.2.2.1)=((scs g).length:Int):=rfl;rw [eN];by_cases hr:y.2.2.1<((scs g).length:Int)
     · have hi:y.2.2.1<(v2.length:Int):=by omega
       simp only [hr,decide_true,cond_true,inRI hA.1 hi,ask_true,Bool.true_and];cases (gx v2 y.2.2.1.toNat dCongr).1
       · simp only [cond_false,Bool.false_or];by_cases hr2:y.2.2.2.1<((scs g).length:Int)
         · have hi2:y.2.2.2.1<(v2.length:Int):=by omega
           simp only [hr2,decide_true,cond_true,inRI hB.1 hi2,ask_true,Bool.true_and]
         · simp only [hr2,decide_false,cond_false,Bool.false_and]
       · rfl
     · simp only [hr,decide_false,cond_false,Bool.false_and,Bool.false_or];by_cases hr2:y.2.2.2.1<((scs g).length:Int)
       · have hi2:y.2.2.2.1<(v2.length:Int):=by omega
         simp only [hr2,decide_true,cond_true,inRI hB.1 hi2,ask_true,Bool.true_and]
       · simp only [hr2,decide_false,cond_false,Bool.false_and]
   rw [r12];simp only [Option.bind_some];unfold refs refv;by_cases hr:y.2.2.1<((scs g).length:Int)
   · rw [if_pos hr] at a2 ⊢;have hAi:y.2.2.1.toNat<s.2.1.length:=by omega
     rw [decide_eq_true hr];by_cases hm:(meetc (gx s.2.1 y.2.2.1.toNat dCongr) p).1=true
     · rw [if_pos hm];have:(gx v2 y.2.2.1.toNat dCongr).1=true:=by
         rw [b2];split
         · rename_i hr2;rw [gx_set (by omega)];split
           · rename_i e;rw [e];refine meet_none (v1c _ (by omega)) t2 ?_;rw [a2,gx_set hAi,if_pos rfl];exact hm
           · rw [a2,gx_set hAi,if_pos rfl];exact hm
         · rw [a2,gx_set hAi,if_pos rfl];exact hm
       rw [this];rfl
     · rw [if_neg hm];simp only [Option.bind_some];rw [<- a2];have hm':=eq_false_of_ne_true hm;by_cases hr2:y.2.2.2.1<((scs g).length:Int)
       · rw [if_pos hr2] at b2 ⊢;have hBi:y.2.2.2.1.toNat<v1.length:=by omega
         have eB:gx v2 y.2.2.2.1.toNat dCongr=meetc (gx v1 y.2.2.2.1.toNat dCongr) q:=by rw [b2,gx_set hBi,if_pos rfl]
         rw [decide_eq_true hr2,eB];by_cases hm2:(meetc (gx v1 y.2.2.2.1.toNat dCongr) q).1=true
         · rw [if_pos hm2,hm2];simp only [Bool.and_self,Bool.or_true,cond_true];rfl
         · rw [if_neg hm2];have hm2':=eq_false_of_ne_true hm2;have:(gx v2 y.2.2.1.toNat dCongr).1=false:=by
             rw [b2,gx_set hBi];split
             · exact hm2'
             · rw [a2,gx_set hAi,if_pos rfl];exact hm'
           rw [this,hm2',b2];rfl
       · rw [if_neg hr2] at b2 ⊢;have:(gx v2 y.2.2.1.toNat dCongr).1=false:=by rw [b2,a2,gx_set hAi,if_pos rfl];exact hm'
         rw [this,decide_eq_false hr2,b2];rfl
   · rw [if_neg hr] at a2 ⊢;simp only [Option.bind_some];rw [decide_eq_false hr,<- a2];by_cases hr2:y.2.2.2.1<((scs g).length:Int)
     · rw [if_pos hr2] at b2 ⊢;have hBi:y.2.2.2.1.toNat<v1.length:=by omega
       have eB:gx v2 y.2.2.2.1.toNat dCongr=meetc (gx v1 y.2.2.2.1.toNat dCongr) q:=by rw [b2,gx_set hBi,if_pos rfl]
       rw [decide_eq_true hr2,eB];by_cases hm2:(meetc (gx v1 y.2.2.2.1.toNat dCongr) q).1=true
       · rw [if_pos hm2,hm2];rfl
       · rw [if_neg hm2,eq_false_of_ne_true hm2,b2];rfl
     · rw [if_neg hr2] at b2 ⊢;rw [decide_eq_false hr2,b2];rfl
 · have hq:q.1=true:=by rw [<- t3,hp]
   simp only [hq,cond_true,and_self,if_true];rfl
theorem r1_eq19 {j:Nat} {way:Int} (hj:j<g.1.length):∃ r,f19_r1.m (((j:Int),way),g,s,false)=some r/\(r=true↔wayBad g s j way):=r1_eq16 hj
theorem f19_bad {j:Nat} {way:Int} (hj:j<g.1.length) (hw:wayBad g s j way):f19_m (g,s,(j:Int),way)=some deadM:=by
 unfold f19_m f19_c;obtain ⟨r,h1,h2⟩:=r1_eq19 (s:=s) (way:=way) hj;simp only;rw [h1];simp only [Option.bind_some];rw [h2.2 hw];rfl
theorem f19_eq (hG:FitG g D) (hs:FitS g s) (hf:f48_m (g,s)=some out) (ho:Outs g s g.1.length out) {j:Nat} {way:Int} (hj:j<g.1.length) (hw:¬ wayBad g s j way):f19_m (g,s,(j:Int),way)=some (stepM g s out (at' g j) way):=by
 have hb:s.1=true:=by
   cases h:s.1
   · exact absurd (.inl h) hw
   · rfl
 unfold f19_m f19_c;obtain ⟨r,h1,h2⟩:=r1_eq19 (s:=s) (way:=way) hj;simp only;rw [h1];have hr:r=false:=by
   cases hr:r
   · rfl
   · exact absurd (h2.1 hr) hw
 subst hr;simp only [Option.bind_some,cond_false,inR hj,ask_true,Int.toNat_natCast];rw [hf];simp only [Option.bind_some];obtain ⟨y,hy⟩:∃ y,at' g j=y:=⟨_,rfl⟩;have hy':gx g.1 j dInstr=y:=hy;have good:=hG.good j hj;have use:∀ x∈f41_l y,0<=x/\x<g.2.2.1:=fun x hx=>by
   obtain ⟨a,b,_⟩:=use_cases hG (good.use x (by rw [hy];exact hx));exact ⟨a,b⟩
 have idx:=good.idx;have tst:=good.tst;rw [hy] at idx tst;rw [hy];show ((f19_r5.m (way,out,g,s,false,gx g.1 j dInstr)).bind fun e3=>
   cond e3 (some ((false,([],[])):TMods))
   ((f19_c8.m (way,out,(decide ((gx g.1 j dInstr).1=(13:Int))),g,s,false,gx g.1 j dInstr)).bind fun e4=>
   Sum.elim (fun e5=>some ((false,([],[])):TMods))
   (fun e6=>(f19_c13.m (way,out,(decide ((gx g.1 j dInstr).1=(14:Int))),g,s.1,e6,s.2.2,false,gx g.1 j dInstr)).bind fun e7=>
   Sum.elim (fun e8=>some ((false,([],[])):TMods))
   (fun e9=>cond (decide ((gx g.1 j dInstr).1=(15:Int)))
   ((f57_m (g,(s.1,(e6,e9)),out,gx g.1 j dInstr,way)).bind fun r10=>some r10)
   (some (s.1,(e6,e9)))) e7) e4))=_
 rw [hy'];have hsl:=hs.sl;have hil:=hs.il;have hlen:=ho.len;have hsm:=small_fit hG hs;have inO:∀ {x:Int},0<=x->x<g.2.2.1->V.inRange x out.length=true:=fun h0 h1=>inRI h0 (by omega)
 by_cases k1:2<=y.1/\y.1<=8
 · have d1:=k1.1;have d2:=k1.2;have hd:isD (at' g j)=true:=by rw [hy];exact isD_true.2 ⟨by omega,by omega⟩
   obtain ⟨u1,u2⟩:=def_reg hG hj hd;rw [hy] at u1 u2;have n13:¬ y.1=13:=by omega
   have n14:¬ y.1=14:=by omega
   have n15:¬ y.1=15:=by omega
   simp only [PD.m,f19_r5,f19_c8,f19_c13,d1,d2,n13,n14,n15,decide_true,decide_false,cond_true,cond_false,inO (show 0<=y.2.1 by omega) u2,ask_true,Option.bind_some,Sum.elim_inr];unfold stepM;rw [if_pos k1];cases hc:(gx out y.2.1.toNat dCongr).1
   · simp
   · simp [deadM]
 · have r5:f19_r5.m (way,out,g,s,false,y)=some false:=by
     simp only [PD.m,f19_r5];by_cases d1:2<=y.1
     · have d2:¬ y.1<=8:=fun d2=>k1 ⟨d1,d2⟩
       simp only [d1,d2,decide_true,decide_false,cond_true,cond_false]
     · simp only [d1,decide_false,cond_false]
   rw [r5];simp only [Option.bind_some,cond_false];unfold stepM;rw [if_neg k1];by_cases k2:y.1=13
   · have n14:¬ y.1=14:=by omega
     have n15:¬ y.1=15:=by omega
     obtain ⟨i1,i2⟩:=idx.k13 k2;have i2':y.2.1<(List.length g.2.2.2.2.2.1:Int):=i2;have i3:y.2.1<(List.length s.2.1:Int):=by omega
     obtain ⟨a1,a2⟩:=use y.2.2.1 (by simp [f41_l,k2]);rw [if_pos k2];simp only [PD.m,f19_c8,f19_c13,n14,n15,decide_false,cond_false];simp only [k2,decide_true,cond_true,inO a1 a2,inRI i1 i2',ask_true];rw [f54_eq];simp only [Option.bind_some];obtain ⟨iv,hiv⟩:=f53_eq (out_cr hG hs ho a1 a2) (gx g.2.2.2.2.2.1 y.2.1.toNat dScalar).2.1;rw [hiv];simp only [Option.bind_some];show _=some (if (typc (gx out y.2.2.1.toNat dCongr) (gx g.2.2.2.2.2.1 y.2.1.toNat dScalar).2.1).1=true then deadM else (s.1,(s.2.1.set y.2.1.toNat (typc (gx out y.2.2.1.toNat dCongr) (gx g.2.2.2.2.2.1 y.2.1.toNat dScalar).2.1),s.2.2)));cases hc:(typc (gx out y.2.2.1.toNat dCongr) (gx g.2.2.2.2.2.1 y.2.1.toNat dScalar).2.1).1
     · simp only [cond_false,Bool.false_eq_true,if_false];rw [f55_eq hsm.v i1 i3];rfl
     · simp only [cond_true,if_true];rfl
   · rw [if_neg k2];have c8:∀ z:Bool,f19_c8.m (way,out,false,g,s,z,y)=some (.inr s.2.1):=fun z=>by simp only [PD.m,f19_c8,cond_false]
     by_cases k3:y.1=14
     · have n15:¬ y.1=15:=by omega
       obtain ⟨i1,i2⟩:=idx.k11 (.inr k3);have i2':y.2.2.1<(List.length g.2.2.2.2.2.2.1:Int):=i2;have i3:y.2.2.1<(List.length s.2.2:Int):=by omega
       obtain ⟨a1,a2⟩:=use y.2.1 (by simp [f41_l,k3]);have cr:=out_cr hG hs ho a1 a2;rw [if_pos k3,decide_eq_false k2,c8];simp only [Option.bind_some,Sum.elim_inr];simp only [PD.m,f19_c13];simp only [k3,decide_true,cond_true,inO a1 a2,inRI i1 i2',ask_true];rw [f54_eq];simp only [Option.bind_some];obtain ⟨iv,hiv⟩:=f53_eq cr (gx g.2.2.2.2.2.2.1 y.2.2.1.toNat dArray).2.1;rw [hiv];have tcr:=typc_cr cr (gx g.2.2.2.2.2.2.1 y.2.2.1.toNat dArray).2.1;simp only [Option.bind_some];show _=some (if (typc (gx out y.2.1.toNat dCongr) (gx g.2.2.2.2.2.2.1 y.2.2.1.toNat dArray).2.1).1=true then deadM else (s.1,(s.2.1,s.2.2.set y.2.2.1.toNat (if 1<(gx g.2.2.2.2.2.2.1 y.2.2.1.toNat dArray).2.2.1 then joinc (gx s.2.2 y.2.2.1.toNat dCongr) (typc (gx out y.2.1.toNat dCongr) (gx g.2.2.2.2.2.2.1 y.2.2.1.toNat dArray).2.1) else typc (gx out y.2.1.toNat dCongr) (gx g.2.2.2.2.2.2.1 y.2.2.1.toNat dArray).2.1))));generalize typc (gx out y.2.1.toNat dCongr) (gx g.2.2.2.2.2.2.1 y.2.2.1.toNat dArray).2.1=c at tcr ⊢;cases hc:c.1
       · simp only [cond_false,Bool.false_eq_true,if_false,PD.m,f19_c17];by_cases k4:1<(gx g.2.2.2.2.2.2.1 y.2.2.1.toNat dArray).2.2.1
         · simp only [k4,decide_true,cond_true,if_true,inRI i1 i3,ask_true];rw [(join_eq (hs.ic y.2.2.1.toNat (by omega)) tcr).2.1];simp only [Option.bind_some];rw [f55_eq hsm.w i1 i3];rfl
         · simp only [k4,decide_false,cond_false,if_false,Option.bind_some];rw [f55_eq hsm.w i1 i3];rfl
       · simp only [cond_true,if_true];rfl
     · have c13:∀ (z w:Bool) (v u:List TCongr),f19_c13.m (way,out,false,g,z,v,u,w,y)=some (.inr u):=fun z w v u=>by simp only [PD.m,f19_c13,cond_false]
       rw [if_neg k3,decide_eq_false k2,decide_eq_false k3,c8];simp only [Option.bind_some,Sum.elim_inr];rw [c13];simp only [Option.bind_some,Sum.elim_inr];by_cases k4:y.1=15
       · rw [decide_eq_true k4];obtain ⟨a1,a2⟩:=use y.2.2.1 (by simp [f41_l,k4]);obtain ⟨b1,b2⟩:=use y.2.2.2.1 (by simp [f41_l,k4]);simp only [cond_true];rw [f57_eq hG hs hb ho ⟨a1,a2⟩ ⟨b1,b2⟩ (tst k4) k4];unfold stepM;rw [if_neg k1,if_neg k2,if_neg k3];rfl
       · rw [decide_eq_false k4,if_neg k4];rfl
end
end Go.U
end
section
set_option maxRecDepth 20000
namespace Go.U
open Go
theorem g17_self {s:TMods} (h:Small s):f17_m (s.1,s,s.2.1,s.2.2)=some true:=by
 have h1:=h.v;have h2:=h.w;unfold f17_m f17_c;simp only [beq_self_eq_true,Bool.not_true,cond_false,decide_true];rw [loop_all (n:=s.2.1.length) (by omega) (p:=fun _=>true) (fun i hi=>by
  have h':(i:Int)<(s.2.1.length:Int):=by omega
  simp only [LD.m,f17_l4,nt,h',decide_true,cond_true,inR hi,ask_true,beq_self_eq_true,Bool.and_self,Bool.not_true,cond_false]) (by
  simp only [LD.m,f17_l4,nt,Int.lt_irrefl,decide_false,cond_false])]
 have e:((List.range s.2.1.length).all fun _=>true)=true:=by simp
 rw [e];simp only [cond_true,Option.bind_some,Sum.elim_inr];rw [loop_all (n:=s.2.2.length) (by omega) (p:=fun _=>true) (fun i hi=>by
  have h':(i:Int)<(s.2.2.length:Int):=by omega
  simp only [LD.m,f17_l9,nt,h',decide_true,cond_true,inR hi,ask_true,beq_self_eq_true,Bool.and_self,Bool.not_true,cond_false]) (by
  simp only [LD.m,f17_l9,nt,Int.lt_irrefl,decide_false,cond_false])]
 have e:((List.range s.2.2.length).all fun _=>true)=true:=by simp
 rw [e];rfl
theorem g17v1_self {s:TMods} (h:Small s):f17v1_m (s,s)=some true:=by
 have h1:=h.v;have h2:=h.w;unfold f17v1_m f17v1_c;simp only [beq_self_eq_true,Bool.not_true,cond_false,decide_true];rw [loop_all (n:=s.2.1.length) (by omega) (p:=fun _=>true) (fun i hi=>by
  have h':(i:Int)<(s.2.1.length:Int):=by omega
  simp only [LD.m,f17v1_l4,nt,h',decide_true,cond_true,inR hi,ask_true,beq_self_eq_true,Bool.and_self,Bool.not_true,cond_false]) (by
  simp only [LD.m,f17v1_l4,nt,Int.lt_irrefl,decide_false,cond_false])]
 have e:((List.range s.2.1.length).all fun _=>true)=true:=by simp
 rw [e];simp only [cond_true,Option.bind_some,Sum.elim_inr];rw [loop_all (n:=s.2.2.length) (by omega) (p:=fun _=>true) (fun i hi=>by
  have h':(i:Int)<(s.2.2.length:Int):=by omega
  simp only [LD.m,f17v1_l9,nt,h',decide_true,cond_true,inR hi,ask_true,beq_self_eq_true,Bool.and_self,Bool.not_true,cond_false]) (by
  simp only [LD.m,f17v1_l9,nt,Int.lt_irrefl,decide_false,cond_false])]
 have e:((List.range s.2.2.length).all fun _=>true)=true:=by simp
 rw [e];rfl
theorem g18_tot {b:Bool} {l m:List TCongr} (h1:l.length<=1048576) (h2:m.length<=1048576):∃ r,f18_m (b,l,m)=some r:=by
 unfold f18_m f18_c;rw [loop_set (a:=l) h1 (F:=fun _=>(false,(0,4321))) (fun i l' hi hl _=>by
  have h':(i:Int)<(l'.length:Int):=by omega
  have hi':i<l'.length:=by omega
  simp only [LD.m,f18_l2,nt,h',decide_true,cond_true,inR hi',ask_true,Int.toNat_natCast]) (fun l' hl=>by
  simp only [LD.m,f18_l2,nt,hl,Int.lt_irrefl,decide_false,cond_false])]
 simp only [Option.bind_some];rw [loop_set (a:=m) h2 (F:=fun _=>(false,(0,4321))) (fun i l' hi hl _=>by
  have h':(i:Int)<(l'.length:Int):=by omega
  have hi':i<l'.length:=by omega
  simp only [LD.m,f18_l6,nt,h',decide_true,cond_true,inR hi',ask_true,Int.toNat_natCast]) (fun l' hl=>by
  simp only [LD.m,f18_l6,nt,hl,Int.lt_irrefl,decide_false,cond_false])]
 exact ⟨_,rfl⟩
theorem g11_dead {g:TGraph} {s:TMods} (h:f11_m (g,s)=some true) (hb:s.1=false):s=(false,([],[])):=by
 obtain ⟨b,v,w⟩:=s;simp only at hb;subst hb;unfold f11_m f11_c at h;cases v with
 |nil=>cases w with
  |nil=>rfl
  |cons x l=>
   have e:¬ nt (l.length+1)=0:=by simp only [nt];omega
   have e0:nt 0=0:=rfl;simp [e,e0] at h
 |cons x l=>
  have e:¬ nt (l.length+1)=0:=by simp only [nt];omega
  simp [e] at h
theorem steps_eq {g:TGraph} {D:List Int} {s:TMods} (hG:FitG g D) (hn:NumsG g) (hs:s.1=true->FitS g s) (hd:s.1=false->s=deadM) {j:Nat} (hj:j<g.1.length) (way:Int):∃ r,f16_m (g,s,(j:Int),way)=some r/\f19_m (g,s,(j:Int),way)=some r/\Small r:=by
 by_cases wa:wayBad g s j way
 · exact ⟨_,f16_bad hG hj wa,f19_bad hj wa,⟨Nat.zero_le _,Nat.zero_le _⟩⟩
 · have la:s.1=true:=by
    cases h:s.1
    · exact absurd (.inl h) wa
    · rfl
   obtain ⟨out,o1,o2⟩:=f48_eq hG (hs la) hn;refine ⟨_,f16_eq hG (hs la) (fun _=>o2) hj wa,f19_eq hG (hs la) o1 o2 hj wa,?_⟩;have hsm:=small_fit hG (hs la);have hdd:Small deadM:=⟨Nat.zero_le _,Nat.zero_le _⟩;have ite:∀ {P:Prop} [Decidable P] {x y:TMods},Small x->Small y->Small (if P then x else y):=fun {P} _ {x y} hx hy=>by
    split
    · exact hx
    · exact hy
   have rl:∀ {v w:List TCongr} {r:Int} {c:TCongr},refv ((scs g).length:Int) v r c=some w->w.length=v.length:=fun {v w r c} h=>by
    unfold refv at h;split at h
    · split at h
      · cases h
      · injection h with h;subst h;simp
    · injection h with h;subst h;rfl
   unfold stepM;refine ite (ite hdd hsm) (ite (ite hdd ⟨by simpa using hsm.v,hsm.w⟩) (ite (ite hdd ⟨hsm.v,by simpa using hsm.w⟩) (ite (ite hdd ?_) hsm)));unfold refs;cases hw:refv ((scs g).length:Int) s.2.1 (at' g j).2.2.1 _ with
   |none=>exact hdd
   |some w=>
    simp only [Option.bind_some];cases hw2:refv ((scs g).length:Int) w (at' g j).2.2.2.1 _ with
    |none=>exact hdd
    |some u=>exact ⟨by have:=hsm.v;show u.length<=_;rw [rl hw2,rl hw];exact this,hsm.w⟩
theorem math4 (g:TGraph) (s:TMods) (at_ way:Int) (hg:okC maxLen cGraph g) (hs:okC maxLen cMods s) (_:okC maxLen (.int .i64) at_) (_:okC maxLen (.int .i64) way):f4_m (g,s,at_,way)=some true:=by
 have hL:=lens_of (Nat.le_refl _) hg;have hn:=nums_of hg;have hM:=lensM_of (Nat.le_refl _) hs;unfold f4_m f4_c;obtain ⟨r1,q1,q2⟩:=f10_eq hL;simp only;rw [q1];simp only [Option.bind_some];cases r1
 · simp only [Bool.not_false,cond_true];rw [awake];rfl
 · obtain ⟨D,hG⟩:=q2 rfl;simp only [Bool.not_true,cond_false];obtain ⟨ra,p1,p2⟩:=f11_eq (g:=g) hM;rw [p1];simp only [Option.bind_some];cases ra
   · simp only [Bool.not_false,cond_true];rw [awake];rfl
   · simp only [Bool.not_true,cond_false];have hf:=p2 rfl;have hd:=g11_dead p1;have hsm:Small s:=by
      cases hb:s.1
      · rw [hd hb];exact ⟨Nat.zero_le _,Nat.zero_le _⟩
      · exact small_fit hG (hf hb)
     have hN:=hG.N;have hN1:=hG.N1;have wN:wu64 (nt g.1.length)=(g.1.length:Int):=wu64_of (by simp only [nt];omega) (by simp only [nt];omega);have hz:¬ (g.1.length:Int)=0:=by omega
     simp only [wN,hz,decide_false,cond_false];have f15:f15_m s=some ():=by
      unfold f15_m f15_c;simp only [len24 hsm.v,len24 hsm.w,ask_true]
     rw [f15];simp only [Option.bind_some];have w0:0<=wu64 at_:=by rw [wu64_eq];omega
     have m0:=Int.emod_nonneg (wu64 at_) hz;have m1:=Int.emod_lt_of_pos (wu64 at_) (show (0:Int)<(g.1.length:Int) by omega);rw [tmod_nat w0];obtain ⟨J,hJ⟩:=Int.eq_ofNat_of_zero_le m0;rw [hJ] at m1 ⊢;rw [wi64_of (n:=(J:Int)) (by omega) (by omega)];obtain ⟨r,t1,t2,t3⟩:=steps_eq hG hn hf hd (j:=J) (by omega) way;rw [re16,show ((s.1,(s.2.1,s.2.2)):TMods)=s from rfl,t1];simp only [Option.bind_some];rw [g17_self hsm];simp only [Option.bind_some,Bool.not_true,cond_false];obtain ⟨r8,u1⟩:=g18_tot (b:=s.1) hsm.v hsm.w;rw [u1];simp only [Option.bind_some];rw [t2];simp only [Option.bind_some];rw [g17v1_self t3];simp only [Option.bind_some,cond_true];rw [awake];rfl
end Go.U
end
