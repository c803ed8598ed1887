/- What these Lean functions compute: plain arithmetic of congruences, the checks of a graph, the values of its registers. -/
import Derived.Test.YtcbcifeaalkdfaaGreatDoorD5
set_option linter.unusedVariables false
set_option linter.unusedSimpArgs false
set_option linter.unusedSectionVars false
section
set_option maxRecDepth 20000
namespace Go.U
open Go
theorem f49_eq {a:TMods} (h:Small a):f49_m a=some ():=by
 unfold f49_m f49_c;simp only [len24 h.v,len24 h.w,ask_true]
end Go.U
end
section
set_option maxRecDepth 20000
namespace Go.U
open Go
def itvT (t:Int):TItv:=if t=1 then (-128,127) else if t=2 then (-32768,32767) else if t=3 then (-2147483648,2147483647) else (1,0)
def typc (c:TCongr) (t:Int):TCongr:=
 if c.1=true then none31 else if (itvT t).2<(itvT t).1 then none31
 else if c.2.1=0 then (if (itvT t).1<=c.2.2/\c.2.2<=(itvT t).2 then c else none31)
 else if (itvT t).2-((itvT t).2-c.2.2)%c.2.1<(itvT t).1+(c.2.2-(itvT t).1)%c.2.1 then none31
 else if (itvT t).1+(c.2.2-(itvT t).1)%c.2.1=(itvT t).2-((itvT t).2-c.2.2)%c.2.1 then nf 0 ((itvT t).1+(c.2.2-(itvT t).1)%c.2.1) else c
theorem f97_eq (t:Int):f97_m t=some (itvT t):=by
 unfold itvT;by_cases h1:t=1
 · subst h1;decide +kernel
 · by_cases h2:t=2
   · subst h2;decide +kernel
   · by_cases h3:t=3
     · subst h3;decide +kernel
     · unfold f97_m f97_c;simp only [h1,h2,h3,decide_false,cond_false,if_false]
theorem itvT_in (t:Int): -2147483648<=(itvT t).1/\(itvT t).1<=1/\0<=(itvT t).2/\(itvT t).2<=2147483647:=by
 unfold itvT;split
 · decide
 · split
   · decide
   · split<;>decide
theorem of_in {a b:Int} (h1: -2147483648<=a) (h2:a<=2147483647) (h3: -2147483648<=b) (h4:b<=2147483647):f146_m (a,b)=some (if b<a then (1,0) else (a,b)):=by
 unfold f146_m f146_c;have k1:¬ (4611686018427387904:Int)<=a:=by omega
 have k2:¬ b<=(-4611686018427387904:Int):=by omega
 have k3:¬ (-4611686018427387904:Int)>a:=by omega
 have k4:¬ (4611686018427387904:Int)<b:=by omega
 simp only;by_cases h:b<a
 · simp only [h,decide_true,cond_true,if_true]
 · simp only [h,k1,k2,k3,k4,decide_false,cond_false,if_false]
theorem meet_in (t:Int):f142_m (itvT t,(-2147483648,2147483647))=some (itvT t):=by
 unfold itvT;split
 · decide +kernel
 · split
   · decide +kernel
   · split<;>decide +kernel
theorem f50_eq {c:TCongr} (h:CR c) (t:Int):f50_m (c,t)=some (typc c t):=by
 unfold f50_m f50_c f96_m f96_c;simp only;obtain ⟨i1,i2,i3,i4⟩:=itvT_in t;rw [f97_eq,f97_eq];simp only [Option.bind_some];rw [show itvT 3=(-2147483648,2147483647) from rfl,meet_in];simp only [Option.bind_some];unfold typc;cases hb:c.1
 · obtain ⟨a0,a1,a2,a3,a4,a5⟩:=h.bounds hb;simp only [cond_false,Bool.false_eq_true,if_false];by_cases he:(itvT t).2<(itvT t).1
   · simp only [he,decide_true,cond_true,if_true];rfl
   · simp only [he,decide_false,cond_false,if_false];have snd:∀ x:Int,f145_m (itvT t,x)=some (decide ((itvT t).1<=x)&&decide (x<=(itvT t).2)):=fun x=>by
       unfold f145_m f145_c f164_m f164_c;simp only;rw [of_in i1 (by omega) (by omega) i4,if_neg he];simp only [Option.bind_some];have k1:¬ (itvT t).1= -4611686018427387904:=by omega
       have k2:¬ (itvT t).2=4611686018427387904:=by omega
       simp only [he,k1,k2,decide_false,Bool.not_false,cond_true,cond_false];cases decide ((itvT t).1<=x)<;>rfl
     by_cases h0:c.2.1=0
     · simp only [h0,decide_true,cond_true,if_true];rw [snd];simp only [Option.bind_some];by_cases hin:(itvT t).1<=c.2.2/\c.2.2<=(itvT t).2
       · have d1:=hin.1;have d2:=hin.2;simp only [d1,d2,decide_true,Bool.and_self,Bool.not_true,cond_false,and_self,if_true];rw [of_in (by omega) (by omega) (by omega) (by omega)];rfl
       · rw [if_neg hin];have:(decide ((itvT t).1<=c.2.2)&&decide (c.2.2<=(itvT t).2))=false:=by
           rw [Bool.and_eq_false_iff];by_cases d1:(itvT t).1<=c.2.2
           · right;exact decide_eq_false fun d2=>hin ⟨d1,d2⟩
           · left;exact decide_eq_false d1
         rw [this];rfl
     · simp only [h0,decide_false,cond_false,if_false];have hm:0<c.2.1:=by omega
       rw [wu64_of (n:=c.2.1) a0 (by omega),wi64_of (n:=c.2.2-(itvT t).1) (by omega) (by omega),wi64_of (n:=(itvT t).2-c.2.2) (by omega) (by omega),f117_eq (by omega) (by omega) hm (by omega)];simp only [Option.bind_some];rw [f117_eq (by omega) (by omega) hm (by omega)];simp only [Option.bind_some];have p1:=Int.emod_nonneg (c.2.2-(itvT t).1) h0;have p2:=Int.emod_lt_of_pos (c.2.2-(itvT t).1) hm;have p3:=Int.emod_nonneg ((itvT t).2-c.2.2) h0;have p4:=Int.emod_lt_of_pos ((itvT t).2-c.2.2) hm;generalize (c.2.2-(itvT t).1)%c.2.1=u at p1 p2 ⊢;generalize ((itvT t).2-c.2.2)%c.2.1=v at p3 p4 ⊢;rw [wi64_of (n:=u) (by omega) (by omega),wi64_of (n:=v) (by omega) (by omega),wi64_of (n:=(itvT t).1+u) (by omega) (by omega),wi64_of (n:=(itvT t).2-v) (by omega) (by omega)];by_cases q1:(itvT t).2-v<(itvT t).1+u
       · simp only [q1,decide_true,cond_true,if_true];rfl
       · simp only [q1,decide_false,cond_false,if_false];by_cases q2:(itvT t).1+u=(itvT t).2-v
         · simp only [q2,decide_true,cond_true,if_true];obtain ⟨c1,c2⟩:=f127_eq ((itvT t).2-v);rw [c1];simp only [Option.bind_some];rw [of_in (by omega) (by omega) (by omega) (by omega)];simp only [Option.bind_some];congr 1;generalize nf 0 ((itvT t).2-v)=w at c2;obtain ⟨w1,w2,w3⟩:=w;simp only at c2;subst c2;rfl
         · simp only [q2,decide_false,cond_false,if_false];rw [of_in (by omega) (by omega) (by omega) (by omega)];rfl
 · simp only [cond_true,if_true];rfl
theorem typc_cr {c:TCongr} (h:CR c) (t:Int):CR (typc c t):=by
 unfold typc;split
 · exact none_cr
 · split
   · exact none_cr
   · split
     · split
       · exact h
       · exact none_cr
     · split
       · exact none_cr
       · split
         · exact nf_cr (Int.le_refl _)
         · exact h
end Go.U
end
section
set_option maxRecDepth 20000
namespace Go.U
open Go
theorem eq_of_mem {a b:TCongr} (ha:CR a) (hb:CR b) (h:∀ z,mem a z↔mem b z):a=b:=by
 have l1:=(leq_mem ha hb).2 fun z=>(h z).1
 have l2:=(leq_mem hb ha).2 fun z=>(h z).2
 cases h1:a.1
 · obtain ⟨e1,d1,d2⟩:=le_div ha hb l1 h1;obtain ⟨_,d3,d4⟩:=le_div hb ha l2 e1;have a0:=(ha.bounds h1).1;have b0:=(hb.bounds e1).1;have em:a.2.1=b.2.1:=Int.dvd_antisymm a0 b0 d3 d1;by_cases h0:b.2.1=0
   · exact const_eq ha hb l1 h1 h0
   · have ra:=ha.rem h1 (by rw [em];exact h0);have rb:=hb.rem e1 h0;have er:a.2.2=b.2.2:=by
      rw [ra.1,rb.1,em];exact dvd_emod d2
     obtain ⟨p,m,r⟩:=a;obtain ⟨q,m',r'⟩:=b;simp only at h1 e1 em er;rw [h1,e1,em,er]
 · cases h2:b.1
   · have:=(le_div hb ha l2 h2).1;rw [h1] at this;cases this
   · rw [ha.true h1,hb.true h2]
def MeetS (a b c:TCongr):Prop:=CR c/\∀ z,mem c z↔mem a z/\mem b z
theorem MeetS.uniq {a b c d:TCongr} (h:MeetS a b c) (h':MeetS a b d):c=d:=eq_of_mem h.1 h'.1 fun z=>(h.2 z).trans (h'.2 z).symm
theorem none_mem {z:Int}:¬ mem none31 z:=fun h=>by cases h.1
theorem inv_step {n r s q x y:Nat} (hq:q=r/s) (hI:x * s+y * r<=n):y * (r%s)+(x+q * y) * s<=n:=by
 have e:r=r%s+s * q:=by rw [hq];exact (Nat.mod_add_div r s).symm
 have:y * (r%s)+(x+q * y) * s=x * s+y * r:=by
  rw [Nat.add_mul];have e2:y * r=y * (r%s)+q * y * s:=by
   conv=>lhs;rw [e]
   rw [Nat.mul_add,Nat.mul_comm q y,Nat.mul_assoc,Nat.mul_comm s q]
  rw [e2];omega
 omega
theorem f149_eq {a n:Nat} (hn:1<n) (hn1:n<4294967296) (ha:a<n) (hg:Nat.gcd a n=1):∃ v:Int,f149_m ((a:Int),(n:Int))=some v/\0<=v/\v<(n:Int)/\(n:Int) ∣ v * (a:Int)-1:=by
 unfold f149_m f149_c;simp only;rw [wi64_of (n:=(a:Int)) (by omega) (by omega),wi64_of (n:=(n:Int)) (by omega) (by omega)];obtain ⟨e,h1,h2⟩:=loopAll_of (step:=f149_l2.m (n:Int)) (t:=(1,0,(a:Int),(n:Int)))
  (fun t=>∃ x y r s:Nat,t.2.2.1=(r:Int)/\t.2.2.2=(s:Int)/\((t.1=(x:Int)/\t.2.1= -(y:Int))\/(t.1= -(x:Int)/\t.2.1=(y:Int)))/\x * s+y * r<=n/\x<=n/\y<=n/\r<=n/\s<=n/\(r<n\/s<n)/\Nat.gcd r s=1/\(n:Int) ∣ t.1 * (a:Int)-t.2.2.1/\(n:Int) ∣ t.2.1 * (a:Int)-t.2.2.2)
  (fun t=>t.2.2.2.toNat) (fun e=> -4294967296<=e/\e<=4294967296/\(n:Int) ∣ e * (a:Int)-1)
  ⟨1,0,a,n,rfl,rfl,.inl ⟨rfl,rfl⟩,by omega,by omega,by omega,by omega,by omega,.inl ha,hg,by simp,by simp only [Int.zero_mul,Int.zero_sub];exact Int.dvd_neg.2 (Int.dvd_refl _)⟩ (by simp only;omega) (fun t ⟨x,y,r,s,hr,hs,hxy,hI,hx,hy,hrn,hsn,hlt,hgg,d1,d2⟩=>by
   obtain ⟨tx,ty,tr,ts⟩:=t;simp only at hr hs hxy d1 d2;subst hr;subst hs;simp only [LD.m,f149_l2];by_cases h0:s=0
   · subst h0;simp only [Int.natCast_zero,decide_true,Bool.not_true,cond_false];refine .inr ⟨_,rfl,?_⟩;rw [Nat.gcd_zero_right] at hgg;subst hgg;have hb: -4294967296<=tx/\tx<=4294967296:=by rcases hxy with ⟨h,_⟩|⟨h,_⟩<;>omega
     exact ⟨hb.1,hb.2,d1⟩
   · have h0':¬ (s:Int)=0:=by omega
     simp only [h0',decide_false,Bool.not_false,cond_true,cond_false];have hq:Int.tdiv (r:Int) (s:Int)=((r/s:Nat):Int):=rfl;have hqr:r/s<=r:=Nat.div_le_self _ _;have I2:=inv_step (q:=r/s) rfl hI;have hqs:r/s * s<=r:=Nat.div_mul_le_self r s;have er:r%s=r-r/s * s:=by have:=Nat.mod_add_div r s;rw [Nat.mul_comm] at this;omega
     have hmod:r%s<s:=Nat.mod_lt _ (by omega);have hgg':Nat.gcd s (r%s)=1:=by rw [Nat.gcd_comm,<- Nat.gcd_rec,Nat.gcd_comm];exact hgg
     rw [hq];clear hI hq;generalize r/s=w at hqr I2 hqs er ⊢;generalize r%s=e at I2 er hmod hgg' ⊢;have hy':x+w * y<=n:=by
       have:(x+w * y) * 1<=(x+w * y) * s:=Nat.mul_le_mul_left _ (by omega);omega
     rw [wi64_of (n:=(w:Int)) (by omega) (by omega)];have m1:(w:Int) * (s:Int)=((w * s:Nat):Int):=(Int.natCast_mul _ _).symm;have m2:(w:Int) * (y:Int)=((w * y:Nat):Int):=(Int.natCast_mul _ _).symm;rw [m1,wi64_of (n:=((w * s:Nat):Int)) (by omega) (by omega),wi64_of (n:=(r:Int)-((w * s:Nat):Int)) (by omega) (by omega)];have e1:(r:Int)-((w * s:Nat):Int)=(e:Int):=by omega
     have hyq:(w:Int) * ty=((w * y:Nat):Int)\/(w:Int) * ty= -((w * y:Nat):Int):=by
       rcases hxy with ⟨_,h⟩|⟨_,h⟩
       · right;rw [h,Int.mul_neg,m2]
       · left;rw [h,m2]
     obtain ⟨wy,hwy⟩:∃ wy,(w:Int) * ty=wy:=⟨_,rfl⟩;rw [hwy] at hyq ⊢;have hyb: -4294967296<=wy/\wy<=4294967296:=by
       rcases hyq with h|h<;>rw [h]<;>omega
     have hxb: -4294967296<=tx/\tx<=4294967296:=by rcases hxy with ⟨h,_⟩|⟨h,_⟩<;>omega
     rw [wi64_of (n:=wy) (by omega) (by omega),wi64_of (n:=tx-wy) (by omega) (by omega)];refine .inl ⟨_,rfl,⟨y,x+w * y,s,e,rfl,e1,?_,I2,by omega,hy',hsn,by omega,.inr (by omega),hgg',d2,?_⟩,by simp only;omega⟩
     · rcases hxy with ⟨g1,g2⟩|⟨g1,g2⟩
       · right;refine ⟨g2,?_⟩;simp only;rw [g1,<- hwy,g2,Int.mul_neg,m2];omega
       · left;refine ⟨g2,?_⟩;simp only;rw [g1,<- hwy,g2,m2];omega
     · simp only;have:(tx-wy) * (a:Int)-((r:Int)-((w * s:Nat):Int))=(tx * (a:Int)-(r:Int))-(w:Int) * (ty * (a:Int)-(s:Int)):=by
         rw [Int.sub_mul,Int.mul_sub,<- Int.mul_assoc,hwy,m1];omega
       rw [this];exact Int.dvd_sub d1 (Int.dvd_trans d2 (Int.dvd_mul_left _ _)))
 rw [h1];simp only [Option.bind_some];obtain ⟨b1,b2,b3⟩:=h2;rw [f117_eq (by omega) (by omega) (by omega) (by omega)];refine ⟨_,rfl,Int.emod_nonneg _ (by omega),Int.emod_lt_of_pos _ (by omega),?_⟩;have k:=Int.emod_add_mul_ediv e (n:Int);rw [show e%(n:Int) * (a:Int)-1=(e * (a:Int)-1)-(n:Int) * (e/(n:Int) * (a:Int)) by
  have:e * (a:Int)=e%(n:Int) * (a:Int)+(n:Int) * (e/(n:Int)) * (a:Int):=by rw [<- Int.add_mul,k]
  rw [this,Int.mul_assoc];omega]
 exact Int.dvd_sub b3 (Int.dvd_mul_right _ _)
theorem lcm_mem {m n:Nat} {x z r1 r2:Int} (h1:(m:Int) ∣ x-r1) (h2:(n:Int) ∣ x-r2):((m * (n/Nat.gcd m n):Nat):Int) ∣ z-x↔(m:Int) ∣ z-r1/\(n:Int) ∣ z-r2:=by
 have e:m * (n/Nat.gcd m n)=Nat.lcm m n:=(Nat.mul_div_assoc m (Nat.gcd_dvd_right m n)).symm;rw [e];constructor
 · intro h;have k1:(m:Int) ∣ z-x:=Int.dvd_trans (Int.natCast_dvd_natCast.2 (Nat.dvd_lcm_left m n)) h;have k2:(n:Int) ∣ z-x:=Int.dvd_trans (Int.natCast_dvd_natCast.2 (Nat.dvd_lcm_right m n)) h;exact ⟨(dvd_swap h1).1 k1,(dvd_swap h2).1 k2⟩
 · rintro ⟨k1,k2⟩
   have k1:=(dvd_swap h1).2 k1;have k2:=(dvd_swap h2).2 k2;exact Int.dvd_natAbs.1 (Int.natCast_dvd_natCast.2 (Nat.lcm_dvd (Int.natCast_dvd_natCast.1 (Int.dvd_natAbs.2 k1)) (Int.natCast_dvd_natCast.1 (Int.dvd_natAbs.2 k2))))
theorem meet_const {a b:TCongr} (ha:CR a) (hb:CR b) (h1:a.1=false) (h0:a.2.1=0):MeetS a b (cond (hasc b a.2.2) a none31):=by
 obtain ⟨a0,_,a2,_,_,a5⟩:=ha.bounds h1;have only:∀ z,mem a z->z=a.2.2:=fun z ⟨_,_,_,hz⟩=>by
   rw [h0] at hz;have:=Int.zero_dvd.1 hz;omega
 cases hh:hasc b a.2.2
 · refine ⟨none_cr,fun z=>⟨fun h=>absurd h none_mem,fun ⟨k1,k2⟩=> ?_⟩⟩;rw [only z k1] at k2;rw [(hasc_mem hb _).2 k2] at hh;cases hh
 · exact ⟨ha,fun z=>⟨fun h=>⟨h,by rw [only z h];exact (hasc_mem hb _).1 hh⟩,fun h=>h.1⟩⟩
theorem MeetS.comm {a b c:TCongr} (h:MeetS a b c):MeetS b a c:=⟨h.1,fun z=>(h.2 z).trans And.comm⟩
theorem f102_eq {a b:TCongr} (ha:CR a) (hb:CR b):∃ c,f102_m (a,b)=some c/\MeetS a b c:=by
 unfold f102_m f102_c;cases h1:a.1
 · cases h2:b.1
   · simp only [cond_false];obtain ⟨a0,a1,a2,a3,a4,a5⟩:=ha.bounds h1;obtain ⟨b0,b1,b2,b3,b4,b5⟩:=hb.bounds h2;by_cases c1:a.2.1=0
     · simp only [c1,decide_true,Bool.not_true,cond_true,cond_false];rw [f64_eq hb];have:=meet_const ha hb h1 c1;simp only [Option.bind_some];cases hh:hasc b a.2.2<;>rw [hh] at this
       · exact ⟨_,rfl,this⟩
       · exact ⟨_,rfl,this⟩
     · by_cases c2:b.2.1=0
       · simp only [c1,c2,decide_true,decide_false,Bool.not_false,cond_true,cond_false];rw [f64_eq ha];have:=(meet_const hb ha h2 c2).comm;simp only [Option.bind_some];cases hh:hasc a b.2.2<;>rw [hh] at this
         · exact ⟨_,rfl,this⟩
         · exact ⟨_,rfl,this⟩
       · simp only [c1,c2,decide_false,cond_false];obtain ⟨M,hM⟩:=Int.eq_ofNat_of_zero_le a0;obtain ⟨N,hN⟩:=Int.eq_ofNat_of_zero_le b0;obtain ⟨_,ra0,ra1⟩:=ha.rem h1 c1;obtain ⟨_,rb0,rb1⟩:=hb.rem h2 c2;obtain ⟨pa,m,r1⟩:=a;obtain ⟨pb,n,r2⟩:=b;simp only at h1 h2 hM hN ra0 ra1 rb0 rb1 a1 b1 a3 b3 c1 c2 ⊢;subst h1;subst h2;subst hM;subst hN;have hM0:0<M:=by omega
         have hN0:0<N:=by omega
         have hd0:0<Nat.gcd M N:=Nat.gcd_pos_of_pos_left _ hM0;have hdM:Nat.gcd M N<=M:=Nat.le_of_dvd hM0 (Nat.gcd_dvd_left _ _);have hdN:Nat.gcd M N<=N:=Nat.le_of_dvd hN0 (Nat.gcd_dvd_right _ _);rw [wu64_of (n:=(M:Int)) (by omega) (by omega),wu64_of (n:=(N:Int)) (by omega) (by omega),f128_eq _ _ (by omega),wi64_of (n:=r1-r2) (by omega) (by omega),f129_eq (by omega) (by omega)];simp only [Option.bind_some];have hdz:¬ ((Nat.gcd M N:Nat):Int)=0:=by omega
         simp only [hdz,decide_false,cond_false];have dvM:((Nat.gcd M N:Nat):Int) ∣ (M:Int):=gdl M N;have dvN:((Nat.gcd M N:Nat):Int) ∣ (N:Int):=gdr M N;by_cases hr:((Nat.gcd M N:Nat):Int) ∣ r1-r2
         · have hr':Int.tmod ((r1-r2).natAbs:Int) ((Nat.gcd M N:Nat):Int)=0:=tmod_zero_iff.2 (Int.dvd_natAbs.2 hr);simp only [hr',decide_true,Bool.not_true,cond_false];have q1:Int.tdiv (N:Int) ((Nat.gcd M N:Nat):Int)=((N/Nat.gcd M N:Nat):Int):=rfl;have q2:Int.tdiv (M:Int) ((Nat.gcd M N:Nat):Int)=((M/Nat.gcd M N:Nat):Int):=rfl;have qN:N/Nat.gcd M N<=N:=Nat.div_le_self _ _;have qM:M/Nat.gcd M N<=M:=Nat.div_le_self _ _;have qpos:0<N/Nat.gcd M N:=Nat.div_pos hdN hd0;have eN:Nat.gcd M N * (N/Nat.gcd M N)=N:=Nat.mul_div_cancel' (Nat.gcd_dvd_right _ _);have eM:Nat.gcd M N * (M/Nat.gcd M N)=M:=Nat.mul_div_cancel' (Nat.gcd_dvd_left _ _);have hcop:Nat.gcd (M/Nat.gcd M N) (N/Nat.gcd M N)=1:=(Nat.coprime_div_gcd_div_gcd hd0).gcd_eq_one;have hlm:∀ {x z:Int},(M:Int) ∣ x-r1->(N:Int) ∣ x-r2->(((M * (N/Nat.gcd M N):Nat):Int) ∣ z-x↔(M:Int) ∣ z-r1/\(N:Int) ∣ z-r2):=fun h1 h2=>lcm_mem h1 h2
           rw [q1,q2];clear q1 q2;generalize N/Nat.gcd M N=n' at qN qpos eN hcop hlm ⊢;generalize M/Nat.gcd M N=m' at qM eM hcop ⊢;have hLlt:M * n'<=4294967295 * 4294967295:=Nat.mul_le_mul (by omega) (by omega);rw [wu64_of (n:=(n':Int)) (by omega) (by omega),wu64_of (n:=(m':Int)) (by omega) (by omega)];have hL:(M:Int) * ((n':Nat):Int)=((M * (n'):Nat):Int):=(Int.natCast_mul _ _).symm;have hL0:0<M * (n'):=Nat.mul_pos hM0 qpos;have fin:∀ k:Nat,k<n'->(N:Int) ∣ (M:Int) * (k:Int)+r1-r2->∃ c,((f132_m ((wu64 ((M:Int) * ((n':Nat):Int))),(wu64 ((wu64 ((M:Int) * (k:Int)))+(wu64 r1))))).bind fun r=>some r)=some c/\MeetS (false,((M:Int),r1)) (false,((N:Int),r2)) c:=fun k hk hd=>by
             have hMk:(M:Int) * (k:Int)=((M * k:Nat):Int):=(Int.natCast_mul _ _).symm;have hMk1:M * k+M<=M * (n'):=by rw [<- Nat.mul_succ];exact Nat.mul_le_mul_left _ hk
             rw [hMk] at hd ⊢;rw [hL,wu64_of (n:=((M * (n'):Nat):Int)) (by omega) (by omega),wu64_of (n:=((M * k:Nat):Int)) (by omega) (by omega),wu64_of (n:=r1) ra0 (by omega),wu64_of (n:=((M * k:Nat):Int)+r1) (by omega) (by omega),f132_eq (by omega) (by omega) (by omega) (by omega)];refine ⟨_,rfl,nf_cr (by omega),fun z=> ?_⟩;rw [mem_nf (by omega),hlm (by rw [show ((M * k:Nat):Int)+r1-r1=((M * k:Nat):Int) by omega,<- hMk];exact Int.dvd_mul_right _ _) hd];exact ⟨fun ⟨g1,g2,g3,g4⟩=>⟨⟨rfl,g1,g2,g3⟩,rfl,g1,g2,g4⟩,fun ⟨⟨_,g1,g2,g3⟩,_,_,_,g4⟩=>⟨g1,g2,g3,g4⟩⟩
           by_cases hn1:1<n'
           · have hn1':(1:Int)<((n':Nat):Int):=by omega
             have hz':¬ ((n':Nat):Int)=0:=by omega
             have wd:wi64 ((Nat.gcd M N:Nat):Int)=((Nat.gcd M N:Nat):Int):=wi64_of (by omega) (by omega);simp only [hn1',hz',wd,hdz,decide_true,decide_false,cond_true,cond_false];obtain ⟨t,ht⟩:((Nat.gcd M N:Nat):Int) ∣ r2-r1:=by rw [show r2-r1= -(r1-r2) by omega];exact Int.dvd_neg.2 hr
             rw [wi64_of (n:=r2-r1) (by omega) (by omega),ht,Int.mul_tdiv_cancel_left t hdz];have htb: -4294967296<=t/\t<=4294967296:=by
              have e:=Int.mul_tdiv_cancel_left t hdz;rw [<- ht] at e;have:=tdiv_le (a:=r2-r1) (b:=((Nat.gcd M N:Nat):Int));rw [e] at this;omega
             rw [wi64_of (n:=t) (by omega) (by omega),f117_eq (by omega) (by omega) (by omega) (by omega)];simp only [Option.bind_some];have tm:Int.tmod ((m':Nat):Int) ((n':Nat):Int)=((m'%(n'):Nat):Int):=rfl;rw [tm];obtain ⟨v,v1,v2,v3,v4⟩:=f149_eq (a:=m'%(n')) (n:=n') hn1 (by omega) (Nat.mod_lt _ (by omega)) (by rw [<- Nat.gcd_rec,Nat.gcd_comm];exact hcop);rw [v1];simp only [Option.bind_some];have u0:=Int.emod_nonneg t hz';have u1:=Int.emod_lt_of_pos t (show (0:Int)<((n':Nat):Int) by omega);rw [hi0 u0 (by omega) v2 (by omega)];have huv:0<=t%((n':Nat):Int) * v:=Int.mul_nonneg u0 v2;have huv1:t%((n':Nat):Int) * v<=4294967295 * 4294967295:=Int.mul_le_mul (by omega) (by omega) v2 (by decide);rw [wu64_of (n:=t%((n':Nat):Int) * v) huv (by omega),f131_eq (by omega) huv];simp only [Option.bind_some];have k0:=Int.emod_nonneg (t%((n':Nat):Int) * v) hz';have k1:=Int.emod_lt_of_pos (t%((n':Nat):Int) * v) (show (0:Int)<((n':Nat):Int) by omega);obtain ⟨k,hk⟩:=Int.eq_ofNat_of_zero_le k0;have dk:((n':Nat):Int) ∣ ((m':Nat):Int) * (k:Int)-t:=by
              have e1:((n':Nat):Int) ∣ (k:Int)-t * v:=by
               rw [<- hk];refine emod_dvd ?_;rw [Int.emod_emod_of_dvd _ (Int.dvd_refl _),Int.mul_emod,Int.emod_emod_of_dvd _ (Int.dvd_refl _),<- Int.mul_emod]
              have e2:((n':Nat):Int) ∣ v * ((m':Nat):Int)-1:=by
               have:((n':Nat):Int) ∣ ((m':Nat):Int)-((m'%(n'):Nat):Int):=by
                refine emod_dvd ?_;rw [Int.natCast_emod,Int.emod_emod_of_dvd _ (Int.dvd_refl _)]
               rw [show v * ((m':Nat):Int)-1=v * (((m':Nat):Int)-((m'%(n'):Nat):Int))+(v * ((m'%(n'):Nat):Int)-1) by rw [Int.mul_sub];omega];exact Int.dvd_add (Int.dvd_trans this (Int.dvd_mul_left _ _)) v4
              rw [show ((m':Nat):Int) * (k:Int)-t=((m':Nat):Int) * ((k:Int)-t * v)+t * (v * ((m':Nat):Int)-1) by
               have e3:t * (v * (m':Int))=(m':Int) * (t * v):=by rw [<- Int.mul_assoc,Int.mul_comm]
               rw [Int.mul_sub,Int.mul_sub,Int.mul_one,e3];omega]
              exact Int.dvd_add (Int.dvd_trans e1 (Int.dvd_mul_left _ _)) (Int.dvd_trans e2 (Int.dvd_mul_left _ _))
             rw [hk];refine fin k (by omega) ?_;obtain ⟨w,hw⟩:=dk;refine ⟨w,?_⟩;have eMi:(M:Int)=((Nat.gcd M N:Nat):Int) * ((m':Nat):Int):=by rw [<- Int.natCast_mul,eM]
             have eNi:(N:Int)=((Nat.gcd M N:Nat):Int) * ((n':Nat):Int):=by rw [<- Int.natCast_mul,eN]
             rw [eNi,Int.mul_assoc,<- hw,Int.mul_sub,<- ht,<- Int.mul_assoc,<- eMi];omega
           · have hn1':¬ (1:Int)<((n':Nat):Int):=by omega
             simp only [hn1',decide_false,cond_false];have hone:n'=1:=by omega
             refine fin 0 (by omega) ?_;have:Nat.gcd M N=N:=by rw [hone,Nat.mul_one] at eN;exact eN
             rw [this] at hr
             simpa using hr
         · have hr':¬ Int.tmod ((r1-r2).natAbs:Int) ((Nat.gcd M N:Nat):Int)=0:=fun e=>hr (Int.dvd_natAbs.1 (tmod_zero_iff.1 e))
           simp only [hr',decide_false,Bool.not_false,cond_true];refine ⟨_,rfl,none_cr,fun z=>⟨fun h=>absurd h none_mem,fun ⟨⟨_,_,_,g1⟩,_,_,_,g2⟩=>absurd ?_ hr⟩⟩;simp only at g1 g2;rw [show r1-r2=(z-r2)-(z-r1) by omega];exact Int.dvd_sub (Int.dvd_trans dvN g2) (Int.dvd_trans dvM g1)
   · simp only [cond_false,cond_true];exact ⟨_,rfl,none_cr,fun z=>⟨fun h=>absurd h none_mem,fun h=>by have:=h.2.1;rw [h2] at this;cases this⟩⟩
 · simp only [cond_true];exact ⟨_,rfl,none_cr,fun z=>⟨fun h=>absurd h none_mem,fun h=>by have:=h.1.1;rw [h1] at this;cases this⟩⟩
open Classical in
noncomputable def meetc (a b:TCongr):TCongr:=if h:∃ c,MeetS a b c then Classical.choose h else none31
theorem meetc_of {a b c:TCongr} (h:MeetS a b c):meetc a b=c:=by
 have hh:∃ c,MeetS a b c:=⟨c,h⟩;unfold meetc;rw [dif_pos hh];exact (Classical.choose_spec hh).uniq h
theorem meet_eq {a b:TCongr} (ha:CR a) (hb:CR b):f102_m (a,b)=some (meetc a b)/\MeetS a b (meetc a b):=by
 obtain ⟨c,h1,h2⟩:=f102_eq ha hb;rw [meetc_of h2];exact ⟨h1,h2⟩
end Go.U
end
section
set_option maxRecDepth 20000
namespace Go.U
open Go
def holdsb (op x y:Int):Bool:=cond (decide (op=14)) (decide (x=y)) (cond (decide (op=15)) (!(decide (x=y))) (cond (decide (op=16)) (decide (x<y)) (cond (decide (op=17)) (decide (x<=y)) (cond (decide (op=18)) (decide (y<x)) (decide (y<=x))))))
theorem f147_eq (op x y:Int):f147_m (op,x,y)=some (holdsb op x y):=by
 unfold f147_m f147_c holdsb;simp only;cases decide (op=14)
 · cases decide (op=15)
   · cases decide (op=16)
     · cases decide (op=17)
       · cases decide (op=18)<;>rfl
       · rfl
     · rfl
   · rfl
 · rfl
def NoneT (op:Int) (a b:TCongr):Prop:=a.1=true\/b.1=true\/(a.2.1=0/\b.2.1=0/\holdsb op a.2.2 b.2.2=false)
open Classical in
noncomputable def testc (op:Int) (a b:TCongr):TCongr×TCongr:=
 if op<14\/19<op then (a,b) else if NoneT op a b then (none31,none31) else if op=14 then (meetc a b,meetc a b) else (a,b)
theorem f101_eq {op:Int} {a b:TCongr} (ha:CR a) (hb:CR b):f101_m (op,a,b)=some (testc op a b):=by
 unfold f101_m f101_c testc NoneT;simp only;by_cases o1:op<14
 · simp [o1]
 · by_cases o2:19<op
   · simp [o2]
   · simp only [o1,o2,decide_false,cond_false,or_self,if_false];have hm:=(meet_eq ha hb).1;have fin:(cond (decide (op=14)) ((f102_m (a,b)).bind fun r=>some (r,r)) (some (a,b)))=some (if op=14 then (meetc a b,meetc a b) else (a,b)):=by
       rw [hm];by_cases o3:op=14
       · simp [o3]
       · simp [o3]
     cases h1:a.1
     · cases h2:b.1
       · simp only [cond_false,Bool.false_eq_true,false_or];by_cases c1:a.2.1=0
         · by_cases c2:b.2.1=0
           · simp only [c1,c2,decide_true,cond_true,true_and];rw [f147_eq];simp only [Option.bind_some];cases hh:holdsb op a.2.2 b.2.2
             · simp [none31]
             · simp only [Bool.not_true,cond_false,Bool.true_eq_false,if_false];exact fin
           · simp only [c1,c2,decide_true,decide_false,cond_true,cond_false,false_and,and_false,if_false];exact fin
         · simp only [c1,decide_false,cond_false,false_and,if_false];exact fin
       · simp [none31]
     · simp [none31]
theorem testc_cr {op:Int} {a b:TCongr} (ha:CR a) (hb:CR b):CR (testc op a b).1/\CR (testc op a b).2:=by
 have hm:=(meet_eq ha hb).2.1;unfold testc;split
 · exact ⟨ha,hb⟩
 · split
   · exact ⟨none_cr,none_cr⟩
   · split
     · exact ⟨hm,hm⟩
     · exact ⟨ha,hb⟩
def turnc (op:Int):Int:=if op=14 then 15 else if op=15 then 14 else if op=16 then 19 else if op=17 then 18 else if op=18 then 17 else 16
theorem f100_eq {op:Int} (h0:14<=op) (h1:op<=19):f100_m op=some (turnc op):=by
 have:op=14\/op=15\/op=16\/op=17\/op=18\/op=19:=by omega
 rcases this with rfl|rfl|rfl|rfl|rfl|rfl<;>decide +kernel
noncomputable def refv (S:Int) (v:List TCongr) (r:Int) (c:TCongr):Option (List TCongr):=
 if r<S then (if (meetc (gx v r.toNat dCongr) c).1=true then none else some (v.set r.toNat (meetc (gx v r.toNat dCongr) c))) else some v
structure Vals (S:Int) (v:List TCongr):Prop where
 n:(v.length:Int)=S
 c:∀ i,i<v.length->CR (gx v i dCongr)
theorem refv_vals {S:Int} {v w:List TCongr} {r:Int} {c:TCongr} (hv:Vals S v) (h0:0<=r) (hc:CR c) (h:refv S v r c=some w):Vals S w:=by
 unfold refv at h;by_cases hr:r<S
 · rw [if_pos hr] at h;have hn:=hv.n;have hm:=(meet_eq (hv.c r.toNat (by omega)) hc).2.1;split at h
   · cases h
   · injection h with h
     subst h;refine ⟨by simpa using hn,fun i hi=> ?_⟩;rw [gx_set (by omega)];split
     · exact hm
     · exact hv.c i (by simpa using hi)
 · rw [if_neg hr] at h;injection h with h
   subst h;exact hv
noncomputable def refs (S:Int) (v:List TCongr) (A B:Int) (p q:TCongr):Option (List TCongr):=(refv S v A p).bind fun w=>refv S w B q
theorem l52_eq {g:TGraph} {s:TMods} {T:List (Int×TInstr)} {M:List (Int×TCongr)} {ar v:List TCongr} {A B:Int} {x y:Bool} {p q:TCongr} (hv:Vals ((scs g).length:Int) v) (hA:0<=A) (hB:0<=B) (hp:CR p) (hq:CR q):
   ∃ e,loopAll (f52_l8.m (A,B,x,y,(p,q),g,s,T,M,ar)) (0,v)=some e/\((refs ((scs g).length:Int) v A B p q=none/\∃ u,e= .inl u)\/∃ w,refs ((scs g).length:Int) v A B p q=some w/\e= .inr w):=by
 refine loopAll_of (step:=f52_l8.m (A,B,x,y,(p,q),g,s,T,M,ar)) (t:=(0,v)) (fun t=>t=(0,v)\/(∃ w,t=(1,w)/\refv ((scs g).length:Int) v A p=some w)\/∃ w,t=(2,w)/\refs ((scs g).length:Int) v A B p q=some w) (fun t=>2-t.1.toNat) _ (.inl rfl) (by simp) fun t ht=> ?_
 have w0:wi64 ((0:Int)+1)=1:=by decide
 have w1:wi64 ((1:Int)+1)=2:=by decide
 have t0:(0:Int)<2:=by decide
 have t1:(1:Int)<2:=by decide
 have t10:¬ (1:Int)=0:=by decide
 rcases ht with rfl|⟨w,rfl,hw⟩|⟨w,rfl,hw⟩
 · simp only [LD.m,f52_l8,t0,decide_true,cond_true,nt];by_cases hr:A<((scs g).length:Int)
   · have hr':A<(List.length g.2.2.2.2.2.1:Int):=hr;have hn:=hv.n;have hi:A<(v.length:Int):=by omega
     have hi2:A<((List.set v A.toNat (meetc (gx v A.toNat dCongr) p)).length:Int):=by simpa using hi
     have hm:=meet_eq (hv.c A.toNat (by omega)) hp;simp only [hr',decide_true,cond_true,inRI hA hi,ask_true];rw [hm.1];simp only [Option.bind_some,inRI hA hi2,ask_true];rw [gx_set (by omega),if_pos rfl];cases hb:(meetc (gx v A.toNat dCongr) p).1
     · simp only [cond_false,w0];exact .inl ⟨_,rfl,.inr (.inl ⟨_,rfl,by unfold refv;rw [if_pos hr,if_neg (by rw [hb];simp)]⟩),by simp⟩
     · simp only [cond_true];exact .inr ⟨_,rfl,.inl ⟨by unfold refs refv;rw [if_pos hr,if_pos hb];rfl,_,rfl⟩⟩
   · have hr':¬ A<(List.length g.2.2.2.2.2.1:Int):=hr;simp only [hr',decide_false,cond_false,w0];exact .inl ⟨_,rfl,.inr (.inl ⟨_,rfl,by unfold refv;rw [if_neg hr]⟩),by simp⟩
 · have hv2:=refv_vals hv hA hp hw;have hrs:refs ((scs g).length:Int) v A B p q=refv ((scs g).length:Int) w B q:=by unfold refs;rw [hw];rfl
   simp only [LD.m,f52_l8,t1,t10,decide_true,decide_false,cond_true,cond_false,nt];by_cases hr:B<((scs g).length:Int)
   · have hr':B<(List.length g.2.2.2.2.2.1:Int):=hr;have hn:=hv2.n;have hi:B<(w.length:Int):=by omega
     have hi2:B<((List.set w B.toNat (meetc (gx w B.toNat dCongr) q)).length:Int):=by simpa using hi
     have hm:=meet_eq (hv2.c B.toNat (by omega)) hq;simp only [hr',decide_true,cond_true,inRI hB hi,ask_true];rw [hm.1];simp only [Option.bind_some,inRI hB hi2,ask_true];rw [gx_set (by omega),if_pos rfl];cases hb:(meetc (gx w B.toNat dCongr) q).1
     · simp only [cond_false,w1];exact .inl ⟨_,rfl,.inr (.inr ⟨_,rfl,by rw [hrs];unfold refv;rw [if_pos hr,if_neg (by rw [hb];simp)]⟩),by simp⟩
     · simp only [cond_true];exact .inr ⟨_,rfl,.inl ⟨by rw [hrs];unfold refv;rw [if_pos hr,if_pos hb],_,rfl⟩⟩
   · have hr':¬ B<(List.length g.2.2.2.2.2.1:Int):=hr;simp only [hr',decide_false,cond_false,w1];exact .inl ⟨_,rfl,.inr (.inr ⟨_,rfl,by rw [hrs];unfold refv;rw [if_neg hr]⟩),by simp⟩
 · simp only [LD.m,f52_l8,Int.lt_irrefl,decide_false,cond_false];exact .inr ⟨_,rfl,.inr ⟨_,hw,rfl⟩⟩
end Go.U
end
section
set_option maxRecDepth 20000
namespace Go.U
open Go
def deadM:TMods:=(false,([],[]))
noncomputable def stepM (g:TGraph) (s:TMods) (out:List TCongr) (y:TInstr) (way:Int):TMods:=
 if 2<=y.1/\y.1<=8 then (if (gx out y.2.1.toNat dCongr).1=true then deadM else s)
 else if y.1=13 then (if (typc (gx out y.2.2.1.toNat dCongr) (gx (scs g) y.2.1.toNat dScalar).2.1).1=true then deadM else (s.1,(s.2.1.set y.2.1.toNat (typc (gx out y.2.2.1.toNat dCongr) (gx (scs g) y.2.1.toNat dScalar).2.1),s.2.2)))
 else if y.1=14 then (if (typc (gx out y.2.1.toNat dCongr) (gx (inps g) y.2.2.1.toNat dArray).2.1).1=true then deadM else (s.1,(s.2.1,s.2.2.set y.2.2.1.toNat (if 1<(gx (inps g) y.2.2.1.toNat dArray).2.2.1 then joinc (gx s.2.2 y.2.2.1.toNat dCongr) (typc (gx out y.2.1.toNat dCongr) (gx (inps g) y.2.2.1.toNat dArray).2.1) else typc (gx out y.2.1.toNat dCongr) (gx (inps g) y.2.2.1.toNat dArray).2.1))))
 else if y.1=15 then (if (testc (if way=1 then turnc y.2.2.2.2.1 else y.2.2.2.2.1) (gx out y.2.2.1.toNat dCongr) (gx out y.2.2.2.1.toNat dCongr)).1.1=true/\(testc (if way=1 then turnc y.2.2.2.2.1 else y.2.2.2.2.1) (gx out y.2.2.1.toNat dCongr) (gx out y.2.2.2.1.toNat dCongr)).2.1=true then deadM
  else ((refs ((scs g).length:Int) s.2.1 y.2.2.1 y.2.2.2.1 (testc (if way=1 then turnc y.2.2.2.2.1 else y.2.2.2.2.1) (gx out y.2.2.1.toNat dCongr) (gx out y.2.2.2.1.toNat dCongr)).1 (testc (if way=1 then turnc y.2.2.2.2.1 else y.2.2.2.2.1) (gx out y.2.2.1.toNat dCongr) (gx out y.2.2.2.1.toNat dCongr)).2).map fun v=>((s.1,(v,s.2.2)):TMods)).getD deadM)
 else s
section
variable {g:TGraph} {D:List Int} {s:TMods} {out:List TCongr} {T:List (Int×TInstr)}
theorem rec_eq (hG:FitG g D) (hs:FitS g s) (hb:s.1=true) (ho:Outs g s g.1.length out) (hT:∀ j,j<g.1.length->isD (at' g j)=true->hasI (at' g j).2.1 T=true/\getI (at' g j).2.1 dInstr T=at' g j) {x:Int} (h0:0<=x) (h1:x<g.2.2.1) {M:List (Int×TCongr)} (hM:MemoOK out M):
  ∃ M',Rec47.m (x,g,s,T,M)=some (gx out x.toNat dCongr,M')/\MemoOK out M':=by
 have hN:=hG.N;have hx:x<((scs g).length:Int)\/∃ j,j+1<f47_fuel/\j<g.1.length/\isD (at' g j)=true/\(at' g j).2.1=x:=by
  rcases reg_cases hG h0 h1 with h|⟨j,_,d2,d3,d4⟩
  · exact .inl h.2
  · exact .inr ⟨j,by unfold f47_fuel;omega,d2,d3,d4⟩
 exact ev_eq hG hs hb ho hT f47_fuel x M (by unfold f47_fuel;omega) h0 h1 hx hM
theorem out_cr (hG:FitG g D) (hs:FitS g s) (ho:Outs g s g.1.length out) {x:Int} (h0:0<=x) (h1:x<g.2.2.1):CR (gx out x.toNat dCongr):=by
 rcases reg_cases hG h0 h1 with ⟨_,h⟩|⟨j,_,d2,d3,d4⟩
 · have:=hs.sl;rw [ho.sc _ (by omega)];exact hs.sc _ (by omega)
 · have:=(ho.df j d2 d3).2;rw [d4] at this;exact this
theorem small_fit (hG:FitG g D) (hs:FitS g s):Small s:=by
 have h1:=hG.S;have h2:=hG.A;have a1:=hs.sl;have a2:=hs.il;exact ⟨by omega,by omega⟩
def wayBad (g:TGraph) (s:TMods) (j:Nat) (way:Int):Prop:=s.1=false\/way<0\/1<way\/(way=0/\(at' g j).2.2.2.2.2.2.1= -1)\/(way=1/\(at' g j).2.2.2.2.2.2.2= -1)
theorem r1_eq16 {j:Nat} {way:Int} (hj:j<g.1.length):∃ r,f16_r1.m (((j:Int),way),g,s,false)=some r/\(r=true↔wayBad g s j way):=by
 simp only [PD.m,f16_r1,wayBad];cases s.1
 · simp
 · by_cases w1:way<0
   · simp [w1]
   · by_cases w2:1<way
     · simp [w2]
     · simp only [w1,w2,decide_false,Bool.not_true,cond_false,inR hj,ask_true,Int.toNat_natCast];by_cases w3:way=0
       · subst w3;refine ⟨_,rfl,?_⟩
         simp
         exact Iff.rfl
       · have w4:way=1:=by omega
         subst w4;refine ⟨_,rfl,?_⟩
         simp
         exact Iff.rfl
theorem r4_eq16 (a b c d e f i h) (y:TInstr):f16_r4.m (a,b,c,y,d,e,f,i,h)=some (decide (2<=y.1)&&decide (y.1<=8)):=by
 simp only [PD.m,f16_r4];cases decide (2<=y.1)<;>rfl
theorem f16_bad (hG:FitG g D) {j:Nat} {way:Int} (hj:j<g.1.length) (hw:wayBad g s j way):f16_m (g,s,(j:Int),way)=some deadM:=by
 unfold f16_m f16_c;obtain ⟨r,h1,h2⟩:=r1_eq16 (s:=s) (way:=way) hj;simp only;rw [h1];simp only [Option.bind_some];rw [h2.2 hw];rfl
theorem f52_eq (hG:FitG g D) (hs:FitS g s) (hb:s.1=true) (ho:Outs g s g.1.length out) (hT:∀ j,j<g.1.length->isD (at' g j)=true->hasI (at' g j).2.1 T=true/\getI (at' g j).2.1 dInstr T=at' g j) {M:List (Int×TCongr)} (hM:MemoOK out M) {y:TInstr} {way:Int} {l:Bool}
   (hA:0<=y.2.2.1/\y.2.2.1<g.2.2.1) (hB:0<=y.2.2.2.1/\y.2.2.2.1<g.2.2.1) (hn:14<=y.2.2.2.2.1/\y.2.2.2.2.1<=19) (h15:y.1=15):
   ∃ M',f52_m (y,way,s.1,g,s,T,M,s.2.1,s.2.2)=some (stepM g s out y way,M'):=by
 have hv:Vals ((scs g).length:Int) s.2.1:=⟨by have:=hs.sl;omega,hs.sc⟩;have cA:=out_cr hG hs ho hA.1 hA.2;have cB:=out_cr hG hs ho hB.1 hB.2;have hst:∀ op,op=(if way=1 then turnc y.2.2.2.2.1 else y.2.2.2.2.1)->∃ M',((Rec47.m (y.2.2.1,g,s,T,M)).bind fun r2=>(Rec47.m (y.2.2.2.1,g,s,T,r2.2)).bind fun r3=>(f101_m (op,r2.1,r3.1)).bind fun r4=>
     cond r4.1.1 (cond r4.2.1 (some (((false,([],[])):TMods),r3.2)) ((loopAll (f52_l8.m (y.2.2.1,y.2.2.2.1,s.1,false,r4,g,s,T,r3.2,s.2.2)) (0,s.2.1)).bind fun e=>Sum.elim (fun _=>some (((false,([],[])):TMods),r3.2)) (fun w=>some ((s.1,(w,s.2.2)),r3.2)) e))
       ((loopAll (f52_l8.m (y.2.2.1,y.2.2.2.1,s.1,false,r4,g,s,T,r3.2,s.2.2)) (0,s.2.1)).bind fun e=>Sum.elim (fun _=>some (((false,([],[])):TMods),r3.2)) (fun w=>some ((s.1,(w,s.2.2)),r3.2)) e))=some (stepM g s out y way,M'):=fun op hop=>by
   obtain ⟨M1,m1,m2⟩:=rec_eq hG hs hb ho hT hA.1 hA.2 hM;rw [m1];simp only [Option.bind_some];obtain ⟨M2,n1,n2⟩:=rec_eq hG hs hb ho hT hB.1 hB.2 m2;rw [n1];simp only [Option.bind_some];rw [f101_eq cA cB];simp only [Option.bind_some];obtain ⟨t1,t2⟩:=testc_cr (op:=op) cA cB;have k1:¬ (2<=y.1/\y.1<=8):=by omega
   have k2:¬ y.1=13:=by omega
   have k3:¬ y.1=14:=by omega
   refine ⟨M2,?_⟩;unfold stepM;rw [if_neg k1,if_neg k2,if_neg k3,if_pos h15,<- hop];generalize testc op (gx out y.2.2.1.toNat dCongr) (gx out y.2.2.2.1.toNat dCongr)=pq at t1 t2 ⊢;obtain ⟨p,q⟩:=pq;obtain ⟨e,l1,l2⟩:=l52_eq (g:=g) (s:=s) (T:=T) (M:=M2) (ar:=s.2.2) (x:=s.1) (y:=false) hv hA.1 hB.1 t1 t2;rw [l1];simp only [Option.bind_some];have fin:(Sum.elim (fun _=>some (((false,([],[])):TMods),M2)) (fun w=>some ((s.1,(w,s.2.2)),M2)) e)=some (((refs ((scs g).length:Int) s.2.1 y.2.2.1 y.2.2.2.1 p q).map fun v=>((s.1,(v,s.2.2)):TMods)).getD deadM,M2):=by
     rcases l2 with ⟨r1,u,rfl⟩|⟨w,r1,rfl⟩
     · rw [r1];rfl
     · rw [r1];rfl
   cases hp:p.1
   · simp only [cond_false,Bool.false_eq_true,false_and,if_false];exact fin
   · cases hq:q.1
     · simp only [cond_false,cond_true,Bool.false_eq_true,and_false,if_false];exact fin
     · simp only [cond_true,and_self,if_true];rfl
 unfold f52_m f52_c;simp only;by_cases hw:way=1
 · simp only [hw,decide_true,cond_true];rw [f100_eq hn.1 hn.2];simp only [Option.bind_some];subst hw;exact hst _ (by rw [if_pos rfl])
 · simp only [hw,decide_false,cond_false];exact hst _ (by rw [if_neg hw])
theorem f16_eq (hG:FitG g D) (hs:FitS g s) (ho:s.1=true->Outs g s g.1.length out) {j:Nat} {way:Int} (hj:j<g.1.length) (hw:¬ wayBad g s j way):f16_m (g,s,(j:Int),way)=some (stepM g s out (at' g j) way):=by
 have hb:s.1=true:=by
   cases h:s.1
   · exact absurd (.inl h) hw
   · rfl
 have ho:=ho hb;unfold f16_m f16_c;obtain ⟨r,h1,h2⟩:=r1_eq16 (s:=s) (way:=way) hj;simp only;rw [h1];have hr:r=false:=by
   cases hr:r
   · rfl
   · exact absurd (h2.1 hr) hw
 subst hr;simp only [Option.bind_some,cond_false];obtain ⟨T,t1,t2⟩:=f46_eq (s:=s) hG;rw [t1];simp only [Option.bind_some,inR hj,ask_true,Int.toNat_natCast];rw [f49_eq (small_fit hG hs)];simp only [Option.bind_some];have hM:MemoOK out ([]:List (Int×TCongr)):=fun z hz=>by cases hz
 obtain ⟨y,hy⟩:∃ y,at' g j=y:=⟨_,rfl⟩;have hy':gx g.1 j dInstr=y:=hy;have good:=hG.good j hj;rw [hy];rw [hy',r4_eq16];simp only [Option.bind_some];have use:∀ x∈f41_l y,0<=x/\x<g.2.2.1:=fun x hx=>by
   obtain ⟨a,b,_⟩:=use_cases hG (good.use x (by rw [hy];exact hx));exact ⟨a,b⟩
 have idx:=good.idx;have tst:=good.tst;rw [hy] at idx tst;simp only [PD.m,f16_c5];have hsl:=hs.sl;have hil:=hs.il;by_cases k1:2<=y.1/\y.1<=8
 · have d1:=k1.1;have d2:=k1.2;simp only [d1,d2,decide_true,Bool.and_self,cond_true];have hd:isD (at' g j)=true:=by rw [hy];exact isD_true.2 ⟨by omega,by omega⟩
   obtain ⟨u1,u2⟩:=def_reg hG hj hd;rw [hy] at u1 u2;obtain ⟨M1,m1,m2⟩:=rec_eq hG hs hb ho t2 (by omega) u2 hM;rw [m1];simp only [Option.bind_some];unfold stepM;rw [if_pos k1];cases hc:(gx out y.2.1.toNat dCongr).1
   · simp
   · simp [deadM]
 · have b1:(decide (2<=y.1)&&decide (y.1<=8))=false:=by
     rw [Bool.and_eq_false_iff];by_cases d1:2<=y.1
     · right;exact decide_eq_false fun d2=>k1 ⟨d1,d2⟩
     · left;exact decide_eq_false d1
   rw [b1];simp only [cond_false];simp only [PD.m,f16_c8];by_cases k2:y.1=13
   · obtain ⟨i1,i2⟩:=idx.k13 k2;have i2':y.2.1<(List.length g.2.2.2.2.2.1:Int):=i2;have i3:y.2.1<(List.length s.2.1:Int):=by omega
     obtain ⟨a1,a2⟩:=use y.2.2.1 (by simp [f41_l,k2]);obtain ⟨M1,m1,m2⟩:=rec_eq hG hs hb ho t2 a1 a2 hM;simp only [k2,decide_true,cond_true];rw [m1];simp only [Option.bind_some,inRI i1 i2',ask_true];rw [f50_eq (out_cr hG hs ho a1 a2)];simp only [Option.bind_some,inRI i1 i3,ask_true];unfold stepM;rw [if_neg k1,if_pos k2];show _=some (if (typc (gx out y.2.2.1.toNat dCongr) (gx g.2.2.2.2.2.1 y.2.1.toNat dScalar).2.1).1=true then deadM else (s.1,(s.2.1.set y.2.1.toNat (typc (gx out y.2.2.1.toNat dCongr) (gx g.2.2.2.2.2.1 y.2.1.toNat dScalar).2.1),s.2.2)));cases hc:(typc (gx out y.2.2.1.toNat dCongr) (gx g.2.2.2.2.2.1 y.2.1.toNat dScalar).2.1).1
     · simp
     · simp [deadM]
   · simp only [k2,decide_false,cond_false];simp only [PD.m,f16_c13];by_cases k3:y.1=14
     · obtain ⟨i1,i2⟩:=idx.k11 (.inr k3);have i2':y.2.2.1<(List.length g.2.2.2.2.2.2.1:Int):=i2;have i3:y.2.2.1<(List.length s.2.2:Int):=by omega
       obtain ⟨a1,a2⟩:=use y.2.1 (by simp [f41_l,k3]);obtain ⟨M1,m1,m2⟩:=rec_eq hG hs hb ho t2 a1 a2 hM;have cr:=out_cr hG hs ho a1 a2;simp only [k3,decide_true,cond_true];rw [m1];simp only [Option.bind_some,inRI i1 i2',ask_true];rw [f50_eq cr];have tcr:=typc_cr cr (gx g.2.2.2.2.2.2.1 y.2.2.1.toNat dArray).2.1;simp only [Option.bind_some];unfold stepM;rw [if_neg k1,if_neg k2,if_pos k3];show _=some (if (typc (gx out y.2.1.toNat dCongr) (gx g.2.2.2.2.2.2.1 y.2.2.1.toNat dArray).2.1).1=true then deadM else (s.1,(s.2.1,s.2.2.set y.2.2.1.toNat (if 1<(gx g.2.2.2.2.2.2.1 y.2.2.1.toNat dArray).2.2.1 then joinc (gx s.2.2 y.2.2.1.toNat dCongr) (typc (gx out y.2.1.toNat dCongr) (gx g.2.2.2.2.2.2.1 y.2.2.1.toNat dArray).2.1) else typc (gx out y.2.1.toNat dCongr) (gx g.2.2.2.2.2.2.1 y.2.2.1.toNat dArray).2.1))));generalize typc (gx out y.2.1.toNat dCongr) (gx g.2.2.2.2.2.2.1 y.2.2.1.toNat dArray).2.1=c at tcr ⊢;cases hc:c.1
       · simp only [cond_false,Bool.false_eq_true,if_false,PD.m,f16_c17];by_cases k4:1<(gx g.2.2.2.2.2.2.1 y.2.2.1.toNat dArray).2.2.1
         · simp only [k4,decide_true,cond_true,if_true,inRI i1 i3,ask_true];rw [(join_eq (hs.ic y.2.2.1.toNat (by omega)) tcr).1];simp only [Option.bind_some,inRI i1 i3,ask_true,Sum.elim_inr]
         · simp only [k4,decide_false,cond_false,if_false,Option.bind_some,inRI i1 i3,ask_true,Sum.elim_inr]
       · simp [deadM]
     · simp only [k3,decide_false,cond_false];by_cases k4:y.1=15
       · simp only [k4,decide_true,cond_true];obtain ⟨a1,a2⟩:=use y.2.2.1 (by simp [f41_l,k4]);obtain ⟨b1,b2⟩:=use y.2.2.2.1 (by simp [f41_l,k4]);obtain ⟨M1,m1⟩:=f52_eq (l:=false) (way:=way) hG hs hb ho t2 hM ⟨a1,a2⟩ ⟨b1,b2⟩ (tst k4) k4;rw [m1];simp only [Option.bind_some,Sum.elim_inl]
       · simp only [k4,decide_false,cond_false,Option.bind_some,Sum.elim_inr];unfold stepM;rw [if_neg k1,if_neg k2,if_neg k3,if_neg k4]
end
end Go.U
end
