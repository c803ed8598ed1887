/- What these Lean functions compute: plain arithmetic of congruences, the checks of a graph, the values of its registers. -/
import Derived.Test.YtcbcifeaalkdfaaGreatDoorC1
import Derived.Test.YtcbcifeaalkdfaaGreatDoorC8
set_option linter.unusedVariables false
set_option linter.unusedSimpArgs false
set_option linter.unusedSectionVars false
namespace Go.U
open Go
theorem wi64_of {n:Int} (h0: -9223372036854775808<=n) (h1:n<=9223372036854775807):wi64 n=n:=by
 unfold wi64;rw [IntKind.wrap_i64];omega
theorem wu64_eq (n:Int):wu64 n=n%18446744073709551616:=by
 unfold wu64 IntKind.wrap;simp [IntKind.bits,IntKind.signed]
theorem wu64_of {n:Int} (h0:0<=n) (h1:n<18446744073709551616):wu64 n=n:=by
 rw [wu64_eq];omega
theorem wu64_neg {n:Int} (h0:n<0) (h1: -9223372036854775808<=n):wu64 (0-wu64 n)= -n:=by
 rw [wu64_eq,wu64_eq];omega
theorem loopM_of {T E:Type} {step:T->Option (T ⊕ E)} (I:T->Prop) (μ:T->Nat) (Q:E->Prop)
  (hs:∀ t,I t->(∃ t',step t=some (.inl t')/\I t'/\μ t'<μ t)\/∃ e,step t=some (.inr e)/\Q e):∀ (n:Nat) (t:T),I t->μ t<n->∃ e,loopM step n t=some e/\Q e
 |0,t,_,h=>absurd h (Nat.not_lt_zero _)
 |n+1,t,hI,h=>by
  rcases hs t hI with ⟨t',h1,h2,h3⟩|⟨e,h1,h2⟩
  · obtain ⟨e,h4,h5⟩:=loopM_of I μ Q hs n t' h2 (by omega);exact ⟨e,by simp only [loopM,h1,Option.bind_some,h4],h5⟩
  · exact ⟨e,by simp only [loopM,h1,Option.bind_some],h2⟩
theorem loopAll_of {T E:Type} {step:T->Option (T ⊕ E)} {t:T} (I:T->Prop) (μ:T->Nat) (Q:E->Prop) (hI:I t) (hμ:μ t<18446744073709551616)
  (hs:∀ t,I t->(∃ t',step t=some (.inl t')/\I t'/\μ t'<μ t)\/∃ e,step t=some (.inr e)/\Q e):∃ e,loopAll step t=some e/\Q e:=
 loopM_of I μ Q hs _ t hI hμ
def lo31 (m x:Int):Int:= -2147483648+(x+2147483648)%m
def nf (m x:Int):TCongr:=
 if m=0 then (if -2147483648<=x/\x<=2147483647 then (false,(0,x)) else (true,(0,0)))
 else if 2147483647<lo31 m x then (true,(0,0))
 else if 2147483647<lo31 m x+m then (false,(0,lo31 m x))
 else (false,(m,x%m))
theorem nf_emod {m x y:Int} (h:x%m=y%m) (hm:m≠0):nf m x=nf m y:=by
 have e:(x+2147483648)%m=(y+2147483648)%m:=by rw [Int.add_emod,h,<- Int.add_emod]
 unfold nf lo31;rw [e,h,if_neg hm,if_neg hm]
theorem nf_self {m x:Int} (hm:m≠0):nf m (x%m)=nf m x:=nf_emod (Int.emod_emod_of_dvd x (Int.dvd_refl m)) hm
theorem lo31_eq {m x:Int} (hm:0<m):∃ k:Int,lo31 m x=x%m-m * k/\ -2147483648<=lo31 m x/\lo31 m x< -2147483648+m:=by
 have h1:=Int.emod_nonneg (x+2147483648) (by omega:m≠0);have h2:=Int.emod_lt_of_pos (x+2147483648) hm;refine ⟨(x+2147483648)/m-x/m,?_,by unfold lo31;omega,by unfold lo31;omega⟩;unfold lo31;have e1:=Int.emod_add_mul_ediv (x+2147483648) m;have e2:=Int.emod_add_mul_ediv x m;rw [Int.mul_sub];omega
def CR (c:TCongr):Prop:=c=(true,(0,0))\/(c.1=false/\0<=c.2.1/\nf c.2.1 c.2.2=c)
theorem nf_cr {m x:Int} (hm:0<=m):CR (nf m x):=by
 by_cases h0:m=0
 · subst h0;simp only [nf,if_true];split
   · rename_i h;exact .inr ⟨rfl,Int.le_refl _,by simp only [nf,if_true];rw [if_pos h]⟩
   · exact .inl rfl
 · obtain ⟨k,h1,h2,h3⟩:=lo31_eq (m:=m) (x:=x) (by omega);unfold nf;rw [if_neg h0];split
   · exact .inl rfl
   · rename_i g1;split
     · rename_i g2;exact .inr ⟨rfl,Int.le_refl _,by simp only [nf,if_true];rw [if_pos ⟨h2,by omega⟩]⟩
     · rename_i g2;refine .inr ⟨rfl,hm,?_⟩;simp only;rw [nf_self h0];simp only [nf,if_neg h0,if_neg g1,if_neg g2]
theorem CR.bounds {c:TCongr} (h:CR c) (h1:c.1=false):0<=c.2.1/\c.2.1<4294967296/\ -2147483648<=c.2.2/\c.2.2<4294967296/\nf c.2.1 c.2.2=c/\(c.2.1=0->c.2.2<=2147483647):=by
 rcases h with rfl|⟨_,h2,h3⟩
 · simp at h1
 · obtain ⟨b,m,x⟩:=c;simp only at h1 h2 h3 ⊢;subst h1;have h3':=h3;unfold nf at h3;split at h3
   · rename_i h0;subst h0;split at h3
     · rename_i h;exact ⟨h2,by omega,h.1,by omega,h3',fun _=>h.2⟩
     · simp at h3
   · rename_i h0;obtain ⟨k,g1,g2,g3⟩:=lo31_eq (m:=m) (x:=x) (by omega);have hpos:0<m:=by omega
     have k1:=Int.emod_nonneg x h0;have k2:=Int.emod_lt_of_pos x hpos;split at h3
     · simp at h3
     · split at h3
       · simp only [Prod.mk.injEq,true_and] at h3;omega
       · simp only [Prod.mk.injEq,true_and] at h3;refine ⟨h2,by omega,by omega,by omega,h3',fun h=>absurd h h0⟩
end Go.U
section
set_option maxRecDepth 20000
namespace Go.U
open Go
theorem f111_eq {x:Int} (h0: -9223372036854775808<=x) (h1:x<=9223372036854775807):f111_m x=some (x.natAbs:Int):=by
 unfold f111_m f111_c;by_cases h:x<0
 · simp only [h,decide_true,cond_true];rw [wi64_of (n:=x+1) (by omega) (by omega),wi64_of (by omega) (by omega),wu64_of (n:=0-(x+1)) (by omega) (by omega),wu64_of (by omega) (by omega)];congr 1;omega
 · simp only [h,decide_false,cond_false];rw [wu64_of (by omega) (by omega)];congr 1;omega
theorem f129_eq {x:Int} (h0: -9223372036854775808<=x) (h1:x<=9223372036854775807):f129_m x=some (x.natAbs:Int):=by
 unfold f129_m f129_c;by_cases h:x<0
 · simp only [h,decide_true,cond_true];rw [wu64_neg h (by omega)];congr 1;omega
 · simp only [h,decide_false,cond_false];rw [wu64_of (by omega) (by omega)];congr 1;omega
theorem gcd_step {t:Int×Int} (h0:0<=t.1) (h1:0<=t.2) (h2:t.2≠0):0<=Int.tmod t.1 t.2/\Int.tmod t.1 t.2<t.2/\Nat.gcd t.2.toNat (Int.tmod t.1 t.2).toNat=Nat.gcd t.1.toNat t.2.toNat:=by
 obtain ⟨a,b⟩:=t;simp only at *
 obtain ⟨a,rfl⟩:=Int.eq_ofNat_of_zero_le h0;obtain ⟨b,rfl⟩:=Int.eq_ofNat_of_zero_le h1;have e:Int.tmod (a:Int) (b:Int)=((a%b:Nat):Int):=rfl;rw [e];have hb:0<b:=by omega
 have:=Nat.mod_lt a hb;refine ⟨by omega,by omega,?_⟩;simp only [Int.toNat_natCast];rw [Nat.gcd_comm,<- Nat.gcd_rec,Nat.gcd_comm]
theorem gcdl_eq {L:LD Unit (Int×Int) Int} (hL:∀ t,L.m () t=cond (!(decide (t.2=(0:Int)))) (cond (decide (t.2=(0:Int))) none (some (.inl (t.2,Int.tmod t.1 t.2)))) (some (.inr t.1))) (a b:Nat) (hb:b<18446744073709551616):
  loopAll (L.m ()) ((a:Int),(b:Int))=some (Nat.gcd a b:Int):=by
 obtain ⟨e,h1,h2⟩:=loopAll_of (step:=L.m ()) (t:=((a:Int),(b:Int))) (fun t=>0<=t.1/\0<=t.2/\Nat.gcd t.1.toNat t.2.toNat=Nat.gcd a b) (fun t=>t.2.toNat) (fun e=>e=(Nat.gcd a b:Int)) ⟨by simp,by simp,by simp⟩ (by simpa using hb) (fun t ⟨h0,h1,h2⟩=>by
  rw [hL];by_cases hz:t.2=0
  · refine .inr ⟨t.1,by simp [hz],?_⟩;rw [hz] at h2;simp at h2;omega
  · obtain ⟨g1,g2,g3⟩:=gcd_step h0 h1 hz;exact .inl ⟨(t.2,Int.tmod t.1 t.2),by simp [hz],⟨h1,g1,g3.trans h2⟩,by simp only;omega⟩)
 rw [h1,h2]
theorem f128_eq (a b:Nat) (hb:b<18446744073709551616):f128_m ((a:Int),(b:Int))=some (Nat.gcd a b:Int):=by
 unfold f128_m f128_c;rw [gcdl_eq (fun _=>rfl) a b hb];rfl
theorem tmod_nat {x m:Int} (h0:0<=x):Int.tmod x m=x%m:=Int.tmod_eq_emod_of_nonneg h0
theorem f117_eq {x m:Int} (hx0: -9223372036854775808<=x) (hx1:x<=9223372036854775807) (hm:0<m) (hm1:m<18446744073709551616):f117_m (x,m)=some (x%m):=by
 unfold f117_m f117_c;simp only;rw [f129_eq hx0 hx1];simp only [Option.bind_some];have e0:m≠0:=by omega
 rw [tmod_nat (by omega)];have k1:=Int.emod_nonneg (x.natAbs:Int) e0;have k2:=Int.emod_lt_of_pos (x.natAbs:Int) hm;have k3:=Int.emod_nonneg x e0;have k4:=Int.emod_lt_of_pos x hm;by_cases h:x<0
 · have e1:(x.natAbs:Int)= -x:=by omega
   rw [e1] at k1 k2 ⊢;have k5:=Int.emod_add_mul_ediv (-x) m;have k6:=Int.emod_add_mul_ediv x m;by_cases hr:0< -x%m
   · simp only [e0,h,hr,decide_true,decide_false,cond_true,cond_false];rw [wu64_of (by omega) (by omega)];congr 1;have:m- -x%m=(x+m * (-x/m+1)):=by rw [Int.mul_add];omega
     rw [<- Int.emod_eq_of_lt (a:=m- -x%m) (b:=m) (by omega) (by omega),this,Int.add_mul_emod_self_left]
   · simp only [e0,h,hr,decide_true,decide_false,cond_true,cond_false];congr 1;have h0: -x%m=0:=by omega
     have:m ∣ x:=(Int.dvd_neg).1 (Int.dvd_of_emod_eq_zero h0);rw [Int.emod_eq_zero_of_dvd this];exact h0
 · have e1:(x.natAbs:Int)=x:=by omega
   rw [e1];simp only [e0,h,decide_true,decide_false,cond_true,cond_false]
theorem f132_eq {m r:Int} (hm:0<m) (hm1:m<18446744073709551616) (h0:0<=r) (h1:r<m):f132_m (m,r)=some (nf m r):=by
 unfold f132_m f132_c;simp only;rw [f117_eq (by omega) (by omega) hm hm1];simp only [Option.bind_some];have e0:m≠0:=by omega
 have k3:=Int.emod_nonneg (-2147483648) e0;have k4:=Int.emod_lt_of_pos (-2147483648) hm;have hr:r%m=r:=Int.emod_eq_of_lt h0 h1;have k5:=Int.emod_add_mul_ediv (-2147483648) m;have g1:=Int.emod_nonneg (r+2147483648) e0;have g2:=Int.emod_lt_of_pos (r+2147483648) hm;generalize hq:(-2147483648)%m=q at *
 have fin:∀ off,off=(r+2147483648)%m->(cond (decide ((4294967295:Int)<off)) (some ((true,(0,0)):TCongr)) (cond (decide ((wu64 (wi64 ((2147483647:Int)-(wi64 ((-2147483648:Int)+(wi64 off))))))<m))
     (some (false,(0,(wi64 ((-2147483648:Int)+(wi64 off)))))) (some (false,((wi64 m),(wi64 r))))))=some (nf m r):=fun off ho=>by
   subst ho;unfold nf lo31;rw [if_neg e0,hr];by_cases c1:4294967295<(r+2147483648)%m
   · rw [if_pos (by omega)];simp only [c1,decide_true,cond_true]
   · rw [if_neg (by omega)];simp only [c1,decide_false,cond_false];rw [wi64_of (n:=(r+2147483648)%m) (by omega) (by omega),wi64_of (n:= -2147483648+(r+2147483648)%m) (by omega) (by omega),wi64_of (n:=2147483647-(-2147483648+(r+2147483648)%m)) (by omega) (by omega),wu64_of (by omega) (by omega)];by_cases c2:2147483647< -2147483648+(r+2147483648)%m+m
     · rw [if_pos c2];have:2147483647-(-2147483648+(r+2147483648)%m)<m:=by omega
       simp only [this,decide_true,cond_true]
     · rw [if_neg c2];have:¬ 2147483647-(-2147483648+(r+2147483648)%m)<m:=by omega
       simp only [this,decide_false,cond_false];rw [wi64_of (n:=m) (by omega) (by omega),wi64_of (n:=r) (by omega) (by omega)]
 have hoff:(r+2147483648)%m=(r-q)%m:=by
   have:r+2147483648=(r-q)+m * (- (-2147483648/m)):=by rw [Int.mul_neg];omega
   rw [this,Int.add_mul_emod_self_left]
 by_cases hlt:r<q
 · simp only [hlt,decide_true,cond_true];rw [wu64_of (n:=m-q) (by omega) (by omega),wu64_of (n:=r+(m-q)) (by omega) (by omega)];refine fin _ ?_;rw [hoff];have:r+(m-q)=(r-q)+m * 1:=by omega
   rw [<- Int.emod_eq_of_lt (a:=r+(m-q)) (b:=m) (by omega) (by omega),this,Int.add_mul_emod_self_left]
 · simp only [hlt,decide_false,cond_false];rw [wu64_of (n:=r-q) (by omega) (by omega)];refine fin _ ?_;rw [hoff,Int.emod_eq_of_lt (by omega) (by omega)]
theorem f127_eq (x:Int):f127_m x=some ((nf 0 x).1,(nf 0 x).2.2)/\(nf 0 x).2.1=0:=by
 unfold f127_m f127_c nf;by_cases h1:x< -2147483648
 · have:¬ (-2147483648<=x/\x<=2147483647):=by omega
   simp [h1,this]
 · by_cases h2:2147483647<x
   · have:¬ (-2147483648<=x/\x<=2147483647):=by omega
     simp [h1,h2,this]
   · have: -2147483648<=x/\x<=2147483647:=by omega
     simp [h1,h2,this]
theorem f127_to (x:Int):((f127_m x).bind fun r=>some ((r.1,(0,r.2)):TCongr))=some (nf 0 x):=by
 obtain ⟨h1,h2⟩:=f127_eq x;rw [h1,Option.bind_some];generalize nf 0 x=c at h2;obtain ⟨b,m,r⟩:=c;simp only at h2;subst h2;rfl
theorem f98_eq {m x:Int} (hm:0<=m) (hm1:m<9223372036854775808) (hx0: -9223372036854775808<=x) (hx1:x<=9223372036854775807):f98_m (m,x)=some (nf m x):=by
 unfold f98_m f98_c;simp only;by_cases h:m=0
 · subst h;simp only [decide_true,cond_true];exact f127_to x
 · simp only [h,decide_false,cond_false];rw [f117_eq hx0 hx1 (by omega) (by omega)];simp only [Option.bind_some];rw [f132_eq (by omega) (by omega) (Int.emod_nonneg _ h) (Int.emod_lt_of_pos _ (by omega))];rw [nf_self h];rfl
theorem f122_eq {m x:Int} (hm0: -9223372036854775808<=m) (hm1:m<=9223372036854775807) (hx0: -9223372036854775808<=x) (hx1:x<=9223372036854775807):f122_m (m,x)=some (nf (m.natAbs:Int) x):=by
 unfold f122_m f122_c;simp only;by_cases h:m=0
 · subst h;simp only [decide_true,cond_true];exact f127_to x
 · simp only [h,decide_false,cond_false];rw [f129_eq hm0 hm1];simp only [Option.bind_some];rw [f117_eq hx0 hx1 (by omega) (by omega)];simp only [Option.bind_some];rw [f132_eq (by omega) (by omega) (Int.emod_nonneg _ (by omega)) (Int.emod_lt_of_pos _ (by omega))];rw [nf_self (by omega)];rfl
end Go.U
end
section
set_option maxRecDepth 20000
namespace Go.U
open Go
theorem r2_eq (p):f123_r2.m p=cond p.1.2 (some (decide (p.1.1<=(2147483648:Int)))) (some false):=rfl
theorem r4_eq (p):f123_r4.m p=cond (!p.1.2) (some (decide (p.1.1<=(2147483647:Int)))) (some false):=rfl
theorem r8_eq (p):f123_r8.m p=cond p.2.2.1 (some (!(decide (p.2.1=(0:Int))))) (some false):=rfl
theorem c9_eq (p):f123_c9.m p=cond p.2.2.1 (some (wu64 (p.1-p.2.1))) (some p.2.1):=rfl
theorem c12_eq (p):f123_c12.m p=cond p.2.2.1 (some [wi64 p.2.1]) (some []):=rfl
theorem c14_eq (p):f123_c14.m p=cond p.2.2.1 (ask (decide ((p.2.2.2.2.2.2.length+1) * 8<=70368744177664)&&decide ((p.2.2.2.2.2.2.length+1)<9223372036854775808)) (some (p.2.2.2.2.2.2++[wi64 (0-wi64 (wu64 (p.1-p.2.1)))]))) (some p.2.2.2.2.2.2):=rfl
theorem c16_eq (p):f123_c16.m p=cond p.2.2.1 (ask (decide ((p.2.2.2.2.2.2.length+1) * 8<=70368744177664)&&decide ((p.2.2.2.2.2.2.length+1)<9223372036854775808)) (some (p.2.2.2.2.2.2++[0]))) (some p.2.2.2.2.2.2):=rfl
theorem c18_eq (p):f123_c18.m p=cond p.2.2.1 (ask (decide ((p.2.2.2.2.2.2.length+1) * 8<=70368744177664)&&decide ((p.2.2.2.2.2.2.length+1)<9223372036854775808)) (some (p.2.2.2.2.2.2++[0]))) (some p.2.2.2.2.2.2):=rfl
theorem r15_eq (p):f123_r15.m p=cond (decide ((nt (List.length p.2.2.2.2.2))=(1:Int)))
 (ask (V.inRange 0 (List.length p.2.2.2.2.2)) (cond (decide ((0:Int)<=(gx p.2.2.2.2.2 0 (0:Int))))
 (ask (V.inRange 0 (List.length p.2.2.2.2.2)) (some ((decide (p.1<=(wu64 ((2147483647:Int)-(wu64 (gx p.2.2.2.2.2 0 (0:Int))))))))))
 (some (false))))
 (some (false)):=rfl
theorem r17_eq (p):f123_r17.m p=cond (decide ((nt (List.length p.2.2.2.2.2))=(1:Int)))
 (ask (V.inRange 0 (List.length p.2.2.2.2.2)) (cond (decide ((gx p.2.2.2.2.2 0 (0:Int))<(0:Int)))
 (ask (V.inRange 0 (List.length p.2.2.2.2.2)) ((f111_m (gx p.2.2.2.2.2 0 (0:Int))).bind fun r1=>
 some ((decide (p.1<=(wu64 ((2147483648:Int)-r1)))))))
 (some (false))))
 (some (false)):=rfl
theorem nf_found {m s:Int} (hm:0<m) (h0:0<=s) (h1:s<m):
   (¬ s<=2147483647->¬ m-s<=2147483648->nf m s=(true,(0,0)))/\
   (s<=2147483647->¬ m-s<=2147483648->m<=2147483647-s->nf m s=(false,(m,s)))/\
   (s<=2147483647->¬ m-s<=2147483648->¬ m<=2147483647-s->nf m s=(false,(0,s)))/\
   (¬ s<=2147483647->m-s<=2147483648->m<=2147483648-(m-s)->nf m s=(false,(m,s)))/\
   (¬ s<=2147483647->m-s<=2147483648->¬ m<=2147483648-(m-s)->nf m s=(false,(0,s-m)))/\
   (s<=2147483647->m-s<=2147483648->nf m s=(false,(m,s))):=by
 obtain ⟨k,hk,hl,hu⟩:=lo31_eq (m:=m) (x:=s) hm;have e0:m≠0:=by omega
 have hs:s%m=s:=Int.emod_eq_of_lt h0 h1;rw [hs] at hk;have hk0:k<0->m * k<= -m:=fun h=>by
   have:=Int.mul_le_mul_of_nonneg_left (show k<= -1 by omega) (show 0<=m by omega);omega
 have hk1:1<=k->m<=m * k:=fun h=>by
   have:=Int.mul_le_mul_of_nonneg_left h (show 0<=m by omega);omega
 have hk2:2<=k->2 * m<=m * k:=fun h=>by
   have:=Int.mul_le_mul_of_nonneg_left h (show 0<=m by omega);omega
 have hkz:k=0->m * k=0:=fun h=>by rw [h];exact Int.mul_zero m
 have hko:k=1->m * k=m:=fun h=>by rw [h];exact Int.mul_one m
 have hc:k<0\/k=0\/k=1\/2<=k:=by omega
 have hcase:(k=0/\m * k=0)\/(k=1/\m * k=m)\/(2<=k/\2 * m<=m * k)\/(k<0/\m * k<= -m):=by
   rcases hc with h|h|h|h
   · exact .inr (.inr (.inr ⟨h,hk0 h⟩))
   · exact .inl ⟨h,hkz h⟩
   · exact .inr (.inl ⟨h,hko h⟩)
   · exact .inr (.inr (.inl ⟨h,hk2 h⟩))
 generalize hmk:m * k=mk at *
 unfold nf;rw [if_neg e0,hs,hk];refine ⟨fun a b=> ?_,fun a b c=> ?_,fun a b c=> ?_,fun a b c=> ?_,fun a b c=> ?_,fun a b=> ?_⟩
 · rw [if_pos (by omega)]
 · rw [if_neg (by omega),if_neg (by omega)]
 · rw [if_neg (by omega),if_pos (by omega)];have:s-mk=s:=by omega
   rw [this]
 · rw [if_neg (by omega),if_neg (by omega)]
 · rw [if_neg (by omega),if_pos (by omega)];have:s-mk=s-m:=by omega
   rw [this]
 · rw [if_neg (by omega),if_neg (by omega)]
theorem f123_eq {m r:Int} {neg:Bool} (hm:0<=m) (hm1:m<18446744073709551616) (hr:0<=r) (hr1:r<18446744073709551616):f123_m (m,r,neg)=some (nf m (cond neg (-r) r)):=by
 unfold f123_m f123_c;simp only [r2_eq,r4_eq,r8_eq,c9_eq,c12_eq,c14_eq,r15_eq,c16_eq,r17_eq,c18_eq];by_cases h0:m=0
 · subst h0;simp only [decide_true,cond_true];cases neg
   · simp only [cond_false,cond_true,Option.bind_some,Bool.not_false];by_cases hc:r<=2147483647
     · have e:nf 0 r=(false,(0,r)):=by unfold nf;rw [if_pos rfl,if_pos ⟨by omega,hc⟩]
       rw [e,wi64_of (by omega) (by omega)];simp only [hc,decide_true,cond_true]
     · have e:nf 0 r=(true,(0,0)):=by unfold nf;rw [if_pos rfl,if_neg (by omega)]
       rw [e];simp only [hc,decide_false,cond_false]
   · simp only [cond_false,cond_true,Option.bind_some,Bool.not_true];by_cases hc:r<=2147483648
     · have e:nf 0 (-r)=(false,(0,-r)):=by unfold nf;rw [if_pos rfl,if_pos ⟨by omega,by omega⟩]
       rw [e,wi64_of (n:=r) (by omega) (by omega),wi64_of (by omega) (by omega),Int.zero_sub];simp only [hc,decide_true,cond_true]
     · have e:nf 0 (-r)=(true,(0,0)):=by unfold nf;rw [if_pos rfl,if_neg (by omega)]
       rw [e];simp only [hc,decide_false,cond_false]
 · simp only [h0,decide_false,cond_false];have hpos:0<m:=by omega
   rw [tmod_nat hr];have g1:=Int.emod_nonneg r h0;have g2:=Int.emod_lt_of_pos r hpos;obtain ⟨s,hs,hs0,hs1,he⟩:∃ s,(((cond neg (some (!(decide (r%m=(0:Int))))) (some false)).bind fun e3=>(cond e3 (some (wu64 (m-r%m))) (some (r%m))))=some s)/\0<=s/\s<m/\nf m (cond neg (-r) r)=nf m s:=by
     cases neg
     · exact ⟨r%m,rfl,g1,g2,(nf_self h0).symm⟩
     · by_cases hz:r%m=0
       · refine ⟨0,by simp [hz],by omega,by omega,?_⟩;have hd:m ∣ -r:=(Int.dvd_neg).2 (Int.dvd_of_emod_eq_zero hz);exact nf_emod (by simp only [cond_true];rw [Int.emod_eq_zero_of_dvd hd];simp) h0
       · refine ⟨m-r%m,by simp [hz];exact wu64_of (by omega) (by omega),by omega,by omega,?_⟩;refine nf_emod ?_ h0;have k5:=Int.emod_add_mul_ediv r m;have:m-r%m= -r+m * (r/m+1):=by rw [Int.mul_add];omega
         rw [this,Int.add_mul_emod_self_left];rfl
   rw [he];obtain ⟨e3,hb1,hb2⟩:=Option.bind_eq_some_iff.1 hs;rw [hb1];simp only [Option.bind_some];rw [hb2];simp only [Option.bind_some];obtain ⟨f1,f2,f3,f4,f5,f6⟩:=nf_found hpos hs0 hs1;have w1:wu64 (m-s)=m-s:=wu64_of (by omega) (by omega);simp only [w1];by_cases ha:s<=2147483647<;>by_cases hb:m-s<=2147483648
   · have w2:wi64 s=s:=wi64_of (by omega) (by omega);have w3:wi64 (m-s)=m-s:=wi64_of (by omega) (by omega);have w4:wi64 (0-(m-s))=s-m:=by rw [wi64_of (by omega) (by omega)];omega
     have w5:wi64 m=m:=wi64_of (by omega) (by omega);rw [f6 ha hb];simp [w2,w3,w4,w5,ha,hb,ask,nt,gx,V.inRange]
   · have w2:wi64 s=s:=wi64_of (by omega) (by omega);have v1:wu64 s=s:=wu64_of (by omega) (by omega);have v2:wu64 (2147483647-s)=2147483647-s:=wu64_of (by omega) (by omega);by_cases hc:m<=2147483647-s
     · have w5:wi64 m=m:=wi64_of (by omega) (by omega);rw [f2 ha hb hc];simp [w2,w5,ha,hb,hc,ask,nt,gx,V.inRange,v1,v2,hs0]
     · rw [f3 ha hb hc];simp [w2,ha,hb,hc,ask,nt,gx,V.inRange,v1,v2,hs0,Int.not_lt.2 hs0]
   · have w3:wi64 (m-s)=m-s:=wi64_of (by omega) (by omega);have w4:wi64 (0-(m-s))=s-m:=by rw [wi64_of (by omega) (by omega)];omega
     simp only [w3,w4];have v3:f111_m (s-m)=some (m-s):=by rw [f111_eq (by omega) (by omega)];congr 1;omega
     have v4:wu64 (2147483648-(m-s))=2147483648-(m-s):=wu64_of (by omega) (by omega);have v5:¬ (0<=s-m):=by omega
     have v6:s-m<0:=by omega
     have v7:¬ m<=s:=by omega
     by_cases hc:m<=2147483648-(m-s)
     · have w5:wi64 m=m:=wi64_of (by omega) (by omega);have w2:wi64 s=s:=wi64_of (by omega) (by omega);rw [f4 ha hb hc];simp [w2,w3,w4,w5,ha,hb,hc,ask,nt,gx,V.inRange,v3,v4,v5,v6,v7]
     · rw [f5 ha hb hc];simp [w3,w4,ha,hb,hc,ask,nt,gx,V.inRange,v3,v4,v5,v6,v7]
   · rw [f1 ha hb];simp [ha,hb,ask,nt,gx,V.inRange]
theorem sgn_eq (x:Int):cond (decide (x<0)) (-(x.natAbs:Int)) (x.natAbs:Int)=x:=by
 by_cases h:x<0
 · simp only [h,decide_true,cond_true];omega
 · simp only [h,decide_false,cond_false];omega
theorem f71_eq {m x:Int} (hm0: -9223372036854775808<=m) (hm1:m<=9223372036854775807) (hx0: -9223372036854775808<=x) (hx1:x<=9223372036854775807):f71_m (m,x)=some (nf (m.natAbs:Int) x):=by
 unfold f71_m f71_c;simp only;rw [f111_eq (by omega) (by omega),f111_eq hx0 hx1];simp only [Option.bind_some];rw [f123_eq (by omega) (by omega) (by omega) (by omega),sgn_eq];rfl
end Go.U
end
section
set_option maxRecDepth 20000
namespace Go.U
open Go
theorem f110_eq (a b:Nat) (hb:b<18446744073709551616):f110_m ((a:Int),(b:Int))=some (Nat.gcd a b:Int):=by
 unfold f110_m f110_c;rw [gcdl_eq (fun _=>rfl) a b hb];rfl
theorem f109_eq {m x:Int} (hm0:0<=m) (hm1:m<9223372036854775808) (hx0: -4611686018427387904<=x) (hx1:x<=4611686018427387904):f109_m (m,x)=some (nf m x):=by
 unfold f109_m f109_c;simp only;rw [f111_eq (by omega) (by omega)];simp only [Option.bind_some];rw [f123_eq (by omega) (by omega) (by omega) (by omega),sgn_eq];rfl
def none31:TCongr:=(true,(0,0))
theorem none_cr:CR none31:= .inl rfl
theorem gcd_lt {a b N:Nat} (ha:a<N) (hb:b<N):Nat.gcd a b<N:=by
 rcases Nat.eq_zero_or_pos a with h|h
 · subst h;rw [Nat.gcd_zero_left];exact hb
 · exact Nat.lt_of_le_of_lt (Nat.gcd_le_left b h) ha
theorem CR.true {c:TCongr} (h:CR c) (h1:c.1=true):c=none31:=by
 rcases h with rfl|⟨h2,_⟩
 · rfl
 · rw [h1] at h2;cases h2
theorem CR.nums {m r:Int} (h:CR ((false,(m,r)):TCongr)):∃ M:Nat,m=(M:Int)/\M<4294967296/\ -2147483648<=r/\r<4294967296/\nf m r=(false,(m,r))/\(M=0->r<=2147483647):=by
 obtain ⟨a0,a1,a2,a3,a4,a5⟩:=h.bounds rfl;simp only at a0 a1 a2 a3 a4 a5;obtain ⟨M,rfl⟩:=Int.eq_ofNat_of_zero_le a0;exact ⟨M,rfl,by omega,a2,a3,a4,fun h=>a5 (by omega)⟩
def joinc (x y:TCongr):TCongr:=cond x.1 y (cond y.1 x (nf (Nat.gcd (Nat.gcd x.2.1.natAbs y.2.1.natAbs) (x.2.2-y.2.2).natAbs:Nat) x.2.2))
theorem join_eq {x y:TCongr} (hx:CR x) (hy:CR y):f51_m (x,y)=some (joinc x y)/\f56_m (x,y)=some (joinc x y)/\CR (joinc x y):=by
 obtain ⟨b1,m1,r1⟩:=x;obtain ⟨b2,m2,r2⟩:=y;cases b1
 case true=>exact ⟨rfl,rfl,hy⟩
 cases b2
 case true=>exact ⟨rfl,rfl,hx⟩
 obtain ⟨M1,rfl,p1,p2,p3,p4,p5⟩:=hx.nums;obtain ⟨M2,rfl,q1,q2,q3,q4,q5⟩:=hy.nums;have hg:=gcd_lt p1 q1;have hg2:Nat.gcd (Nat.gcd M1 M2) (r1-r2).natAbs<9223372036854775808:=gcd_lt (by omega) (by omega);refine ⟨?_,?_,nf_cr (by simp only;omega)⟩
 · unfold f51_m f51_c joinc f99_m f99_c;simp only [cond_false,Int.natAbs_natCast];rw [wu64_of (n:=(M1:Int)) (by omega) (by omega),wu64_of (n:=(M2:Int)) (by omega) (by omega),f128_eq _ _ (by omega),wi64_of (by omega) (by omega),f129_eq (by omega) (by omega)];simp only [Option.bind_some];rw [f128_eq _ _ (by omega)];simp only [Option.bind_some];rw [f98_eq (by omega) (by omega) (by omega) (by omega)];rfl
 · unfold f56_m f56_c joinc;simp only [cond_false];rw [f111_eq (by omega) (by omega),f111_eq (by omega) (by omega),wi64_of (by omega) (by omega),f111_eq (x:=r1-r2) (by omega) (by omega)];simp only [Option.bind_some,Int.natAbs_natCast];rw [f110_eq _ _ (by omega)];simp only [Option.bind_some];rw [f110_eq _ _ (by omega)];simp only [Option.bind_some];rw [f109_eq (by omega) (by omega) (by omega) (by omega)];rfl
end Go.U
end
section
set_option maxRecDepth 20000
namespace Go.U
open Go
theorem gx_of {α:Type} {l:List α} {i:Nat} {d x:α} (h:l[i]?=some x):gx l i d=x:=by simp [gx,List.getD,h]
theorem gx_lt {α:Type} {l:List α} {i:Nat} {d:α} (h:i<l.length):l[i]?=some (gx l i d):=by simp [gx,List.getD,h]
theorem inR {i:Nat} {n:Nat} (h:i<n):V.inRange (i:Int) n=true:=by simp [V.inRange,h]
theorem inRI {i:Int} {n:Nat} (h0:0<=i) (h:i<n):V.inRange i n=true:=by simp [V.inRange,h,h0]
theorem ask_true {X:Type} {x:Option X}:ask true x=x:=rfl
theorem countP_take {α:Type} {p:α->Bool} {l:List α} {n:Nat} (d:α) (h:n<l.length):List.countP p (l.take (n+1))=List.countP p (l.take n)+if p (gx l n d)=true then 1 else 0:=by
 rw [List.take_add_one,List.countP_append,gx_lt (d:=d) h];simp [List.countP_cons]
def at' (g:TGraph) (j:Nat):TInstr:=gx g.1 j dInstr
def isD (x:TInstr):Bool:=decide (1<=x.1)&&decide (x.1<=12)
abbrev scs (g:TGraph):List TScalar:=g.2.2.2.2.2.1
theorem isD_true {x:TInstr}:isD x=true↔1<=x.1/\x.1<=12:=by simp [isD]
structure DefsOK (g:TGraph) (D:List Int):Prop where
 regs:g.2.2.1=(((scs g).length+D.length:Nat):Int)
 len:D.length<=4096
 dn:∀ k,k<D.length->∃ j:Nat,D[k]?=some (j:Int)/\j<g.1.length/\isD (at' g j)=true/\(at' g j).2.1=(((scs g).length+k:Nat):Int)
 up:∀ j,j<g.1.length->isD (at' g j)=true->∃ k:Nat,(at' g j).2.1=(((scs g).length+k:Nat):Int)/\D[k]?=some (j:Int)
theorem f38l3_eq (g:TGraph) (hN:g.1.length<=4096):loopAll (f38_l3.m (g.1,(nt (List.length g.1)),g)) (0,0)=some ((List.countP isD g.1:Nat):Int):=by
 obtain ⟨e,h1,h2⟩:=loopAll_of (step:=f38_l3.m (g.1,(nt (List.length g.1)),g)) (t:=(0,0)) (fun t=>∃ n:Nat,n<=g.1.length/\t=(((List.countP isD (g.1.take n):Nat):Int),(n:Int))) (fun t=>g.1.length-t.2.toNat)
  (fun e=>e=((List.countP isD g.1:Nat):Int)) ⟨0,Nat.zero_le _,by simp⟩ (by simp;omega) (fun t ⟨n,hn,ht⟩=>by
   subst ht;have hc:List.countP isD (g.1.take n)<=4096:=Nat.le_trans List.countP_le_length (by rw [List.length_take];omega);simp only [LD.m,f38_l3,nt];by_cases h:n<g.1.length
   · have h':(n:Int)<(g.1.length:Int):=by omega
     simp only [h',decide_true,cond_true,inR h,ask_true,Int.toNat_natCast];have hs:=countP_take (p:=isD) (l:=g.1) dInstr h;rw [wi64_of (n:=(n:Int)+1) (by omega) (by omega)];by_cases k1:1<=(gx g.1 n dInstr).1
     · by_cases k2:(gx g.1 n dInstr).1<=12
       · refine .inl ⟨(((List.countP isD (g.1.take n):Nat):Int)+1,(n:Int)+1),?_,⟨n+1,h,?_⟩,?_⟩
         · simp only [k1,k2,decide_true,cond_true];rw [wi64_of (by omega) (by omega)]
         · rw [hs,if_pos (isD_true.2 ⟨k1,k2⟩)];simp
         · simp only;omega
       · refine .inl ⟨(((List.countP isD (g.1.take n):Nat):Int),(n:Int)+1),?_,⟨n+1,h,?_⟩,?_⟩
         · simp only [k1,k2,decide_true,decide_false,cond_true,cond_false]
         · rw [hs,if_neg (fun hh=>k2 (isD_true.1 hh).2)];simp
         · simp only;omega
     · refine .inl ⟨(((List.countP isD (g.1.take n):Nat):Int),(n:Int)+1),?_,⟨n+1,h,?_⟩,?_⟩
       · simp only [k1,decide_true,decide_false,cond_true,cond_false]
       · rw [hs,if_neg (fun hh=>k1 (isD_true.1 hh).1)];simp
       · simp only;omega
   · have h':¬ (n:Int)<(g.1.length:Int):=by omega
     refine .inr ⟨_,by simp only [h',decide_false,cond_false];rfl,?_⟩;rw [List.take_of_length_le (by omega)])
 rw [h1,h2]
theorem f38l12_eq (g:TGraph) (n:Nat) (hn:n<=4096):loopAll (f38_l12.m ((n:Int),(nt (List.length (List.replicate (Int.toNat (n:Int)) (0:Int)))),g)) (0,List.replicate (Int.toNat (n:Int)) (0:Int))=some (List.replicate n (-1)):=by
 have hl:(List.replicate (Int.toNat (n:Int)) (0:Int))=List.replicate n 0:=by simp
 rw [hl,List.length_replicate];obtain ⟨e,h1,h2⟩:=loopAll_of (step:=f38_l12.m ((n:Int),(nt n),g)) (t:=(0,List.replicate n (0:Int))) (fun t=>∃ k:Nat,k<=n/\t.1=(k:Int)/\t.2.length=n/\∀ i,i<k->t.2[i]?=some (-1)) (fun t=>n-t.1.toNat)
  (fun e=>e=List.replicate n (-1)) ⟨0,Nat.zero_le _,rfl,by simp,fun i h=>absurd h (Nat.not_lt_zero _)⟩ (by simp;omega) (fun t ⟨k,hk,ht,hlen,hall⟩=>by
   obtain ⟨ti,l⟩:=t;simp only at ht hlen hall;subst ht;simp only [LD.m,f38_l12,nt];by_cases h:k<n
   · have h':(k:Int)<(n:Int):=by omega
     refine .inl ⟨((k:Int)+1,l.set k (-1)),?_,⟨k+1,h,by simp,by simpa using hlen,fun i hi=> ?_⟩,by simp only;omega⟩
     · simp only [h',decide_true,cond_true,hlen,inR h,ask_true,Int.toNat_natCast];rw [wi64_of (by omega) (by omega)]
     · simp only [List.getElem?_set];by_cases e:k=i
       · rw [if_pos e,if_pos (by omega)]
       · rw [if_neg e];exact hall i (by omega)
   · have h':¬ (k:Int)<(n:Int):=by omega
     refine .inr ⟨l,by simp only [h',decide_false,cond_false],?_⟩;refine List.ext_getElem? fun i=> ?_
     by_cases hi:i<n
     · rw [hall i (by omega)];simp [hi]
     · rw [List.getElem?_eq_none (by omega)];simp [hi])
 rw [h1,h2]
end Go.U
end
section
set_option maxRecDepth 20000
namespace Go.U
open Go
structure Dinv (g:TGraph) (c n:Nat) (D:List Int):Prop where
 len:D.length=c
 dn:∀ k,k<c->D[k]?=some (-1)\/∃ j:Nat,D[k]?=some (j:Int)/\j<n/\isD (at' g j)=true/\(at' g j).2.1=(((scs g).length+k:Nat):Int)
 up:∀ j,j<n->isD (at' g j)=true->∃ k:Nat,(at' g j).2.1=(((scs g).length+k:Nat):Int)/\D[k]?=some (j:Int)
 cnt:List.countP (fun d=>decide ((0:Int)<=d)) D=List.countP isD (g.1.take n)
theorem f38l17_eq (g:TGraph) (c:Nat) (hc:c<=4096) (hN:g.1.length<=4096) (hS:(scs g).length<=64) (hA:∀ j,j<g.1.length-> -9223372036854775808<=(at' g j).2.1/\(at' g j).2.1<=9223372036854775807):
   ∃ e,loopAll (f38_l17.m ((c:Int),g.1,(nt (List.length g.1)),g)) (0,List.replicate c (-1))=some e/\((∃ u,e= .inl u)\/∃ D,e= .inr D/\Dinv g c g.1.length D):=by
 refine loopAll_of (step:=f38_l17.m ((c:Int),g.1,(nt (List.length g.1)),g)) (fun t=>∃ n:Nat,n<=g.1.length/\t.1=(n:Int)/\Dinv g c n t.2) (fun t=>g.1.length-t.1.toNat) (fun e=>(∃ u,e= .inl u)\/∃ D,e= .inr D/\Dinv g c g.1.length D)
   ⟨0,Nat.zero_le _,rfl,by simp,fun k hk=> .inl (by simp [hk]),fun j h=>absurd h (Nat.not_lt_zero _),?_⟩ (by simp;omega) (fun t ⟨n,hn,ht,hI⟩=> ?_)
 · rw [List.take_zero,List.countP_nil,List.countP_eq_zero];intro a ha;have:=List.eq_of_mem_replicate ha;subst this;decide
 · obtain ⟨ti,D⟩:=t;simp only at ht hI;subst ht;simp only [LD.m,f38_l17,nt];by_cases h:n<g.1.length
   · have h':(n:Int)<(g.1.length:Int):=by omega
     obtain ⟨x,hx⟩:∃ x,gx g.1 n dInstr=x:=⟨_,rfl⟩;have hat:at' g n=x:=hx;simp only [h',decide_true,cond_true,inR h,ask_true,Int.toNat_natCast,hx];have hs:=countP_take (p:=isD) (l:=g.1) dInstr h;rw [hx] at hs;have w:wi64 ((n:Int)+1)=(n:Int)+1:=wi64_of (by omega) (by omega);rw [w];have skip:isD x=false->Dinv g c (n+1) D:=fun hd=>⟨hI.len,fun k hk=>(hI.dn k hk).imp_right fun ⟨j,h1,h2,h3⟩=>⟨j,h1,by omega,h3⟩,fun j hj hdj=>by
       by_cases e:j=n
       · subst e;rw [hat,hd] at hdj;cases hdj
       · exact hI.up j (by omega) hdj,by rw [hs,hd,hI.cnt];simp⟩
     by_cases k1:x.1<1
     · simp only [k1,decide_true,cond_true];exact .inl ⟨_,rfl,⟨n+1,h,rfl,skip (by simp [isD];omega)⟩,by simp only;omega⟩
     · by_cases k2:12<x.1
       · simp only [k1,k2,decide_true,decide_false,cond_true,cond_false];exact .inl ⟨_,rfl,⟨n+1,h,rfl,skip (by simp [isD];omega)⟩,by simp only;omega⟩
       · have hd:isD x=true:=isD_true.2 ⟨by omega,by omega⟩;have hb:=hA n h;rw [hat] at hb;simp only [k1,k2,decide_false,cond_false];obtain ⟨y,hy⟩:∃ y,wi64 (x.2.1-((scs g).length:Int))=y:=⟨_,rfl⟩;have hy2:wi64 (x.2.1-(List.length g.2.2.2.2.2.1:Int))=y:=hy;rw [hy2];by_cases k3:y<0
         · simp only [k3,decide_true,cond_true];exact .inr ⟨_,rfl,.inl ⟨(),rfl⟩⟩
         · by_cases k4:(c:Int)<=y
           · simp only [k3,k4,decide_true,decide_false,cond_true,cond_false];exact .inr ⟨_,rfl,.inl ⟨(),rfl⟩⟩
           · obtain ⟨k,rfl⟩:=Int.eq_ofNat_of_zero_le (show 0<=y by omega);have hk:k<c:=by omega
             have hAx:x.2.1=(((scs g).length+k:Nat):Int):=by
               unfold wi64 at hy;rw [IntKind.wrap_i64] at hy;omega
             have hkD:k<D.length:=by rw [hI.len];exact hk
             have k4':¬ ((c:Int)<=(k:Int)):=by omega
             simp only [k3,k4',decide_false,cond_false,inR hkD,ask_true,Int.toNat_natCast];by_cases k5:0<=gx D k 0
             · simp only [k5,decide_true,cond_true];exact .inr ⟨_,rfl,.inl ⟨(),rfl⟩⟩
             · simp only [k5,decide_false,cond_false];have hDk:D[k]?=some (-1):=by
                 rcases hI.dn k hk with e|⟨j,e,_⟩
                 · exact e
                 · rw [gx_of e] at k5;omega
               refine .inl ⟨_,rfl,⟨n+1,h,rfl,by simpa using hI.len,fun i hi=> ?_,fun j hj hdj=> ?_,?_⟩,by simp only;omega⟩
               · simp only [List.getElem?_set];by_cases e:k=i
                 · subst e;rw [if_pos rfl,if_pos hkD];exact .inr ⟨n,rfl,by omega,by rw [hat];exact hd,by rw [hat];exact hAx⟩
                 · rw [if_neg e];exact (hI.dn i hi).imp_right fun ⟨j,h1,h2,h3⟩=>⟨j,h1,by omega,h3⟩
               · by_cases e:j=n
                 · subst e;exact ⟨k,by rw [hat];exact hAx,by simp [List.getElem?_set,hkD]⟩
                 · obtain ⟨i,h1,h2⟩:=hI.up j (by omega) hdj;refine ⟨i,h1,?_⟩;simp only [List.getElem?_set];by_cases e2:k=i
                   · subst e2;rw [hDk] at h2;simp at h2
                   · rw [if_neg e2];exact h2
               · simp only;rw [List.countP_set hkD,hs,hI.cnt,hd];have e1:D[k]= -1:=by rw [List.getElem?_eq_getElem hkD] at hDk;exact Option.some.inj hDk
                 simp [e1]
   · have h':¬ (n:Int)<(g.1.length:Int):=by omega
     simp only [h',decide_false,cond_false];refine .inr ⟨_,rfl,.inr ⟨D,rfl,?_⟩⟩;have:n=g.1.length:=by omega
     rw [<- this];exact hI
theorem f38_eq (g:TGraph) (hN:g.1.length<=4096) (hS:(scs g).length<=64) (hA:∀ j,j<g.1.length-> -9223372036854775808<=(at' g j).2.1/\(at' g j).2.1<=9223372036854775807):
   ∃ r,f38_m g=some r/\(r.2=true->DefsOK g r.1):=by
 have hc:List.countP isD g.1<=4096:=Nat.le_trans List.countP_le_length hN;unfold f38_m f38_c;rw [f38l3_eq g hN];simp only [Option.bind_some];obtain ⟨c,hcc⟩:∃ c,List.countP isD g.1=c:=⟨_,rfl⟩;rw [hcc] at hc ⊢;have w:wi64 (nt (List.length g.2.2.2.2.2.1)+(c:Int))=(((scs g).length+c:Nat):Int):=by
   show wi64 (((scs g).length:Int)+(c:Int))=_;rw [wi64_of (by omega) (by omega)];omega
 rw [w];by_cases hr:g.2.2.1=(((scs g).length+c:Nat):Int)
 · have b1:(decide (0<=(c:Int))&&decide ((c:Int)<=(c:Int))&&decide (8 * (c:Int)<=70368744177664)&&decide ((c:Int)<9223372036854775808))=true:=by simp;omega
   simp only [hr,decide_true,Bool.not_true,cond_false,b1,ask_true];rw [f38l12_eq g c hc];simp only [Option.bind_some];obtain ⟨e,h1,h2⟩:=f38l17_eq g c hc hN hS hA;rw [h1];simp only [Option.bind_some];rcases h2 with ⟨u,rfl⟩|⟨D,rfl,hI⟩
   · exact ⟨([],false),rfl,fun h=>by cases h⟩
   · refine ⟨(D,true),rfl,fun _=> ?_⟩;have hall:∀ k,k<c->D[k]?≠some (-1):=fun k hk hm=>by
      have h3:List.countP (fun d=>decide ((0:Int)<=d)) D=D.length:=by
        rw [hI.cnt,List.take_of_length_le (Nat.le_refl _),hcc,hI.len]
      have:=List.countP_eq_length.1 h3 (-1) (List.mem_of_getElem? hm);simp at this
     exact ⟨by rw [hr,hI.len],by rw [hI.len];exact hc,fun k hk=>by
      rw [hI.len] at hk;rcases hI.dn k hk with e|⟨j,h1,h2,h3,h4⟩
      · exact absurd e (hall k hk)
      · exact ⟨j,h1,h2,h3,h4⟩,hI.up⟩
 · simp only [hr,decide_false,Bool.not_false,cond_true];exact ⟨([],false),rfl,fun h=>by cases h⟩
end Go.U
end
