/- What these Lean functions compute: plain arithmetic of congruences, the checks of a graph, the values of its registers. -/
import Derived.Test.YtcbcifeaalkdfaaGreatDoorD2
import Derived.Test.YtcbcifeaalkdfaaGreatDoorD3
set_option linter.unusedVariables false
set_option linter.unusedSimpArgs false
set_option linter.unusedSectionVars false
section
set_option maxRecDepth 20000
namespace Go.U
open Go
def negc (x:TCongr):TCongr:=cond x.1 none31 (nf x.2.1 (0-x.2.2))
theorem neg_eq {x:TCongr} (hx:CR x):f86_m x=some (negc x)/\f135_m x=some (negc x)/\CR (negc x):=by
 obtain ⟨b1,m1,r1⟩:=x;cases b1
 case true=>cases hx.true rfl;exact ⟨rfl,rfl,none_cr⟩
 obtain ⟨M1,rfl,p1,p2,p3,p4,p5⟩:=hx.nums;refine ⟨?_,?_,nf_cr (by simp only;omega)⟩
 · unfold f86_m f86_c negc;simp only [cond_false];rw [wi64_of (by omega) (by omega),wu64_of (by omega) (by omega),f98_eq (by omega) (by omega) (by omega) (by omega)];rfl
 · unfold f135_m f135_c negc;simp only [cond_false];rw [f111_eq (by omega) (by omega)];simp only [Option.bind_some,Int.natAbs_natCast];rw [wi64_of (by omega) (by omega),f109_eq (by omega) (by omega) (by omega) (by omega)];rfl
def addc (x y:TCongr):TCongr:=cond x.1 none31 (cond y.1 none31 (nf (Nat.gcd x.2.1.natAbs y.2.1.natAbs:Nat) (x.2.2+y.2.2)))
theorem add_eq {x y:TCongr} (hx:CR x) (hy:CR y):f89_m (x,y)=some (addc x y)/\f137_m (x,y)=some (addc x y)/\CR (addc x y):=by
 obtain ⟨b1,m1,r1⟩:=x;obtain ⟨b2,m2,r2⟩:=y;cases b1
 case true=>exact ⟨rfl,rfl,none_cr⟩
 cases b2
 case true=>exact ⟨rfl,rfl,none_cr⟩
 obtain ⟨M1,rfl,p1,p2,p3,p4,p5⟩:=hx.nums;obtain ⟨M2,rfl,q1,q2,q3,q4,q5⟩:=hy.nums;have hg:=gcd_lt p1 q1;refine ⟨?_,?_,nf_cr (by simp only;omega)⟩
 · unfold f89_m f89_c addc;simp only [cond_false,Int.natAbs_natCast];rw [wu64_of (n:=(M1:Int)) (by omega) (by omega),wu64_of (n:=(M2:Int)) (by omega) (by omega),f128_eq _ _ (by omega)];simp only [Option.bind_some];rw [wi64_of (by omega) (by omega),f98_eq (by omega) (by omega) (by omega) (by omega)];rfl
 · unfold f137_m f137_c addc;simp only [cond_false];rw [f111_eq (by omega) (by omega),f111_eq (by omega) (by omega)];simp only [Option.bind_some,Int.natAbs_natCast];rw [f110_eq _ _ (by omega)];simp only [Option.bind_some];rw [wi64_of (by omega) (by omega),f109_eq (by omega) (by omega) (by omega) (by omega)];rfl
def subc (x y:TCongr):TCongr:=cond x.1 none31 (cond y.1 none31 (nf (Nat.gcd x.2.1.natAbs y.2.1.natAbs:Nat) (x.2.2-y.2.2)))
theorem sub_eq {x y:TCongr} (hx:CR x) (hy:CR y):f90_m (x,y)=some (subc x y)/\f138_m (x,y)=some (subc x y)/\CR (subc x y):=by
 obtain ⟨b1,m1,r1⟩:=x;obtain ⟨b2,m2,r2⟩:=y;cases b1
 case true=>exact ⟨rfl,rfl,none_cr⟩
 cases b2
 case true=>exact ⟨rfl,rfl,none_cr⟩
 obtain ⟨M1,rfl,p1,p2,p3,p4,p5⟩:=hx.nums;obtain ⟨M2,rfl,q1,q2,q3,q4,q5⟩:=hy.nums;have hg:=gcd_lt p1 q1;refine ⟨?_,?_,nf_cr (by simp only;omega)⟩
 · unfold f90_m f90_c subc;simp only [cond_false,Int.natAbs_natCast];rw [wu64_of (n:=(M1:Int)) (by omega) (by omega),wu64_of (n:=(M2:Int)) (by omega) (by omega),f128_eq _ _ (by omega)];simp only [Option.bind_some];rw [wi64_of (by omega) (by omega),f98_eq (by omega) (by omega) (by omega) (by omega)];rfl
 · unfold f138_m f138_c subc;simp only [cond_false];rw [f111_eq (by omega) (by omega),f111_eq (by omega) (by omega)];simp only [Option.bind_some,Int.natAbs_natCast];rw [f110_eq _ _ (by omega)];simp only [Option.bind_some];rw [wi64_of (by omega) (by omega),f109_eq (by omega) (by omega) (by omega) (by omega)];rfl
def absc (x:TCongr):TCongr:=cond x.1 none31 (if x.2.1=0 then nf 0 (x.2.2.natAbs:Int) else joinc x (negc x))
theorem abs_eq {x:TCongr} (hx:CR x):f88_m x=some (absc x)/\f136_m x=some (absc x)/\CR (absc x):=by
 obtain ⟨n1,n2,n3⟩:=neg_eq hx;obtain ⟨j1,j2,j3⟩:=join_eq hx n3;obtain ⟨b1,m1,r1⟩:=x;cases b1
 case true=>cases hx.true rfl;exact ⟨rfl,rfl,none_cr⟩
 obtain ⟨M1,rfl,p1,p2,p3,p4,p5⟩:=hx.nums;by_cases h0:M1=0
 · subst h0;have h3:=p5 rfl;simp only [absc,cond_false,Int.natCast_zero,if_true] at *
   refine ⟨?_,?_,nf_cr (Int.le_refl _)⟩
   · unfold f88_m f88_c;simp only [cond_false,decide_true,cond_true];by_cases hr:r1<0
     · simp only [hr,decide_true,cond_true];rw [wi64_of (by omega) (by omega),f127_to];congr 2;omega
     · simp only [hr,decide_false,cond_false];rw [<- p4];congr 2;omega
   · unfold f136_m f136_c;simp only [cond_false,decide_true,cond_true];rw [wi64_of (by omega) (by omega)];have e:(if 0-r1>r1 then 0-r1 else r1)=(r1.natAbs:Int):=by split<;>omega
     rw [e,f71_eq (by omega) (by omega) (by omega) (by omega)];rfl
 · have h0':¬ ((M1:Int)=0):=by omega
   have ea:absc (false,((M1:Int),r1))=joinc (false,((M1:Int),r1)) (negc (false,((M1:Int),r1))):=by unfold absc;simp only [cond_false];rw [if_neg h0']
   rw [ea];refine ⟨?_,?_,j3⟩
   · unfold f88_m f88_c;simp only [cond_false,h0',decide_false];rw [n1];simp only [Option.bind_some];rw [j1];rfl
   · unfold f136_m f136_c;simp only [cond_false,h0',decide_false];rw [n2];simp only [Option.bind_some];rw [j2];rfl
def divc (x y:TCongr):TCongr:=cond x.1 none31 (cond y.1 none31 (if y.2.1=0/\y.2.2=0 then none31 else if ¬ y.2.1=0 then (false,(1,0)) else if x.2.1=0 then nf 0 (Int.tdiv x.2.2 y.2.2) else
 if Int.tmod x.2.1 y.2.2=0 then (if Int.tmod x.2.2 y.2.2=0 then nf ((Int.tdiv x.2.1 y.2.2).natAbs:Int) (Int.tdiv x.2.2 y.2.2) else (false,(1,0))) else (false,(1,0))))
theorem all_cr:CR (false,(1,0)):= .inr ⟨rfl,by decide,by decide⟩
theorem tdiv_le {a b:Int}: -(a.natAbs:Int)<=Int.tdiv a b/\Int.tdiv a b<=(a.natAbs:Int):=by
 have h:(Int.tdiv a b).natAbs<=a.natAbs:=by rw [Int.natAbs_tdiv];exact Nat.div_le_self _ _
 omega
theorem div_eq {x y:TCongr} (hx:CR x) (hy:CR y):f92_m (x,y)=some (divc x y)/\f140_m (x,y)=some (divc x y)/\CR (divc x y):=by
 obtain ⟨b1,m1,r1⟩:=x;obtain ⟨b2,m2,r2⟩:=y;cases b1
 case true=>exact ⟨rfl,rfl,none_cr⟩
 cases b2
 case true=>exact ⟨rfl,rfl,none_cr⟩
 obtain ⟨M1,rfl,p1,p2,p3,p4,p5⟩:=hx.nums;obtain ⟨M2,rfl,q1,q2,q3,q4,q5⟩:=hy.nums;have d1:=@tdiv_le (M1:Int) r2;have d2:=@tdiv_le r1 r2;have w1:wi64 (Int.tdiv (M1:Int) r2)=Int.tdiv (M1:Int) r2:=wi64_of (by omega) (by omega);have w2:wi64 (Int.tdiv r1 r2)=Int.tdiv r1 r2:=wi64_of (by omega) (by omega);have e1:f122_m (Int.tdiv (M1:Int) r2,Int.tdiv r1 r2)=some (nf ((Int.tdiv (M1:Int) r2).natAbs:Int) (Int.tdiv r1 r2)):=f122_eq (by omega) (by omega) (by omega) (by omega);have e2:f71_m (Int.tdiv (M1:Int) r2,Int.tdiv r1 r2)=some (nf ((Int.tdiv (M1:Int) r2).natAbs:Int) (Int.tdiv r1 r2)):=f71_eq (by omega) (by omega) (by omega) (by omega);have e3:=f127_to (Int.tdiv r1 r2);unfold f92_m f92_c f140_m f140_c divc;simp only [cond_false,w1,w2];clear hx hy p4 q4 d1 d2;generalize (M1:Int)=m1 at *
 generalize (M2:Int)=m2 at *
 by_cases h2:m2=0
 · by_cases h3:r2=0
   · simp [h2,h3,none31];exact none_cr
   · by_cases h1:m1=0
     · have e2':=e2;rw [h1] at e2';simp [h2,h3,h1,e3] at e2' ⊢;exact ⟨e2',nf_cr (Int.le_refl _)⟩
     · by_cases h4:Int.tmod m1 r2=0
       · by_cases h5:Int.tmod r1 r2=0
         · simp only [h2,h3,h1,h4,h5,e1,e2,decide_true,decide_false,cond_true,cond_false,Bool.not_true,Bool.not_false,and_false,false_and,if_true,if_false,Bool.and_false,Bool.false_and,not_true,not_false_eq_true,Option.bind_some,true_and];exact nf_cr (by omega)
         · simp [h2,h3,h1,h4,h5];exact all_cr
       · simp [h2,h3,h1,h4];exact all_cr
 · simp [h2];exact all_cr
def modc (x y:TCongr):TCongr:=cond x.1 none31 (cond y.1 none31 (if y.2.1=0/\y.2.2=0 then none31 else if x.2.1=0/\y.2.1=0 then nf 0 (Int.tmod x.2.2 y.2.2) else nf (Nat.gcd (Nat.gcd x.2.1.natAbs y.2.1.natAbs) y.2.2.natAbs:Nat) x.2.2))
theorem tmod_le {a b:Int}: -(a.natAbs:Int)<=Int.tmod a b/\Int.tmod a b<=(a.natAbs:Int):=by
 have h:(Int.tmod a b).natAbs<=a.natAbs:=by rw [Int.natAbs_tmod];exact Nat.mod_le _ _
 omega
theorem mod_eq {x y:TCongr} (hx:CR x) (hy:CR y):f93_m (x,y)=some (modc x y)/\f141_m (x,y)=some (modc x y)/\CR (modc x y):=by
 obtain ⟨b1,m1,r1⟩:=x;obtain ⟨b2,m2,r2⟩:=y;cases b1
 case true=>exact ⟨rfl,rfl,none_cr⟩
 cases b2
 case true=>exact ⟨rfl,rfl,none_cr⟩
 obtain ⟨M1,rfl,p1,p2,p3,p4,p5⟩:=hx.nums;obtain ⟨M2,rfl,q1,q2,q3,q4,q5⟩:=hy.nums;have d2:=@tmod_le r1 r2;have hg:=gcd_lt p1 q1;have hg2:Nat.gcd (Nat.gcd M1 M2) r2.natAbs<9223372036854775808:=gcd_lt (by omega) (by omega);have hg3:Nat.gcd M2 r2.natAbs<9223372036854775808:=gcd_lt (by omega) (by omega);have e0:f71_m (0,Int.tmod r1 r2)=some (nf 0 (Int.tmod r1 r2)):=f71_eq (by omega) (by omega) (by omega) (by omega);have e3:=f127_to (Int.tmod r1 r2);have v1:wu64 (M1:Int)=M1:=wu64_of (by omega) (by omega);have v2:wu64 (M2:Int)=M2:=wu64_of (by omega) (by omega);have u1:f128_m ((M1:Int),(M2:Int))=some (Nat.gcd M1 M2:Int):=f128_eq _ _ (by omega);have u2:f129_m r2=some (r2.natAbs:Int):=f129_eq (by omega) (by omega);have u3:f128_m ((Nat.gcd M1 M2:Nat),(r2.natAbs:Int))=some (Nat.gcd (Nat.gcd M1 M2) r2.natAbs:Int):=f128_eq _ _ (by omega);have u4:f98_m ((Nat.gcd (Nat.gcd M1 M2) r2.natAbs:Nat),r1)=some (nf (Nat.gcd (Nat.gcd M1 M2) r2.natAbs:Nat) r1):=f98_eq (by omega) (by omega) (by omega) (by omega);have t1:f111_m (M1:Int)=some (M1:Int):=f111_eq (by omega) (by omega);have t2:f111_m (M2:Int)=some (M2:Int):=f111_eq (by omega) (by omega);have t3:f111_m r2=some (r2.natAbs:Int):=f111_eq (by omega) (by omega);have t4:f110_m ((M2:Int),(r2.natAbs:Int))=some (Nat.gcd M2 r2.natAbs:Int):=f110_eq _ _ (by omega);have t5:f110_m ((M1:Int),(Nat.gcd M2 r2.natAbs:Nat))=some (Nat.gcd (Nat.gcd M1 M2) r2.natAbs:Int):=by rw [f110_eq _ _ (by omega),Nat.gcd_assoc]
 have t6:f109_m ((Nat.gcd (Nat.gcd M1 M2) r2.natAbs:Nat),r1)=some (nf (Nat.gcd (Nat.gcd M1 M2) r2.natAbs:Nat) r1):=f109_eq (by omega) (by omega) (by omega) (by omega);have hcr:CR (nf (Nat.gcd (Nat.gcd M1 M2) r2.natAbs:Nat) r1):=nf_cr (by omega);have A:((f128_m ((wu64 (M1:Int)),(wu64 (M2:Int)))).bind fun r2'=>(f129_m r2).bind fun r3=>(f128_m (r2',r3)).bind fun r4=>(f98_m (r4,r1)).bind fun r5=>some r5)=some (nf (Nat.gcd (Nat.gcd M1 M2) r2.natAbs:Nat) r1):=by
   rw [v1,v2,u1,u2];simp only [Option.bind_some];rw [u3];simp only [Option.bind_some];rw [u4];rfl
 have B:((f111_m (M1:Int)).bind fun r2'=>(f111_m (M2:Int)).bind fun r3=>(f111_m r2).bind fun r4=>(f110_m (r3,r4)).bind fun r5=>(f110_m (r2',r5)).bind fun r6=>(f109_m (r6,r1)).bind fun r7=>some r7)=some (nf (Nat.gcd (Nat.gcd M1 M2) r2.natAbs:Nat) r1):=by
   rw [t1,t2,t3];simp only [Option.bind_some];rw [t4];simp only [Option.bind_some];rw [t5];simp only [Option.bind_some];rw [t6];rfl
 unfold f93_m f93_c f141_m f141_c modc;simp only [cond_false,Int.natAbs_natCast];rw [A,B];by_cases h2:(M2:Int)=0
 · by_cases h3:r2=0
   · simp [h2,h3,none31];exact none_cr
   · by_cases h1:(M1:Int)=0
     · simp [h2,h3,h1,e3,e0];exact nf_cr (Int.le_refl _)
     · simp only [h1,decide_false,cond_false,h2,h3,false_and,and_false,if_false,Bool.false_and,Bool.and_false,decide_true];exact ⟨trivial,trivial,hcr⟩
 · by_cases h1:(M1:Int)=0
   · simp only [h2,h1,decide_false,cond_false,decide_true,cond_true,false_and,and_false,if_false,Bool.false_and,Bool.and_false];exact ⟨trivial,trivial,hcr⟩
   · simp only [h2,h1,decide_false,cond_false,decide_true,cond_true,false_and,and_false,if_false,Bool.false_and,Bool.and_false];exact ⟨trivial,trivial,hcr⟩
end Go.U
end
section
set_option maxRecDepth 20000
namespace Go.U
open Go
theorem and32 {x:Int} (h0:0<=x) (h1:x<18446744073709551616):bits_and .u64 x 4294967295=x%4294967296:=by
 obtain ⟨n,rfl⟩:=Int.eq_ofNat_of_zero_le h0;have hn:n<2^64:=by omega
 have e:bits_and .u64 (n:Int) 4294967295=wu64 (((BitVec.ofInt 64 (n:Int)) &&& (BitVec.ofInt 64 4294967295)).toNat:Int):=rfl;rw [e,BitVec.toNat_and];have e1:(BitVec.ofInt 64 (n:Int)).toNat=n:=by simp [BitVec.ofInt_natCast,Nat.mod_eq_of_lt hn]
 have e2:(BitVec.ofInt 64 4294967295).toNat=2^32-1:=rfl;rw [e1,e2,Nat.and_two_pow_sub_one_eq_mod];rw [wu64_of (by omega) (by omega)];omega
theorem hi0 {a b:Int} (ha:0<=a) (ha1:a<4294967296) (hb:0<=b) (hb1:b<4294967296):
  (wu64 ((wu64 ((wu64 ((Int.fdiv a (2^min 32 64)) * (Int.fdiv b (2^min 32 64))))+(Int.fdiv (wu64 ((wu64 ((Int.fdiv a (2^min 32 64)) * (bits_and .u64 b 4294967295)))+(Int.fdiv (wu64 ((bits_and .u64 a 4294967295) * (bits_and .u64 b 4294967295))) (2^min 32 64)))) (2^min 32 64))))+(Int.fdiv (wu64 ((bits_and .u64 (wu64 ((wu64 ((Int.fdiv a (2^min 32 64)) * (bits_and .u64 b 4294967295)))+(Int.fdiv (wu64 ((bits_and .u64 a 4294967295) * (bits_and .u64 b 4294967295))) (2^min 32 64)))) 4294967295)+(wu64 ((bits_and .u64 a 4294967295) * (Int.fdiv b (2^min 32 64)))))) (2^min 32 64))))=0:=by
 have p:((2:Int)^min 32 64)=4294967296:=by decide
 rw [p];have f:∀ {x:Int},0<=x->x<4294967296->Int.fdiv x 4294967296=0:=fun h0 h1=>by
  rw [Int.fdiv_eq_ediv_of_nonneg _ (by decide)];omega
 rw [f ha ha1,f hb hb1,and32 ha (by omega),and32 hb (by omega)];have e1:a%4294967296=a:=by omega
 have e2:b%4294967296=b:=by omega
 rw [e1,e2];have hab0:0<=a * b:=Int.mul_nonneg ha hb;have hab:a * b<=4294967295 * 4294967295:=Int.mul_le_mul (by omega) (by omega) hb (by decide);simp only [Int.zero_mul,Int.mul_zero];rw [wu64_of (n:=a * b) hab0 (by omega),wu64_of (n:=0) (by decide) (by decide)];have g0:0<=Int.fdiv (a * b) 4294967296/\Int.fdiv (a * b) 4294967296<4294967296:=by
  rw [Int.fdiv_eq_ediv_of_nonneg _ (by decide)];omega
 simp only [Int.zero_add,Int.add_zero];rw [wu64_of (n:=Int.fdiv (a * b) 4294967296) g0.1 (by omega),and32 g0.1 (by omega),f g0.1 g0.2];have e3:Int.fdiv (a * b) 4294967296%4294967296=Int.fdiv (a * b) 4294967296:=by omega
 rw [e3,wu64_of (n:=0) (by decide) (by decide),wu64_of (n:=Int.fdiv (a * b) 4294967296) g0.1 (by omega),f g0.1 g0.2];decide
theorem f130_eq {a b:Int} (ha0: -2147483648<=a) (ha1:a<4294967296) (hb0: -2147483648<=b) (hb1:b<4294967296):
  f130_m (a,b)=some (((0,((a.natAbs * b.natAbs:Nat):Int)),(!((decide (a<(0:Int)))==(decide (b<(0:Int)))))):TProduct):=by
 unfold f130_m f130_c;simp only;rw [f129_eq (by omega) (by omega),f129_eq (by omega) (by omega)];simp only [Option.bind_some];rw [hi0 (by omega) (by omega) (by omega) (by omega)];have h0:(0:Int)<=(a.natAbs:Int) * (b.natAbs:Int):=Int.mul_nonneg (by omega) (by omega);have h1:(a.natAbs:Int) * (b.natAbs:Int)<=4294967295 * 4294967295:=Int.mul_le_mul (by omega) (by omega) (by omega) (by decide);rw [wu64_of h0 (by omega),Int.natCast_mul]
theorem f131_eq {lo g:Int} (hg:0<g) (h0:0<=lo):f131_m (((0,lo):TItv),g)=some (lo%g):=by
 unfold f131_m f131_c f162_m f162_c f169_m f169_c;have e0:¬ g=0:=by omega
 have e1:¬ g<=0:=by omega
 simp only [e0,decide_false,cond_false,Int.zero_tmod,e1,decide_true,cond_true,Option.bind_some];rw [tmod_nat h0]
def mulc (x y:TCongr):TCongr:=cond x.1 none31 (cond y.1 none31 (nf (Nat.gcd (x.2.1.natAbs * y.2.1.natAbs) (Nat.gcd (x.2.1.natAbs * y.2.2.natAbs) (y.2.1.natAbs * x.2.2.natAbs)):Nat)
 (cond (!((decide (x.2.2<(0:Int)))==(decide (y.2.2<(0:Int))))) (-((x.2.2.natAbs * y.2.2.natAbs:Nat):Int)) ((x.2.2.natAbs * y.2.2.natAbs:Nat):Int))))
theorem mul_lt {a b:Nat} (ha:a<4294967296) (hb:b<4294967296):a * b<=18446744065119617025:=by
 have:=Nat.mul_le_mul (Nat.le_of_lt_succ (show a<4294967295+1 by omega)) (Nat.le_of_lt_succ (show b<4294967295+1 by omega));omega
theorem nf0_big {x:Int} (h:¬ (-2147483648<=x/\x<=2147483647)):nf 0 x=none31:=by unfold nf none31;rw [if_pos rfl,if_neg h]
theorem mul_eq {x y:TCongr} (hx:CR x) (hy:CR y):f91_m (x,y)=some (mulc x y)/\f139_m (x,y)=some (mulc x y)/\CR (mulc x y):=by
 obtain ⟨b1,m1,r1⟩:=x;obtain ⟨b2,m2,r2⟩:=y;cases b1
 case true=>exact ⟨rfl,rfl,none_cr⟩
 cases b2
 case true=>exact ⟨rfl,rfl,none_cr⟩
 obtain ⟨M1,rfl,p1,p2,p3,p4,p5⟩:=hx.nums;obtain ⟨M2,rfl,q1,q2,q3,q4,q5⟩:=hy.nums;obtain ⟨R1,hR1⟩:∃ R,r1.natAbs=R:=⟨_,rfl⟩;obtain ⟨R2,hR2⟩:∃ R,r2.natAbs=R:=⟨_,rfl⟩;have l1:R1<4294967296:=by omega
 have l2:R2<4294967296:=by omega
 have a1:=mul_lt p1 q1;have a2:=mul_lt p1 l2;have a3:=mul_lt q1 l1;have a4:=mul_lt l1 l2;have v1:wu64 (M1:Int)=M1:=wu64_of (by omega) (by omega);have v2:wu64 (M2:Int)=M2:=wu64_of (by omega) (by omega);have pr:∀ {a b:Nat},a * b<=18446744065119617025->wu64 ((a:Int) * (b:Int))=((a * b:Nat):Int):=fun {a b} h=>by
   rw [<- Int.natCast_mul];exact wu64_of (by omega) (by omega)
 obtain ⟨P,hP⟩:∃ P,R1 * R2=P:=⟨_,rfl⟩;obtain ⟨G,hG⟩:∃ G,Nat.gcd (M1 * M2) (Nat.gcd (M1 * R2) (M2 * R1))=G:=⟨_,rfl⟩;have g1:Nat.gcd (M1 * M2) (M1 * R2)<18446744073709551616:=gcd_lt (by omega) (by omega);have g2:Nat.gcd (M1 * R2) (M2 * R1)<18446744073709551616:=gcd_lt (by omega) (by omega);have g3:G<18446744073709551616:=by rw [<- hG];exact gcd_lt (by omega) g2
 have em:mulc (false,((M1:Int),r1)) (false,((M2:Int),r2))=nf (G:Int) (cond (!((decide (r1<(0:Int)))==(decide (r2<(0:Int))))) (-(P:Int)) (P:Int)):=by
   unfold mulc;simp only [cond_false,Int.natAbs_natCast,hR1,hR2,hP,hG]
 rw [em];refine ⟨?_,?_,nf_cr (by omega)⟩
 · unfold f91_m f91_c;simp only [cond_false];rw [f129_eq (x:=r2) (by omega) (by omega),f129_eq (x:=r1) (by omega) (by omega),hR1,hR2,v1,v2];simp only [Option.bind_some];rw [pr (by omega),pr (by omega),pr (by omega),f128_eq _ _ (by omega)];simp only [Option.bind_some];rw [f128_eq _ _ (by omega),Nat.gcd_assoc,hG,f130_eq p2 p3 q2 q3,hR1,hR2,hP];simp only [Option.bind_some];by_cases h0:G=0
   · subst h0;simp only [Int.natCast_zero,decide_true,cond_true,Bool.not_true,cond_false];by_cases hb:(4611686018427387904:Int)<(P:Int)
     · simp only [hb,decide_true,cond_true];cases !((decide (r1<(0:Int)))==(decide (r2<(0:Int))))
       · rw [cond_false,nf0_big (by omega)];rfl
       · rw [cond_true,nf0_big (by omega)];rfl
     · simp only [hb,decide_false,cond_false];cases !((decide (r1<(0:Int)))==(decide (r2<(0:Int))))
       · rw [cond_false,cond_false,wi64_of (by omega) (by omega),f127_to]
       · rw [cond_true,cond_true,wi64_of (n:=(P:Int)) (by omega) (by omega),wi64_of (by omega) (by omega),f127_to,Int.zero_sub]
   · have h0':¬ ((G:Int)=0):=by omega
     simp only [h0',decide_false,cond_false];rw [f131_eq (by omega) (by omega)];simp only [Option.bind_some];have k1:=Int.emod_nonneg (P:Int) h0';have k2:=Int.emod_lt_of_pos (P:Int) (show 0<(G:Int) by omega);cases !((decide (r1<(0:Int)))==(decide (r2<(0:Int))))
     · rw [cond_false,cond_false,f132_eq (by omega) (by omega) k1 k2,nf_self h0'];rfl
     · rw [cond_true,cond_true];have k5:=Int.emod_add_mul_ediv (P:Int) G;by_cases hr:0<(P:Int)%G
       · simp only [hr,decide_true,cond_true];rw [wu64_of (by omega) (by omega),f132_eq (by omega) (by omega) (by omega) (by omega)];simp only [Option.bind_some];congr 1;refine nf_emod ?_ h0';have:(G:Int)-P%G= -(P:Int)+G * (P/G+1):=by rw [Int.mul_add];omega
         rw [this,Int.add_mul_emod_self_left]
       · simp only [hr,decide_false,cond_false];have hz:(P:Int)%G=0:=by omega
         rw [hz,f132_eq (by omega) (by omega) (by omega) (by omega)];simp only [Option.bind_some];congr 1;refine nf_emod ?_ h0';have hd:(G:Int) ∣ -(P:Int):=(Int.dvd_neg).2 (Int.dvd_of_emod_eq_zero hz);rw [Int.emod_eq_zero_of_dvd hd];simp
 · unfold f139_m f139_c;simp only [cond_false];rw [f111_eq (x:=r2) (by omega) (by omega),f111_eq (x:=r1) (by omega) (by omega),f111_eq (x:=(M1:Int)) (by omega) (by omega),f111_eq (x:=(M2:Int)) (by omega) (by omega),hR1,hR2];simp only [Option.bind_some,Int.natAbs_natCast];rw [pr (by omega),pr (by omega),pr (by omega),pr (by omega),hP,f110_eq _ _ (by omega)];simp only [Option.bind_some];rw [f110_eq _ _ (by omega),hG];simp only [Option.bind_some];rw [f123_eq (by omega) (by omega) (by omega) (by omega)];rfl
def jc (x y:TCongr):TCongr:=cond x.1 none31 (cond y.1 none31 (joinc x y))
theorem jc_eq {x y:TCongr} (hx:CR x) (hy:CR y):f83_m (x,y)=some (jc x y)/\CR (jc x y):=by
 obtain ⟨h1,h2,h3⟩:=join_eq hx hy;unfold f83_m f83_c jc;cases hb1:x.1
 · cases hb2:y.1
   · simp only [hb1,hb2,cond_false];rw [h1];exact ⟨rfl,h3⟩
   · simp only [hb1,hb2,cond_false,cond_true];exact ⟨rfl,none_cr⟩
 · simp only [hb1,cond_true];exact ⟨rfl,none_cr⟩
theorem f85_eq {x y:TCongr} (hx:CR x):f85_m (x,y)=some (negc x):=by
 unfold f85_m f85_c;simp only;rw [(neg_eq hx).1];rfl
theorem f87_eq {x y:TCongr} (hx:CR x):f87_m (x,y)=some (absc x):=by
 unfold f87_m f87_c;simp only;rw [(abs_eq hx).1];rfl
theorem f70_eq (x:Int):f70_m x=some (nf 0 x):=by
 unfold f70_m f70_c f122_m f122_c;simp only [decide_true,cond_true];rw [f127_to];rfl
theorem f134_eq:f134_m ()=some (false,(1,0)):=by
 unfold f134_m f134_c;rw [f122_eq (by decide) (by decide) (by decide) (by decide)];rfl
theorem f71_0 {x:Int} (h0: -9223372036854775808<=x) (h1:x<=9223372036854775807):f71_m (0,x)=some (nf 0 x):=f71_eq (by decide) (by decide) h0 h1
theorem f71_1:f71_m (1,0)=some (false,(1,0)):=f71_eq (by decide) (by decide) (by decide) (by decide)
end Go.U
end
section
set_option maxRecDepth 20000
namespace Go.U
open Go
def opv (g:TGraph) (s:TMods) (y:TInstr) (v:Int->TCongr):TCongr:=
 if y.1=1 then nf 0 y.2.2.2.2.1
 else if y.1=2 then negc (v y.2.2.1)
 else if y.1=3 then absc (v y.2.2.1)
 else if y.1=4 then addc (v y.2.2.1) (v y.2.2.2.1)
 else if y.1=5 then subc (v y.2.2.1) (v y.2.2.2.1)
 else if y.1=6 then mulc (v y.2.2.1) (v y.2.2.2.1)
 else if y.1=7 then divc (v y.2.2.1) (v y.2.2.2.1)
 else if y.1=8 then modc (v y.2.2.1) (v y.2.2.2.1)
 else if y.1=11 then gx s.2.2 y.2.2.1.toNat dCongr
 else if y.1=12 then (if (gx (arrs g) y.2.2.1.toNat dArray).2.2.1=(gx (arrs g) y.2.2.1.toNat dArray).2.2.2 then nf 0 (gx (arrs g) y.2.2.1.toNat dArray).2.2.1 else (false,(1,0)))
 else jc (v y.2.2.1) (v y.2.2.2.1)
structure NumsG (g:TGraph):Prop where
 k:∀ j,j<g.1.length->I64 (at' g j).2.2.2.2.1
 a:∀ j,j<(arrs g).length->I64 (gx (arrs g) j dArray).2.2.1
def Ops (y:TInstr) (P:Int->Prop):Prop:=
 (y.1=2\/y.1=3->P y.2.2.1)/\(4<=y.1/\y.1<=10->P y.2.2.1/\P y.2.2.2.1)
theorem uses_ops {y:TInstr} {P:Int->Prop} (h:∀ x∈f41_l y,P x):Ops y P:=by
 refine ⟨fun k=> ?_,fun k=> ?_⟩
 · rcases k with k|k<;>exact h _ (by simp [f41_l,k])
 · have:y.1=4\/y.1=5\/y.1=6\/y.1=7\/y.1=8\/y.1=9\/y.1=10:=by omega
   rcases this with k|k|k|k|k|k|k<;>exact ⟨h _ (by simp [f41_l,k]),h _ (by simp [f41_l,k])⟩
theorem f95_eq {g:TGraph} {s:TMods} {y:TInstr} {out:List TCongr} (hd:isD y=true) (hk:I64 y.2.2.2.2.1) (hna:∀ j,j<(arrs g).length->I64 (gx (arrs g) j dArray).2.2.1) (hi:Idx g y) (hs:FitS g s)
   (ho:Ops y fun x=>0<=x/\x<(out.length:Int)/\CR (gx out x.toNat dCongr)):
   f95_m (g,s,y,out)=some (opv g s y fun x=>gx out x.toNat dCongr)/\CR (opv g s y fun x=>gx out x.toNat dCongr):=by
 obtain ⟨d1,d2⟩:=isD_true.1 hd;have hc:y.1=1\/y.1=2\/y.1=3\/y.1=4\/y.1=5\/y.1=6\/y.1=7\/y.1=8\/y.1=9\/y.1=10\/y.1=11\/y.1=12:=by omega
 unfold f95_m f95_c opv;rcases hc with k|k|k|k|k|k|k|k|k|k|k|k
 · simp only [k];refine ⟨?_,nf_cr (Int.le_refl _)⟩
   simp
   rw [f71_0 hk.1 hk.2]
 · obtain ⟨u1,u2,u3⟩:=ho.1 (.inl k);obtain ⟨n1,n2,n3⟩:=neg_eq u3;simp [k,inRI u1 u2,ask_true,n2,n3]
 · obtain ⟨u1,u2,u3⟩:=ho.1 (.inr k);obtain ⟨n1,n2,n3⟩:=abs_eq u3;simp [k,inRI u1 u2,ask_true,n2,n3]
 · obtain ⟨⟨u1,u2,u3⟩,v1,v2,v3⟩:=ho.2 (by omega);obtain ⟨n1,n2,n3⟩:=add_eq u3 v3;simp [k,inRI u1 u2,inRI v1 v2,ask_true,n2,n3]
 · obtain ⟨⟨u1,u2,u3⟩,v1,v2,v3⟩:=ho.2 (by omega);obtain ⟨n1,n2,n3⟩:=sub_eq u3 v3;simp [k,inRI u1 u2,inRI v1 v2,ask_true,n2,n3]
 · obtain ⟨⟨u1,u2,u3⟩,v1,v2,v3⟩:=ho.2 (by omega);obtain ⟨n1,n2,n3⟩:=mul_eq u3 v3;simp [k,inRI u1 u2,inRI v1 v2,ask_true,n2,n3]
 · obtain ⟨⟨u1,u2,u3⟩,v1,v2,v3⟩:=ho.2 (by omega);obtain ⟨n1,n2,n3⟩:=div_eq u3 v3;simp [k,inRI u1 u2,inRI v1 v2,ask_true,n2,n3]
 · obtain ⟨⟨u1,u2,u3⟩,v1,v2,v3⟩:=ho.2 (by omega);obtain ⟨n1,n2,n3⟩:=mod_eq u3 v3;simp [k,inRI u1 u2,inRI v1 v2,ask_true,n2,n3]
 · obtain ⟨⟨u1,u2,u3⟩,v1,v2,v3⟩:=ho.2 (by omega);obtain ⟨n1,n2,n3⟩:=join_eq u3 v3;obtain ⟨_,j2⟩:=jc_eq u3 v3;simp only [k];refine ⟨?_,by simpa using j2⟩;simp [inRI u1 u2,inRI v1 v2,ask_true,n2,jc,none31];cases (gx out y.2.2.1.toNat dCongr).1<;>cases (gx out y.2.2.2.1.toNat dCongr).1<;>rfl
 · obtain ⟨⟨u1,u2,u3⟩,v1,v2,v3⟩:=ho.2 (by omega);obtain ⟨n1,n2,n3⟩:=join_eq u3 v3;obtain ⟨_,j2⟩:=jc_eq u3 v3;simp only [k];refine ⟨?_,by simpa using j2⟩;simp [inRI u1 u2,inRI v1 v2,ask_true,n2,jc,none31];cases (gx out y.2.2.1.toNat dCongr).1<;>cases (gx out y.2.2.2.1.toNat dCongr).1<;>rfl
 · obtain ⟨u1,u2⟩:=hi.k11 (.inl k);have u2':y.2.2.1<(s.2.2.length:Int):=by rw [hs.il];exact u2
   have:=hs.ic y.2.2.1.toNat (by omega);simp [k,inRI u1 u2',ask_true,this]
 · obtain ⟨u1,u2⟩:=hi.k12 k;have u2':y.2.2.1<(List.length g.2.2.2.2.1:Int):=u2;have hn:=hna y.2.2.1.toNat (by show _<List.length g.2.2.2.2.1;omega);simp only [k];by_cases he:(gx (arrs g) y.2.2.1.toNat dArray).2.2.1=(gx (arrs g) y.2.2.1.toNat dArray).2.2.2
   · refine ⟨?_,by simp [he];exact nf_cr (Int.le_refl _)⟩;have he':(gx g.2.2.2.2.1 y.2.2.1.toNat dArray).2.2.1=(gx g.2.2.2.2.1 y.2.2.1.toNat dArray).2.2.2:=he;have f0:=f71_0 hn.1 hn.2;rw [he] at f0;simp [inRI u1 u2',ask_true,he,he'];exact f0
   · have he':¬ (gx g.2.2.2.2.1 y.2.2.1.toNat dArray).2.2.1=(gx g.2.2.2.2.1 y.2.2.1.toNat dArray).2.2.2:=he;refine ⟨?_,by simp [he];exact all_cr⟩;simp [inRI u1 u2',ask_true,he,he',f71_1]
end Go.U
end
section
set_option maxRecDepth 20000
namespace Go.U
open Go
structure Outs (g:TGraph) (s:TMods) (n:Nat) (out:List TCongr):Prop where
 len:(out.length:Int)=g.2.2.1
 sc:∀ k,k<(scs g).length->gx out k dCongr=gx s.2.1 k dCongr
 df:∀ j,j<n->isD (at' g j)=true->gx out (at' g j).2.1.toNat dCongr=opv g s (at' g j) (fun x=>gx out x.toNat dCongr)/\CR (gx out (at' g j).2.1.toNat dCongr)
theorem gx_set {α:Type} {l:List α} {i j:Nat} {d x:α} (h:i<l.length):gx (l.set i x) j d=if i=j then x else gx l j d:=by
 simp only [gx,List.getD,List.getElem?_set];by_cases e:i=j
 · subst e;simp [h]
 · simp [e]
theorem opv_congr {g:TGraph} {s:TMods} {y:TInstr} {v w:Int->TCongr} (hd:isD y=true) (h:Ops y fun x=>v x=w x):opv g s y v=opv g s y w:=by
 obtain ⟨d1,d2⟩:=isD_true.1 hd;have hc:y.1=1\/y.1=2\/y.1=3\/y.1=4\/y.1=5\/y.1=6\/y.1=7\/y.1=8\/y.1=9\/y.1=10\/y.1=11\/y.1=12:=by omega
 unfold opv;rcases hc with k|k|k|k|k|k|k|k|k|k|k|k
 · simp [k]
 · have:=h.1 (.inl k);simp [k,this]
 · have:=h.1 (.inr k);simp [k,this]
 · obtain ⟨a,b⟩:=h.2 (by omega);simp [k,a,b]
 · obtain ⟨a,b⟩:=h.2 (by omega);simp [k,a,b]
 · obtain ⟨a,b⟩:=h.2 (by omega);simp [k,a,b]
 · obtain ⟨a,b⟩:=h.2 (by omega);simp [k,a,b]
 · obtain ⟨a,b⟩:=h.2 (by omega);simp [k,a,b]
 · obtain ⟨a,b⟩:=h.2 (by omega);simp [k,a,b]
 · obtain ⟨a,b⟩:=h.2 (by omega);simp [k,a,b]
 · simp [k]
 · simp [k]
theorem Ops.imp {y:TInstr} {P Q:Int->Prop} (h:Ops y P) (hPQ:∀ x,P x->Q x):Ops y Q:=
 ⟨fun k=>hPQ _ (h.1 k),fun k=>⟨hPQ _ (h.2 k).1,hPQ _ (h.2 k).2⟩⟩
section
variable {g:TGraph} {D:List Int} {s:TMods}
theorem use_cases (hG:FitG g D) {i:Nat} {x:Int} (h:Use g D i x):0<=x/\x<g.2.2.1/\(x<((scs g).length:Int)\/∃ j,j<i/\j<g.1.length/\isD (at' g j)=true/\(at' g j).2.1=x):=by
 obtain ⟨h1,h2,h3⟩:=h;refine ⟨h1,h2,?_⟩;rcases Int.lt_or_le x ((scs g).length:Int) with h4|h4
 · exact .inl h4
 · have h5:=h3 h4;have hr:=hG.defs.regs;obtain ⟨k,hk⟩:=Int.eq_ofNat_of_zero_le (show 0<=x-((scs g).length:Int) by omega);obtain ⟨j,d1,d2,d3,d4⟩:=hG.defs.dn k (by omega);rw [hk,Int.toNat_natCast,gx_of d1] at h5;exact .inr ⟨j,by omega,d2,d3,by omega⟩
theorem def_inj (hG:FitG g D) {i j:Nat} (hi:i<g.1.length) (hj:j<g.1.length) (di:isD (at' g i)=true) (dj:isD (at' g j)=true) (e:(at' g i).2.1=(at' g j).2.1):i=j:=by
 obtain ⟨k,a1,a2⟩:=hG.defs.up i hi di;obtain ⟨k',b1,b2⟩:=hG.defs.up j hj dj;have:k=k':=by omega
 subst this;rw [a2] at b2;injection b2 with b2;omega
theorem def_reg (hG:FitG g D) {i:Nat} (hi:i<g.1.length) (di:isD (at' g i)=true):((scs g).length:Int)<=(at' g i).2.1/\(at' g i).2.1<g.2.2.1:=by
 obtain ⟨k,a1,a2⟩:=hG.defs.up i hi di;have hk:k<D.length:=by rcases Nat.lt_or_ge k D.length with h|h;exact h;rw [List.getElem?_eq_none h] at a2;cases a2
 have:=hG.defs.regs;omega
theorem outs_use (hG:FitG g D) (hs:FitS g s) {n:Nat} {out:List TCongr} (ho:Outs g s n out) {i:Nat} (hi:i<=n) {x:Int} (h:Use g D i x):0<=x/\x<(out.length:Int)/\CR (gx out x.toNat dCongr):=by
 obtain ⟨h1,h2,h3⟩:=use_cases hG h;refine ⟨h1,by rw [ho.len];exact h2,?_⟩;rcases h3 with h3|⟨j,j1,j2,j3,j4⟩
 · rw [ho.sc x.toNat (by omega)];exact hs.sc _ (by rw [hs.sl];omega)
 · rw [<- j4];exact (ho.df j (by omega) j3).2
theorem cpy_gx {a b:List TCongr} (h:a.length<=b.length) (k:Nat) (hk:k<a.length):gx (cpyL 0 (min a.length b.length) a b) k dCongr=gx a k dCongr:=by
 have e:min a.length b.length=a.length:=Nat.min_eq_left h;simp only [cpyL,gx,List.getD,e,List.take_zero,List.nil_append,Nat.zero_add,List.take_of_length_le (Nat.le_refl _)];rw [List.getElem?_append_left hk]
theorem cpy_len {a b:List TCongr} (h:a.length<=b.length):(cpyL 0 (min a.length b.length) a b).length=b.length:=by
 have e:min a.length b.length=a.length:=Nat.min_eq_left h;simp only [cpyL,e,List.take_zero,List.nil_append,Nat.zero_add,List.take_of_length_le (Nat.le_refl _),List.length_append,List.length_drop];omega
theorem f48_eq (hG:FitG g D) (hs:FitS g s) (hn:NumsG g):∃ out,f48_m (g,s)=some out/\Outs g s g.1.length out:=by
 have hr:=hG.defs.regs;have hl:=hG.defs.len;have hS:=hG.S;unfold f48_m f48_c;have b1:(decide (0<=g.2.2.1)&&decide (g.2.2.1<=g.2.2.1)&&decide (24 * g.2.2.1<=70368744177664)&&decide (g.2.2.1<9223372036854775808))=true:=by
  rw [decide_eq_true (show 0<=g.2.2.1 by omega),decide_eq_true (Int.le_refl _),decide_eq_true (show 24 * g.2.2.1<=70368744177664 by omega),decide_eq_true (show g.2.2.1<9223372036854775808 by omega)];rfl
 simp only [b1,ask_true];obtain ⟨Z,hZ⟩:∃ Z,(List.replicate (Int.toNat g.2.2.1) ((false,(0,0)):TCongr))=Z:=⟨_,rfl⟩;have hZl:(Z.length:Int)=g.2.2.1:=by rw [<- hZ,List.length_replicate];omega
 rw [hZ];have hle:s.2.1.length<=Z.length:=by rw [hs.sl];omega
 obtain ⟨e,h1,h2⟩:=loopAll_of (step:=f48_l4.m (g,s)) (t:=(0,cpyL 0 (min (List.length s.2.1) Z.length) s.2.1 Z)) (fun t=>∃ n:Nat,n<=g.1.length/\t.1=(n:Int)/\Outs g s n t.2) (fun t=>g.1.length-t.1.toNat) (fun e=>Outs g s g.1.length e)
  ⟨0,Nat.zero_le _,rfl,by rw [cpy_len hle];exact hZl,fun k hk=>cpy_gx hle k (by rw [hs.sl];exact hk),fun j h=>absurd h (Nat.not_lt_zero _)⟩ (by have:=hG.N;simp only;omega) (fun t ⟨n,hnl,ht,hI⟩=>by
   obtain ⟨ti,out⟩:=t;simp only at ht hI;subst ht;have hN:=hG.N;simp only [LD.m,f48_l4,nt];have w:wi64 ((n:Int)+1)=(n:Int)+1:=wi64_of (by omega) (by omega);by_cases h:n<g.1.length
   · have h':(n:Int)<(g.1.length:Int):=by omega
     obtain ⟨y,hy⟩:∃ y,gx g.1 n dInstr=y:=⟨_,rfl⟩;have hat:at' g n=y:=hy;simp only [h',decide_true,cond_true,inR h,ask_true,Int.toNat_natCast,hy,w];have skip:isD y=false->Outs g s (n+1) out:=fun hd=>⟨hI.len,hI.sc,fun j hj hdj=>by
       by_cases e:j=n
       · subst e;rw [hat,hd] at hdj;cases hdj
       · exact hI.df j (by omega) hdj⟩
     by_cases k1:1<=y.1
     · by_cases k2:y.1<=12
       · have hd:isD y=true:=isD_true.2 ⟨k1,k2⟩;simp only [k1,k2,decide_true,cond_true];have good:=hG.good n h;rw [<- hat] at hd;have hops:Ops y fun x=>0<=x/\x<(out.length:Int)/\CR (gx out x.toNat dCongr):=by
           refine uses_ops fun x hx=>outs_use hG hs hI (Nat.le_refl n) (good.use x (by rw [hat];exact hx))
         obtain ⟨q1,q2⟩:=f95_eq (g:=g) (s:=s) (y:=y) (out:=out) (by rw [<- hat];exact hd) (by rw [<- hat];exact hn.k n h) hn.a (by rw [<- hat];exact good.idx) hs hops;rw [q1];simp only [Option.bind_some];obtain ⟨r1,r2⟩:=def_reg hG h hd;rw [hat] at r1 r2;have hlen:=hI.len;rw [inRI (by omega) (by omega),ask_true];refine .inl ⟨_,rfl,⟨n+1,h,rfl,by simpa using hlen,fun k hk=> ?_,fun j hj hdj=> ?_⟩,by simp only;omega⟩
         · rw [gx_set (by omega),if_neg (by omega)];exact hI.sc k hk
         · have hjN:j<g.1.length:=by omega
           have hcongr:opv g s (at' g j) (fun x=>gx out x.toNat dCongr)=opv g s (at' g j) (fun x=>gx (out.set y.2.1.toNat (opv g s y fun x=>gx out x.toNat dCongr)) x.toNat dCongr):=by
             refine opv_congr hdj (uses_ops fun x hx=> ?_);have hu:=(hG.good j hjN).use x hx;obtain ⟨u1,u2,u3⟩:=use_cases hG hu;rw [gx_set (by omega)];rw [if_neg];intro e;have e':y.2.1=x:=by omega
             rcases u3 with u3|⟨j',j1,j2,j3,j4⟩
             · omega
             · have:=def_inj hG h j2 hd j3 (by rw [hat,e',j4]);omega
           by_cases e:j=n
           · subst e;rw [hat] at hcongr ⊢;rw [<- hcongr,gx_set (by omega),if_pos rfl];exact ⟨rfl,q2⟩
           · have hne:¬ y.2.1.toNat=(at' g j).2.1.toNat:=fun e2=>by
               obtain ⟨r3,r4⟩:=def_reg hG hjN hdj;have:=def_inj hG h hjN hd hdj (by rw [hat];omega);exact e this.symm
             rw [<- hcongr,gx_set (by omega),if_neg hne];exact hI.df j (by omega) hdj
       · simp only [k1,k2,decide_true,decide_false,cond_true,cond_false];exact .inl ⟨_,rfl,⟨n+1,h,rfl,skip (by simp [isD];omega)⟩,by simp only;omega⟩
     · simp only [k1,decide_false,cond_false];exact .inl ⟨_,rfl,⟨n+1,h,rfl,skip (by simp [isD];omega)⟩,by simp only;omega⟩
   · have h':¬ (n:Int)<(g.1.length:Int):=by omega
     simp only [h',decide_false,cond_false];have:n=g.1.length:=by omega
     exact .inr ⟨_,rfl,by rw [<- this];exact hI⟩)
 rw [h1];exact ⟨e,rfl,h2⟩
end
end Go.U
end
section
set_option maxRecDepth 20000
namespace Go.U
open Go
section
variable {α:Type}
abbrev hasI (i:Int) (l:List (Int×α)):Bool:=hasT (k:=(.int .i64)) i l
abbrev getI (i:Int) (d:α) (l:List (Int×α)):α:=getT (k:=(.int .i64)) i d l
abbrev setI (i:Int) (x:α) (l:List (Int×α)):List (Int×α):=setT (k:=(.int .i64)) i x l
theorem has_cons (i j:Int) (x:α) (l:List (Int×α)):hasI i ((j,x)::l)=(decide (i=j)||hasI i l):=rfl
theorem get_cons (i j:Int) (d x:α) (l:List (Int×α)):getI i d ((j,x)::l)=cond (decide (i=j)) x (getI i d l):=rfl
theorem set_nil (i:Int) (x:α):setI i x []=[(i,x)]:=rfl
theorem set_cons (i j:Int) (x y:α) (l:List (Int×α)):setI i x ((j,y)::l)=cond (decide (i=j)) ((i,x)::l) ((j,y)::setI i x l):=rfl
theorem has_set (i j:Int) (x:α):∀ l:List (Int×α),hasI j (setI i x l)=(decide (j=i)||hasI j l)
 |[]=>by rw [set_nil,has_cons]
 |(k,y)::l=>by
  rw [set_cons];by_cases h:i=k
  · subst h;simp only [decide_true,cond_true,has_cons];cases decide (j=i)<;>rfl
  · simp only [h,decide_false,cond_false,has_cons,has_set i j x l];cases decide (j=i)<;>cases decide (j=k)<;>rfl
theorem get_set (i j:Int) (d x:α):∀ l:List (Int×α),getI j d (setI i x l)=if j=i then x else getI j d l
 |[]=>by
  rw [set_nil,get_cons];by_cases h:j=i<;>simp [h]
 |(k,y)::l=>by
  rw [set_cons];by_cases h:i=k
  · subst h;simp only [decide_true,cond_true,get_cons];by_cases e:j=i<;>simp [e]
  · simp only [h,decide_false,cond_false,get_cons,get_set i j d x l];by_cases e:j=k
    · subst e;have:¬ j=i:=fun e2=>h e2.symm
      simp [this]
    · simp [e]
end
theorem f46_eq {g:TGraph} {D:List Int} {s:TMods} (hG:FitG g D):∃ T:List (Int×TInstr),f46_m (g,s)=some (T,[])/\∀ j,j<g.1.length->isD (at' g j)=true->hasI (at' g j).2.1 T=true/\getI (at' g j).2.1 dInstr T=at' g j:=by
 unfold f46_m f46_c;have hN:=hG.N;obtain ⟨e,h1,h2⟩:=loopAll_of (step:=f46_l3.m (g.1,(nt (List.length g.1)),(g,s),([]:List (Int×TCongr)))) (t:=(0,([]:List (Int×TInstr)))) (fun t=>∃ n:Nat,n<=g.1.length/\t.1=(n:Int)/\∀ j,j<n->isD (at' g j)=true->hasI (at' g j).2.1 t.2=true/\getI (at' g j).2.1 dInstr t.2=at' g j) (fun t=>g.1.length-t.1.toNat)
  (fun e=>∀ j,j<g.1.length->isD (at' g j)=true->hasI (at' g j).2.1 e=true/\getI (at' g j).2.1 dInstr e=at' g j) ⟨0,Nat.zero_le _,rfl,fun j h=>absurd h (Nat.not_lt_zero _)⟩ (by simp only;omega) (fun t ⟨n,hn,ht,hI⟩=>by
   obtain ⟨ti,T⟩:=t;simp only at ht hI;subst ht;simp only [LD.m,f46_l3,nt];have w:wi64 ((n:Int)+1)=(n:Int)+1:=wi64_of (by omega) (by omega);by_cases h:n<g.1.length
   · have h':(n:Int)<(g.1.length:Int):=by omega
     obtain ⟨y,hy⟩:∃ y,gx g.1 n dInstr=y:=⟨_,rfl⟩;have hat:at' g n=y:=hy;simp only [h',decide_true,cond_true,inR h,ask_true,Int.toNat_natCast,hy,w];have skip:isD y=false->∀ j,j<n+1->isD (at' g j)=true->hasI (at' g j).2.1 T=true/\getI (at' g j).2.1 dInstr T=at' g j:=fun hd j hj hdj=>by
       by_cases e:j=n
       · subst e;rw [hat,hd] at hdj;cases hdj
       · exact hI j (by omega) hdj
     by_cases k1:1<=y.1
     · by_cases k2:y.1<=12
       · have hd:isD y=true:=isD_true.2 ⟨k1,k2⟩;rw [<- hat] at hd;simp only [k1,k2,decide_true,cond_true];refine .inl ⟨_,rfl,⟨n+1,h,rfl,fun j hj hdj=> ?_⟩,by simp only;omega⟩;show hasI (at' g j).2.1 (setI y.2.1 y T)=true/\getI (at' g j).2.1 dInstr (setI y.2.1 y T)=at' g j;rw [has_set,get_set];by_cases e:j=n
         · subst e;rw [hat];simp
         · have hne:¬ (at' g j).2.1=y.2.1:=fun e2=>e (def_inj hG (by omega) h hdj hd (by rw [hat];exact e2))
           obtain ⟨a,b⟩:=hI j (by omega) hdj;rw [if_neg hne,a,b];simp
       · simp only [k1,k2,decide_true,decide_false,cond_true,cond_false];exact .inl ⟨_,rfl,⟨n+1,h,rfl,skip (by simp [isD];omega)⟩,by simp only;omega⟩
     · simp only [k1,decide_false,cond_false];exact .inl ⟨_,rfl,⟨n+1,h,rfl,skip (by simp [isD];omega)⟩,by simp only;omega⟩
   · have h':¬ (n:Int)<(g.1.length:Int):=by omega
     simp only [h',decide_false,cond_false];have:n=g.1.length:=by omega
     exact .inr ⟨_,rfl,by rw [<- this];exact hI⟩)
 rw [h1];exact ⟨e,rfl,h2⟩
end Go.U
end
section
set_option maxRecDepth 20000
namespace Go.U
open Go
def MemoOK (out:List TCongr) (M:List (Int×TCongr)):Prop:=∀ x,hasI x M=true->getI x dCongr M=gx out x.toNat dCongr
section
variable {g:TGraph} {D:List Int} {s:TMods} {out:List TCongr} {T:List (Int×TInstr)}
def ToldR (R:Rec47) (g:TGraph) (s:TMods) (T:List (Int×TInstr)) (out:List TCongr) (x:Int):Prop:=
 (∀ M,MemoOK out M->∃ M',R.m (x,g,s,T,M)=some (gx out x.toNat dCongr,M')/\MemoOK out M')/\CR (gx out x.toNat dCongr)
theorem f94_eq (R:Rec47) {y:TInstr} (hd:isD y=true) (hi:Idx g y) (hs:FitS g s) (ho:Ops y (ToldR R g s T out)) {M:List (Int×TCongr)} (hM:MemoOK out M):
   ∃ M',@f94_m R (y,g,s,T,M)=some (opv g s y (fun x=>gx out x.toNat dCongr),M')/\MemoOK out M':=by
 obtain ⟨d1,d2⟩:=isD_true.1 hd;have hc:y.1=1\/y.1=2\/y.1=3\/y.1=4\/y.1=5\/y.1=6\/y.1=7\/y.1=8\/y.1=9\/y.1=10\/y.1=11\/y.1=12:=by omega
 unfold f94_m f94_c opv;rcases hc with k|k|k|k|k|k|k|k|k|k|k|k
 · refine ⟨M,?_,hM⟩;simp [k,f70_eq]
 · obtain ⟨u,cu⟩:=ho.1 (.inl k);obtain ⟨M1,a1,a2⟩:=u M hM;refine ⟨M1,?_,a2⟩;simp [k,a1,f85_eq cu]
 · obtain ⟨u,cu⟩:=ho.1 (.inr k);obtain ⟨M1,a1,a2⟩:=u M hM;refine ⟨M1,?_,a2⟩;simp [k,a1,f87_eq cu]
 · obtain ⟨⟨u,cu⟩,v,cv⟩:=ho.2 (by omega);obtain ⟨M1,a1,a2⟩:=u M hM;obtain ⟨M2,b1,b2⟩:=v M1 a2;refine ⟨M2,?_,b2⟩;simp [k,a1,b1,(add_eq cu cv).1]
 · obtain ⟨⟨u,cu⟩,v,cv⟩:=ho.2 (by omega);obtain ⟨M1,a1,a2⟩:=u M hM;obtain ⟨M2,b1,b2⟩:=v M1 a2;refine ⟨M2,?_,b2⟩;simp [k,a1,b1,(sub_eq cu cv).1]
 · obtain ⟨⟨u,cu⟩,v,cv⟩:=ho.2 (by omega);obtain ⟨M1,a1,a2⟩:=u M hM;obtain ⟨M2,b1,b2⟩:=v M1 a2;refine ⟨M2,?_,b2⟩;simp [k,a1,b1,(mul_eq cu cv).1]
 · obtain ⟨⟨u,cu⟩,v,cv⟩:=ho.2 (by omega);obtain ⟨M1,a1,a2⟩:=u M hM;obtain ⟨M2,b1,b2⟩:=v M1 a2;refine ⟨M2,?_,b2⟩;simp [k,a1,b1,(div_eq cu cv).1]
 · obtain ⟨⟨u,cu⟩,v,cv⟩:=ho.2 (by omega);obtain ⟨M1,a1,a2⟩:=u M hM;obtain ⟨M2,b1,b2⟩:=v M1 a2;refine ⟨M2,?_,b2⟩;simp [k,a1,b1,(mod_eq cu cv).1]
 · obtain ⟨⟨u,cu⟩,v,cv⟩:=ho.2 (by omega);obtain ⟨M1,a1,a2⟩:=u M hM;obtain ⟨M2,b1,b2⟩:=v M1 a2;refine ⟨M2,?_,b2⟩;simp [k,a1,b1,(jc_eq cu cv).1]
 · obtain ⟨⟨u,cu⟩,v,cv⟩:=ho.2 (by omega);obtain ⟨M1,a1,a2⟩:=u M hM;obtain ⟨M2,b1,b2⟩:=v M1 a2;refine ⟨M2,?_,b2⟩;simp [k,a1,b1,(jc_eq cu cv).1]
 · obtain ⟨u1,u2⟩:=hi.k11 (.inl k);have u2':y.2.2.1<(s.2.2.length:Int):=by rw [hs.il];exact u2
   refine ⟨M,?_,hM⟩;simp [k,inRI u1 u2',ask_true]
 · obtain ⟨u1,u2⟩:=hi.k12 k;have u2':y.2.2.1<(List.length g.2.2.2.2.1:Int):=u2;refine ⟨M,?_,hM⟩;by_cases he:(gx (arrs g) y.2.2.1.toNat dArray).2.2.1=(gx (arrs g) y.2.2.1.toNat dArray).2.2.2
   · have he':(gx g.2.2.2.2.1 y.2.2.1.toNat dArray).2.2.1=(gx g.2.2.2.2.1 y.2.2.1.toNat dArray).2.2.2:=he;simp [k,inRI u1 u2',ask_true,he,he',f70_eq]
   · have he':¬ (gx g.2.2.2.2.1 y.2.2.1.toNat dArray).2.2.1=(gx g.2.2.2.2.1 y.2.2.1.toNat dArray).2.2.2:=he;simp [k,inRI u1 u2',ask_true,he,he',f134_eq]
theorem ev_eq (hG:FitG g D) (hs:FitS g s) (hb:s.1=true) (ho:Outs g s g.1.length out) (hT:∀ j,j<g.1.length->isD (at' g j)=true->hasI (at' g j).2.1 T=true/\getI (at' g j).2.1 dInstr T=at' g j):
  ∀ (f:Nat) (x:Int) (M:List (Int×TCongr)),0<f->0<=x->x<g.2.2.1->(x<((scs g).length:Int)\/∃ j,j+1<f/\j<g.1.length/\isD (at' g j)=true/\(at' g j).2.1=x)->MemoOK out M->
    ∃ M',f47_ev f (x,g,s,T,M)=some (gx out x.toNat dCongr,M')/\MemoOK out M'
 |0,_,_,h,_,_,_,_=>absurd h (Nat.lt_irrefl _)
 |f+1,x,M,_,h0,h1,hx,hM=>by
  show ∃ M',@f47_m ⟨f47_ev f⟩ (x,g,s,T,M)=_/\_;unfold f47_m f47_c;simp only [hb,Bool.not_true,cond_false,nt];by_cases hS:x<((scs g).length:Int)
  · have hS':x<(List.length g.2.2.2.2.2.1:Int):=hS;have hl:x<(s.2.1.length:Int):=by rw [hs.sl];exact hS
    simp only [hS',decide_true,cond_true,inRI h0 hl,ask_true];exact ⟨M,by rw [ho.sc x.toNat (by omega)],hM⟩
  · have hS':¬ x<(List.length g.2.2.2.2.2.1:Int):=hS;simp only [hS',decide_false,cond_false];cases hh:hasI x M
    · rcases hx with hx|⟨j,j1,j2,j3,j4⟩
      · exact absurd hx hS
      · obtain ⟨t1,t2⟩:=hT j j2 j3;rw [j4] at t1 t2;have hh':hasT (k:=(.int .i64)) x M=false:=hh;have t1':hasT (k:=(.int .i64)) x T=true:=t1;have t2':getT (k:=(.int .i64)) x dInstr T=at' g j:=t2;simp only [hh',t1',t2',cond_false,cond_true];have good:=hG.good j j2;have hops:Ops (at' g j) (ToldR ⟨f47_ev f⟩ g s T out):=uses_ops fun z hz=>by
          have hu:=good.use z hz;obtain ⟨z1,z2,z3⟩:=use_cases hG hu;refine ⟨fun M hM=>ev_eq hG hs hb ho hT f z M (by omega) z1 z2 ?_ hM,(outs_use hG hs ho (Nat.le_of_lt j2) hu).2.2⟩;rcases z3 with z3|⟨j',w1,w2,w3,w4⟩
          · exact .inl z3
          · exact .inr ⟨j',by omega,w2,w3,w4⟩
        obtain ⟨M',a1,a2⟩:=f94_eq ⟨f47_ev f⟩ j3 good.idx hs hops hM;rw [a1];simp only [Option.bind_some];have e:=(ho.df j j2 j3).1;rw [j4] at e;rw [<- e];refine ⟨_,rfl,fun z hz=> ?_⟩;have hz':hasI z (setI x (gx out x.toNat dCongr) M')=true:=hz;show getI z dCongr (setI x (gx out x.toNat dCongr) M')=_;rw [get_set];rw [has_set] at hz';by_cases e2:z=x
        · rw [if_pos e2,e2]
        · rw [if_neg e2];simp [e2] at hz';exact a2 z hz'
    · have hh':hasT (k:=(.int .i64)) x M=true:=hh;simp only [hh',cond_true];have e:getT (k:=(.int .i64)) x dCongr M=gx out x.toNat dCongr:=hM x hh;rw [e];exact ⟨M,rfl,hM⟩
end
end Go.U
end
section
set_option maxRecDepth 20000
namespace Go.U
open Go
theorem nums_of {S:Nat} {g:TGraph} (h:okC S cGraph g):NumsG g:=by
 obtain ⟨⟨⟨_,_⟩,hi2⟩,_,_,_,⟨⟨_,_⟩,ha2⟩,_⟩:=h;refine ⟨fun j hj=> ?_,fun j hj=> ?_⟩
 · obtain ⟨_,_,_,_,h5,_⟩:=hi2 _ (mem_at hj);exact okI64 h5
 · obtain ⟨_,_,h3,_⟩:=ha2 _ (List.mem_of_getElem? (gx_lt (d:=dArray) hj));exact okI64 h3
end Go.U
end
