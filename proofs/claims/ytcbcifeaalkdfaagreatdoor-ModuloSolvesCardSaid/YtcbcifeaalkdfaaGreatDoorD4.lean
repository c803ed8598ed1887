/- What these Lean functions compute: plain arithmetic of congruences, the checks of a graph, the values of its registers. -/
import Derived.Test.YtcbcifeaalkdfaaGreatDoorD3
set_option linter.unusedVariables false
set_option linter.unusedSimpArgs false
set_option linter.unusedSectionVars false
open BitVec renaming ofInt→Pj
open Bool renaming not_false→Sb,true_and→Od,and_eq_true→Ab,not_true→Ub,and_false→MF,false_and→Cq,false_eq_true→Xb
open Int renaming emod_eq_emod_iff_emod_sub_eq_zero→fl,emod_eq_zero_of_dvd→Bn,dvd_of_emod_eq_zero→Cn,emod_add_mul_ediv→Uc,mul_le_mul_of_nonneg_left→vg,mul_neg→ah,dvd_add→cg,dvd_refl→Wh,natAbs_natCast→ye,dvd_natAbs→Qb,natCast_dvd_natCast→Bc,sub_self→As,dvd_zero→Yo,dvd_trans→yb,mul_sub→Zg,mul_nonneg→Xo,dvd_sub→ag,zero_dvd→Hh,le_refl→Bd,tdiv→jb,tmod→zb,eq_ofNat_of_zero_le→Ad,fdiv→Bb,natCast_mul→ae,emod_nonneg→Tc,emod_lt_of_pos→uc,mul_add→LF,add_mul_emod_self_left→Jk,lt_or_le→Pv,mul_assoc→Oc,mul_left_comm→Wv,dvd_mul_right→Zc,mul_comm→Ov,dvd_mul_left→Ai,mul_tdiv_cancel_left→xg,emod_emod_of_dvd→Wl,toNat_natCast→Pa,toNat→ia
open List renaming length→fa,getD→Qi,getElem?_set→Cc,getElem?_eq_none→Nb,take_of_length_le→Rf,getElem?_append_left→Ja,length_append→oe,replicate→fb,length_replicate→Nv
open Nat renaming gcd→Ea,gcd_dvd_right→Oj,gcd_dvd_left→Zk,div_le_self→Mm,add_mul→Nf,gcd_comm→Aq,mul_le_mul_left→Eu,lt_or_ge→dc,zero_add→Qf,le_refl→ya,zero_le→Ac,not_lt_zero→Td,le_of_lt→js
open Option renaming bind_some→da
open Prod.mk renaming injEq→Qe
section
set_option maxRecDepth 20000
namespace Go.U
open Go
theorem Fm{m a b:Int}(h:m ∣ a-b):a%m=b%m:=fl.2 (Bn h)
theorem Ro{m a b:Int}(h:a%m=b%m):m ∣ a-b:=Cn (fl.1 h)
theorem ZY{m x y z:Int}(hm:0<m)(h:nf m x=(false,(0,y)))(hz0: -2147483648<=z)(MV:z<=2147483647)(hd:m ∣ z-x):z=y:=by
 have YV:m≠0:=by omega
 unfold nf at h;rw[if_neg YV]at h;split at h
 ·simp at h
 ·rename_i g1;split at h
  ·rename_i g2;simp only[Qe,true_and]at h;have e:(z+2147483648)%m=(x+2147483648)%m:=Fm (by rw[show z+2147483648-(x+2147483648)=z-x by omega];exact hd);have e2:=Uc (z+2147483648) m;have q0:0<=(z+2147483648)/m:=Int.ediv_nonneg (by omega) (by omega);unfold Qm at g1 g2 h;rw[e]at e2;generalize(z+2147483648)/m=q at e2 q0;by_cases hq:q=0
   ·subst hq;rw[Int.mul_zero]at e2;omega
   ·have:m * 1<=m * q:=vg (by omega) (by omega);rw[Int.mul_one]at this;omega
  ·simp only[Qe,true_and]at h;omega
theorem CR.two{c:ga}(h:CR c)(h1:c.1=false)(h0:c.2.1≠0):∃z w:Int,z≠w/\ -2147483648<=z/\z<=2147483647/\ -2147483648<=w/\w<=2147483647/\c.2.1 ∣ z-c.2.2/\c.2.1 ∣ w-c.2.2:=by
 obtain⟨e1,e2,e3⟩:=show c.1=false/\0<=c.2.1/\nf c.2.1 c.2.2=c by
  rcases h with rfl|h
  ·simp at h1
  ·exact h
 obtain⟨b,m,x⟩:=c;simp only at h0 e1 e2 e3 ⊢;subst e1;obtain⟨k,l1,l2,l3⟩:=Ip (m:=m) (x:=x) (by omega);unfold nf at e3;rw[if_neg h0]at e3;split at e3
 ·simp at e3
 ·split at e3
  ·simp only[Qe,true_and]at e3;omega
  ·simp only[Qe,true_and]at e3;have d:m ∣ Qm m x-x:=by
    rw[l1,e3];exact⟨-k,by rw[ah];omega⟩
   refine⟨Qm m x,Qm m x+m,by omega,l2,by omega,by omega,by omega,d,?_⟩;rw[show Qm m x+m-x=(Qm m x-x)+m by omega];exact cg d (Wh m)
theorem naf{m x n r:Int}(h:nf m x=(false,(n,r)))(hn:n≠0):m=n/\x%n=r:=by
 unfold nf at h;split at h
 ·split at h
  ·simp only[Qe,true_and]at h;omega
  ·simp at h
 ·split at h
  ·simp at h
  ·split at h
   ·simp only[Qe,true_and]at h;omega
   ·simp only[Qe,true_and]at h;obtain⟨rfl,h⟩:=h;exact⟨rfl,h⟩
def Pd(a b:ga):Bool:=cond a.1 true (cond b.1 false (if a.2.1=0 then gz b a.2.2 else(!(decide (b.2.1=0))&&(decide (b.2.1 ∣ a.2.1)&&decide (b.2.1 ∣ a.2.2-b.2.2)))))
theorem SR{a b:ga}(ha:CR a)(hb:CR b)(h1:a.1=false)(h2:b.1=false):Pf a b=b↔Pd a b=true:=by
 obtain⟨b1,m1,r1⟩:=a;obtain⟨b2,m2,r2⟩:=b;simp only at h1 h2;subst h1;subst h2;have EF:=ha.two rfl;have Dy:=hb.rem rfl;obtain⟨M1,rfl,p1,p2,p3,p4,p5⟩:=ha.Yt;obtain⟨M2,rfl,q1,q2,q3,q4,q5⟩:=hb.Yt;simp only at EF Dy;unfold Pf Pd gz;simp only[cond_false,ye,Sb,Od];have hgd:((Ea (Ea M1 M2) (r1-r2).natAbs:Nat):Int) ∣ r1-r2:=Qb.1 (Bc.2 (Oj _ _));have hg1:((Ea (Ea M1 M2) (r1-r2).natAbs:Nat):Int) ∣ (M1:Int):=Bc.2 (Nat.dvd_trans (Zk _ _) (Zk _ _));by_cases c2:M2=0
 ·subst c2;have q6:=q5 rfl;constructor
  ·intro h;have hG:Ea (Ea M1 0) (r1-r2).natAbs=0:=by
    rcases Nat.eq_zero_or_pos (Ea (Ea M1 0) (r1-r2).natAbs)with hz|hp
    ·exact hz
    ·exfalso;have key:∀z:Int,-2147483648<=z->z<=2147483647->((Ea (Ea M1 0) (r1-r2).natAbs:Nat):Int) ∣ z-r1->z=r2:=λz z0 z1 hd=>ZY (by omega) h z0 z1 hd
     by_cases c1:M1=0
     ·subst c1;have e:=key r1 p2 (p5 rfl) (by rw[As];exact Yo _);subst e;simp at hp
     ·obtain⟨z,w,k1,k2,k3,k4,k5,k6,k7⟩:=EF (by omega);exact k1 ((key z k2 k3 (yb hg1 k6)).trans (key w k4 k5 (yb hg1 k7)).symm)
   have h3:=Nat.eq_zero_of_gcd_eq_zero_left hG;have h4:=Nat.eq_zero_of_gcd_eq_zero_right hG;rw[Nat.gcd_zero_right]at h3;subst h3;have e:r1=r2:=Int.sub_eq_zero.1 (Int.natAbs_eq_zero.1 h4);subst e;have p6:=p5 rfl;simp[p2,p6]
  ·intro h;by_cases c1:M1=0
   ·subst c1;simp at h;obtain⟨_,rfl⟩:=h;simp only[As,Int.natAbs_zero,Nat.gcd_zero_right,Nat.gcd_self];exact q4
   ·simp[c1]at h
 ·have c2':(M2:Int)≠0:=by omega
  obtain⟨e1,e2,e3⟩:=Dy c2';constructor
  ·intro h;obtain⟨g1,g2⟩:=naf h c2';rw[g1]at hgd hg1;by_cases c1:M1=0
   ·subst c1;have p6:=p5 rfl;simp[p2,p6,c2,g2]
   ·simp[c1,c2,hg1,hgd]
  ·intro h;have hd:(M2:Int) ∣ (M1:Int)/\(M2:Int) ∣ r1-r2:=by
    by_cases c1:M1=0
    ·subst c1;simp[c2]at h;exact⟨Yo _,Ro (by rw[h.2];exact e1)⟩
    ·simp[c1,c2]at h;exact h
   have hG:Ea (Ea M1 M2) (r1-r2).natAbs=M2:=by
    rw[Nat.gcd_eq_right (Bc.1 hd.1)];exact Nat.gcd_eq_left (Bc.1 (Qb.2 hd.2))
   rw[hG,Ts (Fm hd.2) c2',q4]
def eqb(a b:ga):Bool:=(a.1==b.1)&&((decide (a.2.1=b.2.1))&&((decide (a.2.2=b.2.2))&&true))
theorem fak{a b:ga}:eqb a b=decide (a=b):=by
 obtain⟨a1,a2,a3⟩:=a;obtain⟨b1,b2,b3⟩:=b;unfold eqb;by_cases h1:a1=b1<;>by_cases h2:a2=b2<;>by_cases h3:a3=b3<;>simp[h1,h2,h3]
theorem Eai{a b:ga}(ha:CR a)(hb:CR b):vH (a,b)=some (Pd a b):=by
 unfold vH UT;cases h1:a.1
 ·cases h2:b.1
  ·simp only[cond_false,Sb,cond_true];rw[(join_eq ha hb).1];simp only[da];have e:eqb (Pf a b) b=Pd a b:=by
    rw[fak];cases h3:Pd a b
    ·exact decide_eq_false λe=>by rw[(SR ha hb h1 h2).1 e]at h3;cases h3
    ·exact decide_eq_true ((SR ha hb h1 h2).2 h3)
   rw[<- e,<- h2];rfl
  ·simp[Pd,h1,h2]
 ·simp[Pd,h1]
end Go.U
end
section
set_option maxRecDepth 20000
namespace Go.U
open Go
def mem(c:ga)(z:Int):Prop:=c.1=false/\ -2147483648<=z/\z<=2147483647/\c.2.1 ∣ z-c.2.2
theorem lZ{m x:Int}(hm:0<m):m ∣ Qm m x-x:=by
 obtain⟨k,h,_,_⟩:=Ip (m:=m) (x:=x) hm;have e:=Uc x m;exact⟨-(x/m)-k,by rw[h,Zg,ah];omega⟩
theorem lo_le{m x z:Int}(hm:0<m)(hz: -2147483648<=z)(hd:m ∣ z-x):Qm m x<=z:=by
 have e:(z+2147483648)%m=(x+2147483648)%m:=Fm (by rw[show z+2147483648-(x+2147483648)=z-x by omega];exact hd);have e2:=Uc (z+2147483648) m;have q0:0<=m * ((z+2147483648)/m):=Xo (by omega) (Int.ediv_nonneg (by omega) (by omega));unfold Qm;omega
theorem Ck{m a b c:Int}(h:m ∣ b-c):m ∣ a-b↔m ∣ a-c:=by
 constructor
 ·intro k;rw[show a-c=(a-b)+(b-c)by omega];exact cg k h
 ·intro k;rw[show a-b=(a-c)-(b-c)by omega];exact ag k h
theorem Cp{m x z:Int}(hm:0<=m):mem (nf m x) z↔ -2147483648<=z/\z<=2147483647/\m ∣ z-x:=by
 unfold mem;by_cases h0:m=0
 ·subst h0;unfold nf;simp only[if_true];by_cases hx: -2147483648<=x/\x<=2147483647
  ·rw[if_pos hx];exact⟨λh=>h.2,λh=>⟨rfl,h⟩⟩
  ·rw[if_neg hx];refine⟨λh=>(by cases h.1),λ⟨h1,h2,h3⟩=>absurd ?_ hx⟩;have:=Hh.1 h3;omega
 ·have hp:0<m:=by omega
  have Sv:=lZ (x:=x) hp;obtain⟨k,_,l2,l3⟩:=Ip (m:=m) (x:=x) hp;unfold nf;rw[if_neg h0];split
  ·rename_i g1;refine⟨λh=>(by cases h.1),λ⟨h1,h2,h3⟩=> ?_⟩;have:=lo_le hp h1 h3;omega
  ·rename_i g1;split
   ·rename_i g2;simp only[true_and];constructor
    ·rintro⟨h1,h2,h3⟩
     have h3:=Hh.1 h3;have:z=Qm m x:=by omega
     subst this;exact⟨h1,h2,Sv⟩
    ·rintro⟨h1,h2,h3⟩
     refine⟨h1,h2,?_⟩;have:=ZY (y:=Qm m x) hp (by unfold nf;rw[if_neg h0,if_neg g1,if_pos g2]) h1 h2 h3;subst this;rw[As];exact Yo _
   ·simp only[true_and];have:m ∣ x%m-x:=⟨-(x/m),by have:=Uc x m;rw[ah];omega⟩;exact and_congr_right λ_=>and_congr_right λ_=>Ck this
theorem CR.step{c:ga}(h:CR c)(h1:c.1=false):∃z:Int,-2147483648<=z/\z+c.2.1<=2147483647/\c.2.1 ∣ z-c.2.2:=by
 obtain⟨e1,e2,e3⟩:=show c.1=false/\0<=c.2.1/\nf c.2.1 c.2.2=c by
  rcases h with rfl|h
  ·simp at h1
  ·exact h
 obtain⟨b,m,x⟩:=c;simp only at e1 e2 e3 ⊢;subst e1;by_cases h0:m=0
 ·subst h0;unfold nf at e3;simp only[if_true]at e3;split at e3
  ·rename_i g;exact⟨x,g.1,by omega,by rw[As];exact Yo _⟩
  ·simp at e3
 ·obtain⟨k,l1,l2,l3⟩:=Ip (m:=m) (x:=x) (by omega);have d:=lZ (x:=x) (show 0<m by omega);unfold nf at e3;rw[if_neg h0]at e3;split at e3
  ·simp at e3
  ·split at e3
   ·simp only[Qe,true_and]at e3;omega
   ·exact⟨_,l2,by omega,d⟩
theorem iD{c:ga}(h:CR c)(v:Int):gz c v=true↔mem c v:=by
 unfold gz mem;cases h1:c.1
 ·simp only[Sb,Od,Ab,decide_eq_true_eq,true_and,and_assoc];refine and_congr_right λ_=>and_congr_right λ_=> ?_
  by_cases h0:c.2.1=0
  ·simp only[h0,if_true,decide_eq_true_eq,Hh];omega
  ·obtain⟨r1,r2,r3⟩:=h.rem h1 h0;simp only[h0,if_false,decide_eq_true_eq];constructor
   ·intro e;exact Ro (by rw[e];exact r1)
   ·intro e;rw[Fm e];exact r1.symm
 ·simp
theorem zf{a b:ga}(ha:CR a)(hb:CR b):Pd a b=true↔∀z,mem a z->mem b z:=by
 unfold Pd;cases h1:a.1
 ·simp only[cond_false];obtain⟨a0,_,a2,_,_,a5⟩:=ha.bounds h1;obtain⟨z0,k1,k2,k3⟩:=ha.step h1;cases h2:b.1
  ·simp only[cond_false];by_cases h0:a.2.1=0
   ·have m0:mem a a.2.2:=⟨h1,a2,a5 h0,by rw[As];exact Yo _⟩;simp only[h0,if_true];rw[iD hb];constructor
    ·rintro h z ⟨_,_,_,z3⟩
     rw[h0]at z3;have:=Hh.1 z3;have:z=a.2.2:=by omega
     subst this;exact h
    ·intro h;exact h _ m0
   ·simp only[h0,if_false,Ab,Bool.not_eq_true',decide_eq_true_eq,decide_eq_false_iff_not];constructor
    ·rintro⟨_,d1,d2⟩ z ⟨_,z1,z2,z3⟩
     exact⟨h2,z1,z2,(Ck d2).1 (yb d1 z3)⟩
    ·intro h;obtain⟨_,_,_,e1⟩:=h z0 ⟨h1,k1,by omega,k3⟩;obtain⟨_,_,_,e2⟩:=h (z0+a.2.1) ⟨h1,by omega,k2,by rw[show z0+a.2.1-a.2.2=(z0-a.2.2)+a.2.1 by omega];exact cg k3 (Wh _)⟩;have d1:b.2.1 ∣ a.2.1:=by
      have:=ag e2 e1;rw[show z0+a.2.1-b.2.2-(z0-b.2.2)=a.2.1 by omega]at this;exact this
     refine⟨λe=>h0 (Hh.1 (e ▸ d1)),d1,?_⟩;have:=ag e1 (yb d1 k3);rw[show z0-b.2.2-(z0-a.2.2)=a.2.2-b.2.2 by omega]at this;exact this
  ·simp only[cond_true];refine⟨λh=>(by cases h),λh=> ?_⟩;have:=(h z0 ⟨h1,k1,by omega,k3⟩).1;rw[h2]at this;cases this
 ·simp only[cond_true];exact⟨λ_ z hz=>(by have:=hz.1;rw[h1]at this;cases this),λ_=>trivial⟩
theorem le_trans'{a b c:ga}(ha:CR a)(hb:CR b)(hc:CR c)(h:Pd a b=true)(h':Pd b c=true):Pd a c=true:=
 (zf ha hc).2 λz hz=>(zf hb hc).1 h' z ((zf ha hb).1 h z hz)
theorem Be{a b:ga}(ha:CR a)(hb:CR b)(h:Pd a b=true)(h1:a.1=false):b.1=false/\b.2.1 ∣ a.2.1/\b.2.1 ∣ a.2.2-b.2.2:=by
 have h':=(zf ha hb).1 h;obtain⟨a0,_,a2,_,_,a5⟩:=ha.bounds h1;obtain⟨z0,k1,k2,k3⟩:=ha.step h1;obtain⟨e0,_,_,e1⟩:=h' z0 ⟨h1,k1,by omega,k3⟩;obtain⟨_,_,_,e2⟩:=h' (z0+a.2.1) ⟨h1,by omega,k2,by rw[show z0+a.2.1-a.2.2=(z0-a.2.2)+a.2.1 by omega];exact cg k3 (Wh _)⟩;have d1:b.2.1 ∣ a.2.1:=by
  have:=ag e2 e1;rw[show z0+a.2.1-b.2.2-(z0-b.2.2)=a.2.1 by omega]at this;exact this
 refine⟨e0,d1,?_⟩;have:=ag e1 (yb d1 k3);rw[show z0-b.2.2-(z0-a.2.2)=a.2.2-b.2.2 by omega]at this;exact this
theorem cls{m r m' r':Int}(hm:0<=m)(dz:0<=m')(h1:m' ∣ m)(h2:m' ∣ r-r'):Pd (nf m r) (nf m' r')=true:=
 (zf (zg hm) (zg dz)).2 λz hz=>by
  obtain⟨z1,z2,z3⟩:=(Cp hm).1 hz;exact(Cp dz).2 ⟨z1,z2,(Ck h2).1 (yb h1 z3)⟩
theorem mg{c:ga}(h:CR c):Pd c c=true:=(zf h h).2 λ_ hz=>hz
theorem kW(a b:Nat):((Ea a b:Nat):Int) ∣ (a:Int):=Bc.2 (Zk _ _)
theorem kY(a b:Nat):((Ea a b:Nat):Int) ∣ (b:Int):=Bc.2 (Oj _ _)
theorem dgd{d:Int}{a b:Nat}(h1:d ∣ (a:Int))(h2:d ∣ (b:Int)):d ∣ ((Ea a b:Nat):Int):=by
 have dG:d.natAbs ∣ a:=Bc.1 (Int.natAbs_dvd.2 h1);have jY:d.natAbs ∣ b:=Bc.1 (Int.natAbs_dvd.2 h2);exact Int.natAbs_dvd.1 (Bc.2 (Nat.dvd_gcd dG jY))
theorem mM{a b a' b':Int}(h1:a' ∣ a)(h2:b' ∣ b):((Ea a'.natAbs b'.natAbs:Nat):Int) ∣ ((Ea a.natAbs b.natAbs:Nat):Int):=
 dgd (Qb.2 (yb (Qb.1 (kW _ _)) h1)) (Qb.2 (yb (Qb.1 (kY _ _)) h2))
end Go.U
end
section
set_option maxRecDepth 20000
namespace Go.U
open Go
def Ry(x:ga):ga:=cond x.1 ld (nf x.2.1 (0-x.2.2))
theorem neg_eq{x:ga}(hx:CR x):vD x=some (Ry x)/\Av x=some (Ry x)/\CR (Ry x):=by
 obtain⟨b1,m1,r1⟩:=x;cases b1
 case true=>cases hx.true rfl;exact⟨rfl,rfl,be⟩
 obtain⟨M1,rfl,p1,p2,p3,p4,p5⟩:=hx.Yt;refine⟨?_,?_,zg (by simp only;omega)⟩
 ·unfold vD OS Ry;simp only[cond_false];rw[Ya (by omega) (by omega),Yb (by omega) (by omega),rD (by omega) (by omega) (by omega) (by omega)];rfl
 ·unfold Av IJ Ry;simp only[cond_false];rw[Se (by omega) (by omega)];simp only[da,ye];rw[Ya (by omega) (by omega),Zx (by omega) (by omega) (by omega) (by omega)];rfl
def HK(x y:ga):ga:=cond x.1 ld (cond y.1 ld (nf (Ea x.2.1.natAbs y.2.1.natAbs:Nat) (x.2.2+y.2.2)))
theorem add_eq{x y:ga}(hx:CR x)(hy:CR y):RA (x,y)=some (HK x y)/\Pz (x,y)=some (HK x y)/\CR (HK x y):=by
 obtain⟨b1,m1,r1⟩:=x;obtain⟨b2,m2,r2⟩:=y;cases b1
 case true=>exact⟨rfl,rfl,be⟩
 cases b2
 case true=>exact⟨rfl,rfl,be⟩
 obtain⟨M1,rfl,p1,p2,p3,p4,p5⟩:=hx.Yt;obtain⟨M2,rfl,q1,q2,q3,q4,q5⟩:=hy.Yt;have hg:=Jn p1 q1;refine⟨?_,?_,zg (by simp only;omega)⟩
 ·unfold RA MS HK;simp only[cond_false,ye];rw[Yb (n:=(M1:Int)) (by omega) (by omega),Yb (n:=(M2:Int)) (by omega) (by omega),Ml _ _ (by omega)];simp only[da];rw[Ya (by omega) (by omega),rD (by omega) (by omega) (by omega) (by omega)];rfl
 ·unfold Pz HJ HK;simp only[cond_false];rw[Se (by omega) (by omega),Se (by omega) (by omega)];simp only[da,ye];rw[Ol _ _ (by omega)];simp only[da];rw[Ya (by omega) (by omega),Zx (by omega) (by omega) (by omega) (by omega)];rfl
def dI(x y:ga):ga:=cond x.1 ld (cond y.1 ld (nf (Ea x.2.1.natAbs y.2.1.natAbs:Nat) (x.2.2-y.2.2)))
theorem sub_eq{x y:ga}(hx:CR x)(hy:CR y):QA (x,y)=some (dI x y)/\Oz (x,y)=some (dI x y)/\CR (dI x y):=by
 obtain⟨b1,m1,r1⟩:=x;obtain⟨b2,m2,r2⟩:=y;cases b1
 case true=>exact⟨rfl,rfl,be⟩
 cases b2
 case true=>exact⟨rfl,rfl,be⟩
 obtain⟨M1,rfl,p1,p2,p3,p4,p5⟩:=hx.Yt;obtain⟨M2,rfl,q1,q2,q3,q4,q5⟩:=hy.Yt;have hg:=Jn p1 q1;refine⟨?_,?_,zg (by simp only;omega)⟩
 ·unfold QA KS dI;simp only[cond_false,ye];rw[Yb (n:=(M1:Int)) (by omega) (by omega),Yb (n:=(M2:Int)) (by omega) (by omega),Ml _ _ (by omega)];simp only[da];rw[Ya (by omega) (by omega),rD (by omega) (by omega) (by omega) (by omega)];rfl
 ·unfold Oz GJ dI;simp only[cond_false];rw[Se (by omega) (by omega),Se (by omega) (by omega)];simp only[da,ye];rw[Ol _ _ (by omega)];simp only[da];rw[Ya (by omega) (by omega),Zx (by omega) (by omega) (by omega) (by omega)];rfl
def qF(x:ga):ga:=cond x.1 ld (if x.2.1=0 then nf 0 (x.2.2.natAbs:Int)else Pf x (Ry x))
theorem abs_eq{x:ga}(hx:CR x):uD x=some (qF x)/\wv x=some (qF x)/\CR (qF x):=by
 obtain⟨n1,n2,n3⟩:=neg_eq hx;obtain⟨j1,j2,j3⟩:=join_eq hx n3;obtain⟨b1,m1,r1⟩:=x;cases b1
 case true=>cases hx.true rfl;exact⟨rfl,rfl,be⟩
 obtain⟨M1,rfl,p1,p2,p3,p4,p5⟩:=hx.Yt;by_cases h0:M1=0
 ·subst h0;have h3:=p5 rfl;simp only[qF,cond_false,Int.natCast_zero,if_true]at *
  refine⟨?_,?_,zg (Bd _)⟩
  ·unfold uD wM;simp only[cond_false,decide_true,cond_true];by_cases hr:r1<0
   ·simp only[hr,decide_true,cond_true];rw[Ya (by omega) (by omega),Nl];congr 2;omega
   ·simp only[hr,decide_false,cond_false];rw[<- p4];congr 2;omega
  ·unfold wv HE;simp only[cond_false,decide_true,cond_true];rw[Ya (by omega) (by omega)];have e:(if 0-r1>r1 then 0-r1 else r1)=(r1.natAbs:Int):=by split<;>omega
   rw[e,Er (by omega) (by omega) (by omega) (by omega)];rfl
 ·have Xu:¬((M1:Int)=0):=by omega
  have ea:qF (false,((M1:Int),r1))=Pf (false,((M1:Int),r1)) (Ry (false,((M1:Int),r1))):=by unfold qF;simp only[cond_false];rw[if_neg Xu]
  rw[ea];refine⟨?_,?_,j3⟩
  ·unfold uD wM;simp only[cond_false,Xu,decide_false];rw[n1];simp only[da];rw[j1];rfl
  ·unfold wv HE;simp only[cond_false,Xu,decide_false];rw[n2];simp only[da];rw[j2];rfl
def Dk(x y:ga):ga:=cond x.1 ld (cond y.1 ld (if y.2.1=0/\y.2.2=0 then ld else if ¬y.2.1=0 then(false,(1,0))else if x.2.1=0 then nf 0 (jb x.2.2 y.2.2)else
 if zb x.2.1 y.2.2=0 then(if zb x.2.2 y.2.2=0 then nf ((jb x.2.1 y.2.2).natAbs:Int) (jb x.2.2 y.2.2)else(false,(1,0)))else(false,(1,0))))
theorem dA:CR (false,(1,0)):= .inr ⟨rfl,by decide,by decide⟩
theorem tdiv_le{a b:Int}: -(a.natAbs:Int)<=jb a b/\jb a b<=(a.natAbs:Int):=by
 have h:(jb a b).natAbs<=a.natAbs:=by rw[Int.natAbs_tdiv];exact Mm _ _
 omega
theorem div_eq{x y:ga}(hx:CR x)(hy:CR y):OA (x,y)=some (Dk x y)/\Mz (x,y)=some (Dk x y)/\CR (Dk x y):=by
 obtain⟨b1,m1,r1⟩:=x;obtain⟨b2,m2,r2⟩:=y;cases b1
 case true=>exact⟨rfl,rfl,be⟩
 cases b2
 case true=>exact⟨rfl,rfl,be⟩
 obtain⟨M1,rfl,p1,p2,p3,p4,p5⟩:=hx.Yt;obtain⟨M2,rfl,q1,q2,q3,q4,q5⟩:=hy.Yt;have d1:=@tdiv_le (M1:Int) r2;have d2:=@tdiv_le r1 r2;have w1:Ka (jb (M1:Int) r2)=jb (M1:Int) r2:=Ya (by omega) (by omega);have w2:Ka (jb r1 r2)=jb r1 r2:=Ya (by omega) (by omega);have e1:Cm (jb (M1:Int) r2,jb r1 r2)=some (nf ((jb (M1:Int) r2).natAbs:Int) (jb r1 r2)):=sU (by omega) (by omega) (by omega) (by omega);have e2:Yi (jb (M1:Int) r2,jb r1 r2)=some (nf ((jb (M1:Int) r2).natAbs:Int) (jb r1 r2)):=Er (by omega) (by omega) (by omega) (by omega);have e3:=Nl (jb r1 r2);unfold OA IS Mz EJ Dk;simp only[cond_false,w1,w2];clear hx hy p4 q4 d1 d2;generalize(M1:Int)=m1 at *
 generalize(M2:Int)=m2 at *
 by_cases h2:m2=0
 ·by_cases h3:r2=0
  ·simp[h2,h3,ld];exact be
  ·by_cases h1:m1=0
   ·have e2':=e2;rw[h1]at e2';simp[h2,h3,h1,e3]at e2' ⊢;exact⟨e2',zg (Bd _)⟩
   ·by_cases h4:zb m1 r2=0
    ·by_cases h5:zb r1 r2=0
     ·simp only[h2,h3,h1,h4,h5,e1,e2,decide_true,decide_false,cond_true,cond_false,Ub,Sb,and_false,false_and,if_true,if_false,MF,Cq,not_true,not_false_eq_true,da,true_and];exact zg (by omega)
     ·simp[h2,h3,h1,h4,h5];exact dA
    ·simp[h2,h3,h1,h4];exact dA
 ·simp[h2];exact dA
def po(x y:ga):ga:=cond x.1 ld (cond y.1 ld (if y.2.1=0/\y.2.2=0 then ld else if x.2.1=0/\y.2.1=0 then nf 0 (zb x.2.2 y.2.2)else nf (Ea (Ea x.2.1.natAbs y.2.1.natAbs) y.2.2.natAbs:Nat) x.2.2))
theorem M9{a b:Int}: -(a.natAbs:Int)<=zb a b/\zb a b<=(a.natAbs:Int):=by
 have h:(zb a b).natAbs<=a.natAbs:=by rw[Int.natAbs_tmod];exact Nat.mod_le _ _
 omega
theorem mod_eq{x y:ga}(hx:CR x)(hy:CR y):NA (x,y)=some (po x y)/\Lz (x,y)=some (po x y)/\CR (po x y):=by
 obtain⟨b1,m1,r1⟩:=x;obtain⟨b2,m2,r2⟩:=y;cases b1
 case true=>exact⟨rfl,rfl,be⟩
 cases b2
 case true=>exact⟨rfl,rfl,be⟩
 obtain⟨M1,rfl,p1,p2,p3,p4,p5⟩:=hx.Yt;obtain⟨M2,rfl,q1,q2,q3,q4,q5⟩:=hy.Yt;have d2:=@M9 r1 r2;have hg:=Jn p1 q1;have hg2:Ea (Ea M1 M2) r2.natAbs<9223372036854775808:=Jn (by omega) (by omega);have hg3:Ea M2 r2.natAbs<9223372036854775808:=Jn (by omega) (by omega);have e0:Yi (0,zb r1 r2)=some (nf 0 (zb r1 r2)):=Er (by omega) (by omega) (by omega) (by omega);have e3:=Nl (zb r1 r2);have v1:Ia (M1:Int)=M1:=Yb (by omega) (by omega);have v2:Ia (M2:Int)=M2:=Yb (by omega) (by omega);have u1:Dg ((M1:Int),(M2:Int))=some (Ea M1 M2:Int):=Ml _ _ (by omega);have u2:dh r2=some (r2.natAbs:Int):=Ll (by omega) (by omega);have u3:Dg ((Ea M1 M2:Nat),(r2.natAbs:Int))=some (Ea (Ea M1 M2) r2.natAbs:Int):=Ml _ _ (by omega);have u4:Fo ((Ea (Ea M1 M2) r2.natAbs:Nat),r1)=some (nf (Ea (Ea M1 M2) r2.natAbs:Nat) r1):=rD (by omega) (by omega) (by omega) (by omega);have t1:Kc (M1:Int)=some (M1:Int):=Se (by omega) (by omega);have t2:Kc (M2:Int)=some (M2:Int):=Se (by omega) (by omega);have t3:Kc r2=some (r2.natAbs:Int):=Se (by omega) (by omega);have t4:wg ((M2:Int),(r2.natAbs:Int))=some (Ea M2 r2.natAbs:Int):=Ol _ _ (by omega);have t5:wg ((M1:Int),(Ea M2 r2.natAbs:Nat))=some (Ea (Ea M1 M2) r2.natAbs:Int):=by rw[Ol _ _ (by omega),Nat.gcd_assoc]
 have t6:Yj ((Ea (Ea M1 M2) r2.natAbs:Nat),r1)=some (nf (Ea (Ea M1 M2) r2.natAbs:Nat) r1):=Zx (by omega) (by omega) (by omega) (by omega);have hcr:CR (nf (Ea (Ea M1 M2) r2.natAbs:Nat) r1):=zg (by omega);have A:((Dg ((Ia (M1:Int)),(Ia (M2:Int)))).bind λr2'=>(dh r2).bind λr3=>(Dg (r2',r3)).bind λr4=>(Fo (r4,r1)).bind λr5=>some r5)=some (nf (Ea (Ea M1 M2) r2.natAbs:Nat) r1):=by
  rw[v1,v2,u1,u2];simp only[da];rw[u3];simp only[da];rw[u4];rfl
 have B:((Kc (M1:Int)).bind λr2'=>(Kc (M2:Int)).bind λr3=>(Kc r2).bind λr4=>(wg (r3,r4)).bind λr5=>(wg (r2',r5)).bind λr6=>(Yj (r6,r1)).bind λr7=>some r7)=some (nf (Ea (Ea M1 M2) r2.natAbs:Nat) r1):=by
  rw[t1,t2,t3];simp only[da];rw[t4];simp only[da];rw[t5];simp only[da];rw[t6];rfl
 unfold NA HS Lz CJ po;simp only[cond_false,ye];rw[A,B];by_cases h2:(M2:Int)=0
 ·by_cases h3:r2=0
  ·simp[h2,h3,ld];exact be
  ·by_cases h1:(M1:Int)=0
   ·simp[h2,h3,h1,e3,e0];exact zg (Bd _)
   ·simp only[h1,decide_false,cond_false,h2,h3,false_and,and_false,if_false,Cq,MF,decide_true];exact⟨trivial,trivial,hcr⟩
 ·by_cases h1:(M1:Int)=0
  ·simp only[h2,h1,decide_false,cond_false,decide_true,cond_true,false_and,and_false,if_false,Cq,MF];exact⟨trivial,trivial,hcr⟩
  ·simp only[h2,h1,decide_false,cond_false,decide_true,cond_true,false_and,and_false,if_false,Cq,MF];exact⟨trivial,trivial,hcr⟩
end Go.U
end
section
set_option maxRecDepth 20000
namespace Go.U
open Go
theorem D8{x:Int}(h0:0<=x)(h1:x<18446744073709551616):Ic .u64 x 4294967295=x%4294967296:=by
 obtain⟨n,rfl⟩:=Ad h0;have hn:n<2^64:=by omega
 have e:Ic .u64 (n:Int) 4294967295=Ia (((Pj 64 (n:Int)) &&& (Pj 64 4294967295)).toNat:Int):=rfl;rw[e,BitVec.toNat_and];have e1:(Pj 64 (n:Int)).toNat=n:=by simp[BitVec.ofInt_natCast,Nat.mod_eq_of_lt hn]
 have e2:(Pj 64 4294967295).toNat=2^32-1:=rfl;rw[e1,e2,Nat.and_two_pow_sub_one_eq_mod];rw[Yb (by omega) (by omega)];omega
theorem hi0{a b:Int}(ha:0<=a)(ha1:a<4294967296)(hb:0<=b)(nr:b<4294967296):
  (Ia ((Ia ((Ia ((Bb a (2^min 32 64)) * (Bb b (2^min 32 64))))+(Bb (Ia ((Ia ((Bb a (2^min 32 64)) * (Ic .u64 b 4294967295)))+(Bb (Ia ((Ic .u64 a 4294967295) * (Ic .u64 b 4294967295))) (2^min 32 64)))) (2^min 32 64))))+(Bb (Ia ((Ic .u64 (Ia ((Ia ((Bb a (2^min 32 64)) * (Ic .u64 b 4294967295)))+(Bb (Ia ((Ic .u64 a 4294967295) * (Ic .u64 b 4294967295))) (2^min 32 64)))) 4294967295)+(Ia ((Ic .u64 a 4294967295) * (Bb b (2^min 32 64)))))) (2^min 32 64))))=0:=by
 have p:((2:Int)^min 32 64)=4294967296:=by decide
 rw[p];have f:∀{x:Int},0<=x->x<4294967296->Bb x 4294967296=0:=λh0 h1=>by
  rw[Int.fdiv_eq_ediv_of_nonneg _ (by decide)];omega
 rw[f ha ha1,f hb nr,D8 ha (by omega),D8 hb (by omega)];have e1:a%4294967296=a:=by omega
 have e2:b%4294967296=b:=by omega
 rw[e1,e2];have ras:0<=a * b:=Xo ha hb;have hab:a * b<=4294967295 * 4294967295:=Int.mul_le_mul (by omega) (by omega) hb (by decide);simp only[Int.zero_mul,Int.mul_zero];rw[Yb (n:=a * b) ras (by omega),Yb (n:=0) (by decide) (by decide)];have g0:0<=Bb (a * b) 4294967296/\Bb (a * b) 4294967296<4294967296:=by
  rw[Int.fdiv_eq_ediv_of_nonneg _ (by decide)];omega
 simp only[Int.zero_add,Int.add_zero];rw[Yb (n:=Bb (a * b) 4294967296) g0.1 (by omega),D8 g0.1 (by omega),f g0.1 g0.2];have e3:Bb (a * b) 4294967296%4294967296=Bb (a * b) 4294967296:=by omega
 rw[e3,Yb (n:=0) (by decide) (by decide),Yb (n:=Bb (a * b) 4294967296) g0.1 (by omega),f g0.1 g0.2];decide
theorem Zaa{a b:Int}(ha0: -2147483648<=a)(ha1:a<4294967296)(EB: -2147483648<=b)(nr:b<4294967296):
  Rz (a,b)=some (((0,((a.natAbs * b.natAbs:Nat):Int)),(!((decide (a<(0:Int)))==(decide (b<(0:Int)))))):rF):=by
 unfold Rz MJ;simp only;rw[Ll (by omega) (by omega),Ll (by omega) (by omega)];simp only[da];rw[hi0 (by omega) (by omega) (by omega) (by omega)];have h0:(0:Int)<=(a.natAbs:Int) * (b.natAbs:Int):=Xo (by omega) (by omega);have h1:(a.natAbs:Int) * (b.natAbs:Int)<=4294967295 * 4294967295:=Int.mul_le_mul (by omega) (by omega) (by omega) (by decide);rw[Yb h0 (by omega),ae]
theorem qU{lo g:Int}(hg:0<g)(h0:0<=lo):Bv (((0,lo):Kd),g)=some (lo%g):=by
 unfold Bv LJ DE kJ AE iJ;have e0:¬g=0:=by omega
 have e1:¬g<=0:=by omega
 simp only[e0,decide_false,cond_false,Int.zero_tmod,e1,decide_true,cond_true,da];rw[Kq h0]
def uI(x y:ga):ga:=cond x.1 ld (cond y.1 ld (nf (Ea (x.2.1.natAbs * y.2.1.natAbs) (Ea (x.2.1.natAbs * y.2.2.natAbs) (y.2.1.natAbs * x.2.2.natAbs)):Nat)
 (cond (!((decide (x.2.2<(0:Int)))==(decide (y.2.2<(0:Int))))) (-((x.2.2.natAbs * y.2.2.natAbs:Nat):Int)) ((x.2.2.natAbs * y.2.2.natAbs:Nat):Int))))
theorem vI{a b:Nat}(ha:a<4294967296)(hb:b<4294967296):a * b<=18446744065119617025:=by
 have:=Nat.mul_le_mul (Nat.le_of_lt_succ (show a<4294967295+1 by omega)) (Nat.le_of_lt_succ (show b<4294967295+1 by omega));omega
theorem OR{x:Int}(h:¬(-2147483648<=x/\x<=2147483647)):nf 0 x=ld:=by unfold nf ld;rw[if_pos rfl,if_neg h]
theorem mul_eq{x y:ga}(hx:CR x)(hy:CR y):PA (x,y)=some (uI x y)/\Nz (x,y)=some (uI x y)/\CR (uI x y):=by
 obtain⟨b1,m1,r1⟩:=x;obtain⟨b2,m2,r2⟩:=y;cases b1
 case true=>exact⟨rfl,rfl,be⟩
 cases b2
 case true=>exact⟨rfl,rfl,be⟩
 obtain⟨M1,rfl,p1,p2,p3,p4,p5⟩:=hx.Yt;obtain⟨M2,rfl,q1,q2,q3,q4,q5⟩:=hy.Yt;obtain⟨R1,C_⟩:∃R,r1.natAbs=R:=⟨_,rfl⟩;obtain⟨R2,LK⟩:∃R,r2.natAbs=R:=⟨_,rfl⟩;have l1:R1<4294967296:=by omega
 have l2:R2<4294967296:=by omega
 have a1:=vI p1 q1;have a2:=vI p1 l2;have a3:=vI q1 l1;have a4:=vI l1 l2;have v1:Ia (M1:Int)=M1:=Yb (by omega) (by omega);have v2:Ia (M2:Int)=M2:=Yb (by omega) (by omega);have pr:∀{a b:Nat},a * b<=18446744065119617025->Ia ((a:Int) * (b:Int))=((a * b:Nat):Int):=λ{a b}h=>by
  rw[<- ae];exact Yb (by omega) (by omega)
 obtain⟨P,hP⟩:∃P,R1 * R2=P:=⟨_,rfl⟩;obtain⟨G,hG⟩:∃G,Ea (M1 * M2) (Ea (M1 * R2) (M2 * R1))=G:=⟨_,rfl⟩;have g1:Ea (M1 * M2) (M1 * R2)<18446744073709551616:=Jn (by omega) (by omega);have g2:Ea (M1 * R2) (M2 * R1)<18446744073709551616:=Jn (by omega) (by omega);have g3:G<18446744073709551616:=by rw[<- hG];exact Jn (by omega) g2
 have em:uI (false,((M1:Int),r1)) (false,((M2:Int),r2))=nf (G:Int) (cond (!((decide (r1<(0:Int)))==(decide (r2<(0:Int))))) (-(P:Int)) (P:Int)):=by
  unfold uI;simp only[cond_false,ye,C_,LK,hP,hG]
 rw[em];refine⟨?_,?_,zg (by omega)⟩
 ·unfold PA JS;simp only[cond_false];rw[Ll (x:=r2) (by omega) (by omega),Ll (x:=r1) (by omega) (by omega),C_,LK,v1,v2];simp only[da];rw[pr (by omega),pr (by omega),pr (by omega),Ml _ _ (by omega)];simp only[da];rw[Ml _ _ (by omega),Nat.gcd_assoc,hG,Zaa p2 p3 q2 q3,C_,LK,hP];simp only[da];by_cases h0:G=0
  ·subst h0;simp only[Int.natCast_zero,decide_true,cond_true,Ub,cond_false];by_cases hb:(4611686018427387904:Int)<(P:Int)
   ·simp only[hb,decide_true,cond_true];cases !((decide (r1<(0:Int)))==(decide (r2<(0:Int))))
    ·rw[cond_false,OR (by omega)];rfl
    ·rw[cond_true,OR (by omega)];rfl
   ·simp only[hb,decide_false,cond_false];cases !((decide (r1<(0:Int)))==(decide (r2<(0:Int))))
    ·rw[cond_false,cond_false,Ya (by omega) (by omega),Nl]
    ·rw[cond_true,cond_true,Ya (n:=(P:Int)) (by omega) (by omega),Ya (by omega) (by omega),Nl,Int.zero_sub]
  ·have Xu:¬((G:Int)=0):=by omega
   simp only[Xu,decide_false,cond_false];rw[qU (by omega) (by omega)];simp only[da];have k1:=Tc (P:Int) Xu;have k2:=uc (P:Int) (show 0<(G:Int)by omega);cases !((decide (r1<(0:Int)))==(decide (r2<(0:Int))))
   ·rw[cond_false,cond_false,Ht (by omega) (by omega) k1 k2,yw Xu];rfl
   ·rw[cond_true,cond_true];have k5:=Uc (P:Int) G;by_cases hr:0<(P:Int)%G
    ·simp only[hr,decide_true,cond_true];rw[Yb (by omega) (by omega),Ht (by omega) (by omega) (by omega) (by omega)];simp only[da];congr 1;refine Ts ?_ Xu;have:(G:Int)-P%G= -(P:Int)+G * (P/G+1):=by rw[LF];omega
     rw[this,Jk]
    ·simp only[hr,decide_false,cond_false];have hz:(P:Int)%G=0:=by omega
     rw[hz,Ht (by omega) (by omega) (by omega) (by omega)];simp only[da];congr 1;refine Ts ?_ Xu;have hd:(G:Int) ∣ -(P:Int):=(Int.dvd_neg).2 (Cn hz);rw[Bn hd];simp
 ·unfold Nz FJ;simp only[cond_false];rw[Se (x:=r2) (by omega) (by omega),Se (x:=r1) (by omega) (by omega),Se (x:=(M1:Int)) (by omega) (by omega),Se (x:=(M2:Int)) (by omega) (by omega),C_,LK];simp only[da,ye];rw[pr (by omega),pr (by omega),pr (by omega),pr (by omega),hP,Ol _ _ (by omega)];simp only[da];rw[Ol _ _ (by omega),hG];simp only[da];rw[cC (by omega) (by omega) (by omega) (by omega)];rfl
def jc(x y:ga):ga:=cond x.1 ld (cond y.1 ld (Pf x y))
theorem aS{x y:ga}(hx:CR x)(hy:CR y):Cr (x,y)=some (jc x y)/\CR (jc x y):=by
 obtain⟨h1,h2,h3⟩:=join_eq hx hy;unfold Cr QS jc;cases nr:x.1
 ·cases Dy:y.1
  ·simp only[nr,Dy,cond_false];rw[h1];exact⟨rfl,h3⟩
  ·simp only[nr,Dy,cond_false,cond_true];exact⟨rfl,be⟩
 ·simp only[nr,cond_true];exact⟨rfl,be⟩
theorem hah{x y:ga}(hx:CR x):UA (x,y)=some (Ry x):=by
 unfold UA PS;simp only;rw[(neg_eq hx).1];rfl
theorem eah{x y:ga}(hx:CR x):SA (x,y)=some (qF x):=by
 unfold SA NS;simp only;rw[(abs_eq hx).1];rfl
theorem X1(x:Int):Gr x=some (nf 0 x):=by
 unfold Gr AM Cm IE;simp only[decide_true,cond_true];rw[Nl];rfl
theorem Uaa:Qz ()=some (false,(1,0)):=by
 unfold Qz JJ;rw[sU (by decide) (by decide) (by decide) (by decide)];rfl
theorem uad{x:Int}(h0: -9223372036854775808<=x)(h1:x<=9223372036854775807):Yi (0,x)=some (nf 0 x):=Er (by decide) (by decide) h0 h1
theorem tao:Yi (1,0)=some (false,(1,0)):=Er (by decide) (by decide) (by decide) (by decide)
end Go.U
end
section
set_option maxRecDepth 20000
namespace Go.U
open Go
theorem uO{c:ga}(h:CR c):Pd c (false,(1,0))=true:=(zf h dA).2 λz⟨_,h1,h2,_⟩=>⟨rfl,h1,h2,Int.one_dvd _⟩
section
variable {x y x' y':ga}(hx:CR x)(hy:CR y)(Eg:CR x')(Ze:CR y')(h:Pd x x'=true)(h':Pd y y'=true)
include hx Eg h
theorem sL:Pd (Ry x) (Ry x')=true:=by
 unfold Ry;cases h1:x.1
 ·obtain⟨e1,d1,d2⟩:=Be hx Eg h h1;simp only[e1,cond_false];refine cls (hx.bounds h1).1 (Eg.bounds e1).1 d1 ?_;rw[show 0-x.2.2-(0-x'.2.2)= -(x.2.2-x'.2.2)by omega];exact Int.dvd_neg.2 d2
 ·rfl
include hy Ze h'
theorem E8:Pd (HK x y) (HK x' y')=true:=by
 unfold HK;cases h1:x.1
 ·cases h2:y.1
  ·obtain⟨e1,d1,d2⟩:=Be hx Eg h h1;obtain⟨e2,d3,d4⟩:=Be hy Ze h' h2;simp only[e1,e2,cond_false];refine cls (by omega) (by omega) (mM d1 d3) ?_;rw[show x.2.2+y.2.2-(x'.2.2+y'.2.2)=(x.2.2-x'.2.2)+(y.2.2-y'.2.2)by omega];exact cg (yb (Qb.1 (kW _ _)) d2) (yb (Qb.1 (kY _ _)) d4)
  ·rfl
 ·rfl
theorem yY:Pd (dI x y) (dI x' y')=true:=by
 unfold dI;cases h1:x.1
 ·cases h2:y.1
  ·obtain⟨e1,d1,d2⟩:=Be hx Eg h h1;obtain⟨e2,d3,d4⟩:=Be hy Ze h' h2;simp only[e1,e2,cond_false];refine cls (by omega) (by omega) (mM d1 d3) ?_;rw[show x.2.2-y.2.2-(x'.2.2-y'.2.2)=(x.2.2-x'.2.2)-(y.2.2-y'.2.2)by omega];exact ag (yb (Qb.1 (kW _ _)) d2) (yb (Qb.1 (kY _ _)) d4)
  ·rfl
 ·rfl
end
theorem oh{x y:ga}(hx:CR x)(hy:CR y):CR (Pf x y):=(join_eq hx hy).2.2
theorem join_le{x y z:ga}(hx:CR x)(hy:CR y)(hz:CR z)(h1:Pd x z=true)(h2:Pd y z=true):Pd (Pf x y) z=true:=by
 unfold Pf;cases k1:x.1
 ·cases k2:y.1
  ·obtain⟨e1,d1,d2⟩:=Be hx hz h1 k1;obtain⟨_,d3,d4⟩:=Be hy hz h2 k2;simp only[cond_false];rw[show Pd (nf _ x.2.2) z=Pd (nf _ x.2.2) (nf z.2.1 z.2.2)by rw[(hz.bounds e1).2.2.2.2.1]];refine cls (by omega) (hz.bounds e1).1 (dgd (dgd (Qb.2 d1) (Qb.2 d3)) (Qb.2 ?_)) d2;rw[show x.2.2-y.2.2=(x.2.2-z.2.2)-(y.2.2-z.2.2)by omega];exact ag d2 d4
  ·exact h1
 ·exact h2
theorem Jp{x y:ga}(hx:CR x)(hy:CR y):Pd x (Pf x y)=true/\Pd y (Pf x y)=true:=by
 unfold Pf;cases k1:x.1
 ·cases k2:y.1
  ·simp only[cond_false];have g1:((Ea (Ea x.2.1.natAbs y.2.1.natAbs) (x.2.2-y.2.2).natAbs:Nat):Int) ∣ x.2.1:=Qb.1 (yb (kW _ _) (kW _ _));have g2:((Ea (Ea x.2.1.natAbs y.2.1.natAbs) (x.2.2-y.2.2).natAbs:Nat):Int) ∣ y.2.1:=Qb.1 (yb (kW _ _) (kY _ _));have g3:((Ea (Ea x.2.1.natAbs y.2.1.natAbs) (x.2.2-y.2.2).natAbs:Nat):Int) ∣ x.2.2-y.2.2:=Qb.1 (kY _ _);refine⟨(zf hx (zg (by omega))).2 λz⟨_,z1,z2,z3⟩=>(Cp (by omega)).2 ⟨z1,z2,yb g1 z3⟩,(zf hy (zg (by omega))).2 λz⟨_,z1,z2,z3⟩=>(Cp (by omega)).2 ⟨z1,z2,?_⟩⟩;rw[show z-x.2.2=(z-y.2.2)-(x.2.2-y.2.2)by omega];exact ag (yb g2 z3) g3
  ·refine⟨mg hx,?_⟩;rw[hy.true k2];rfl
 ·refine⟨?_,mg hy⟩;rw[hx.true k1];rfl
section
variable {x y x' y':ga}(hx:CR x)(hy:CR y)(Eg:CR x')(Ze:CR y')(h:Pd x x'=true)(h':Pd y y'=true)
include hx hy Eg Ze h h'
theorem join_mono:Pd (Pf x y) (Pf x' y')=true:=by
 obtain⟨a,b⟩:=Jp Eg Ze;have c:=oh Eg Ze;exact join_le hx hy c (le_trans' hx Eg c h a) (le_trans' hy Ze c h' b)
theorem ZR:Pd (jc x y) (jc x' y')=true:=by
 unfold jc;cases h1:x.1
 ·cases h2:y.1
  ·rw[(Be hx Eg h h1).1,(Be hy Ze h' h2).1];exact join_mono hx hy Eg Ze h h'
  ·rfl
 ·rfl
end
theorem R9(a b:Int):cond (!((decide (a<(0:Int)))==(decide (b<(0:Int))))) (-((a.natAbs * b.natAbs:Nat):Int)) ((a.natAbs * b.natAbs:Nat):Int)=a * b:=by
 rw[ae];rcases Pv a 0 with ha|ha<;>rcases Pv b 0 with hb|hb
 ·have e1:(a.natAbs:Int)= -a:=by omega
  have e2:(b.natAbs:Int)= -b:=by omega
  simp[ha,hb,e1,e2,Int.neg_mul,ah]
 ·have e1:(a.natAbs:Int)= -a:=by omega
  have e2:(b.natAbs:Int)=b:=by omega
  have Wd:¬b<0:=by omega
  simp[ha,Wd,e1,e2,Int.neg_mul,ah]
 ·have e1:(a.natAbs:Int)=a:=by omega
  have e2:(b.natAbs:Int)= -b:=by omega
  have ZG:¬a<0:=by omega
  simp[ZG,hb,e1,e2,Int.neg_mul,ah]
 ·have e1:(a.natAbs:Int)=a:=by omega
  have e2:(b.natAbs:Int)=b:=by omega
  have ZG:¬a<0:=by omega
  have Wd:¬b<0:=by omega
  simp[ZG,Wd,e1,e2,Int.neg_mul,ah]
theorem aF{d:Int}{a b:Int}(h:d ∣ a * b):d ∣ ((a.natAbs * b.natAbs:Nat):Int):=by
 rw[<- Int.natAbs_mul];exact Qb.2 h
theorem gF{d:Int}{a b:Int}(h:d ∣ ((a.natAbs * b.natAbs:Nat):Int)):d ∣ a * b:=by
 rw[<- Int.natAbs_mul]at h;exact Qb.1 h
section
variable {x y x' y':ga}(hx:CR x)(hy:CR y)(Eg:CR x')(Ze:CR y')(h:Pd x x'=true)(h':Pd y y'=true)
include hx hy Eg Ze h h'
theorem bZ:Pd (uI x y) (uI x' y')=true:=by
 unfold uI;cases h1:x.1
 ·cases h2:y.1
  ·obtain⟨e1,⟨k,d1⟩,⟨u,d2⟩⟩:=Be hx Eg h h1;obtain⟨e2,⟨l,d3⟩,⟨v,d4⟩⟩:=Be hy Ze h' h2;simp only[e1,e2,cond_false,R9];have G1:=gF (kW (x'.2.1.natAbs * y'.2.1.natAbs) (Ea (x'.2.1.natAbs * y'.2.2.natAbs) (y'.2.1.natAbs * x'.2.2.natAbs)));have G2:=gF (yb (kY (x'.2.1.natAbs * y'.2.1.natAbs) (Ea (x'.2.1.natAbs * y'.2.2.natAbs) (y'.2.1.natAbs * x'.2.2.natAbs))) (kW _ _));have G3:=gF (yb (kY (x'.2.1.natAbs * y'.2.1.natAbs) (Ea (x'.2.1.natAbs * y'.2.2.natAbs) (y'.2.1.natAbs * x'.2.2.natAbs))) (kY _ _));have hg:(0:Int)<=((Ea (x'.2.1.natAbs * y'.2.1.natAbs) (Ea (x'.2.1.natAbs * y'.2.2.natAbs) (y'.2.1.natAbs * x'.2.2.natAbs)):Nat):Int):=by omega
   generalize((Ea (x'.2.1.natAbs * y'.2.1.natAbs) (Ea (x'.2.1.natAbs * y'.2.2.natAbs) (y'.2.1.natAbs * x'.2.2.natAbs)):Nat):Int)=G at G1 G2 G3 hg ⊢;have r1:x.2.2=x'.2.2+x'.2.1 * u:=by omega
   have r2:y.2.2=y'.2.2+y'.2.1 * v:=by omega
   refine cls (by omega) hg (dgd (aF ?_) (dgd (aF ?_) (aF ?_))) ?_
   ·rw[d1,d3,show x'.2.1 * k * (y'.2.1 * l)=x'.2.1 * y'.2.1 * (k * l)by rw[Oc,Wv k,<- Oc]];exact yb G1 (Zc _ _)
   ·rw[d1,r2,LF,show x'.2.1 * k * y'.2.2=x'.2.1 * y'.2.2 * k by rw[Oc,Ov k,<- Oc],show x'.2.1 * k * (y'.2.1 * v)=x'.2.1 * y'.2.1 * (k * v)by rw[Oc,Wv k,<- Oc]];exact cg (yb G2 (Zc _ _)) (yb G1 (Zc _ _))
   ·rw[d3,r1,LF,show y'.2.1 * l * x'.2.2=y'.2.1 * x'.2.2 * l by rw[Oc,Ov l,<- Oc],show y'.2.1 * l * (x'.2.1 * u)=x'.2.1 * y'.2.1 * (l * u)by rw[Oc,Wv l,<- Oc,Ov y'.2.1]];exact cg (yb G3 (Zc _ _)) (yb G1 (Zc _ _))
   ·rw[r1,r2,Int.add_mul,LF,LF];rw[show x'.2.2 * y'.2.2+x'.2.2 * (y'.2.1 * v)+(x'.2.1 * u * y'.2.2+x'.2.1 * u * (y'.2.1 * v))-x'.2.2 * y'.2.2=x'.2.2 * (y'.2.1 * v)+(x'.2.1 * u * y'.2.2+x'.2.1 * u * (y'.2.1 * v))by omega];rw[show x'.2.2 * (y'.2.1 * v)=y'.2.1 * x'.2.2 * v by rw[<- Oc,Ov x'.2.2],show x'.2.1 * u * y'.2.2=x'.2.1 * y'.2.2 * u by rw[Oc,Ov u,<- Oc],show x'.2.1 * u * (y'.2.1 * v)=x'.2.1 * y'.2.1 * (u * v)by rw[Oc,Wv u,<- Oc]];exact cg (yb G3 (Zc _ _)) (cg (yb G2 (Zc _ _)) (yb G1 (Zc _ _)))
  ·rfl
 ·rfl
end
theorem Fh{a b:ga}(ha:CR a)(hb:CR b)(h:Pd a b=true)(h1:a.1=false)(h0:b.2.1=0):a=b:=by
 obtain⟨e1,d1,d2⟩:=Be ha hb h h1;rw[h0]at d1 d2;have:=Hh.1 d1;have:=Hh.1 d2;obtain⟨p,m,r⟩:=a;obtain⟨q,m',r'⟩:=b;simp only at *
 subst h1;subst e1;have:m=m':=by omega
 have:r=r':=by omega
 simp[*]
end Go.U
end
section
set_option maxRecDepth 20000
namespace Go.U
open Go
theorem L2{c:ga}(h:CR c)(v:Int):Yw (c,v)=some (gz c v):=by
 unfold Yw cT gz;cases hb:c.1
 ·obtain⟨a0,a1,a2,a3,a4,a5⟩:=h.bounds hb;simp only[cond_false,Sb,Od];by_cases h1:v< -2147483648
  ·have:¬-2147483648<=v:=by omega
   simp[h1,this]
  ·by_cases h2:2147483647<v
   ·have:¬v<=2147483647:=by omega
    simp[h1,h2,this]
   ·have e1: -2147483648<=v:=by omega
    have e2:v<=2147483647:=by omega
    simp only[h1,h2,e1,e2,decide_true,decide_false,cond_false,Od];by_cases h0:c.2.1=0
    ·simp[h0]
    ·obtain⟨r1,r2,r3⟩:=h.rem hb h0;simp only[h0,decide_false,cond_false,if_false];rw[Yb (n:=c.2.1) a0 (by omega),Yb (n:=c.2.2) r2 (by omega),Xm (by omega) (by omega) (by omega) (by omega)];rfl
 ·simp
end Go.U
end
section
set_option maxRecDepth 20000
namespace Go.U
open Go
theorem CX{a b:ga}(ha:CR a)(hb:CR b)(h:∀z,mem a z↔mem b z):a=b:=by
 have l1:=(zf ha hb).2 λz=>(h z).1
 have l2:=(zf hb ha).2 λz=>(h z).2
 cases h1:a.1
 ·obtain⟨e1,d1,d2⟩:=Be ha hb l1 h1;obtain⟨_,d3,d4⟩:=Be hb ha l2 e1;have a0:=(ha.bounds h1).1;have b0:=(hb.bounds e1).1;have em:a.2.1=b.2.1:=Int.dvd_antisymm a0 b0 d3 d1;by_cases h0:b.2.1=0
  ·exact Fh ha hb l1 h1 h0
  ·have ra:=ha.rem h1 (by rw[em];exact h0);have rb:=hb.rem e1 h0;have er:a.2.2=b.2.2:=by
    rw[ra.1,rb.1,em];exact Fm d2
   obtain⟨p,m,r⟩:=a;obtain⟨q,m',r'⟩:=b;simp only at h1 e1 em er;rw[h1,e1,em,er]
 ·cases h2:b.1
  ·have:=(Be hb ha l2 h2).1;rw[h1]at this;cases this
  ·rw[ha.true h1,hb.true h2]
def xl(a b c:ga):Prop:=CR c/\∀z,mem c z↔mem a z/\mem b z
theorem xl.uniq{a b c d:ga}(h:xl a b c)(h':xl a b d):c=d:=CX h.1 h'.1 λz=>(h.2 z).trans (h'.2 z).symm
theorem um{z:Int}:¬mem ld z:=λh=>by cases h.1
theorem JL{n r s q x y:Nat}(hq:q=r/s)(hI:x * s+y * r<=n):y * (r%s)+(x+q * y) * s<=n:=by
 have e:r=r%s+s * q:=by rw[hq];exact(Nat.mod_add_div r s).symm
 have:y * (r%s)+(x+q * y) * s=x * s+y * r:=by
  rw[Nf];have e2:y * r=y * (r%s)+q * y * s:=by
   conv=>lhs;rw[e]
   rw[Nat.mul_add,Nat.mul_comm q y,Nat.mul_assoc,Nat.mul_comm s q]
  rw[e2];omega
 omega
theorem yaa{a n:Nat}(hn:1<n)(n_:n<4294967296)(ha:a<n)(hg:Ea a n=1):∃v:Int,Iz ((a:Int),(n:Int))=some v/\0<=v/\v<(n:Int)/\(n:Int) ∣ v * (a:Int)-1:=by
 unfold Iz tJ;simp only;rw[Ya (n:=(a:Int)) (by omega) (by omega),Ya (n:=(n:Int)) (by omega) (by omega)];obtain⟨e,h1,h2⟩:=Gc (step:=Ix.m (n:Int)) (t:=(1,0,(a:Int),(n:Int)))
  (λt=>∃x y r s:Nat,t.2.2.1=(r:Int)/\t.2.2.2=(s:Int)/\((t.1=(x:Int)/\t.2.1= -(y:Int))\/(t.1= -(x:Int)/\t.2.1=(y:Int)))/\x * s+y * r<=n/\x<=n/\y<=n/\r<=n/\s<=n/\(r<n\/s<n)/\Ea r s=1/\(n:Int) ∣ t.1 * (a:Int)-t.2.2.1/\(n:Int) ∣ t.2.1 * (a:Int)-t.2.2.2)
  (λt=>t.2.2.2.toNat) (λe=> -4294967296<=e/\e<=4294967296/\(n:Int) ∣ e * (a:Int)-1)
  ⟨1,0,a,n,rfl,rfl,.inl ⟨rfl,rfl⟩,by omega,by omega,by omega,by omega,by omega,.inl ha,hg,by simp,by simp only[Int.zero_mul,Int.zero_sub];exact Int.dvd_neg.2 (Wh _)⟩ (by simp only;omega) (λt⟨x,y,r,s,hr,hs,JK,hI,hx,hy,hrn,hsn,Mc,hgg,d1,d2⟩=>by
   obtain⟨tx,ty,tr,ts⟩:=t;simp only at hr hs JK d1 d2;subst hr;subst hs;simp only[LD.m,Ix];by_cases h0:s=0
   ·subst h0;simp only[Int.natCast_zero,decide_true,Ub,cond_false];refine .inr ⟨_,rfl,?_⟩;rw[Nat.gcd_zero_right]at hgg;subst hgg;have hb: -4294967296<=tx/\tx<=4294967296:=by rcases JK with⟨h,_⟩|⟨h,_⟩<;>omega
    exact⟨hb.1,hb.2,d1⟩
   ·have Xu:¬(s:Int)=0:=by omega
    simp only[Xu,decide_false,Sb,cond_true,cond_false];have hq:jb (r:Int) (s:Int)=((r/s:Nat):Int):=rfl;have hqr:r/s<=r:=Mm _ _;have I2:=JL (q:=r/s) rfl hI;have hqs:r/s * s<=r:=Nat.div_mul_le_self r s;have er:r%s=r-r/s * s:=by have:=Nat.mod_add_div r s;rw[Nat.mul_comm]at this;omega
    have NZ:r%s<s:=Nat.mod_lt _ (by omega);have VZ:Ea s (r%s)=1:=by rw[Aq,<- Nat.gcd_rec,Aq];exact hgg
    rw[hq];clear hI hq;generalize r/s=w at hqr I2 hqs er ⊢;generalize r%s=e at I2 er NZ VZ ⊢;have Ze:x+w * y<=n:=by
     have:(x+w * y) * 1<=(x+w * y) * s:=Eu _ (by omega);omega
    rw[Ya (n:=(w:Int)) (by omega) (by omega)];have m1:(w:Int) * (s:Int)=((w * s:Nat):Int):=(ae _ _).symm;have m2:(w:Int) * (y:Int)=((w * y:Nat):Int):=(ae _ _).symm;rw[m1,Ya (n:=((w * s:Nat):Int)) (by omega) (by omega),Ya (n:=(r:Int)-((w * s:Nat):Int)) (by omega) (by omega)];have e1:(r:Int)-((w * s:Nat):Int)=(e:Int):=by omega
    have hyq:(w:Int) * ty=((w * y:Nat):Int)\/(w:Int) * ty= -((w * y:Nat):Int):=by
     rcases JK with⟨_,h⟩|⟨_,h⟩
     ·right;rw[h,ah,m2]
     ·left;rw[h,m2]
    obtain⟨wy,uZ⟩:∃wy,(w:Int) * ty=wy:=⟨_,rfl⟩;rw[uZ]at hyq ⊢;have hyb: -4294967296<=wy/\wy<=4294967296:=by
     rcases hyq with h|h<;>rw[h]<;>omega
    have uB: -4294967296<=tx/\tx<=4294967296:=by rcases JK with⟨h,_⟩|⟨h,_⟩<;>omega
    rw[Ya (n:=wy) (by omega) (by omega),Ya (n:=tx-wy) (by omega) (by omega)];refine .inl ⟨_,rfl,⟨y,x+w * y,s,e,rfl,e1,?_,I2,by omega,Ze,hsn,by omega,.inr (by omega),VZ,d2,?_⟩,by simp only;omega⟩
    ·rcases JK with⟨g1,g2⟩|⟨g1,g2⟩
     ·right;refine⟨g2,?_⟩;simp only;rw[g1,<- uZ,g2,ah,m2];omega
     ·left;refine⟨g2,?_⟩;simp only;rw[g1,<- uZ,g2,m2];omega
    ·simp only;have:(tx-wy) * (a:Int)-((r:Int)-((w * s:Nat):Int))=(tx * (a:Int)-(r:Int))-(w:Int) * (ty * (a:Int)-(s:Int)):=by
      rw[Int.sub_mul,Zg,<- Oc,uZ,m1];omega
     rw[this];exact ag d1 (yb d2 (Ai _ _)))
 rw[h1];simp only[da];obtain⟨b1,b2,b3⟩:=h2;rw[Xm (by omega) (by omega) (by omega) (by omega)];refine⟨_,rfl,Tc _ (by omega),uc _ (by omega),?_⟩;have k:=Uc e (n:Int);rw[show e%(n:Int) * (a:Int)-1=(e * (a:Int)-1)-(n:Int) * (e/(n:Int) * (a:Int))by
  have:e * (a:Int)=e%(n:Int) * (a:Int)+(n:Int) * (e/(n:Int)) * (a:Int):=by rw[<- Int.add_mul,k]
  rw[this,Oc];omega]
 exact ag b3 (Zc _ _)
theorem VR{m n:Nat}{x z r1 r2:Int}(h1:(m:Int) ∣ x-r1)(h2:(n:Int) ∣ x-r2):((m * (n/Ea m n):Nat):Int) ∣ z-x↔(m:Int) ∣ z-r1/\(n:Int) ∣ z-r2:=by
 have e:m * (n/Ea m n)=Nat.lcm m n:=(Nat.mul_div_assoc m (Oj m n)).symm;rw[e];constructor
 ·intro h;have k1:(m:Int) ∣ z-x:=yb (Bc.2 (Nat.dvd_lcm_left m n)) h;have k2:(n:Int) ∣ z-x:=yb (Bc.2 (Nat.dvd_lcm_right m n)) h;exact⟨(Ck h1).1 k1,(Ck h2).1 k2⟩
 ·rintro⟨k1,k2⟩
  have k1:=(Ck h1).2 k1;have k2:=(Ck h2).2 k2;exact Qb.1 (Bc.2 (Nat.lcm_dvd (Bc.1 (Qb.2 k1)) (Bc.1 (Qb.2 k2))))
theorem Su{a b:ga}(ha:CR a)(hb:CR b)(h1:a.1=false)(h0:a.2.1=0):xl a b (cond (gz b a.2.2) a ld):=by
 obtain⟨a0,_,a2,_,_,a5⟩:=ha.bounds h1;have only:∀z,mem a z->z=a.2.2:=λz⟨_,_,_,hz⟩=>by
  rw[h0]at hz;have:=Hh.1 hz;omega
 cases hh:gz b a.2.2
 ·refine⟨be,λz=>⟨λh=>absurd h um,λ⟨k1,k2⟩=> ?_⟩⟩;rw[only z k1]at k2;rw[(iD hb _).2 k2]at hh;cases hh
 ·exact⟨ha,λz=>⟨λh=>⟨h,by rw[only z h];exact(iD hb _).1 hh⟩,λh=>h.1⟩⟩
theorem xl.comm{a b c:ga}(h:xl a b c):xl b a c:=⟨h.1,λz=>(h.2 z).trans And.comm⟩
theorem wab{a b:ga}(ha:CR a)(hb:CR b):∃c,Bj (a,b)=some c/\xl a b c:=by
 unfold Bj mK;cases h1:a.1
 ·cases h2:b.1
  ·simp only[cond_false];obtain⟨a0,a1,a2,a3,a4,a5⟩:=ha.bounds h1;obtain⟨b0,b1,b2,b3,b4,b5⟩:=hb.bounds h2;by_cases c1:a.2.1=0
   ·simp only[c1,decide_true,Ub,cond_true,cond_false];rw[L2 hb];have:=Su ha hb h1 c1;simp only[da];cases hh:gz b a.2.2<;>rw[hh]at this
    ·exact⟨_,rfl,this⟩
    ·exact⟨_,rfl,this⟩
   ·by_cases c2:b.2.1=0
    ·simp only[c1,c2,decide_true,decide_false,Sb,cond_true,cond_false];rw[L2 ha];have:=(Su hb ha h2 c2).comm;simp only[da];cases hh:gz a b.2.2<;>rw[hh]at this
     ·exact⟨_,rfl,this⟩
     ·exact⟨_,rfl,this⟩
    ·simp only[c1,c2,decide_false,cond_false];obtain⟨M,hM⟩:=Ad a0;obtain⟨N,hN⟩:=Ad b0;obtain⟨_,ra0,ra1⟩:=ha.rem h1 c1;obtain⟨_,rb0,rb1⟩:=hb.rem h2 c2;obtain⟨pa,m,r1⟩:=a;obtain⟨pb,n,r2⟩:=b;simp only at h1 h2 hM hN ra0 ra1 rb0 rb1 a1 b1 a3 b3 c1 c2 ⊢;subst h1;subst h2;subst hM;subst hN;have hM0:0<M:=by omega
     have hN0:0<N:=by omega
     have z_:0<Ea M N:=Nat.gcd_pos_of_pos_left _ hM0;have hdM:Ea M N<=M:=Nat.le_of_dvd hM0 (Zk _ _);have hdN:Ea M N<=N:=Nat.le_of_dvd hN0 (Oj _ _);rw[Yb (n:=(M:Int)) (by omega) (by omega),Yb (n:=(N:Int)) (by omega) (by omega),Ml _ _ (by omega),Ya (n:=r1-r2) (by omega) (by omega),Ll (by omega) (by omega)];simp only[da];have x_:¬((Ea M N:Nat):Int)=0:=by omega
     simp only[x_,decide_false,cond_false];have dvM:((Ea M N:Nat):Int) ∣ (M:Int):=kW M N;have dvN:((Ea M N:Nat):Int) ∣ (N:Int):=kY M N;by_cases hr:((Ea M N:Nat):Int) ∣ r1-r2
     ·have bj:zb ((r1-r2).natAbs:Int) ((Ea M N:Nat):Int)=0:=Xd.2 (Qb.2 hr);simp only[bj,decide_true,Ub,cond_false];have q1:jb (N:Int) ((Ea M N:Nat):Int)=((N/Ea M N:Nat):Int):=rfl;have q2:jb (M:Int) ((Ea M N:Nat):Int)=((M/Ea M N:Nat):Int):=rfl;have qN:N/Ea M N<=N:=Mm _ _;have qM:M/Ea M N<=M:=Mm _ _;have NY:0<N/Ea M N:=Nat.div_pos hdN z_;have eN:Ea M N * (N/Ea M N)=N:=Nat.mul_div_cancel' (Oj _ _);have eM:Ea M N * (M/Ea M N)=M:=Nat.mul_div_cancel' (Zk _ _);have TO:Ea (M/Ea M N) (N/Ea M N)=1:=(Nat.coprime_div_gcd_div_gcd z_).gcd_eq_one;have hlm:∀{x z:Int},(M:Int) ∣ x-r1->(N:Int) ∣ x-r2->(((M * (N/Ea M N):Nat):Int) ∣ z-x↔(M:Int) ∣ z-r1/\(N:Int) ∣ z-r2):=λh1 h2=>VR h1 h2
      rw[q1,q2];clear q1 q2;generalize N/Ea M N=n' at qN NY eN TO hlm ⊢;generalize M/Ea M N=m' at qM eM TO ⊢;have was:M * n'<=4294967295 * 4294967295:=Nat.mul_le_mul (by omega) (by omega);rw[Yb (n:=(n':Int)) (by omega) (by omega),Yb (n:=(m':Int)) (by omega) (by omega)];have hL:(M:Int) * ((n':Nat):Int)=((M * (n'):Nat):Int):=(ae _ _).symm;have hL0:0<M * (n'):=Nat.mul_pos hM0 NY;have fin:∀k:Nat,k<n'->(N:Int) ∣ (M:Int) * (k:Int)+r1-r2->∃c,((Wj ((Ia ((M:Int) * ((n':Nat):Int))),(Ia ((Ia ((M:Int) * (k:Int)))+(Ia r1))))).bind λr=>some r)=some c/\xl (false,((M:Int),r1)) (false,((N:Int),r2)) c:=λk hk hd=>by
       have hMk:(M:Int) * (k:Int)=((M * k:Nat):Int):=(ae _ _).symm;have vas:M * k+M<=M * (n'):=by rw[<- Nat.mul_succ];exact Eu _ hk
       rw[hMk]at hd ⊢;rw[hL,Yb (n:=((M * (n'):Nat):Int)) (by omega) (by omega),Yb (n:=((M * k:Nat):Int)) (by omega) (by omega),Yb (n:=r1) ra0 (by omega),Yb (n:=((M * k:Nat):Int)+r1) (by omega) (by omega),Ht (by omega) (by omega) (by omega) (by omega)];refine⟨_,rfl,zg (by omega),λz=> ?_⟩;rw[Cp (by omega),hlm (by rw[show((M * k:Nat):Int)+r1-r1=((M * k:Nat):Int)by omega,<- hMk];exact Zc _ _) hd];exact⟨λ⟨g1,g2,g3,g4⟩=>⟨⟨rfl,g1,g2,g3⟩,rfl,g1,g2,g4⟩,λ⟨⟨_,g1,g2,g3⟩,_,_,_,g4⟩=>⟨g1,g2,g3,g4⟩⟩
      by_cases n_:1<n'
      ·have HO:(1:Int)<((n':Nat):Int):=by omega
       have ZF:¬((n':Nat):Int)=0:=by omega
       have wd:Ka ((Ea M N:Nat):Int)=((Ea M N:Nat):Int):=Ya (by omega) (by omega);simp only[HO,ZF,wd,x_,decide_true,decide_false,cond_true,cond_false];obtain⟨t,ht⟩:((Ea M N:Nat):Int) ∣ r2-r1:=by rw[show r2-r1= -(r1-r2)by omega];exact Int.dvd_neg.2 hr
       rw[Ya (n:=r2-r1) (by omega) (by omega),ht,xg t x_];have htb: -4294967296<=t/\t<=4294967296:=by
        have e:=xg t x_;rw[<- ht]at e;have:=tdiv_le (a:=r2-r1) (b:=((Ea M N:Nat):Int));rw[e]at this;omega
       rw[Ya (n:=t) (by omega) (by omega),Xm (by omega) (by omega) (by omega) (by omega)];simp only[da];have tm:zb ((m':Nat):Int) ((n':Nat):Int)=((m'%(n'):Nat):Int):=rfl;rw[tm];obtain⟨v,v1,v2,v3,v4⟩:=yaa (a:=m'%(n')) (n:=n') n_ (by omega) (Nat.mod_lt _ (by omega)) (by rw[<- Nat.gcd_rec,Aq];exact TO);rw[v1];simp only[da];have u0:=Tc t ZF;have u1:=uc t (show(0:Int)<((n':Nat):Int)by omega);rw[hi0 u0 (by omega) v2 (by omega)];have huv:0<=t%((n':Nat):Int) * v:=Xo u0 v2;have xaw:t%((n':Nat):Int) * v<=4294967295 * 4294967295:=Int.mul_le_mul (by omega) (by omega) v2 (by decide);rw[Yb (n:=t%((n':Nat):Int) * v) huv (by omega),qU (by omega) huv];simp only[da];have k0:=Tc (t%((n':Nat):Int) * v) ZF;have k1:=uc (t%((n':Nat):Int) * v) (show(0:Int)<((n':Nat):Int)by omega);obtain⟨k,hk⟩:=Ad k0;have dk:((n':Nat):Int) ∣ ((m':Nat):Int) * (k:Int)-t:=by
        have e1:((n':Nat):Int) ∣ (k:Int)-t * v:=by
         rw[<- hk];refine Ro ?_;rw[Wl _ (Wh _),Int.mul_emod,Wl _ (Wh _),<- Int.mul_emod]
        have e2:((n':Nat):Int) ∣ v * ((m':Nat):Int)-1:=by
         have:((n':Nat):Int) ∣ ((m':Nat):Int)-((m'%(n'):Nat):Int):=by
          refine Ro ?_;rw[Int.natCast_emod,Wl _ (Wh _)]
         rw[show v * ((m':Nat):Int)-1=v * (((m':Nat):Int)-((m'%(n'):Nat):Int))+(v * ((m'%(n'):Nat):Int)-1)by rw[Zg];omega];exact cg (yb this (Ai _ _)) v4
        rw[show((m':Nat):Int) * (k:Int)-t=((m':Nat):Int) * ((k:Int)-t * v)+t * (v * ((m':Nat):Int)-1)by
         have e3:t * (v * (m':Int))=(m':Int) * (t * v):=by rw[<- Oc,Ov]
         rw[Zg,Zg,Int.mul_one,e3];omega]
        exact cg (yb e1 (Ai _ _)) (yb e2 (Ai _ _))
       rw[hk];refine fin k (by omega) ?_;obtain⟨w,hw⟩:=dk;refine⟨w,?_⟩;have eMi:(M:Int)=((Ea M N:Nat):Int) * ((m':Nat):Int):=by rw[<- ae,eM]
       have eNi:(N:Int)=((Ea M N:Nat):Int) * ((n':Nat):Int):=by rw[<- ae,eN]
       rw[eNi,Oc,<- hw,Zg,<- ht,<- Oc,<- eMi];omega
      ·have HO:¬(1:Int)<((n':Nat):Int):=by omega
       simp only[HO,decide_false,cond_false];have cz:n'=1:=by omega
       refine fin 0 (by omega) ?_;have:Ea M N=N:=by rw[cz,Nat.mul_one]at eN;exact eN
       rw[this]at hr
       simpa using hr
     ·have bj:¬zb ((r1-r2).natAbs:Int) ((Ea M N:Nat):Int)=0:=λe=>hr (Qb.1 (Xd.1 e))
      simp only[bj,decide_false,Sb,cond_true];refine⟨_,rfl,be,λz=>⟨λh=>absurd h um,λ⟨⟨_,_,_,g1⟩,_,_,_,g2⟩=>absurd ?_ hr⟩⟩;simp only at g1 g2;rw[show r1-r2=(z-r2)-(z-r1)by omega];exact ag (yb dvN g2) (yb dvM g1)
  ·simp only[cond_false,cond_true];exact⟨_,rfl,be,λz=>⟨λh=>absurd h um,λh=>by have:=h.2.1;rw[h2]at this;cases this⟩⟩
 ·simp only[cond_true];exact⟨_,rfl,be,λz=>⟨λh=>absurd h um,λh=>by have:=h.1.1;rw[h1]at this;cases this⟩⟩
open Classical in
noncomputable def pg(a b:ga):ga:=if h:∃c,xl a b c then Classical.choose h else ld
theorem br{a b c:ga}(h:xl a b c):pg a b=c:=by
 have hh:∃c,xl a b c:=⟨c,h⟩;unfold pg;rw[dif_pos hh];exact(Classical.choose_spec hh).uniq h
theorem Bi{a b:ga}(ha:CR a)(hb:CR b):Bj (a,b)=some (pg a b)/\xl a b (pg a b):=by
 obtain⟨c,h1,h2⟩:=wab ha hb;rw[br h2];exact⟨h1,h2⟩
theorem meet_mono{a b a' b':ga}(ha:CR a)(hb:CR b)(ZG:CR a')(Wd:CR b')(h:Pd a a'=true)(h':Pd b b'=true):Pd (pg a b) (pg a' b')=true:=by
 have m1:=(Bi ha hb).2;have m2:=(Bi ZG Wd).2;exact(zf m1.1 m2.1).2 λz hz=>(m2.2 z).2 ⟨(zf ha ZG).1 h z ((m1.2 z).1 hz).1,(zf hb Wd).1 h' z ((m1.2 z).1 hz).2⟩
end Go.U
end
section
set_option maxRecDepth 20000
namespace Go.U
open Go
def Zb(t:Int):Kd:=if t=1 then(-128,127)else if t=2 then(-32768,32767)else if t=3 then(-2147483648,2147483647)else(1,0)
def uh(c:ga)(t:Int):ga:=
 if c.1=true then ld else if(Zb t).2<(Zb t).1 then ld
 else if c.2.1=0 then(if(Zb t).1<=c.2.2/\c.2.2<=(Zb t).2 then c else ld)
 else if(Zb t).2-((Zb t).2-c.2.2)%c.2.1<(Zb t).1+(c.2.2-(Zb t).1)%c.2.1 then ld
 else if(Zb t).1+(c.2.2-(Zb t).1)%c.2.1=(Zb t).2-((Zb t).2-c.2.2)%c.2.1 then nf 0 ((Zb t).1+(c.2.2-(Zb t).1)%c.2.1)else c
theorem C1(t:Int):sD t=some (Zb t):=by
 unfold Zb;by_cases h1:t=1
 ·subst h1;decide +kernel
 ·by_cases h2:t=2
  ·subst h2;decide +kernel
  ·by_cases h3:t=3
   ·subst h3;decide +kernel
   ·unfold sD CS;simp only[h1,h2,h3,decide_false,cond_false,if_false]
theorem FI(t:Int): -2147483648<=(Zb t).1/\(Zb t).1<=1/\0<=(Zb t).2/\(Zb t).2<=2147483647:=by
 unfold Zb;split
 ·decide
 ·split
  ·decide
  ·split<;>decide
theorem NR{a b:Int}(h1: -2147483648<=a)(h2:a<=2147483647)(h3: -2147483648<=b)(h4:b<=2147483647):Kn (a,b)=some (if b<a then(1,0)else(a,b)):=by
 unfold Kn xJ;have k1:¬(4611686018427387904:Int)<=a:=by omega
 have k2:¬b<=(-4611686018427387904:Int):=by omega
 have k3:¬(-4611686018427387904:Int)>a:=by omega
 have k4:¬(4611686018427387904:Int)<b:=by omega
 simp only;by_cases h:b<a
 ·simp only[h,decide_true,cond_true,if_true]
 ·simp only[h,k1,k2,k3,k4,decide_false,cond_false,if_false]
theorem U'(t:Int):FE (Zb t,(-2147483648,2147483647))=some (Zb t):=by
 unfold Zb;split
 ·decide +kernel
 ·split
  ·decide +kernel
  ·split<;>decide +kernel
theorem L3{c:ga}(h:CR c)(t:Int):OD (c,t)=some (uh c t):=by
 unfold OD wT vM DS;simp only;obtain⟨i1,i2,i3,i4⟩:=FI t;rw[C1,C1];simp only[da];rw[show Zb 3=(-2147483648,2147483647)from rfl,U'];simp only[da];unfold uh;cases hb:c.1
 ·obtain⟨a0,a1,a2,a3,a4,a5⟩:=h.bounds hb;simp only[cond_false,Xb,if_false];by_cases he:(Zb t).2<(Zb t).1
  ·simp only[he,decide_true,cond_true,if_true];rfl
  ·simp only[he,decide_false,cond_false,if_false];have snd:∀x:Int,Kz (Zb t,x)=some (decide ((Zb t).1<=x)&&decide (x<=(Zb t).2)):=λx=>by
    unfold Kz yJ tv jJ;simp only;rw[NR i1 (by omega) (by omega) i4,if_neg he];simp only[da];have k1:¬(Zb t).1= -4611686018427387904:=by omega
    have k2:¬(Zb t).2=4611686018427387904:=by omega
    simp only[he,k1,k2,decide_false,Sb,cond_true,cond_false];cases decide ((Zb t).1<=x)<;>rfl
   by_cases h0:c.2.1=0
   ·simp only[h0,decide_true,cond_true,if_true];rw[snd];simp only[da];by_cases Zt:(Zb t).1<=c.2.2/\c.2.2<=(Zb t).2
    ·have d1:=Zt.1;have d2:=Zt.2;simp only[d1,d2,decide_true,Bool.and_self,Ub,cond_false,and_self,if_true];rw[NR (by omega) (by omega) (by omega) (by omega)];rfl
    ·rw[if_neg Zt];have:(decide ((Zb t).1<=c.2.2)&&decide (c.2.2<=(Zb t).2))=false:=by
      rw[Bool.and_eq_false_iff];by_cases d1:(Zb t).1<=c.2.2
      ·right;exact decide_eq_false λd2=>Zt ⟨d1,d2⟩
      ·left;exact decide_eq_false d1
     rw[this];rfl
   ·simp only[h0,decide_false,cond_false,if_false];have hm:0<c.2.1:=by omega
    rw[Yb (n:=c.2.1) a0 (by omega),Ya (n:=c.2.2-(Zb t).1) (by omega) (by omega),Ya (n:=(Zb t).2-c.2.2) (by omega) (by omega),Xm (by omega) (by omega) hm (by omega)];simp only[da];rw[Xm (by omega) (by omega) hm (by omega)];simp only[da];have p1:=Tc (c.2.2-(Zb t).1) h0;have p2:=uc (c.2.2-(Zb t).1) hm;have p3:=Tc ((Zb t).2-c.2.2) h0;have p4:=uc ((Zb t).2-c.2.2) hm;generalize(c.2.2-(Zb t).1)%c.2.1=u at p1 p2 ⊢;generalize((Zb t).2-c.2.2)%c.2.1=v at p3 p4 ⊢;rw[Ya (n:=u) (by omega) (by omega),Ya (n:=v) (by omega) (by omega),Ya (n:=(Zb t).1+u) (by omega) (by omega),Ya (n:=(Zb t).2-v) (by omega) (by omega)];by_cases q1:(Zb t).2-v<(Zb t).1+u
    ·simp only[q1,decide_true,cond_true,if_true];rfl
    ·simp only[q1,decide_false,cond_false,if_false];by_cases q2:(Zb t).1+u=(Zb t).2-v
     ·simp only[q2,decide_true,cond_true,if_true];obtain⟨c1,c2⟩:=rU ((Zb t).2-v);rw[c1];simp only[da];rw[NR (by omega) (by omega) (by omega) (by omega)];simp only[da];congr 1;generalize nf 0 ((Zb t).2-v)=w at c2;obtain⟨w1,w2,w3⟩:=w;simp only at c2;subst c2;rfl
     ·simp only[q2,decide_false,cond_false,if_false];rw[NR (by omega) (by omega) (by omega) (by omega)];rfl
 ·simp only[cond_true,if_true];rfl
theorem Tm{c:ga}(h:CR c)(t:Int):CR (uh c t):=by
 unfold uh;split
 ·exact be
 ·split
  ·exact be
  ·split
   ·split
    ·exact h
    ·exact be
   ·split
    ·exact be
    ·split
     ·exact zg (Bd _)
     ·exact h
theorem Gu{c:ga}(h:CR c)(t:Int):((∀z,mem c z->¬((Zb t).1<=z/\z<=(Zb t).2))/\uh c t=ld)\/
  (∃z,mem c z/\((Zb t).1<=z/\z<=(Zb t).2)/\(∀w,mem c w->((Zb t).1<=w/\w<=(Zb t).2)->w=z)/\uh c t=nf 0 z)\/
  (∃z w,z≠w/\mem c z/\((Zb t).1<=z/\z<=(Zb t).2)/\mem c w/\((Zb t).1<=w/\w<=(Zb t).2)/\uh c t=c):=by
 obtain⟨i1,i2,i3,i4⟩:=FI t;unfold uh;cases hb:c.1
 ·obtain⟨a0,a1,a2,a3,a4,a5⟩:=h.bounds hb;simp only[Xb,if_false];by_cases he:(Zb t).2<(Zb t).1
  ·rw[if_pos he];exact .inl ⟨λz _ hz=>by omega,rfl⟩
  ·rw[if_neg he];by_cases h0:c.2.1=0
   ·rw[if_pos h0];have only:∀z,mem c z->z=c.2.2:=λz⟨_,_,_,hz⟩=>by
     rw[h0]at hz;have:=Hh.1 hz;omega
    by_cases Zt:(Zb t).1<=c.2.2/\c.2.2<=(Zb t).2
    ·rw[if_pos Zt];refine .inr (.inl ⟨c.2.2,⟨hb,a2,a5 h0,by rw[As];exact Yo _⟩,Zt,λw hw _=>only w hw,?_⟩);rw[h0]at a4;exact a4.symm
    ·rw[if_neg Zt];exact .inl ⟨λz hz s_=>Zt (by rw[<- only z hz];exact s_),rfl⟩
   ·rw[if_neg h0];have hm:0<c.2.1:=by omega
    have p1:=Tc (c.2.2-(Zb t).1) h0;have p2:=uc (c.2.2-(Zb t).1) hm;have p3:=Tc ((Zb t).2-c.2.2) h0;have p4:=uc ((Zb t).2-c.2.2) hm;have e1:=Uc (c.2.2-(Zb t).1) c.2.1;have e2:=Uc ((Zb t).2-c.2.2) c.2.1;have dlo:c.2.1 ∣ (Zb t).1+(c.2.2-(Zb t).1)%c.2.1-c.2.2:=⟨-((c.2.2-(Zb t).1)/c.2.1),by rw[ah];omega⟩;have dhi:c.2.1 ∣ (Zb t).2-((Zb t).2-c.2.2)%c.2.1-c.2.2:=⟨((Zb t).2-c.2.2)/c.2.1,by omega⟩;generalize(c.2.2-(Zb t).1)%c.2.1=u at p1 p2 dlo ⊢;generalize((Zb t).2-c.2.2)%c.2.1=v at p3 p4 dhi ⊢;have PK:∀z,mem c z->(Zb t).1<=z/\z<=(Zb t).2->(Zb t).1+u<=z/\z<=(Zb t).2-v:=λz⟨_,_,_,hz⟩⟨z1,z2⟩=>by
     obtain⟨k,hk⟩:=ag hz dlo;obtain⟨l,hl⟩:=ag dhi hz;refine⟨?_,?_⟩
     ·rcases Pv k 0 with dY|dY
      ·have:c.2.1 * k<=c.2.1 * (-1):=vg (by omega) (by omega);omega
      ·have:0<=c.2.1 * k:=Xo (by omega) dY;omega
     ·rcases Pv l 0 with OO|OO
      ·have:c.2.1 * l<=c.2.1 * (-1):=vg (by omega) (by omega);omega
      ·have:0<=c.2.1 * l:=Xo (by omega) OO;omega
    by_cases q1:(Zb t).2-v<(Zb t).1+u
    ·rw[if_pos q1];exact .inl ⟨λz hz Zt=>by have:=PK z hz Zt;omega,rfl⟩
    ·rw[if_neg q1];have mlo:mem c ((Zb t).1+u):=⟨hb,by omega,by omega,dlo⟩;have mhi:mem c ((Zb t).2-v):=⟨hb,by omega,by omega,dhi⟩;by_cases q2:(Zb t).1+u=(Zb t).2-v
     ·rw[if_pos q2];exact .inr (.inl ⟨_,mlo,⟨by omega,by omega⟩,λw hw Zt=>by have:=PK w hw Zt;omega,rfl⟩)
     ·rw[if_neg q2];exact .inr (.inr ⟨_,_,q2,mlo,⟨by omega,by omega⟩,mhi,⟨by omega,by omega⟩,rfl⟩)
 ·simp only[if_true];exact .inl ⟨λz hz=>(by have:=hz.1;rw[hb]at this;cases this),trivial⟩
theorem BG{c d:ga}(hc:CR c)(hd:CR d)(h:Pd c d=true)(t:Int):Pd (uh c t) (uh d t)=true:=by
 have hs:=(zf hc hd).1 h;rcases Gu hc t with⟨_,e⟩|⟨z,z1,z2,_,e⟩|⟨z,w,hn,z1,z2,w1,w2,e⟩
 ·rw[e];rfl
 ·rw[e];rcases Gu hd t with⟨n,_⟩|⟨z',_,_,u,e'⟩|⟨_,_,_,_,_,_,_,e'⟩
  ·exact absurd z2 (n z (hs z z1))
  ·rw[e',u z (hs z z1) z2];exact mg (zg (Bd _))
  ·rw[e'];refine(zf (zg (Bd _)) hd).2 λv hv=> ?_
   obtain⟨_,_,v3⟩:=(Cp (Bd _)).1 hv;have:=Hh.1 v3;have:v=z:=by omega
   subst this;exact hs v z1
 ·rw[e];rcases Gu hd t with⟨n,_⟩|⟨z',_,_,u,e'⟩|⟨_,_,_,_,_,_,_,e'⟩
  ·exact absurd z2 (n z (hs z z1))
  ·exact absurd ((u z (hs z z1) z2).trans (u w (hs w w1) w2).symm) hn
  ·rw[e'];exact h
end Go.U
end
section
set_option maxRecDepth 20000
namespace Go.U
open Go
def kO(g:Ba)(s:Ga)(y:Lb)(v:Int->ga):ga:=
 if y.1=1 then nf 0 y.2.2.2.2.1
 else if y.1=2 then Ry (v y.2.2.1)
 else if y.1=3 then qF (v y.2.2.1)
 else if y.1=4 then HK (v y.2.2.1) (v y.2.2.2.1)
 else if y.1=5 then dI (v y.2.2.1) (v y.2.2.2.1)
 else if y.1=6 then uI (v y.2.2.1) (v y.2.2.2.1)
 else if y.1=7 then Dk (v y.2.2.1) (v y.2.2.2.1)
 else if y.1=8 then po (v y.2.2.1) (v y.2.2.2.1)
 else if y.1=11 then gx s.2.2 y.2.2.1.toNat Aa
 else if y.1=12 then(if(gx (Tr g) y.2.2.1.toNat Ob).2.2.1=(gx (Tr g) y.2.2.1.toNat Ob).2.2.2 then nf 0 (gx (Tr g) y.2.2.1.toNat Ob).2.2.1 else(false,(1,0)))
 else jc (v y.2.2.1) (v y.2.2.2.1)
structure ri(g:Ba):Prop where
 k:∀j,j<g.1.length->I64 (at' g j).2.2.2.2.1
 a:∀j,j<(Tr g).length->I64 (gx (Tr g) j Ob).2.2.1
def Ops(y:Lb)(P:Int->Prop):Prop:=
 (y.1=2\/y.1=3->P y.2.2.1)/\(4<=y.1/\y.1<=10->P y.2.2.1/\P y.2.2.2.1)
theorem Zv{y:Lb}{P:Int->Prop}(h:∀x∈jf y,P x):Ops y P:=by
 refine⟨λk=> ?_,λk=> ?_⟩
 ·rcases k with k|k<;>exact h _ (by simp[jf,k])
 ·have:y.1=4\/y.1=5\/y.1=6\/y.1=7\/y.1=8\/y.1=9\/y.1=10:=by omega
  rcases this with k|k|k|k|k|k|k<;>exact⟨h _ (by simp[jf,k]),h _ (by simp[jf,k])⟩
theorem Lag{g:Ba}{s:Ga}{y:Lb}{out:List ga}(hd:wk y=true)(hk:I64 y.2.2.2.2.1)(hna:∀j,j<(Tr g).length->I64 (gx (Tr g) j Ob).2.2.1)(hi:Idx g y)(hs:vi g s)
  (ho:Ops y λx=>0<=x/\x<(out.length:Int)/\CR (gx out x.toNat Aa)):
  iH (g,s,y,out)=some (kO g s y λx=>gx out x.toNat Aa)/\CR (kO g s y λx=>gx out x.toNat Aa):=by
 obtain⟨d1,d2⟩:=Bg.1 hd;have hc:y.1=1\/y.1=2\/y.1=3\/y.1=4\/y.1=5\/y.1=6\/y.1=7\/y.1=8\/y.1=9\/y.1=10\/y.1=11\/y.1=12:=by omega
 unfold iH ES kO;rcases hc with k|k|k|k|k|k|k|k|k|k|k|k
 ·simp only[k];refine⟨?_,zg (Bd _)⟩
  simp
  rw[uad hk.1 hk.2]
 ·obtain⟨u1,u2,u3⟩:=ho.1 (.inl k);obtain⟨n1,n2,n3⟩:=neg_eq u3;simp[k,Sd u1 u2,Fa,n2,n3]
 ·obtain⟨u1,u2,u3⟩:=ho.1 (.inr k);obtain⟨n1,n2,n3⟩:=abs_eq u3;simp[k,Sd u1 u2,Fa,n2,n3]
 ·obtain⟨⟨u1,u2,u3⟩,v1,v2,v3⟩:=ho.2 (by omega);obtain⟨n1,n2,n3⟩:=add_eq u3 v3;simp[k,Sd u1 u2,Sd v1 v2,Fa,n2,n3]
 ·obtain⟨⟨u1,u2,u3⟩,v1,v2,v3⟩:=ho.2 (by omega);obtain⟨n1,n2,n3⟩:=sub_eq u3 v3;simp[k,Sd u1 u2,Sd v1 v2,Fa,n2,n3]
 ·obtain⟨⟨u1,u2,u3⟩,v1,v2,v3⟩:=ho.2 (by omega);obtain⟨n1,n2,n3⟩:=mul_eq u3 v3;simp[k,Sd u1 u2,Sd v1 v2,Fa,n2,n3]
 ·obtain⟨⟨u1,u2,u3⟩,v1,v2,v3⟩:=ho.2 (by omega);obtain⟨n1,n2,n3⟩:=div_eq u3 v3;simp[k,Sd u1 u2,Sd v1 v2,Fa,n2,n3]
 ·obtain⟨⟨u1,u2,u3⟩,v1,v2,v3⟩:=ho.2 (by omega);obtain⟨n1,n2,n3⟩:=mod_eq u3 v3;simp[k,Sd u1 u2,Sd v1 v2,Fa,n2,n3]
 ·obtain⟨⟨u1,u2,u3⟩,v1,v2,v3⟩:=ho.2 (by omega);obtain⟨n1,n2,n3⟩:=join_eq u3 v3;obtain⟨_,j2⟩:=aS u3 v3;simp only[k];refine⟨?_,by simpa using j2⟩;simp[Sd u1 u2,Sd v1 v2,Fa,n2,jc,ld];cases(gx out y.2.2.1.toNat Aa).1<;>cases(gx out y.2.2.2.1.toNat Aa).1<;>rfl
 ·obtain⟨⟨u1,u2,u3⟩,v1,v2,v3⟩:=ho.2 (by omega);obtain⟨n1,n2,n3⟩:=join_eq u3 v3;obtain⟨_,j2⟩:=aS u3 v3;simp only[k];refine⟨?_,by simpa using j2⟩;simp[Sd u1 u2,Sd v1 v2,Fa,n2,jc,ld];cases(gx out y.2.2.1.toNat Aa).1<;>cases(gx out y.2.2.2.1.toNat Aa).1<;>rfl
 ·obtain⟨u1,u2⟩:=hi.k11 (.inl k);have L9:y.2.2.1<(s.2.2.length:Int):=by rw[hs.il];exact u2
  have:=hs.ic y.2.2.1.toNat (by omega);simp[k,Sd u1 L9,Fa,this]
 ·obtain⟨u1,u2⟩:=hi.k12 k;have L9:y.2.2.1<(fa g.2.2.2.2.1:Int):=u2;have hn:=hna y.2.2.1.toNat (by show _<fa g.2.2.2.2.1;omega);simp only[k];by_cases he:(gx (Tr g) y.2.2.1.toNat Ob).2.2.1=(gx (Tr g) y.2.2.1.toNat Ob).2.2.2
  ·refine⟨?_,by simp[he];exact zg (Bd _)⟩;have w_:(gx g.2.2.2.2.1 y.2.2.1.toNat Ob).2.2.1=(gx g.2.2.2.2.1 y.2.2.1.toNat Ob).2.2.2:=he;have f0:=uad hn.1 hn.2;rw[he]at f0;simp[Sd u1 L9,Fa,he,w_];exact f0
  ·have w_:¬(gx g.2.2.2.2.1 y.2.2.1.toNat Ob).2.2.1=(gx g.2.2.2.2.1 y.2.2.1.toNat Ob).2.2.2:=he;refine⟨?_,by simp[he];exact dA⟩;simp[Sd u1 L9,Fa,he,w_,tao]
end Go.U
end
section
set_option maxRecDepth 20000
namespace Go.U
open Go
structure Vo(g:Ba)(s:Ga)(n:Nat)(out:List ga):Prop where
 len:(out.length:Int)=g.2.2.1
 sc:∀k,k<(af g).length->gx out k Aa=gx s.2.1 k Aa
 df:∀j,j<n->wk (at' g j)=true->gx out (at' g j).2.1.toNat Aa=kO g s (at' g j) (λx=>gx out x.toNat Aa)/\CR (gx out (at' g j).2.1.toNat Aa)
theorem Nc{α:Type}{l:List α}{i j:Nat}{d x:α}(h:i<l.length):gx (l.set i x) j d=if i=j then x else gx l j d:=by
 simp only[gx,Qi,Cc];by_cases e:i=j
 ·subst e;simp[h]
 ·simp[e]
theorem xV{g:Ba}{s:Ga}{y:Lb}{v w:Int->ga}(hd:wk y=true)(h:Ops y λx=>v x=w x):kO g s y v=kO g s y w:=by
 obtain⟨d1,d2⟩:=Bg.1 hd;have hc:y.1=1\/y.1=2\/y.1=3\/y.1=4\/y.1=5\/y.1=6\/y.1=7\/y.1=8\/y.1=9\/y.1=10\/y.1=11\/y.1=12:=by omega
 unfold kO;rcases hc with k|k|k|k|k|k|k|k|k|k|k|k
 ·simp[k]
 ·have:=h.1 (.inl k);simp[k,this]
 ·have:=h.1 (.inr k);simp[k,this]
 ·obtain⟨a,b⟩:=h.2 (by omega);simp[k,a,b]
 ·obtain⟨a,b⟩:=h.2 (by omega);simp[k,a,b]
 ·obtain⟨a,b⟩:=h.2 (by omega);simp[k,a,b]
 ·obtain⟨a,b⟩:=h.2 (by omega);simp[k,a,b]
 ·obtain⟨a,b⟩:=h.2 (by omega);simp[k,a,b]
 ·obtain⟨a,b⟩:=h.2 (by omega);simp[k,a,b]
 ·obtain⟨a,b⟩:=h.2 (by omega);simp[k,a,b]
 ·simp[k]
 ·simp[k]
section
variable {g:Ba}{D:List Int}{s:Ga}
theorem Ri(hG:Fe g D){i:Nat}{x:Int}(h:s9 g D i x):0<=x/\x<g.2.2.1/\(x<((af g).length:Int)\/∃j,j<i/\j<g.1.length/\wk (at' g j)=true/\(at' g j).2.1=x):=by
 obtain⟨h1,h2,h3⟩:=h;refine⟨h1,h2,?_⟩;rcases Pv x ((af g).length:Int)with h4|h4
 ·exact .inl h4
 ·have h5:=h3 h4;have hr:=hG.defs.rV;obtain⟨k,hk⟩:=Ad (show 0<=x-((af g).length:Int)by omega);obtain⟨j,d1,d2,d3,d4⟩:=hG.defs.dn k (by omega);rw[hk,Pa,kM d1]at h5;exact .inr ⟨j,by omega,d2,d3,by omega⟩
theorem sK(hG:Fe g D){i j:Nat}(hi:i<g.1.length)(hj:j<g.1.length)(di:wk (at' g i)=true)(dj:wk (at' g j)=true)(e:(at' g i).2.1=(at' g j).2.1):i=j:=by
 obtain⟨k,a1,a2⟩:=hG.defs.up i hi di;obtain⟨k',b1,b2⟩:=hG.defs.up j hj dj;have:k=k':=by omega
 subst this;rw[a2]at b2;injection b2 with b2;omega
theorem fy(hG:Fe g D){i:Nat}(hi:i<g.1.length)(di:wk (at' g i)=true):((af g).length:Int)<=(at' g i).2.1/\(at' g i).2.1<g.2.2.1:=by
 obtain⟨k,a1,a2⟩:=hG.defs.up i hi di;have hk:k<D.length:=by rcases dc k D.length with h|h;exact h;rw[Nb h]at a2;cases a2
 have:=hG.defs.rV;omega
theorem oL(hG:Fe g D)(hs:vi g s){n:Nat}{out:List ga}(ho:Vo g s n out){i:Nat}(hi:i<=n){x:Int}(h:s9 g D i x):0<=x/\x<(out.length:Int)/\CR (gx out x.toNat Aa):=by
 obtain⟨h1,h2,h3⟩:=Ri hG h;refine⟨h1,by rw[ho.len];exact h2,?_⟩;rcases h3 with h3|⟨j,j1,j2,j3,j4⟩
 ·rw[ho.sc x.toNat (by omega)];exact hs.sc _ (by rw[hs.sl];omega)
 ·rw[<- j4];exact(ho.df j (by omega) j3).2
theorem iak{a b:List ga}(h:a.length<=b.length)(k:Nat)(hk:k<a.length):gx (zq 0 (min a.length b.length) a b) k Aa=gx a k Aa:=by
 have e:min a.length b.length=a.length:=Nat.min_eq_left h;simp only[zq,gx,Qi,e,List.take_zero,List.nil_append,Qf,Rf (ya _)];rw[Ja hk]
theorem Hab{a b:List ga}(h:a.length<=b.length):(zq 0 (min a.length b.length) a b).length=b.length:=by
 have e:min a.length b.length=a.length:=Nat.min_eq_left h;simp only[zq,e,List.take_zero,List.nil_append,Qf,Rf (ya _),oe,List.length_drop];omega
theorem O3(hG:Fe g D)(hs:vi g s)(hn:ri g):∃out,QD (g,s)=some out/\Vo g s g.1.length out:=by
 have hr:=hG.defs.rV;have hl:=hG.defs.len;have hS:=hG.S;unfold QD yT;have b1:(decide (0<=g.2.2.1)&&decide (g.2.2.1<=g.2.2.1)&&decide (24 * g.2.2.1<=70368744177664)&&decide (g.2.2.1<9223372036854775808))=true:=by
  rw[decide_eq_true (show 0<=g.2.2.1 by omega),decide_eq_true (Bd _),decide_eq_true (show 24 * g.2.2.1<=70368744177664 by omega),decide_eq_true (show g.2.2.1<9223372036854775808 by omega)];rfl
 simp only[b1,Fa];obtain⟨Z,hZ⟩:∃Z,(fb (ia g.2.2.1) ((false,(0,0)):ga))=Z:=⟨_,rfl⟩;have hZl:(Z.length:Int)=g.2.2.1:=by rw[<- hZ,Nv];omega
 rw[hZ];have hle:s.2.1.length<=Z.length:=by rw[hs.sl];omega
 obtain⟨e,h1,h2⟩:=Gc (step:=RD.m (g,s)) (t:=(0,zq 0 (min (fa s.2.1) Z.length) s.2.1 Z)) (λt=>∃n:Nat,n<=g.1.length/\t.1=(n:Int)/\Vo g s n t.2) (λt=>g.1.length-t.1.toNat) (λe=>Vo g s g.1.length e)
  ⟨0,Ac _,rfl,by rw[Hab hle];exact hZl,λk hk=>iak hle k (by rw[hs.sl];exact hk),λj h=>absurd h (Td _)⟩ (by have:=hG.N;simp only;omega) (λt⟨n,Vk,ht,hI⟩=>by
   obtain⟨ti,out⟩:=t;simp only at ht hI;subst ht;have hN:=hG.N;simp only[LD.m,RD,nt];have w:Ka ((n:Int)+1)=(n:Int)+1:=Ya (by omega) (by omega);by_cases h:n<g.1.length
   ·have h':(n:Int)<(g.1.length:Int):=by omega
    obtain⟨y,hy⟩:∃y,gx g.1 n Pb=y:=⟨_,rfl⟩;have Rm:at' g n=y:=hy;simp only[h',decide_true,cond_true,Tk h,Fa,Pa,hy,w];have skip:wk y=false->Vo g s (n+1) out:=λhd=>⟨hI.len,hI.sc,λj hj DA=>by
     by_cases e:j=n
     ·subst e;rw[Rm,hd]at DA;cases DA
     ·exact hI.df j (by omega) DA⟩
    by_cases k1:1<=y.1
    ·by_cases k2:y.1<=12
     ·have hd:wk y=true:=Bg.2 ⟨k1,k2⟩;simp only[k1,k2,decide_true,cond_true];have Kg:=hG.Kg n h;rw[<- Rm]at hd;have IZ:Ops y λx=>0<=x/\x<(out.length:Int)/\CR (gx out x.toNat Aa):=by
       refine Zv λx hx=>oL hG hs hI (ya n) (Kg.use x (by rw[Rm];exact hx))
      obtain⟨q1,q2⟩:=Lag (g:=g) (s:=s) (y:=y) (out:=out) (by rw[<- Rm];exact hd) (by rw[<- Rm];exact hn.k n h) hn.a (by rw[<- Rm];exact Kg.idx) hs IZ;rw[q1];simp only[da];obtain⟨r1,r2⟩:=fy hG h hd;rw[Rm]at r1 r2;have hlen:=hI.len;rw[Sd (by omega) (by omega),Fa];refine .inl ⟨_,rfl,⟨n+1,h,rfl,by simpa using hlen,λk hk=> ?_,λj hj DA=> ?_⟩,by simp only;omega⟩
      ·rw[Nc (by omega),if_neg (by omega)];exact hI.sc k hk
      ·have bW:j<g.1.length:=by omega
       have UO:kO g s (at' g j) (λx=>gx out x.toNat Aa)=kO g s (at' g j) (λx=>gx (out.set y.2.1.toNat (kO g s y λx=>gx out x.toNat Aa)) x.toNat Aa):=by
        refine xV DA (Zv λx hx=> ?_);have hu:=(hG.Kg j bW).use x hx;obtain⟨u1,u2,u3⟩:=Ri hG hu;rw[Nc (by omega)];rw[if_neg];intro e;have e':y.2.1=x:=by omega
        rcases u3 with u3|⟨j',j1,j2,j3,j4⟩
        ·omega
        ·have:=sK hG h j2 hd j3 (by rw[Rm,e',j4]);omega
       by_cases e:j=n
       ·subst e;rw[Rm]at UO ⊢;rw[<- UO,Nc (by omega),if_pos rfl];exact⟨rfl,q2⟩
       ·have td:¬y.2.1.toNat=(at' g j).2.1.toNat:=λe2=>by
         obtain⟨r3,r4⟩:=fy hG bW DA;have:=sK hG h bW hd DA (by rw[Rm];omega);exact e this.symm
        rw[<- UO,Nc (by omega),if_neg td];exact hI.df j (by omega) DA
     ·simp only[k1,k2,decide_true,decide_false,cond_true,cond_false];exact .inl ⟨_,rfl,⟨n+1,h,rfl,skip (by simp[wk];omega)⟩,by simp only;omega⟩
    ·simp only[k1,decide_false,cond_false];exact .inl ⟨_,rfl,⟨n+1,h,rfl,skip (by simp[wk];omega)⟩,by simp only;omega⟩
   ·have h':¬(n:Int)<(g.1.length:Int):=by omega
    simp only[h',decide_false,cond_false];have:n=g.1.length:=by omega
    exact .inr ⟨_,rfl,by rw[<- this];exact hI⟩)
 rw[h1];exact⟨e,rfl,h2⟩
end
end Go.U
end
section
set_option maxRecDepth 20000
namespace Go.U
open Go
section
variable {α:Type}
abbrev Sm(i:Int)(l:List (Int×α)):Bool:=jD (k:=(.int .i64)) i l
abbrev Yu(i:Int)(d:α)(l:List (Int×α)):α:=GB (k:=(.int .i64)) i d l
abbrev Ky(i:Int)(x:α)(l:List (Int×α)):List (Int×α):=Mu (k:=(.int .i64)) i x l
theorem Ak(i j:Int)(x:α)(l:List (Int×α)):Sm i ((j,x)::l)=(decide (i=j)||Sm i l):=rfl
theorem Qw(i j:Int)(d x:α)(l:List (Int×α)):Yu i d ((j,x)::l)=cond (decide (i=j)) x (Yu i d l):=rfl
theorem set_nil(i:Int)(x:α):Ky i x []=[(i,x)]:=rfl
theorem jw(i j:Int)(x y:α)(l:List (Int×α)):Ky i x ((j,y)::l)=cond (decide (i=j)) ((i,x)::l) ((j,y)::Ky i x l):=rfl
theorem Ow(i j:Int)(x:α):∀l:List (Int×α),Sm j (Ky i x l)=(decide (j=i)||Sm j l)
 |[]=>by rw[set_nil,Ak]
 |(k,y)::l=>by
  rw[jw];by_cases h:i=k
  ·subst h;simp only[decide_true,cond_true,Ak];cases decide (j=i)<;>rfl
  ·simp only[h,decide_false,cond_false,Ak,Ow i j x l];cases decide (j=i)<;>cases decide (j=k)<;>rfl
theorem NI(i j:Int)(d x:α):∀l:List (Int×α),Yu j d (Ky i x l)=if j=i then x else Yu j d l
 |[]=>by
  rw[set_nil,Qw];by_cases h:j=i<;>simp[h]
 |(k,y)::l=>by
  rw[jw];by_cases h:i=k
  ·subst h;simp only[decide_true,cond_true,Qw];by_cases e:j=i<;>simp[e]
  ·simp only[h,decide_false,cond_false,Qw,NI i j d x l];by_cases e:j=k
   ·subst e;have:¬j=i:=λe2=>h e2.symm
    simp[this]
   ·simp[e]
end
theorem bai{g:Ba}{D:List Int}{s:Ga}(hG:Fe g D):∃T:List (Int×Lb),SD (g,s)=some (T,[])/\∀j,j<g.1.length->wk (at' g j)=true->Sm (at' g j).2.1 T=true/\Yu (at' g j).2.1 Pb T=at' g j:=by
 unfold SD AT;have hN:=hG.N;obtain⟨e,h1,h2⟩:=Gc (step:=TD.m (g.1,(nt (fa g.1)),(g,s),([]:List (Int×ga)))) (t:=(0,([]:List (Int×Lb)))) (λt=>∃n:Nat,n<=g.1.length/\t.1=(n:Int)/\∀j,j<n->wk (at' g j)=true->Sm (at' g j).2.1 t.2=true/\Yu (at' g j).2.1 Pb t.2=at' g j) (λt=>g.1.length-t.1.toNat)
  (λe=>∀j,j<g.1.length->wk (at' g j)=true->Sm (at' g j).2.1 e=true/\Yu (at' g j).2.1 Pb e=at' g j) ⟨0,Ac _,rfl,λj h=>absurd h (Td _)⟩ (by simp only;omega) (λt⟨n,hn,ht,hI⟩=>by
   obtain⟨ti,T⟩:=t;simp only at ht hI;subst ht;simp only[LD.m,TD,nt];have w:Ka ((n:Int)+1)=(n:Int)+1:=Ya (by omega) (by omega);by_cases h:n<g.1.length
   ·have h':(n:Int)<(g.1.length:Int):=by omega
    obtain⟨y,hy⟩:∃y,gx g.1 n Pb=y:=⟨_,rfl⟩;have Rm:at' g n=y:=hy;simp only[h',decide_true,cond_true,Tk h,Fa,Pa,hy,w];have skip:wk y=false->∀j,j<n+1->wk (at' g j)=true->Sm (at' g j).2.1 T=true/\Yu (at' g j).2.1 Pb T=at' g j:=λhd j hj DA=>by
     by_cases e:j=n
     ·subst e;rw[Rm,hd]at DA;cases DA
     ·exact hI j (by omega) DA
    by_cases k1:1<=y.1
    ·by_cases k2:y.1<=12
     ·have hd:wk y=true:=Bg.2 ⟨k1,k2⟩;rw[<- Rm]at hd;simp only[k1,k2,decide_true,cond_true];refine .inl ⟨_,rfl,⟨n+1,h,rfl,λj hj DA=> ?_⟩,by simp only;omega⟩;show Sm (at' g j).2.1 (Ky y.2.1 y T)=true/\Yu (at' g j).2.1 Pb (Ky y.2.1 y T)=at' g j;rw[Ow,NI];by_cases e:j=n
      ·subst e;rw[Rm];simp
      ·have td:¬(at' g j).2.1=y.2.1:=λe2=>e (sK hG (by omega) h DA hd (by rw[Rm];exact e2))
       obtain⟨a,b⟩:=hI j (by omega) DA;rw[if_neg td,a,b];simp
     ·simp only[k1,k2,decide_true,decide_false,cond_true,cond_false];exact .inl ⟨_,rfl,⟨n+1,h,rfl,skip (by simp[wk];omega)⟩,by simp only;omega⟩
    ·simp only[k1,decide_false,cond_false];exact .inl ⟨_,rfl,⟨n+1,h,rfl,skip (by simp[wk];omega)⟩,by simp only;omega⟩
   ·have h':¬(n:Int)<(g.1.length:Int):=by omega
    simp only[h',decide_false,cond_false];have:n=g.1.length:=by omega
    exact .inr ⟨_,rfl,by rw[<- this];exact hI⟩)
 rw[h1];exact⟨e,rfl,h2⟩
end Go.U
end
section
set_option maxRecDepth 20000
namespace Go.U
open Go
def Sn(out:List ga)(M:List (Int×ga)):Prop:=∀x,Sm x M=true->Yu x Aa M=gx out x.toNat Aa
section
variable {g:Ba}{D:List Int}{s:Ga}{out:List ga}{T:List (Int×Lb)}
def Iae(R:sg)(g:Ba)(s:Ga)(T:List (Int×Lb))(out:List ga)(x:Int):Prop:=
 (∀M,Sn out M->∃M',R.m (x,g,s,T,M)=some (gx out x.toNat Aa,M')/\Sn out M')/\CR (gx out x.toNat Aa)
theorem Oag(R:sg){y:Lb}(hd:wk y=true)(hi:Idx g y)(hs:vi g s)(ho:Ops y (Iae R g s T out)){M:List (Int×ga)}(hM:Sn out M):
  ∃M',@tD R (y,g,s,T,M)=some (kO g s y (λx=>gx out x.toNat Aa),M')/\Sn out M':=by
 obtain⟨d1,d2⟩:=Bg.1 hd;have hc:y.1=1\/y.1=2\/y.1=3\/y.1=4\/y.1=5\/y.1=6\/y.1=7\/y.1=8\/y.1=9\/y.1=10\/y.1=11\/y.1=12:=by omega
 unfold tD GS kO;rcases hc with k|k|k|k|k|k|k|k|k|k|k|k
 ·refine⟨M,?_,hM⟩;simp[k,X1]
 ·obtain⟨u,cu⟩:=ho.1 (.inl k);obtain⟨M1,a1,a2⟩:=u M hM;refine⟨M1,?_,a2⟩;simp[k,a1,hah cu]
 ·obtain⟨u,cu⟩:=ho.1 (.inr k);obtain⟨M1,a1,a2⟩:=u M hM;refine⟨M1,?_,a2⟩;simp[k,a1,eah cu]
 ·obtain⟨⟨u,cu⟩,v,cv⟩:=ho.2 (by omega);obtain⟨M1,a1,a2⟩:=u M hM;obtain⟨M2,b1,b2⟩:=v M1 a2;refine⟨M2,?_,b2⟩;simp[k,a1,b1,(add_eq cu cv).1]
 ·obtain⟨⟨u,cu⟩,v,cv⟩:=ho.2 (by omega);obtain⟨M1,a1,a2⟩:=u M hM;obtain⟨M2,b1,b2⟩:=v M1 a2;refine⟨M2,?_,b2⟩;simp[k,a1,b1,(sub_eq cu cv).1]
 ·obtain⟨⟨u,cu⟩,v,cv⟩:=ho.2 (by omega);obtain⟨M1,a1,a2⟩:=u M hM;obtain⟨M2,b1,b2⟩:=v M1 a2;refine⟨M2,?_,b2⟩;simp[k,a1,b1,(mul_eq cu cv).1]
 ·obtain⟨⟨u,cu⟩,v,cv⟩:=ho.2 (by omega);obtain⟨M1,a1,a2⟩:=u M hM;obtain⟨M2,b1,b2⟩:=v M1 a2;refine⟨M2,?_,b2⟩;simp[k,a1,b1,(div_eq cu cv).1]
 ·obtain⟨⟨u,cu⟩,v,cv⟩:=ho.2 (by omega);obtain⟨M1,a1,a2⟩:=u M hM;obtain⟨M2,b1,b2⟩:=v M1 a2;refine⟨M2,?_,b2⟩;simp[k,a1,b1,(mod_eq cu cv).1]
 ·obtain⟨⟨u,cu⟩,v,cv⟩:=ho.2 (by omega);obtain⟨M1,a1,a2⟩:=u M hM;obtain⟨M2,b1,b2⟩:=v M1 a2;refine⟨M2,?_,b2⟩;simp[k,a1,b1,(aS cu cv).1]
 ·obtain⟨⟨u,cu⟩,v,cv⟩:=ho.2 (by omega);obtain⟨M1,a1,a2⟩:=u M hM;obtain⟨M2,b1,b2⟩:=v M1 a2;refine⟨M2,?_,b2⟩;simp[k,a1,b1,(aS cu cv).1]
 ·obtain⟨u1,u2⟩:=hi.k11 (.inl k);have L9:y.2.2.1<(s.2.2.length:Int):=by rw[hs.il];exact u2
  refine⟨M,?_,hM⟩;simp[k,Sd u1 L9,Fa]
 ·obtain⟨u1,u2⟩:=hi.k12 k;have L9:y.2.2.1<(fa g.2.2.2.2.1:Int):=u2;refine⟨M,?_,hM⟩;by_cases he:(gx (Tr g) y.2.2.1.toNat Ob).2.2.1=(gx (Tr g) y.2.2.1.toNat Ob).2.2.2
  ·have w_:(gx g.2.2.2.2.1 y.2.2.1.toNat Ob).2.2.1=(gx g.2.2.2.2.1 y.2.2.1.toNat Ob).2.2.2:=he;simp[k,Sd u1 L9,Fa,he,w_,X1]
  ·have w_:¬(gx g.2.2.2.2.1 y.2.2.1.toNat Ob).2.2.1=(gx g.2.2.2.2.1 y.2.2.1.toNat Ob).2.2.2:=he;simp[k,Sd u1 L9,Fa,he,w_,Uaa]
theorem Dae(hG:Fe g D)(hs:vi g s)(hb:s.1=true)(ho:Vo g s g.1.length out)(hT:∀j,j<g.1.length->wk (at' g j)=true->Sm (at' g j).2.1 T=true/\Yu (at' g j).2.1 Pb T=at' g j):
  ∀(f:Nat)(x:Int)(M:List (Int×ga)),0<f->0<=x->x<g.2.2.1->(x<((af g).length:Int)\/∃j,j+1<f/\j<g.1.length/\wk (at' g j)=true/\(at' g j).2.1=x)->Sn out M->
   ∃M',Hr f (x,g,s,T,M)=some (gx out x.toNat Aa,M')/\Sn out M'
 |0,_,_,h,_,_,_,_=>absurd h (Nat.lt_irrefl _)
 |f+1,x,M,_,h0,h1,hx,hM=>by
  show ∃M',@GM ⟨Hr f⟩ (x,g,s,T,M)=_/\_;unfold GM zT;simp only[hb,Ub,cond_false,nt];by_cases hS:x<((af g).length:Int)
  ·have n9:x<(fa g.2.2.2.2.2.1:Int):=hS;have hl:x<(s.2.1.length:Int):=by rw[hs.sl];exact hS
   simp only[n9,decide_true,cond_true,Sd h0 hl,Fa];exact⟨M,by rw[ho.sc x.toNat (by omega)],hM⟩
  ·have n9:¬x<(fa g.2.2.2.2.2.1:Int):=hS;simp only[n9,decide_false,cond_false];cases hh:Sm x M
   ·rcases hx with hx|⟨j,j1,j2,j3,j4⟩
    ·exact absurd hx hS
    ·obtain⟨t1,t2⟩:=hT j j2 j3;rw[j4]at t1 t2;have hh':jD (k:=(.int .i64)) x M=false:=hh;have t1':jD (k:=(.int .i64)) x T=true:=t1;have t2':GB (k:=(.int .i64)) x Pb T=at' g j:=t2;simp only[hh',t1',t2',cond_false,cond_true];have Kg:=hG.Kg j j2;have IZ:Ops (at' g j) (Iae ⟨Hr f⟩ g s T out):=Zv λz hz=>by
      have hu:=Kg.use z hz;obtain⟨z1,z2,z3⟩:=Ri hG hu;refine⟨λM hM=>Dae hG hs hb ho hT f z M (by omega) z1 z2 ?_ hM,(oL hG hs ho (js j2) hu).2.2⟩;rcases z3 with z3|⟨j',w1,w2,w3,w4⟩
      ·exact .inl z3
      ·exact .inr ⟨j',by omega,w2,w3,w4⟩
     obtain⟨M',a1,a2⟩:=Oag ⟨Hr f⟩ j3 Kg.idx hs IZ hM;rw[a1];simp only[da];have e:=(ho.df j j2 j3).1;rw[j4]at e;rw[<- e];refine⟨_,rfl,λz hz=> ?_⟩;have ZF:Sm z (Ky x (gx out x.toNat Aa) M')=true:=hz;show Yu z Aa (Ky x (gx out x.toNat Aa) M')=_;rw[NI];rw[Ow]at ZF;by_cases e2:z=x
     ·rw[if_pos e2,e2]
     ·rw[if_neg e2];simp[e2]at ZF;exact a2 z ZF
   ·have hh':jD (k:=(.int .i64)) x M=true:=hh;simp only[hh',cond_true];have e:GB (k:=(.int .i64)) x Aa M=gx out x.toNat Aa:=hM x hh;rw[e];exact⟨M,rfl,hM⟩
end
end Go.U
end
