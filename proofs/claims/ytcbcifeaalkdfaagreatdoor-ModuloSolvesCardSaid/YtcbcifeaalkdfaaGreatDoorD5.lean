/- What these Lean functions compute: plain arithmetic of congruences, the checks of a graph, the values of its registers. -/
import Derived.Test.YtcbcifeaalkdfaaGreatDoorD4
import Derived.Test.YtcbcifeaalkdfaaGreatDoorD3
import Derived.Test.YtcbcifeaalkdfaaGreatDoorB4
set_option linter.unusedVariables false
set_option linter.unusedSimpArgs false
set_option linter.unusedSectionVars false
open Bool renaming false_eq_true→Xb,not_true→Ub,true_and→Od,not_false→Sb
open Int renaming le_refl→Bd,zero_dvd→Hh,lt_or_le→Pv,tmod→zb,tdiv→jb,mul_tdiv_cancel_left→xg,mul_add→LF,mul_assoc→Oc,dvd_mul_right→Zc,dvd_zero→Yo,dvd_natAbs→Qb,dvd_trans→yb,dvd_add→cg,dvd_sub→ag,eq_ofNat_of_zero_le→Ad,lt_irrefl→Tb,toNat_natCast→Pa
open List renaming length→fa,set→Wb,range→mb,getD→Qi,getElem?_eq_getElem→Da,mem_range→jg,mem_of_getElem?→Eb,all_eq_true→ec
open Nat renaming gcd→Ea,not_lt_zero→Td,le_refl→ya,le_trans→Db,zero_le→Ac
open Option renaming bind_some→da
open Sum renaming elim_inr→zi
section
set_option maxRecDepth 20000
namespace Go.U
open Go
section
variable {x y x' y':ga}(hx:CR x)(hy:CR y)(Eg:CR x')(Ze:CR y')(h:Pd x x'=true)(h':Pd y y'=true)
include hx Eg h
theorem H8:Pd (qF x) (qF x')=true:=by
 unfold qF;cases h1:x.1
 ·obtain⟨e1,d1,d2⟩:=Be hx Eg h h1;simp only[e1,cond_false];have n1:=(neg_eq hx).2.2;have n2:=(neg_eq Eg).2.2;by_cases Xu:x'.2.1=0
  ·have e:=Fh hx Eg h h1 Xu;subst e;simp only[Xu,if_true];exact mg (zg (Bd _))
  ·simp only[Xu,if_false];by_cases h0:x.2.1=0
   ·simp only[h0,if_true];obtain⟨j1,j2⟩:=Jp Eg n2;have jc:=oh Eg n2;refine(zf (zg (Bd _)) jc).2 λz hz=> ?_
    obtain⟨z1,z2,z3⟩:=(Cp (Bd _)).1 hz;have z3:=Hh.1 z3;rcases Pv x.2.2 0 with hr|hr
    ·have ZF:z= -x.2.2:=by omega
     refine(zf n2 jc).1 j2 z ?_;unfold Ry;rw[e1];refine(Cp (Eg.bounds e1).1).2 ⟨z1,z2,?_⟩;rw[ZF,show -x.2.2-(0-x'.2.2)= -(x.2.2-x'.2.2)by omega];exact Int.dvd_neg.2 d2
    ·have ZF:z=x.2.2:=by omega
     exact(zf Eg jc).1 j1 z ⟨e1,z1,z2,by rw[ZF];exact d2⟩
   ·simp only[h0,if_false];exact join_mono hx n1 Eg n2 h (sL hx Eg h)
 ·rfl
include hy Ze h'
theorem U7:Pd (Dk x y) (Dk x' y')=true:=by
 have bD:CR (Dk x y):=(div_eq hx hy).2.2;cases h1:x.1
 ·cases h2:y.1
  ·obtain⟨e1,d1,d2⟩:=Be hx Eg h h1;obtain⟨e2,d3,d4⟩:=Be hy Ze h' h2;by_cases dz:y'.2.1=0
   ·have e:=Fh hy Ze h' h2 dz;subst e;by_cases hr:y.2.2=0
    ·have:Dk x y=ld:=by simp[Dk,h1,h2,dz,hr]
     rw[this];rfl
    ·by_cases TG:x'.2.1=0
     ·have e:=Fh hx Eg h h1 TG;subst e;exact mg bD
     ·by_cases t1:zb x'.2.1 y.2.2=0
      ·by_cases t2:zb x'.2.2 y.2.2=0
       ·have hq:Dk x' y=nf ((jb x'.2.1 y.2.2).natAbs:Int) (jb x'.2.2 y.2.2):=by simp[Dk,e1,h2,dz,hr,TG,t1,t2]
        rw[hq];obtain⟨k,hk⟩:=Xd.1 t1;obtain⟨l,hl⟩:=Xd.1 t2;obtain⟨u,hu⟩:=d1;obtain⟨v,hv⟩:=d2;have q1:jb x'.2.1 y.2.2=k:=by rw[hk];exact xg _ hr
        have q2:jb x'.2.2 y.2.2=l:=by rw[hl];exact xg _ hr
        have OL:x.2.2=y.2.2 * (l+k * v):=by
         rw[LF,<- Oc,<- hk,<- hl];omega
        have hxm:x.2.1=y.2.2 * (k * u):=by rw[<- Oc,<- hk];exact hu
        have q3:jb x.2.2 y.2.2=l+k * v:=by rw[OL];exact xg _ hr
        have q4:jb x.2.1 y.2.2=k * u:=by rw[hxm];exact xg _ hr
        have t3:zb x.2.2 y.2.2=0:=Xd.2 ⟨_,OL⟩;have t4:zb x.2.1 y.2.2=0:=Xd.2 ⟨_,hxm⟩;have Eo:((k.natAbs:Nat):Int) ∣ l+k * v-l:=by
         rw[show l+k * v-l=k * v by omega];exact Int.natAbs_dvd.2 (Zc _ _)
        rw[q1,q2];by_cases aj:x.2.1=0
        ·have:Dk x y=nf 0 (jb x.2.2 y.2.2):=by simp[Dk,h1,h2,dz,hr,aj]
         rw[this,q3];exact cls (Bd _) (by omega) (Yo _) Eo
        ·have:Dk x y=nf ((jb x.2.1 y.2.2).natAbs:Int) (jb x.2.2 y.2.2):=by simp[Dk,h1,h2,dz,hr,aj,t3,t4]
         rw[this,q3,q4];exact cls (by omega) (by omega) (Qb.2 (Int.natAbs_dvd.2 (Zc _ _))) Eo
       ·have hq:Dk x' y=(false,(1,0)):=by simp[Dk,e1,h2,dz,hr,TG,t1,t2]
        rw[hq];exact uO bD
      ·have hq:Dk x' y=(false,(1,0)):=by simp[Dk,e1,h2,dz,hr,TG,t1]
       rw[hq];exact uO bD
   ·have hq:Dk x' y'=(false,(1,0)):=by simp[Dk,e1,e2,dz]
    rw[hq];exact uO bD
  ·have:Dk x y=ld:=by simp[Dk,h1,h2]
   rw[this];rfl
 ·have:Dk x y=ld:=by simp[Dk,h1]
  rw[this];rfl
theorem dZ:Pd (po x y) (po x' y')=true:=by
 have bD:CR (po x y):=(mod_eq hx hy).2.2;cases h1:x.1
 ·cases h2:y.1
  ·obtain⟨e1,d1,d2⟩:=Be hx Eg h h1;obtain⟨e2,d3,d4⟩:=Be hy Ze h' h2;by_cases hz:y.2.1=0/\y.2.2=0
   ·have:po x y=ld:=by simp[po,h1,h2,hz]
    rw[this];rfl
   ·by_cases ZF:y'.2.1=0/\y'.2.2=0
    ·have e:=Fh hy Ze h' h2 ZF.1;rw[e]at hz;exact absurd ZF hz
    ·by_cases Wd:x'.2.1=0/\y'.2.1=0
     ·have e:=Fh hx Eg h h1 Wd.1;have e':=Fh hy Ze h' h2 Wd.2;subst e;subst e';exact mg bD
     ·have hq:po x' y'=nf (Ea (Ea x'.2.1.natAbs y'.2.1.natAbs) y'.2.2.natAbs:Nat) x'.2.2:=by simp[po,e1,e2,ZF,Wd]
      rw[hq];have G1:((Ea (Ea x'.2.1.natAbs y'.2.1.natAbs) y'.2.2.natAbs:Nat):Int) ∣ x'.2.1:=Qb.1 (yb (kW _ _) (kW _ _));have G2:((Ea (Ea x'.2.1.natAbs y'.2.1.natAbs) y'.2.2.natAbs:Nat):Int) ∣ y'.2.1:=Qb.1 (yb (kW _ _) (kY _ _));have G3:((Ea (Ea x'.2.1.natAbs y'.2.1.natAbs) y'.2.2.natAbs:Nat):Int) ∣ y'.2.2:=Qb.1 (kY _ _);have hg:(0:Int)<=((Ea (Ea x'.2.1.natAbs y'.2.1.natAbs) y'.2.2.natAbs:Nat):Int):=by omega
      generalize((Ea (Ea x'.2.1.natAbs y'.2.1.natAbs) y'.2.2.natAbs:Nat):Int)=G at G1 G2 G3 hg ⊢;have G4:G ∣ y.2.2:=by
       rw[show y.2.2=(y.2.2-y'.2.2)+y'.2.2 by omega];exact cg (yb G2 d4) G3
      by_cases hb:x.2.1=0/\y.2.1=0
      ·have:po x y=nf 0 (zb x.2.2 y.2.2):=by
        have hr:¬y.2.2=0:=λe=>hz ⟨hb.2,e⟩
        simp[po,h1,h2,hb,hr]
       rw[this];refine cls (Bd _) hg (Yo _) ?_;have e:=Int.tmod_add_mul_tdiv x.2.2 y.2.2;rw[show zb x.2.2 y.2.2-x'.2.2=(x.2.2-x'.2.2)-y.2.2 * jb x.2.2 y.2.2 by omega];exact ag (yb G1 d2) (yb G4 (Zc _ _))
      ·have:po x y=nf (Ea (Ea x.2.1.natAbs y.2.1.natAbs) y.2.2.natAbs:Nat) x.2.2:=by simp[po,h1,h2,hz,hb]
       rw[this];exact cls (by omega) hg (dgd (dgd (Qb.2 (yb G1 d1)) (Qb.2 (yb G2 d3))) (Qb.2 G4)) (yb G1 d2)
  ·have:po x y=ld:=by simp[po,h1,h2]
   rw[this];rfl
 ·have:po x y=ld:=by simp[po,h1]
  rw[this];rfl
end
structure Vv(a b:List ga):Prop where
 e:a.length=b.length
 ca:∀i,i<a.length->CR (gx a i Aa)
 cb:∀i,i<a.length->CR (gx b i Aa)
 le:∀i,i<a.length->Pd (gx a i Aa) (gx b i Aa)=true
theorem UY{g:Ba}{a b:Ga}{y:Lb}{v w:Int->ga}(hd:wk y=true)(hi:Idx g y)(ha:vi g a)(hl:Vv a.2.2 b.2.2)(h:Ops y λx=>CR (v x)/\CR (w x)/\Pd (v x) (w x)=true):Pd (kO g a y v) (kO g b y w)=true:=by
 obtain⟨d1,d2⟩:=Bg.1 hd;have hc:y.1=1\/y.1=2\/y.1=3\/y.1=4\/y.1=5\/y.1=6\/y.1=7\/y.1=8\/y.1=9\/y.1=10\/y.1=11\/y.1=12:=by omega
 unfold kO;rcases hc with k|k|k|k|k|k|k|k|k|k|k|k
 ·simp only[k,if_true];exact mg (zg (Bd _))
 ·obtain⟨p1,p2,p3⟩:=h.1 (.inl k);have:=sL p1 p2 p3;simpa[k]using this
 ·obtain⟨p1,p2,p3⟩:=h.1 (.inr k);have:=H8 p1 p2 p3;simpa[k]using this
 ·obtain⟨⟨p1,p2,p3⟩,q1,q2,q3⟩:=h.2 (by omega);have:=E8 p1 q1 p2 q2 p3 q3;simpa[k]using this
 ·obtain⟨⟨p1,p2,p3⟩,q1,q2,q3⟩:=h.2 (by omega);have:=yY p1 q1 p2 q2 p3 q3;simpa[k]using this
 ·obtain⟨⟨p1,p2,p3⟩,q1,q2,q3⟩:=h.2 (by omega);have:=bZ p1 q1 p2 q2 p3 q3;simpa[k]using this
 ·obtain⟨⟨p1,p2,p3⟩,q1,q2,q3⟩:=h.2 (by omega);have:=U7 p1 q1 p2 q2 p3 q3;simpa[k]using this
 ·obtain⟨⟨p1,p2,p3⟩,q1,q2,q3⟩:=h.2 (by omega);have:=dZ p1 q1 p2 q2 p3 q3;simpa[k]using this
 ·obtain⟨⟨p1,p2,p3⟩,q1,q2,q3⟩:=h.2 (by omega);have:=ZR p1 q1 p2 q2 p3 q3;simpa[k]using this
 ·obtain⟨⟨p1,p2,p3⟩,q1,q2,q3⟩:=h.2 (by omega);have:=ZR p1 q1 p2 q2 p3 q3;simpa[k]using this
 ·obtain⟨u1,u2⟩:=hi.k11 (.inl k);have hil:=ha.il;have:=hl.le y.2.2.1.toNat (by omega);simpa[k]using this
 ·simp only[k];by_cases e:(gx (Tr g) y.2.2.1.toNat Ob).2.2.1=(gx (Tr g) y.2.2.1.toNat Ob).2.2.2
  ·have:=mg (zg (x:=(gx (Tr g) y.2.2.1.toNat Ob).2.2.1) (Bd 0));simpa[e]using this
  ·have:=mg dA;simpa[e]using this
section
variable {g:Ba}{D:List Int}{a b:Ga}
theorem Qs(hG:Fe g D)(ha:vi g a)(hb:vi g b)(hv:Vv a.2.1 b.2.1)(hw:Vv a.2.2 b.2.2){oa ob:List ga}(ho:Vo g a g.1.length oa)(hp:Vo g b g.1.length ob):
  ∀(n:Nat),n<=g.1.length->∀x:Int,(0<=x/\x<((af g).length:Int))\/(∃j,j<n/\j<g.1.length/\wk (at' g j)=true/\(at' g j).2.1=x)->CR (gx oa x.toNat Aa)/\CR (gx ob x.toNat Aa)/\Pd (gx oa x.toNat Aa) (gx ob x.toNat Aa)=true
 |0,_,x,hx=>by
  rcases hx with⟨h0,h1⟩|⟨j,hj,_⟩
  ·have e:=ha.sl;rw[ho.sc x.toNat (by omega),hp.sc x.toNat (by omega)];exact⟨hv.ca _ (by omega),hv.cb _ (by omega),hv.le _ (by omega)⟩
  ·exact absurd hj (Td _)
 |n+1,hn,x,hx=>by
  rcases hx with hx|⟨j,hj,bW,DA,e⟩
  ·exact Qs hG ha hb hv hw ho hp n (by omega) x (.inl hx)
  ·by_cases hjn:j<n
   ·exact Qs hG ha hb hv hw ho hp n (by omega) x (.inr ⟨j,hjn,bW,DA,e⟩)
   ·have:j=n:=by omega
    subst this;obtain⟨a1,a2⟩:=ho.df j bW DA;obtain⟨b1,b2⟩:=hp.df j bW DA;have Kg:=hG.Kg j bW;rw[e]at a1 a2 b1 b2;refine⟨a2,b2,?_⟩;rw[a1,b1];refine UY DA Kg.idx ha hw (Zv λz hz=> ?_);obtain⟨z1,z2,z3⟩:=Ri hG (Kg.use z hz);refine Qs hG ha hb hv hw ho hp j (by omega) z ?_;rcases z3 with z3|⟨j',w1,w2,w3,w4⟩
    ·exact .inl ⟨z1,z3⟩
    ·exact .inr ⟨j',w1,w2,w3,w4⟩
theorem Ny(hG:Fe g D){x:Int}(h0:0<=x)(h1:x<g.2.2.1):(0<=x/\x<((af g).length:Int))\/(∃j,j<g.1.length/\j<g.1.length/\wk (at' g j)=true/\(at' g j).2.1=x):=by
 rcases Pv x ((af g).length:Int)with h4|h4
 ·exact .inl ⟨h0,h4⟩
 ·have hr:=hG.defs.rV;obtain⟨k,hk⟩:=Ad (show 0<=x-((af g).length:Int)by omega);obtain⟨j,d1,d2,d3,d4⟩:=hG.defs.dn k (by omega);exact .inr ⟨j,d2,d2,d3,by omega⟩
theorem W9(hG:Fe g D)(ha:vi g a)(hb:vi g b)(hv:Vv a.2.1 b.2.1)(hw:Vv a.2.2 b.2.2){oa ob:List ga}(ho:Vo g a g.1.length oa)(hp:Vo g b g.1.length ob){x:Int}(h0:0<=x)(h1:x<g.2.2.1):
 CR (gx oa x.toNat Aa)/\CR (gx ob x.toNat Aa)/\Pd (gx oa x.toNat Aa) (gx ob x.toNat Aa)=true:=Qs hG ha hb hv hw ho hp g.1.length (ya _) x (Ny hG h0 h1)
end
end Go.U
end
section
set_option maxRecDepth 20000
namespace Go.U
open Go
def Vu(op x y:Int):Bool:=cond (decide (op=14)) (decide (x=y)) (cond (decide (op=15)) (!(decide (x=y))) (cond (decide (op=16)) (decide (x<y)) (cond (decide (op=17)) (decide (x<=y)) (cond (decide (op=18)) (decide (y<x)) (decide (y<=x))))))
theorem Baa(op x y:Int):Jz (op,x,y)=some (Vu op x y):=by
 unfold Jz uJ Vu;simp only;cases decide (op=14)
 ·cases decide (op=15)
  ·cases decide (op=16)
   ·cases decide (op=17)
    ·cases decide (op=18)<;>rfl
    ·rfl
   ·rfl
  ·rfl
 ·rfl
def VH(op:Int)(a b:ga):Prop:=a.1=true\/b.1=true\/(a.2.1=0/\b.2.1=0/\Vu op a.2.2 b.2.2=false)
open Classical in
noncomputable def mh(op:Int)(a b:ga):ga×ga:=
 if op<14\/19<op then(a,b)else if VH op a b then(ld,ld)else if op=14 then(pg a b,pg a b)else(a,b)
theorem zab{op:Int}{a b:ga}(ha:CR a)(hb:CR b):Kr (op,a,b)=some (mh op a b):=by
 unfold Kr nK mh VH;simp only;by_cases o1:op<14
 ·simp[o1]
 ·by_cases o2:19<op
  ·simp[o2]
  ·simp only[o1,o2,decide_false,cond_false,or_self,if_false];have hm:=(Bi ha hb).1;have fin:(cond (decide (op=14)) ((Bj (a,b)).bind λr=>some (r,r)) (some (a,b)))=some (if op=14 then(pg a b,pg a b)else(a,b)):=by
    rw[hm];by_cases o3:op=14
    ·simp[o3]
    ·simp[o3]
   cases h1:a.1
   ·cases h2:b.1
    ·simp only[cond_false,Xb,false_or];by_cases c1:a.2.1=0
     ·by_cases c2:b.2.1=0
      ·simp only[c1,c2,decide_true,cond_true,true_and];rw[Baa];simp only[da];cases hh:Vu op a.2.2 b.2.2
       ·simp[ld]
       ·simp only[Ub,cond_false,Bool.true_eq_false,if_false];exact fin
      ·simp only[c1,c2,decide_true,decide_false,cond_true,cond_false,false_and,and_false,if_false];exact fin
     ·simp only[c1,decide_false,cond_false,false_and,if_false];exact fin
    ·simp[ld]
   ·simp[ld]
theorem Lq{op:Int}{a b:ga}(ha:CR a)(hb:CR b):CR (mh op a b).1/\CR (mh op a b).2:=by
 have hm:=(Bi ha hb).2.1;unfold mh;split
 ·exact⟨ha,hb⟩
 ·split
  ·exact⟨be,be⟩
  ·split
   ·exact⟨hm,hm⟩
   ·exact⟨ha,hb⟩
theorem PN{op:Int}{a b a' b':ga}(ha:CR a)(hb:CR b)(ZG:CR a')(Wd:CR b')(h:Pd a a'=true)(h':Pd b b'=true):Pd (mh op a b).1 (mh op a' b').1=true/\Pd (mh op a b).2 (mh op a' b').2=true:=by
 unfold mh;by_cases o:op<14\/19<op
 ·rw[if_pos o,if_pos o];exact⟨h,h'⟩
 ·rw[if_neg o,if_neg o];by_cases n:VH op a b
  ·rw[if_pos n];exact⟨rfl,rfl⟩
  ·have n':¬VH op a' b':=λhn=>n (by
    unfold VH at n hn ⊢;cases h1:a.1
    ·cases h2:b.1
     ·rcases hn with hn|hn|⟨z1,z2,hn⟩
      ·have:=(Be ha ZG h h1).1;rw[hn]at this;cases this
      ·have:=(Be hb Wd h' h2).1;rw[hn]at this;cases this
      ·have e1:=Fh ha ZG h h1 z1;have e2:=Fh hb Wd h' h2 z2;rw[e1,e2];exact .inr (.inr ⟨z1,z2,hn⟩)
     ·exact .inr (.inl rfl)
    ·exact .inl rfl)
   rw[if_neg n,if_neg n'];by_cases e:op=14
   ·rw[if_pos e,if_pos e];have:=meet_mono ha hb ZG Wd h h';exact⟨this,this⟩
   ·rw[if_neg e,if_neg e];exact⟨h,h'⟩
def gl(op:Int):Int:=if op=14 then 15 else if op=15 then 14 else if op=16 then 19 else if op=17 then 18 else if op=18 then 17 else 16
theorem Cab{op:Int}(h0:14<=op)(h1:op<=19):UE op=some (gl op):=by
 have:op=14\/op=15\/op=16\/op=17\/op=18\/op=19:=by omega
 rcases this with rfl|rfl|rfl|rfl|rfl|rfl<;>decide +kernel
noncomputable def qk(S:Int)(v:List ga)(r:Int)(c:ga):Option (List ga):=
 if r<S then(if(pg (gx v r.toNat Aa) c).1=true then none else some (v.set r.toNat (pg (gx v r.toNat Aa) c)))else some v
structure IK(S:Int)(v:List ga):Prop where
 n:(v.length:Int)=S
 c:∀i,i<v.length->CR (gx v i Aa)
theorem Oy{S:Int}{v w:List ga}{r:Int}{c:ga}(hv:IK S v)(h0:0<=r)(hc:CR c)(h:qk S v r c=some w):IK S w:=by
 unfold qk at h;by_cases hr:r<S
 ·rw[if_pos hr]at h;have hn:=hv.n;have hm:=(Bi (hv.c r.toNat (by omega)) hc).2.1;split at h
  ·cases h
  ·injection h with h
   subst h;refine⟨by simpa using hn,λi hi=> ?_⟩;rw[Nc (by omega)];split
   ·exact hm
   ·exact hv.c i (by simpa using hi)
 ·rw[if_neg hr]at h;injection h with h
  subst h;exact hv
theorem JG{S:Int}{v w v':List ga}{r:Int}{c c':ga}(hv:IK S v)(ot:IK S v')(hl:Vv v v')(h0:0<=r)(hc:CR c)(Gn:CR c')(h:Pd c c'=true)(hw:qk S v r c=some w):∃w',qk S v' r c'=some w'/\Vv w w':=by
 unfold qk at hw ⊢;by_cases hr:r<S
 ·rw[if_pos hr]at hw ⊢;have hn:=hv.n;have MZ:=ot.n;have l1:=hl.ca r.toNat (by omega);have l2:=hl.cb r.toNat (by omega);have l3:=hl.le r.toNat (by omega);have hm:=(Bi l1 hc).2.1;have dz:=(Bi l2 Gn).2.1;have hle:=meet_mono l1 hc l2 Gn l3 h;split at hw
  ·cases hw
  ·rename_i k;injection hw with hw
   subst hw;have k':(pg (gx v' r.toNat Aa) c').1=false:=(Be hm dz hle (by simpa using k)).1;rw[if_neg (by rw[k'];simp)];refine⟨_,rfl,by simp[hl.e],λi hi=> ?_,λi hi=> ?_,λi hi=> ?_⟩
   ·rw[Nc (by omega)];split
    ·exact hm
    ·exact hl.ca i (by simpa using hi)
   ·rw[Nc (by omega)];split
    ·exact dz
    ·exact hl.cb i (by simpa using hi)
   ·rw[Nc (by omega),Nc (by omega)];split
    ·exact hle
    ·exact hl.le i (by simpa using hi)
 ·rw[if_neg hr]at hw ⊢;injection hw with hw
  subst hw;exact⟨_,rfl,hl⟩
noncomputable def refs(S:Int)(v:List ga)(A B:Int)(p q:ga):Option (List ga):=(qk S v A p).bind λw=>qk S w B q
theorem qaf{g:Ba}{s:Ga}{T:List (Int×Lb)}{M:List (Int×ga)}{ar v:List ga}{A B:Int}{x y:Bool}{p q:ga}(hv:IK ((af g).length:Int) v)(hA:0<=A)(hB:0<=B)(hp:CR p)(hq:CR q):
  ∃e,Ua (Vj.m (A,B,x,y,(p,q),g,s,T,M,ar)) (0,v)=some e/\((refs ((af g).length:Int) v A B p q=none/\∃u,e= .inl u)\/∃w,refs ((af g).length:Int) v A B p q=some w/\e= .inr w):=by
 refine Gc (step:=Vj.m (A,B,x,y,(p,q),g,s,T,M,ar)) (t:=(0,v)) (λt=>t=(0,v)\/(∃w,t=(1,w)/\qk ((af g).length:Int) v A p=some w)\/∃w,t=(2,w)/\refs ((af g).length:Int) v A B p q=some w) (λt=>2-t.1.toNat) _ (.inl rfl) (by simp) λt ht=> ?_
 have w0:Ka ((0:Int)+1)=1:=by decide
 have w1:Ka ((1:Int)+1)=2:=by decide
 have t0:(0:Int)<2:=by decide
 have t1:(1:Int)<2:=by decide
 have t10:¬(1:Int)=0:=by decide
 rcases ht with rfl|⟨w,rfl,hw⟩|⟨w,rfl,hw⟩
 ·simp only[LD.m,Vj,t0,decide_true,cond_true,nt];by_cases hr:A<((af g).length:Int)
  ·have bj:A<(fa g.2.2.2.2.2.1:Int):=hr;have hn:=hv.n;have hi:A<(v.length:Int):=by omega
   have fY:A<((Wb v A.toNat (pg (gx v A.toNat Aa) p)).length:Int):=by simpa using hi
   have hm:=Bi (hv.c A.toNat (by omega)) hp;simp only[bj,decide_true,cond_true,Sd hA hi,Fa];rw[hm.1];simp only[da,Sd hA fY,Fa];rw[Nc (by omega),if_pos rfl];cases hb:(pg (gx v A.toNat Aa) p).1
   ·simp only[cond_false,w0];exact .inl ⟨_,rfl,.inr (.inl ⟨_,rfl,by unfold qk;rw[if_pos hr,if_neg (by rw[hb];simp)]⟩),by simp⟩
   ·simp only[cond_true];exact .inr ⟨_,rfl,.inl ⟨by unfold refs qk;rw[if_pos hr,if_pos hb];rfl,_,rfl⟩⟩
  ·have bj:¬A<(fa g.2.2.2.2.2.1:Int):=hr;simp only[bj,decide_false,cond_false,w0];exact .inl ⟨_,rfl,.inr (.inl ⟨_,rfl,by unfold qk;rw[if_neg hr]⟩),by simp⟩
 ·have WX:=Oy hv hA hp hw;have SL:refs ((af g).length:Int) v A B p q=qk ((af g).length:Int) w B q:=by unfold refs;rw[hw];rfl
  simp only[LD.m,Vj,t1,t10,decide_true,decide_false,cond_true,cond_false,nt];by_cases hr:B<((af g).length:Int)
  ·have bj:B<(fa g.2.2.2.2.2.1:Int):=hr;have hn:=WX.n;have hi:B<(w.length:Int):=by omega
   have fY:B<((Wb w B.toNat (pg (gx w B.toNat Aa) q)).length:Int):=by simpa using hi
   have hm:=Bi (WX.c B.toNat (by omega)) hq;simp only[bj,decide_true,cond_true,Sd hB hi,Fa];rw[hm.1];simp only[da,Sd hB fY,Fa];rw[Nc (by omega),if_pos rfl];cases hb:(pg (gx w B.toNat Aa) q).1
   ·simp only[cond_false,w1];exact .inl ⟨_,rfl,.inr (.inr ⟨_,rfl,by rw[SL];unfold qk;rw[if_pos hr,if_neg (by rw[hb];simp)]⟩),by simp⟩
   ·simp only[cond_true];exact .inr ⟨_,rfl,.inl ⟨by rw[SL];unfold qk;rw[if_pos hr,if_pos hb],_,rfl⟩⟩
  ·have bj:¬B<(fa g.2.2.2.2.2.1:Int):=hr;simp only[bj,decide_false,cond_false,w1];exact .inl ⟨_,rfl,.inr (.inr ⟨_,rfl,by rw[SL];unfold qk;rw[if_neg hr]⟩),by simp⟩
 ·simp only[LD.m,Vj,Tb,decide_false,cond_false];exact .inr ⟨_,rfl,.inr ⟨_,hw,rfl⟩⟩
end Go.U
end
section
set_option maxRecDepth 20000
namespace Go.U
open Go
theorem Vq{α:Type}{l:List α}{d:α}:(mb l.length).map (λj=>gx l j d)=l:=by
 refine List.ext_getElem (by simp) λi h1 h2=> ?_
 simp[gx,Qi,Da h2]
theorem Np{α:Type}{n:Nat}{F:Nat->α}{d:α}{i:Nat}(h:i<n):gx ((mb n).map F) i d=F i:=by simp[gx,Qi,h]
theorem vA{n:Nat}(h:n<=1048576):(decide (n * 24<=70368744177664)&&decide (n<9223372036854775808))=true:=by simp;omega
theorem vm{n:Nat}(hn:n<=1048576){F:Nat->ga}{step:Int×List ga->Option ((Int×List ga) ⊕ List ga)}(hs:∀(i:Nat)(l:List ga),i<n->l.length=i->step ((i:Int),l)=some (.inl (Ka ((i:Int)+1),l++[F i])))
  (he:∀l,step ((n:Int),l)=some (.inr l)):Ua step (0,[])=some ((mb n).map F):=
 BL (n:=n) (λi=>((i:Int),(mb i).map F)) _ (by omega) (λt=>n-t.1.toNat) (λi hi=>by simp) (λi hi=>by
  rw[hs i _ hi (by simp),Ya (by omega) (by omega),List.range_succ,List.map_append];rfl) (he _)
def Mq(a:List ga)(F:Nat->ga)(n i:Nat):List ga:=(mb n).map λj=>if j<i then F j else gx a j Aa
theorem GG{a:List ga}{F:Nat->ga}{n i:Nat}:(Mq a F n i).length=n:=by simp[Mq]
theorem CY{a:List ga}{F:Nat->ga}{n i:Nat}(h:i<n):gx (Mq a F n i) i Aa=gx a i Aa:=by
 unfold Mq;rw[Np h,if_neg (Nat.lt_irrefl _)]
theorem cV{a:List ga}{F:Nat->ga}{n i:Nat}(h:i<n):Wb (Mq a F n i) i (F i)=Mq a F n (i+1):=by
 refine List.ext_getElem (by simp[Mq]) λk h1 h2=> ?_
 rw[List.getElem_set];simp only[Mq,List.getElem_map,List.getElem_range];by_cases hk:i=k
 ·subst hk;simp
 ·rw[if_neg hk];by_cases h3:k<i
  ·rw[if_pos h3,if_pos (by omega)]
  ·rw[if_neg h3,if_neg (by omega)]
theorem YN{a:List ga}{F:Nat->ga}:Mq a F a.length 0=a:=by
 refine Eq.trans ?_ (Vq (d:=Aa));exact List.map_congr_left λj hj=>if_neg (Td _)
theorem dV{a:List ga}{F:Nat->ga}{n:Nat}:Mq a F n n=(mb n).map F:=
 List.map_congr_left λj hj=>if_pos (jg.1 hj)
theorem AL{a:List ga}(hn:a.length<=1048576){F:Nat->ga}{step:Int×List ga->Option ((Int×List ga) ⊕ List ga)}(hs:∀(i:Nat)(l:List ga),i<a.length->l.length=a.length->gx l i Aa=gx a i Aa->step ((i:Int),l)=some (.inl (Ka ((i:Int)+1),Wb l i (F i))))
  (he:∀l,l.length=a.length->step ((a.length:Int),l)=some (.inr l)):Ua step (0,a)=some ((mb a.length).map F):=by
 have:=BL (n:=a.length) (step:=step) (λi=>((i:Int),Mq a F a.length i)) ((mb a.length).map F) (by omega) (λt=>a.length-t.1.toNat) (λi hi=>by simp) (λi hi=>by
  rw[hs i _ hi GG (CY hi),Ya (by omega) (by omega),cV hi];rfl) (by rw[he _ GG,dV])
 simp only[YN]at this;exact this
def Ce(a b:List ga):List ga:=(mb a.length).map λi=>Pf (gx a i Aa) (gx b i Aa)
structure yN(a b:List ga):Prop where
 n:a.length<=1048576
 e:a.length=b.length
 ca:∀i,i<a.length->CR (gx a i Aa)
 cb:∀i,i<a.length->CR (gx b i Aa)
theorem oC{a l:List ga}{i:Nat}{c:ga}(h1:CR (gx a i Aa))(h2:CR c)(e:gx l i Aa=gx a i Aa):Xl (i,c,l)=some (Wb l i (Pf (gx a i Aa) c)):=by
 unfold Xl Ds;simp only;rw[e,(join_eq h1 h2).1];rfl
def dr(a b:List ga):Bool:=(mb a.length).all λi=>Pd (gx a i Aa) (gx b i Aa)
structure xN(a b:Ga):Prop where
 v:yN a.2.1 b.2.1
 w:yN a.2.2 b.2.2
def Fl(a b:Ga):Bool:=cond a.1 (cond b.1 (dr a.2.1 b.2.1&&dr a.2.2 b.2.2) false) true
def Af(a b:Ga):Ga:=cond a.1 (cond b.1 (true,(Ce a.2.1 b.2.1,Ce a.2.2 b.2.2)) a) b
structure Small(a:Ga):Prop where
 v:a.2.1.length<=1048576
 w:a.2.2.length<=1048576
end Go.U
end
section
set_option maxRecDepth 20000
namespace Go.U
open Go
theorem qC{a b:ga}{f:Bool}(h1:CR a)(h2:CR b):Yl (a,b,f)=some (cond (Pd a b) (.inr ()) (.inl ())):=by
 unfold Yl Es;simp only;rw[Eai h1 h2];simp only[da];cases Pd a b<;>rfl
theorem iab{f:Bool}{a b:Ga}(h:yN a.2.1 b.2.1)(h':yN a.2.2 b.2.2):Uz (a,b,f)=some (cond (dr a.2.1 b.2.1&&dr a.2.2 b.2.2) (.inr ()) (.inl ())):=by
 unfold Uz aK;rw[Zh (n:=a.2.1.length) (by have:=h.n;omega) (p:=λi=>Pd (gx a.2.1 i Aa) (gx b.2.1 i Aa)) (λi hi=>by
  have h1:(i:Int)<(a.2.1.length:Int):=by omega
  have h3:i<b.2.1.length:=by have:=h.e;omega
  simp only[LD.m,Rx,nt,h1,decide_true,cond_true,Tk hi,Tk h3,Fa,Pa];rw[qC (h.ca i hi) (h.cb i hi)];simp only[da];cases Pd (gx a.2.1 i Aa) (gx b.2.1 i Aa)<;>rfl) (by
  simp only[LD.m,Rx,nt,Tb,decide_false,cond_false])]
 simp only[da];show _=some (cond (dr a.2.1 b.2.1&&dr a.2.2 b.2.2) _ _);unfold dr;cases(mb a.2.1.length).all λi=>Pd (gx a.2.1 i Aa) (gx b.2.1 i Aa)
 ·rfl
 ·simp only[cond_true,zi,Od];rw[Zh (n:=a.2.2.length) (by have:=h'.n;omega) (p:=λi=>Pd (gx a.2.2 i Aa) (gx b.2.2 i Aa)) (λi hi=>by
   have h1:(i:Int)<(a.2.2.length:Int):=by omega
   have h3:i<b.2.2.length:=by have:=h'.e;omega
   simp only[LD.m,Qx,nt,h1,decide_true,cond_true,Tk hi,Tk h3,Fa,Pa];rw[qC (h'.ca i hi) (h'.cb i hi)];simp only[da];cases Pd (gx a.2.2 i Aa) (gx b.2.2 i Aa)<;>rfl) (by
   simp only[LD.m,Qx,nt,Tb,decide_false,cond_false])]
  simp only[da];cases(mb a.2.2.length).all λi=>Pd (gx a.2.2 i Aa) (gx b.2.2 i Aa)<;>rfl
theorem BP{a b:Ga}(h:a.1=true->b.1=true->xN a b):uq (a,b)=some (Fl a b):=by
 unfold uq WT Fl;cases h1:a.1
 ·simp[h1]
 ·cases h2:b.1
  ·simp[h1,h2]
  ·obtain⟨hv,hw⟩:=h h1 h2;simp only[h1,h2,Ub,cond_false,cond_true,PD.m,nE];rw[iab hv hw];simp only[da];cases dr a.2.1 b.2.1&&dr a.2.2 b.2.2<;>rfl
theorem yX{p:Bool}{a b:List ga}{m:Ga}(h:yN a m.2.1)(h':yN b m.2.2):Ho (p,a,b,m)=some (Ce a m.2.1,Ce b m.2.2):=by
 unfold Ho Px;rw[AL (a:=a) h.n (F:=λi=>Pf (gx a i Aa) (gx m.2.1 i Aa)) (λi l hi hl hg=>by
  have h1:(i:Int)<(a.length:Int):=by omega
  have h2:i<l.length:=by omega
  have h3:i<m.2.1.length:=by have:=h.e;omega
  simp only[LD.m,Jo,nt,h1,decide_true,cond_true,Tk h2,Tk h3,Fa,Pa];rw[oC (h.ca i hi) (h.cb i hi) hg];rfl) (λl hl=>by
  simp only[LD.m,Jo,nt,Tb,decide_false,cond_false])]
 simp only[da];rw[AL (a:=b) h'.n (F:=λi=>Pf (gx b i Aa) (gx m.2.2 i Aa)) (λi l hi hl hg=>by
  have h1:(i:Int)<(b.length:Int):=by omega
  have h2:i<l.length:=by omega
  have h3:i<m.2.2.length:=by have:=h'.e;omega
  simp only[LD.m,Io,nt,h1,decide_true,cond_true,Tk h2,Tk h3,Fa,Pa];rw[oC (h'.ca i hi) (h'.cb i hi) hg];rfl) (λl hl=>by
  simp only[LD.m,Io,nt,Tb,decide_false,cond_false])]
 rfl
theorem dJ{a:Ga}(h:Small a):tq a=some ():=by
 unfold tq xT;simp only[vA h.v,vA h.w,Fa]
theorem Hai{a b:Ga}(hd:b.1=false->b=(false,([],[])))(sa:Small a)(sb:Small b)(h:a.1=true->b.1=true->xN a b):aB (a,b)=some (Af a b):=by
 unfold aB VT Af;obtain⟨a1,a2,a3⟩:=a;obtain⟨b1,b2,b3⟩:=b;simp only at hd h ⊢;cases a1
 ·cases b1
  ·rw[hd rfl];rfl
  ·simp only[Ub,Sb,cond_false,cond_true];rw[dJ sb];rfl
 ·cases b1
  ·simp only[Ub,Sb,cond_false,cond_true];rw[dJ sa];rfl
  ·obtain⟨hv,hw⟩:=h rfl rfl;simp only[Ub,Sb,cond_false,cond_true,PD.m,vz];rw[dJ sa];simp only[da];rw[yX hv hw];rfl
end Go.U
end
section
set_option maxRecDepth 20000
namespace Go.U
open Go
def Ye:Ga:=(false,([],[]))
noncomputable def Yh(g:Ba)(s:Ga)(out:List ga)(y:Lb)(way:Int):Ga:=
 if 2<=y.1/\y.1<=8 then(if(gx out y.2.1.toNat Aa).1=true then Ye else s)
 else if y.1=13 then(if(uh (gx out y.2.2.1.toNat Aa) (gx (af g) y.2.1.toNat ud).2.1).1=true then Ye else(s.1,(s.2.1.set y.2.1.toNat (uh (gx out y.2.2.1.toNat Aa) (gx (af g) y.2.1.toNat ud).2.1),s.2.2)))
 else if y.1=14 then(if(uh (gx out y.2.1.toNat Aa) (gx (Rg g) y.2.2.1.toNat Ob).2.1).1=true then Ye else(s.1,(s.2.1,s.2.2.set y.2.2.1.toNat (if 1<(gx (Rg g) y.2.2.1.toNat Ob).2.2.1 then Pf (gx s.2.2 y.2.2.1.toNat Aa) (uh (gx out y.2.1.toNat Aa) (gx (Rg g) y.2.2.1.toNat Ob).2.1)else uh (gx out y.2.1.toNat Aa) (gx (Rg g) y.2.2.1.toNat Ob).2.1))))
 else if y.1=15 then(if(mh (if way=1 then gl y.2.2.2.2.1 else y.2.2.2.2.1) (gx out y.2.2.1.toNat Aa) (gx out y.2.2.2.1.toNat Aa)).1.1=true/\(mh (if way=1 then gl y.2.2.2.2.1 else y.2.2.2.2.1) (gx out y.2.2.1.toNat Aa) (gx out y.2.2.2.1.toNat Aa)).2.1=true then Ye
  else((refs ((af g).length:Int) s.2.1 y.2.2.1 y.2.2.2.1 (mh (if way=1 then gl y.2.2.2.2.1 else y.2.2.2.2.1) (gx out y.2.2.1.toNat Aa) (gx out y.2.2.2.1.toNat Aa)).1 (mh (if way=1 then gl y.2.2.2.2.1 else y.2.2.2.2.1) (gx out y.2.2.1.toNat Aa) (gx out y.2.2.2.1.toNat Aa)).2).map λv=>((s.1,(v,s.2.2)):Ga)).getD Ye)
 else s
section
variable {g:Ba}{D:List Int}{s:Ga}{out:List ga}{T:List (Int×Lb)}
theorem rec_eq(hG:Fe g D)(hs:vi g s)(hb:s.1=true)(ho:Vo g s g.1.length out)(hT:∀j,j<g.1.length->wk (at' g j)=true->Sm (at' g j).2.1 T=true/\Yu (at' g j).2.1 Pb T=at' g j){x:Int}(h0:0<=x)(h1:x<g.2.2.1){M:List (Int×ga)}(hM:Sn out M):
  ∃M',sg.m (x,g,s,T,M)=some (gx out x.toNat Aa,M')/\Sn out M':=by
 have hN:=hG.N;have hx:x<((af g).length:Int)\/∃j,j+1<Am/\j<g.1.length/\wk (at' g j)=true/\(at' g j).2.1=x:=by
  rcases Ny hG h0 h1 with h|⟨j,_,d2,d3,d4⟩
  ·exact .inl h.2
  ·exact .inr ⟨j,by unfold Am;omega,d2,d3,d4⟩
 exact Dae hG hs hb ho hT Am x M (by unfold Am;omega) h0 h1 hx hM
theorem yp(hG:Fe g D)(hs:vi g s)(ho:Vo g s g.1.length out){x:Int}(h0:0<=x)(h1:x<g.2.2.1):CR (gx out x.toNat Aa):=by
 rcases Ny hG h0 h1 with⟨_,h⟩|⟨j,_,d2,d3,d4⟩
 ·have:=hs.sl;rw[ho.sc _ (by omega)];exact hs.sc _ (by omega)
 ·have:=(ho.df j d2 d3).2;rw[d4]at this;exact this
theorem eo(hG:Fe g D)(hs:vi g s):Small s:=by
 have h1:=hG.S;have h2:=hG.A;have a1:=hs.sl;have a2:=hs.il;exact⟨by omega,by omega⟩
def Nk(g:Ba)(s:Ga)(j:Nat)(way:Int):Prop:=s.1=false\/way<0\/1<way\/(way=0/\(at' g j).2.2.2.2.2.2.1= -1)\/(way=1/\(at' g j).2.2.2.2.2.2.2= -1)
theorem lI{j:Nat}{way:Int}(hj:j<g.1.length):∃r,Dz.m (((j:Int),way),g,s,false)=some r/\(r=true↔Nk g s j way):=by
 simp only[PD.m,Dz,Nk];cases s.1
 ·simp
 ·by_cases w1:way<0
  ·simp[w1]
  ·by_cases w2:1<way
   ·simp[w2]
   ·simp only[w1,w2,decide_false,Ub,cond_false,Tk hj,Fa,Pa];by_cases w3:way=0
    ·subst w3;refine⟨_,rfl,?_⟩
     simp
     exact Iff.rfl
    ·have w4:way=1:=by omega
     subst w4;refine⟨_,rfl,?_⟩
     simp
     exact Iff.rfl
theorem U9(a b c d e f i h)(y:Lb):Cz.m (a,b,c,y,d,e,f,i,h)=some (decide (2<=y.1)&&decide (y.1<=8)):=by
 simp only[PD.m,Cz];cases decide (2<=y.1)<;>rfl
theorem Cx(hG:Fe g D){j:Nat}{way:Int}(hj:j<g.1.length)(hw:Nk g s j way):vl (g,s,(j:Int),way)=some Ye:=by
 unfold vl LM;obtain⟨r,h1,h2⟩:=lI (s:=s) (way:=way) hj;simp only;rw[h1];simp only[da];rw[h2.2 hw];rfl
theorem Wah(hG:Fe g D)(hs:vi g s)(hb:s.1=true)(ho:Vo g s g.1.length out)(hT:∀j,j<g.1.length->wk (at' g j)=true->Sm (at' g j).2.1 T=true/\Yu (at' g j).2.1 Pb T=at' g j){M:List (Int×ga)}(hM:Sn out M){y:Lb}{way:Int}{l:Bool}
  (hA:0<=y.2.2.1/\y.2.2.1<g.2.2.1) (hB:0<=y.2.2.2.1/\y.2.2.2.1<g.2.2.1) (hn:14<=y.2.2.2.2.1/\y.2.2.2.2.1<=19) (h15:y.1=15):
  ∃M',oH (y,way,s.1,g,s,T,M,s.2.1,s.2.2)=some (Yh g s out y way,M'):=by
 have hv:IK ((af g).length:Int) s.2.1:=⟨by have:=hs.sl;omega,hs.sc⟩;have cA:=yp hG hs ho hA.1 hA.2;have cB:=yp hG hs ho hB.1 hB.2;have Ec:∀op,op=(if way=1 then gl y.2.2.2.2.1 else y.2.2.2.2.1)->∃M',((sg.m (y.2.2.1,g,s,T,M)).bind λr2=>(sg.m (y.2.2.2.1,g,s,T,r2.2)).bind λr3=>(Kr (op,r2.1,r3.1)).bind λr4=>
   cond r4.1.1 (cond r4.2.1 (some (((false,([],[])):Ga),r3.2)) ((Ua (Vj.m (y.2.2.1,y.2.2.2.1,s.1,false,r4,g,s,T,r3.2,s.2.2)) (0,s.2.1)).bind λe=>Sum.elim (λ_=>some (((false,([],[])):Ga),r3.2)) (λw=>some ((s.1,(w,s.2.2)),r3.2)) e))
    ((Ua (Vj.m (y.2.2.1,y.2.2.2.1,s.1,false,r4,g,s,T,r3.2,s.2.2)) (0,s.2.1)).bind λe=>Sum.elim (λ_=>some (((false,([],[])):Ga),r3.2)) (λw=>some ((s.1,(w,s.2.2)),r3.2)) e))=some (Yh g s out y way,M'):=λop WG=>by
  obtain⟨M1,m1,m2⟩:=rec_eq hG hs hb ho hT hA.1 hA.2 hM;rw[m1];simp only[da];obtain⟨M2,n1,n2⟩:=rec_eq hG hs hb ho hT hB.1 hB.2 m2;rw[n1];simp only[da];rw[zab cA cB];simp only[da];obtain⟨t1,t2⟩:=Lq (op:=op) cA cB;have k1:¬(2<=y.1/\y.1<=8):=by omega
  have k2:¬y.1=13:=by omega
  have k3:¬y.1=14:=by omega
  refine⟨M2,?_⟩;unfold Yh;rw[if_neg k1,if_neg k2,if_neg k3,if_pos h15,<- WG];generalize mh op (gx out y.2.2.1.toNat Aa) (gx out y.2.2.2.1.toNat Aa)=pq at t1 t2 ⊢;obtain⟨p,q⟩:=pq;obtain⟨e,l1,l2⟩:=qaf (g:=g) (s:=s) (T:=T) (M:=M2) (ar:=s.2.2) (x:=s.1) (y:=false) hv hA.1 hB.1 t1 t2;rw[l1];simp only[da];have fin:(Sum.elim (λ_=>some (((false,([],[])):Ga),M2)) (λw=>some ((s.1,(w,s.2.2)),M2)) e)=some (((refs ((af g).length:Int) s.2.1 y.2.2.1 y.2.2.2.1 p q).map λv=>((s.1,(v,s.2.2)):Ga)).getD Ye,M2):=by
   rcases l2 with⟨r1,u,rfl⟩|⟨w,r1,rfl⟩
   ·rw[r1];rfl
   ·rw[r1];rfl
  cases hp:p.1
  ·simp only[cond_false,Xb,false_and,if_false];exact fin
  ·cases hq:q.1
   ·simp only[cond_false,cond_true,Xb,and_false,if_false];exact fin
   ·simp only[cond_true,and_self,if_true];rfl
 unfold oH tT;simp only;by_cases hw:way=1
 ·simp only[hw,decide_true,cond_true];rw[Cab hn.1 hn.2];simp only[da];subst hw;exact Ec _ (by rw[if_pos rfl])
 ·simp only[hw,decide_false,cond_false];exact Ec _ (by rw[if_neg hw])
theorem vE(hG:Fe g D)(hs:vi g s)(ho:s.1=true->Vo g s g.1.length out){j:Nat}{way:Int}(hj:j<g.1.length)(hw:¬Nk g s j way):vl (g,s,(j:Int),way)=some (Yh g s out (at' g j) way):=by
 have hb:s.1=true:=by
  cases h:s.1
  ·exact absurd (.inl h) hw
  ·rfl
 have ho:=ho hb;unfold vl LM;obtain⟨r,h1,h2⟩:=lI (s:=s) (way:=way) hj;simp only;rw[h1];have hr:r=false:=by
  cases hr:r
  ·rfl
  ·exact absurd (h2.1 hr) hw
 subst hr;simp only[da,cond_false];obtain⟨T,t1,t2⟩:=bai (s:=s) hG;rw[t1];simp only[da,Tk hj,Fa,Pa];rw[dJ (eo hG hs)];simp only[da];have hM:Sn out ([]:List (Int×ga)):=λz hz=>by cases hz
 obtain⟨y,hy⟩:∃y,at' g j=y:=⟨_,rfl⟩;have Ze:gx g.1 j Pb=y:=hy;have Kg:=hG.Kg j hj;rw[hy];rw[Ze,U9];simp only[da];have use:∀x∈jf y,0<=x/\x<g.2.2.1:=λx hx=>by
  obtain⟨a,b,_⟩:=Ri hG (Kg.use x (by rw[hy];exact hx));exact⟨a,b⟩
 have idx:=Kg.idx;have tst:=Kg.tst;rw[hy]at idx tst;simp only[PD.m,yE];have hsl:=hs.sl;have hil:=hs.il;by_cases k1:2<=y.1/\y.1<=8
 ·have d1:=k1.1;have d2:=k1.2;simp only[d1,d2,decide_true,Bool.and_self,cond_true];have hd:wk (at' g j)=true:=by rw[hy];exact Bg.2 ⟨by omega,by omega⟩
  obtain⟨u1,u2⟩:=fy hG hj hd;rw[hy]at u1 u2;obtain⟨M1,m1,m2⟩:=rec_eq hG hs hb ho t2 (by omega) u2 hM;rw[m1];simp only[da];unfold Yh;rw[if_pos k1];cases hc:(gx out y.2.1.toNat Aa).1
  ·simp
  ·simp[Ye]
 ·have b1:(decide (2<=y.1)&&decide (y.1<=8))=false:=by
   rw[Bool.and_eq_false_iff];by_cases d1:2<=y.1
   ·right;exact decide_eq_false λd2=>k1 ⟨d1,d2⟩
   ·left;exact decide_eq_false d1
  rw[b1];simp only[cond_false];simp only[PD.m,xE];by_cases k2:y.1=13
  ·obtain⟨i1,i2⟩:=idx.k13 k2;have xO:y.2.1<(fa g.2.2.2.2.2.1:Int):=i2;have i3:y.2.1<(fa s.2.1:Int):=by omega
   obtain⟨a1,a2⟩:=use y.2.2.1 (by simp[jf,k2]);obtain⟨M1,m1,m2⟩:=rec_eq hG hs hb ho t2 a1 a2 hM;simp only[k2,decide_true,cond_true];rw[m1];simp only[da,Sd i1 xO,Fa];rw[L3 (yp hG hs ho a1 a2)];simp only[da,Sd i1 i3,Fa];unfold Yh;rw[if_neg k1,if_pos k2];show _=some (if(uh (gx out y.2.2.1.toNat Aa) (gx g.2.2.2.2.2.1 y.2.1.toNat ud).2.1).1=true then Ye else(s.1,(s.2.1.set y.2.1.toNat (uh (gx out y.2.2.1.toNat Aa) (gx g.2.2.2.2.2.1 y.2.1.toNat ud).2.1),s.2.2)));cases hc:(uh (gx out y.2.2.1.toNat Aa) (gx g.2.2.2.2.2.1 y.2.1.toNat ud).2.1).1
   ·simp
   ·simp[Ye]
  ·simp only[k2,decide_false,cond_false];simp only[PD.m,Bx];by_cases k3:y.1=14
   ·obtain⟨i1,i2⟩:=idx.k11 (.inr k3);have xO:y.2.2.1<(fa g.2.2.2.2.2.2.1:Int):=i2;have i3:y.2.2.1<(fa s.2.2:Int):=by omega
    obtain⟨a1,a2⟩:=use y.2.1 (by simp[jf,k3]);obtain⟨M1,m1,m2⟩:=rec_eq hG hs hb ho t2 a1 a2 hM;have cr:=yp hG hs ho a1 a2;simp only[k3,decide_true,cond_true];rw[m1];simp only[da,Sd i1 xO,Fa];rw[L3 cr];have tcr:=Tm cr (gx g.2.2.2.2.2.2.1 y.2.2.1.toNat Ob).2.1;simp only[da];unfold Yh;rw[if_neg k1,if_neg k2,if_pos k3];show _=some (if(uh (gx out y.2.1.toNat Aa) (gx g.2.2.2.2.2.2.1 y.2.2.1.toNat Ob).2.1).1=true then Ye else(s.1,(s.2.1,s.2.2.set y.2.2.1.toNat (if 1<(gx g.2.2.2.2.2.2.1 y.2.2.1.toNat Ob).2.2.1 then Pf (gx s.2.2 y.2.2.1.toNat Aa) (uh (gx out y.2.1.toNat Aa) (gx g.2.2.2.2.2.2.1 y.2.2.1.toNat Ob).2.1)else uh (gx out y.2.1.toNat Aa) (gx g.2.2.2.2.2.2.1 y.2.2.1.toNat Ob).2.1))));generalize uh (gx out y.2.1.toNat Aa) (gx g.2.2.2.2.2.2.1 y.2.2.1.toNat Ob).2.1=c at tcr ⊢;cases hc:c.1
    ·simp only[cond_false,Xb,if_false,PD.m,Ax];by_cases k4:1<(gx g.2.2.2.2.2.2.1 y.2.2.1.toNat Ob).2.2.1
     ·simp only[k4,decide_true,cond_true,if_true,Sd i1 i3,Fa];rw[(join_eq (hs.ic y.2.2.1.toNat (by omega)) tcr).1];simp only[da,Sd i1 i3,Fa,zi]
     ·simp only[k4,decide_false,cond_false,if_false,da,Sd i1 i3,Fa,zi]
    ·simp[Ye]
   ·simp only[k3,decide_false,cond_false];by_cases k4:y.1=15
    ·simp only[k4,decide_true,cond_true];obtain⟨a1,a2⟩:=use y.2.2.1 (by simp[jf,k4]);obtain⟨b1,b2⟩:=use y.2.2.2.1 (by simp[jf,k4]);obtain⟨M1,m1⟩:=Wah (l:=false) (way:=way) hG hs hb ho t2 hM ⟨a1,a2⟩ ⟨b1,b2⟩ (tst k4) k4;rw[m1];simp only[da,Sum.elim_inl]
    ·simp only[k4,decide_false,cond_false,da,zi];unfold Yh;rw[if_neg k1,if_neg k2,if_neg k3,if_neg k4]
end
end Go.U
end
section
set_option maxRecDepth 20000
namespace Go.U
open Go
theorem LC{S:Nat}{n:Int}(h:rI S (.int .i64) n):I64 n:=by
 have e1:IntKind.i64.min= -9223372036854775808:=by decide
 have e2:IntKind.i64.max=9223372036854775807:=by decide
 obtain⟨h1,h2⟩:=h;rw[e1]at h1;rw[e2]at h2;exact⟨h1,h2⟩
theorem Uy:maxLen=9223372036854775807:=by decide
theorem gZ{g:Ba}{j:Nat}(h:j<g.1.length):at' g j∈g.1:=Eb (ym (d:=Pb) h)
theorem Y'{S:Nat}(hS:S<=maxLen){g:Ba}(h:rI S gh g):zak g:=by
 obtain⟨⟨⟨hi,_⟩,fY⟩,_,_,_,⟨⟨ha,_⟩,EF⟩,⟨⟨hs,_⟩,_⟩,⟨⟨hn,_⟩,_⟩,⟨hl,_⟩,_⟩:=h;rw[Uy]at hS;have hi:=Db hi hS;have ha:=Db ha hS;have hs:=Db hs hS;have hn:=Db hn hS;have hl:=Db hl hS;refine⟨hi,hs,ha,hn,hl,λj hj=> ?_⟩;obtain⟨_,h2,_⟩:=fY _ (gZ hj);exact LC h2
theorem mZ{S:Nat}(hS:S<=maxLen){s:Ga}(h:rI S Rc s):tF s:=by
 obtain⟨_,⟨⟨ha,_⟩,EF⟩,⟨⟨hb,_⟩,Dy⟩⟩:=h;rw[Uy]at hS;have ha:=Db ha hS;have hb:=Db hb hS;exact⟨ha,hb,λc hc=>⟨LC (EF c hc).2.1,LC (EF c hc).2.2⟩,λc hc=>⟨LC (Dy c hc).2.1,LC (Dy c hc).2.2⟩⟩
theorem JU:OM ()=some true:=by kernel_rfl
end Go.U
end
section
set_option maxRecDepth 20000
namespace Go.U
open Go
theorem C'{S:Nat}{g:Ba}(h:rI S gh g):ri g:=by
 obtain⟨⟨⟨_,_⟩,fY⟩,_,_,_,⟨⟨_,_⟩,EF⟩,_⟩:=h;refine⟨λj hj=> ?_,λj hj=> ?_⟩
 ·obtain⟨_,_,_,_,h5,_⟩:=fY _ (gZ hj);exact LC h5
 ·obtain⟨_,_,h3,_⟩:=EF _ (Eb (ym (d:=Ob) hj));exact LC h3
end Go.U
end
section
set_option maxRecDepth 20000
namespace Go.U
open Go
theorem Vv.dr{a b:List ga}(h:Vv a b):Go.U.dr a b=true:=ec.2 λi hi=>h.le i (jg.1 hi)
theorem Vv.set{a b:List ga}{c d:ga}(h:Vv a b)(hc:CR c)(hd:CR d)(hl:Pd c d=true){i:Nat}(hi:i<a.length):Vv (a.set i c) (b.set i d):=by
 have e:=h.e;refine⟨by simp[e],λk hk=> ?_,λk hk=> ?_,λk hk=> ?_⟩
 ·rw[Nc hi];split
  ·exact hc
  ·exact h.ca k (by simpa using hk)
 ·rw[Nc (by omega)];split
  ·exact hd
  ·exact h.cb k (by simpa using hk)
 ·rw[Nc hi,Nc (by omega)];split
  ·exact hl
  ·exact h.le k (by simpa using hk)
structure LeM(a b:Ga):Prop where
 live:b.1=true
 v:Vv a.2.1 b.2.1
 w:Vv a.2.2 b.2.2
def cj(a b:Ga):Prop:=a.1=true->LeM a b
theorem cj.dead{b:Ga}:cj Ye b:=λh=>by cases h
theorem cj.leq{a b:Ga}(h:cj a b):Fl a b=true:=by
 unfold Fl;cases h1:a.1
 ·rfl
 ·obtain⟨l,v,w⟩:=h h1;simp only[cond_true,l,v.dr,w.dr,Bool.and_self]
section
variable {g:Ba}{D:List Int}{a b:Ga}{oa ob:List ga}
theorem bV(hG:Fe g D)(ha:vi g a)(hb:vi g b)(hl:LeM a b)(h1:a.1=true)(ho:Vo g a g.1.length oa)(hp:Vo g b g.1.length ob){j:Nat}(hj:j<g.1.length)(way:Int):cj (Yh g a oa (at' g j) way) (Yh g b ob (at' g j) way):=by
 have Kg:=hG.Kg j hj;obtain⟨y,hy⟩:∃y,at' g j=y:=⟨_,rfl⟩;have use:∀x∈jf y,0<=x/\x<g.2.2.1:=λx hx=>by
  obtain⟨a,b,_⟩:=Ri hG (Kg.use x (by rw[hy];exact hx));exact⟨a,b⟩
 have idx:=Kg.idx;have out:=λ{x:Int}(h0:0<=x)(h1:x<g.2.2.1)=>W9 hG ha hb hl.v hl.w ho hp h0 h1
 have hsl:=ha.sl;have hil:=ha.il;have hsb:=hb.sl;rw[hy]at idx ⊢;unfold Yh;by_cases k1:2<=y.1/\y.1<=8
 ·rw[if_pos k1,if_pos k1];have hd:wk (at' g j)=true:=by rw[hy];exact Bg.2 ⟨by omega,by omega⟩
  obtain⟨u1,u2⟩:=fy hG hj hd;rw[hy]at u1 u2;obtain⟨c1,c2,c3⟩:=out (x:=y.2.1) (by omega) u2;by_cases k:(gx oa y.2.1.toNat Aa).1=true
  ·rw[if_pos k];exact .dead
  ·have k':=(Be c1 c2 c3 (by simpa using k)).1;rw[if_neg k,if_neg (show ¬(gx ob y.2.1.toNat Aa).1=true by rw[k'];simp)];exact λ_=>hl
 ·rw[if_neg k1,if_neg k1];by_cases k2:y.1=13
  ·rw[if_pos k2,if_pos k2];obtain⟨i1,i2⟩:=idx.k13 k2;obtain⟨a1,a2⟩:=use y.2.2.1 (by simp[jf,k2]);obtain⟨c1,c2,c3⟩:=out a1 a2;have t1:=Tm c1 (gx (af g) y.2.1.toNat ud).2.1;have t2:=Tm c2 (gx (af g) y.2.1.toNat ud).2.1;have t3:=BG c1 c2 c3 (gx (af g) y.2.1.toNat ud).2.1;generalize uh (gx oa y.2.2.1.toNat Aa) (gx (af g) y.2.1.toNat ud).2.1=ca at t1 t3 ⊢;generalize uh (gx ob y.2.2.1.toNat Aa) (gx (af g) y.2.1.toNat ud).2.1=cb at t2 t3 ⊢;by_cases k:ca.1=true
   ·rw[if_pos k];exact .dead
   ·have k':=(Be t1 t2 t3 (by simpa using k)).1;rw[if_neg k,if_neg (show ¬cb.1=true by rw[k'];simp)];exact λ_=>⟨hl.live,hl.v.set t1 t2 t3 (by omega),hl.w⟩
  ·rw[if_neg k2,if_neg k2];by_cases k3:y.1=14
   ·rw[if_pos k3,if_pos k3];obtain⟨i1,i2⟩:=idx.k11 (.inr k3);obtain⟨a1,a2⟩:=use y.2.1 (by simp[jf,k3]);obtain⟨c1,c2,c3⟩:=out a1 a2;have t1:=Tm c1 (gx (Rg g) y.2.2.1.toNat Ob).2.1;have t2:=Tm c2 (gx (Rg g) y.2.2.1.toNat Ob).2.1;have t3:=BG c1 c2 c3 (gx (Rg g) y.2.2.1.toNat Ob).2.1;generalize uh (gx oa y.2.1.toNat Aa) (gx (Rg g) y.2.2.1.toNat Ob).2.1=ca at t1 t3 ⊢;generalize uh (gx ob y.2.1.toNat Aa) (gx (Rg g) y.2.2.1.toNat Ob).2.1=cb at t2 t3 ⊢;by_cases k:ca.1=true
    ·rw[if_pos k];exact .dead
    ·have k':=(Be t1 t2 t3 (by simpa using k)).1;rw[if_neg k,if_neg (show ¬cb.1=true by rw[k'];simp)];refine λ_=>⟨hl.live,hl.v,?_⟩
     have hi:y.2.2.1.toNat<a.2.2.length:=by omega
     split
     ·have w1:=hl.w.ca _ hi;have w2:=hl.w.cb _ hi;exact hl.w.set (oh w1 t1) (oh w2 t2) (join_mono w1 t1 w2 t2 (hl.w.le _ hi) t3) hi
     ·exact hl.w.set t1 t2 t3 hi
   ·rw[if_neg k3,if_neg k3];by_cases k4:y.1=15
    ·rw[if_pos k4,if_pos k4];obtain⟨a1,a2⟩:=use y.2.2.1 (by simp[jf,k4]);obtain⟨b1,b2⟩:=use y.2.2.2.1 (by simp[jf,k4]);obtain⟨c1,c2,c3⟩:=out a1 a2;obtain⟨d1,d2,d3⟩:=out b1 b2;have t1:=Lq (op:=if way=1 then gl y.2.2.2.2.1 else y.2.2.2.2.1) c1 d1;have t2:=Lq (op:=if way=1 then gl y.2.2.2.2.1 else y.2.2.2.2.1) c2 d2;have t3:=PN (op:=if way=1 then gl y.2.2.2.2.1 else y.2.2.2.2.1) c1 d1 c2 d2 c3 d3;generalize mh (if way=1 then gl y.2.2.2.2.1 else y.2.2.2.2.1) (gx oa y.2.2.1.toNat Aa) (gx oa y.2.2.2.1.toNat Aa)=pq at t1 t3 ⊢;generalize mh (if way=1 then gl y.2.2.2.2.1 else y.2.2.2.2.1) (gx ob y.2.2.1.toNat Aa) (gx ob y.2.2.2.1.toNat Aa)=pq' at t2 t3 ⊢;have va:IK ((af g).length:Int) a.2.1:=⟨by omega,ha.sc⟩;have vb:IK ((af g).length:Int) b.2.1:=⟨by omega,hb.sc⟩;by_cases k:pq.1.1=true/\pq.2.1=true
     ·rw[if_pos k];exact .dead
     ·rw[if_neg k,if_neg (show ¬(pq'.1.1=true/\pq'.2.1=true)from λ⟨e1,e2⟩=>k ⟨by
       cases h:pq.1.1
       ·have:=(Be t1.1 t2.1 t3.1 h).1;rw[e1]at this;cases this
       ·rfl,by
       cases h:pq.2.1
       ·have:=(Be t1.2 t2.2 t3.2 h).1;rw[e2]at this;cases this
       ·rfl⟩)]
      unfold refs;cases hw:qk ((af g).length:Int) a.2.1 y.2.2.1 pq.1 with
      |none=>exact .dead
      |some w=>
       obtain⟨w',e1,l1⟩:=JG va vb hl.v a1 t1.1 t2.1 t3.1 hw;have va2:=Oy va a1 t1.1 hw;have vb2:=Oy vb a1 t2.1 e1;rw[e1];simp only[da];cases CO:qk ((af g).length:Int) w y.2.2.2.1 pq.2 with
       |none=>exact .dead
       |some u=>
        obtain⟨u',e2,l2⟩:=JG va2 vb2 l1 b1 t1.2 t2.2 t3.2 CO;rw[e2];exact λ_=>⟨hl.live,l2,hl.w⟩
    ·rw[if_neg k4,if_neg k4];exact λ_=>hl
theorem Si{P:Prop}[Decidable P]{x y:Ga}(hx:Small x)(hy:Small y):Small (if P then x else y):=by
 split
 ·exact hx
 ·exact hy
theorem gL{S:Int}{v w:List ga}{r:Int}{c:ga}(h:qk S v r c=some w):w.length=v.length:=by
 unfold qk at h;split at h
 ·split at h
  ·cases h
  ·injection h with h;subst h;simp
 ·injection h with h;subst h;rfl
theorem iO{S:Int}(hs:Small a)(A B:Int)(p q:ga):Small (((refs S a.2.1 A B p q).map λv=>((a.1,(v,a.2.2)):Ga)).getD Ye):=by
 have hd:Small Ye:=⟨Ac _,Ac _⟩;unfold refs;cases hw:qk S a.2.1 A p with
 |none=>exact hd
 |some w=>
  simp only[da];cases CO:qk S w B q with
  |none=>exact hd
  |some u=>exact⟨by have:=hs.v;show u.length<=_;rw[gL CO,gL hw];exact this,hs.w⟩
theorem XN(hs:Small a){j:Nat}(way:Int):Small (Yh g a oa (at' g j) way):=by
 have hd:Small Ye:=⟨Ac _,Ac _⟩;unfold Yh;exact Si (Si hd hs) (Si (Si hd ⟨by simpa using hs.v,hs.w⟩) (Si (Si hd ⟨hs.v,by simpa using hs.w⟩) (Si (Si hd (iO hs _ _ _ _)) hs)))
theorem HL(hG:Fe g D)(ha:vi g a)(hb:vi g b)(h1:a.1=true)(h2:b.1=true):LeM a (Af a b)/\LeM b (Af a b)/\vi g (Af a b):=by
 have a1:=ha.sl;have a2:=ha.il;have b1:=hb.sl;have b2:=hb.il;have e:Af a b=(true,(Ce a.2.1 b.2.1,Ce a.2.2 b.2.2)):=by unfold Af;rw[h1,h2];rfl
 have l1:(Ce a.2.1 b.2.1).length=a.2.1.length:=by unfold Ce;simp
 have l2:(Ce a.2.2 b.2.2).length=a.2.2.length:=by unfold Ce;simp
 have g1:∀i,i<a.2.1.length->gx (Ce a.2.1 b.2.1) i Aa=Pf (gx a.2.1 i Aa) (gx b.2.1 i Aa):=λi hi=>Np hi
 have g2:∀i,i<a.2.2.length->gx (Ce a.2.2 b.2.2) i Aa=Pf (gx a.2.2 i Aa) (gx b.2.2 i Aa):=λi hi=>Np hi
 rw[e];refine⟨⟨rfl,⟨l1.symm,ha.sc,λi hi=> ?_,λi hi=> ?_⟩,⟨l2.symm,ha.ic,λi hi=> ?_,λi hi=> ?_⟩⟩,⟨rfl,⟨by show b.2.1.length=(Ce a.2.1 b.2.1).length;omega,hb.sc,λi hi=> ?_,λi hi=> ?_⟩,⟨by show b.2.2.length=(Ce a.2.2 b.2.2).length;omega,hb.ic,λi hi=> ?_,λi hi=> ?_⟩⟩,⟨by show(Ce a.2.1 b.2.1).length=_;omega,by show(Ce a.2.2 b.2.2).length=_;omega,λi hi=> ?_,λi hi=> ?_⟩⟩
 ·show CR (gx (Ce a.2.1 b.2.1) i Aa);rw[g1 i hi];exact oh (ha.sc i hi) (hb.sc i (by omega))
 ·show Pd _ (gx (Ce a.2.1 b.2.1) i Aa)=true;rw[g1 i hi];exact(Jp (ha.sc i hi) (hb.sc i (by omega))).1
 ·show CR (gx (Ce a.2.2 b.2.2) i Aa);rw[g2 i hi];exact oh (ha.ic i hi) (hb.ic i (by omega))
 ·show Pd _ (gx (Ce a.2.2 b.2.2) i Aa)=true;rw[g2 i hi];exact(Jp (ha.ic i hi) (hb.ic i (by omega))).1
 ·show CR (gx (Ce a.2.1 b.2.1) i Aa);rw[g1 i (by omega)];exact oh (ha.sc i (by omega)) (hb.sc i hi)
 ·show Pd _ (gx (Ce a.2.1 b.2.1) i Aa)=true;rw[g1 i (by omega)];exact(Jp (ha.sc i (by omega)) (hb.sc i hi)).2
 ·show CR (gx (Ce a.2.2 b.2.2) i Aa);rw[g2 i (by omega)];exact oh (ha.ic i (by omega)) (hb.ic i hi)
 ·show Pd _ (gx (Ce a.2.2 b.2.2) i Aa)=true;rw[g2 i (by omega)];exact(Jp (ha.ic i (by omega)) (hb.ic i hi)).2
 ·have BA:i<a.2.1.length:=by rw[<- l1];exact hi
  show CR (gx (Ce a.2.1 b.2.1) i Aa);rw[g1 i BA];exact oh (ha.sc i BA) (hb.sc i (by omega))
 ·have BA:i<a.2.2.length:=by rw[<- l2];exact hi
  show CR (gx (Ce a.2.2 b.2.2) i Aa);rw[g2 i BA];exact oh (ha.ic i BA) (hb.ic i (by omega))
end
end Go.U
end
section
set_option maxRecDepth 20000
namespace Go.U
open Go
theorem X6{g:Ba}{s:Ga}(h:Au (g,s)=some true)(hb:s.1=false):s=(false,([],[])):=by
 obtain⟨b,v,w⟩:=s;simp only at hb;subst hb;unfold Au BH at h;cases v with
 |nil=>cases w with
  |nil=>rfl
  |cons x l=>
   have e:¬nt (l.length+1)=0:=by simp only[nt];omega
   have e0:nt 0=0:=rfl;simp[e,e0]at h
 |cons x l=>
  have e:¬nt (l.length+1)=0:=by simp only[nt];omega
  simp[e]at h
section
variable {g:Ba}{D:List Int}{a b c:Ga}
theorem LeM.refl(ha:vi g a)(h1:a.1=true):LeM a a:=⟨h1,⟨rfl,ha.sc,ha.sc,λi hi=>mg (ha.sc i hi)⟩,⟨rfl,ha.ic,ha.ic,λi hi=>mg (ha.ic i hi)⟩⟩
theorem VC(hG:Fe g D)(ha:a.1=true->vi g a)(hb:b.1=true->vi g b):cj a (Af a b)/\cj b (Af a b)/\((Af a b).1=true->vi g (Af a b)):=by
 cases h1:a.1
 ·have e:Af a b=b:=by unfold Af;rw[h1];rfl
  rw[e];exact⟨λh=>(by rw[h1]at h;cases h),λh=>LeM.refl (hb h) h,hb⟩
 ·cases h2:b.1
  ·have e:Af a b=a:=by unfold Af;rw[h1,h2];rfl
   rw[e];exact⟨λh=>LeM.refl (ha h) h,λh=>(by rw[h2]at h;cases h),ha⟩
  ·obtain⟨j1,j2,j3⟩:=HL hG (ha h1) (hb h2) h1 h2;exact⟨λ_=>j1,λ_=>j2,λ_=>j3⟩
theorem oI(hG:Fe g D)(hn:ri g)(hs:a.1=true->vi g a):∃out,a.1=true->Vo g a g.1.length out:=by
 cases h:a.1
 ·exact⟨[],λh=>by cases h⟩
 ·obtain⟨out,_,o1⟩:=O3 hG (hs h) hn;exact⟨out,λ_=>o1⟩
theorem BY(hG:Fe g D)(hn:ri g)(ha:a.1=true->vi g a)(hc:c.1=true->vi g c)(hl:cj a c){j:Nat}(hj:j<g.1.length)(way:Int):
  ∃r r',vl (g,a,(j:Int),way)=some r/\vl (g,c,(j:Int),way)=some r'/\cj r r'/\Small r:=by
 obtain⟨oa,EF⟩:=oI hG hn ha;obtain⟨oc,ZZ⟩:=oI hG hn hc;have hd:Small Ye:=⟨Ac _,Ac _⟩;by_cases wa:Nk g a j way
 ·have e:=Cx (s:=a) hG hj wa;by_cases wc:Nk g c j way
  ·exact⟨_,_,e,Cx hG hj wc,.dead,hd⟩
  ·have lc:c.1=true:=by
    cases h:c.1
    ·exact absurd (.inl h) wc
    ·rfl
   exact⟨_,_,e,vE hG (hc lc) ZZ hj wc,.dead,hd⟩
 ·have la:a.1=true:=by
   cases h:a.1
   ·exact absurd (.inl h) wa
   ·rfl
  have lm:=hl la;have wc:¬Nk g c j way:=λh=>by
   rcases h with h|h
   ·rw[lm.live]at h;cases h
   ·exact wa (.inr h)
  exact⟨_,_,vE hG (ha la) EF hj wa,vE hG (hc lm.live) ZZ hj wc,bV hG (ha la) (hc lm.live) lm la (EF la) (ZZ lm.live) hj way,XN (eo hG (ha la)) way⟩
end
theorem iV{g:Ba}{D:List Int}{a:Ga}(hG:Fe g D)(hf:a.1=true->vi g a)(hd:a.1=false->a=(false,([],[]))):Small a:=by
 cases hb:a.1
 ·rw[hd hb];exact⟨Ac _,Ac _⟩
 ·exact eo hG (hf hb)
end Go.U
end
