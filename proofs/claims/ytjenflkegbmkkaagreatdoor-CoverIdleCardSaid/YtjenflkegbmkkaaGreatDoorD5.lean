/- What these Lean functions compute: plain arithmetic of congruences, the checks of a graph, the values of its registers. -/
import Derived.Test.YtjenflkegbmkkaaGreatDoorD4
set_option linter.unusedVariables false
set_option linter.unusedSimpArgs false
set_option linter.unusedSectionVars false
open Bool renaming and_eq_true→Ia
open Int renaming toNat_natCast→Ca,lt_irrefl→Mb,eq_ofNat_of_zero_le→Yr,toNat→ga,reduceEq→oC
open List renaming length→fa,length_take→dc,length_singleton→Ar,take_length→qo
open Option renaming bind_some→da
open Sum renaming elim_inr→qt
section
set_option maxRecDepth 20000
namespace Go.U
open Go
abbrev MT:=Int×Int×Int×Int×Int×Int×Int×List Int×List (List Int)×List (List Int)
def M.t (m:M):MT:=(m.fu,m.at_,m.en,m.si,m.ki,m.ti,m.re,m.rg,m.ar,m.ma)
def M.of (t:MT):M:=⟨t.1,t.2.1,t.2.2.1,t.2.2.2.1,t.2.2.2.2.1,t.2.2.2.2.2.1,t.2.2.2.2.2.2.1,t.2.2.2.2.2.2.2.1,t.2.2.2.2.2.2.2.2.1,t.2.2.2.2.2.2.2.2.2⟩
theorem XO {ar:List (List Int)} (h:Small ar) {i:Nat} (hi:i<ar.length):(decide ((fa (gx ar i [])) * 8<=70368744177664)&&decide ((fa (gx ar i []))<9223372036854775808))=true:=by
 have:=h.2 i hi;simp only [Ia,decide_eq_true_eq];omega
theorem l7c {g g2 g3:Ba} {sc:List Int} {ar ma:List (List Int)} (h:Small ar) (z1 z2 z3 z4 z5 la:Int) (pl:List Bool) (wy:List (Bool×Bool)) (er:List Ra) (way fu a en si ki ti re:Int) (rg:List Int) (bs):
  Oa (Np.m (nt ar.length,g,z1,z2,z3,z4,z5,la,pl,wy,er,way,g2,g3,sc,(fu,(a,(en,(si,(ki,(ti,(re,(rg,(ar,ma))))))))),bs)) (0,[])=some ar:=by
 have hn:=h.1;have:=Md (step:=Np.m (nt ar.length,g,z1,z2,z3,z4,z5,la,pl,wy,er,way,g2,g3,sc,(fu,(a,(en,(si,(ki,(ti,(re,(rg,(ar,ma))))))))),bs)) (n:=ar.length) (fun i=>((i:Int),ar.take i)) ar (by omega) (fun t=>ar.length-t.1.toNat) (fun i _=>by simp) (fun i hi=>by
  have h':(i:Int)<(ar.length:Int):=by omega
  have w:Ga ((i:Int)+1)=((i+1:Nat):Int):=by rw [Sb (by omega) (by omega)];rfl
  have hl:(ar.take i).length<=16:=by rw [dc];omega
  have b2:(decide (((fa (ar.take i))+(fa ([gx ar i []]:List (List Int)))) * 24<=70368744177664)&&decide (((fa (ar.take i))+(fa ([gx ar i []]:List (List Int))))<9223372036854775808))=true:=by
   simp only [Ia,decide_eq_true_eq,Ar];omega
  simp only [LD.m,Np,nt,h',decide_true,cond_true,Rh hi,Xa,Ca,w,Qg [] hi];exact (Fe (XO h hi)).trans (Fe b2)) (by
  simp only [LD.m,Np,nt,Mb,decide_false,cond_false,qo])
 exact this
def iG (o:VR) (m:M):Int×List Bool×List (Bool×Bool)×Int×MT:=(o.1,o.2.1,o.2.2.1,o.2.2.2,m.t)
def cH (g:Ba) (er:List Ra) (sc:List Int):Ba×Int×Int×Int×Int×Int×(List Ra)×Ba×Ba×(List Int)×Bool×Bool×Bool×Bool×Bool×Bool×Bool:=(g,0,0,0,0,0,er,g,g,sc,true,true,true,true,true,false,false)
section
variable {g:Ba} {D:List Int} {sc:List Int} {m:M}
theorem l8 (hF:Ng g D) (hI:Inv g sc m):(decide ((fa m.rg) * 8<=70368744177664)&&decide ((fa m.rg)<9223372036854775808))=true:=by
 have:=(hI.uE hF).1;simp only [Ia,decide_eq_true_eq];omega
theorem Oae (hF:Ng g D) (hI:Inv g sc m) {j:Nat} (hj:j<g.1.length) (h:(at' g j).1=11\/(at' g j).1=14):V.va (at' g j).2.2.1 (fa g.2.2.2.2.2.2.1)=true/\V.va (at' g j).2.2.1 m.ar.length=true/\((gx m.ar (at' g j).2.2.1.toNat []).length:Int)=(gx g.2.2.2.2.2.2.1 (at' g j).2.2.1.toNat Bb).2.2.1/\1<=(gx g.2.2.2.2.2.2.1 (at' g j).2.2.1.toNat Bb).2.1/\(gx g.2.2.2.2.2.2.1 (at' g j).2.2.1.toNat Bb).2.1<=3:=by
 obtain ⟨h1,h2⟩:=(hF.xK j hj).idx.k11 h;obtain ⟨k,hk⟩:=Yr h1;rw [hk] at h2 ⊢;have dS:k<(Xe g).length:=by omega
 rw [Ca];exact ⟨Rh dS,Rh (by rw [hI.al];exact dS),hI.az k dS,(hF.I.a k dS).2.1⟩
end
end Go.U
end
section
set_option maxRecDepth 20000
namespace Go.U
open Go
theorem xM {g:Ba} {D:List Int} {sc:List Int} {m:M} {o:VR} (hF:Ng g D) (hs:sc.length<=9223372036854775807) (hI:Inv g sc m) (hJ:J1 g o) (er:List Ra):
   Rl.m (cH g er sc) (iG o m)=if m.en=0 then some (.inl (iG (zk g o m) (step g sc m))) else some (.inr (iG o m)):=by
 by_cases he:m.en=0
 · rw [if_pos he];have h0:=hI.at0 he;have hR:=hI.uE hF;have h65:=fun z2 z3 z4 z5 z6 z7 z8 ti e1=>C_ hF hI hJ h0 er z2 z3 z4 z5 z6 z7 z8 ti e1
   have hsm:=hI.small hF;have mZ:=l8 hF hI;obtain ⟨j,hj⟩:=Yr h0.1;have GG:j<g.1.length:=by omega
   have use:∀ y,y∈Mf (at' g j)->V.va y m.rg.length=true:=fun y hy=>QE hF hI GG hy
   have dst:=C0 hF hI GG;have un:=M8 hF hI GG;have arI:=Oae hF hI GG;have hG:=hF.xK j GG;have hre:=hI.re;have Ci:=hI.fu;have hma:=hI.ma;have Wb:step g sc m=CC g sc (at' g j) (m.to (EE (at' g j))):=by unfold step;rw [hj];rfl
   rw [Wb];have WE:(zk g o m).1=m.at_:=rfl;generalize zk g o m=o' at h65 WE ⊢;obtain ⟨fu,a,en,si,ki,ti,re,rg,ar,ma⟩:=m;simp only at he h0 hj use dst un arI hre Ci hma hsm mZ h65 hR WE;subst he;subst hj;have kp:gx g.1 (ga (j:Int)) Ta=at' g j:=rfl;simp only [LD.m,Rl,cH,iG,M.t,decide_true,cond_true];rw [l7c hsm,da,Fe mZ,h65,da,Rh GG,Xa];simp only [kp];obtain ⟨ial,gw⟩:=hG.op;have W0:=hG.idx;have Aag:=hG.wS;clear hG;have opr:(at' g j).1=1\/(at' g j).1=2\/(at' g j).1=3\/(at' g j).1=4\/(at' g j).1=5\/(at' g j).1=6\/(at' g j).1=7\/(at' g j).1=8\/(at' g j).1=9\/(at' g j).1=10\/(at' g j).1=11\/(at' g j).1=12\/(at' g j).1=13\/(at' g j).1=14\/(at' g j).1=15\/(at' g j).1=16\/(at' g j).1=17\/(at' g j).1=18\/(at' g j).1=19\/(at' g j).1=20\/(at' g j).1=21:=by omega
   have two:(at' g j).1=4\/(at' g j).1=5\/(at' g j).1=6\/(at' g j).1=7\/(at' g j).1=8\/(at' g j).1=9\/(at' g j).1=10\/(at' g j).1=15->V.va (at' g j).2.2.1 rg.length=true/\V.va (at' g j).2.2.2.1 rg.length=true:=fun h=>by
     rcases h with h|h|h|h|h|h|h|h<;>exact ⟨use _ (by simp [Mf,h]),use _ (by simp [Mf,h])⟩
   generalize at' g j=x at *
   have key:∀ (v:Int) (c:Bool),(some (Sum.inl ((j:Int),o'.2.1,o'.2.2.1,o'.2.2.2,fu,x.2.2.2.2.2.2.1,(yG c x v 0 si ki rg).1,(yG c x v 0 si ki rg).2.1,(yG c x v 0 si ki rg).2.2.1,ti,re,(yG c x v 0 si ki rg).2.2.2,ar,ma)):Option ((Int×List Bool×List (Bool×Bool)×Int×MT) ⊕ (Int×List Bool×List (Bool×Bool)×Int×MT)))=
       some (.inl (o'.1,o'.2.1,o'.2.2.1,o'.2.2.2,(M.RY ⟨fu,EE x,0,si,ki,ti,re,rg,ar,ma⟩ x v c).t)):=fun v c=>by
     rw [WE];unfold yG M.RY;cases (c&& !(HB v 3))<;>rfl
   rcases opr with h|h|h|h|h|h|h|h|h|h|h|h|h|h|h|h|h|h|h|h|h
   all_goals simp only [h,oC,decide_true,decide_false,cond_true,cond_false,CC,if_true,if_false,M.to]
   · rw [yV (dst (by omega)),da];simp only [M.wr,EE,WE]
   · rw [LV (use x.2.2.1 (by simp [Mf,h])) (un (.inl h)) (dst (by omega)),da];exact key _ _
   · rw [IV (use x.2.2.1 (by simp [Mf,h])) (un (.inr h)) (dst (by omega)),da];exact key _ _
   · rw [FV (two (by simp [h])).1 (two (by simp [h])).2 (dst (by omega)),da];exact key _ _
   · rw [rQ (two (by simp [h])).1 (two (by simp [h])).2 (dst (by omega)),da];exact key _ _
   · rw [oQ (two (by simp [h])).1 (two (by simp [h])).2 (dst (by omega)),da];exact key _ _
   · rw [dQ (two (by simp [h])).1 (two (by simp [h])).2 (dst (by omega)) h,da];simp only [M.rd,EE,WE];by_cases k:gx rg x.2.2.2.1.toNat 0=0
     · simp only [if_pos k];rfl
     · by_cases k2:gx rg x.2.2.1.toNat 0= -2147483648/\gx rg x.2.2.2.1.toNat 0= -1
       · simp only [if_neg k,if_pos k2];rfl
       · simp only [if_neg k,if_neg k2];rfl
   · rw [cQ (two (by simp [h])).1 (two (by simp [h])).2 (dst (by omega)) h,da];simp only [M.rd,EE,WE];by_cases k:gx rg x.2.2.2.1.toNat 0=0
     · simp only [if_pos k];rfl
     · simp only [if_neg k];rfl
   · rw [lQ (two (by simp [h])).1 (two (by simp [h])).2 (dst (by omega)),da];exact key _ _
   · rw [iQ (two (by simp [h])).1 (two (by simp [h])).2 (dst (by omega)),da];exact key _ _
   · obtain ⟨q1,q2,q3,q4⟩:=arI (.inl h);rw [dV (use x.2.2.2.1 (by simp [Mf,h])) q1 q2 q3 (dst (by omega)),da];simp only [M.rd,EE,WE];by_cases k:gx rg x.2.2.2.1.toNat 0<0\/(gx g.2.2.2.2.2.2.1 x.2.2.1.toNat Bb).2.2.1<=gx rg x.2.2.2.1.toNat 0
     · simp only [if_pos k];rfl
     · simp only [if_neg k];rfl
   · obtain ⟨q1,q2⟩:=W0.k12 h;rw [SU (Am q1 q2) (dst (by omega)) hre.1 hre.2 hs,da];simp only [M.rd,EE,WE];by_cases k:re=sc.length
     · simp only [if_pos k]
     · by_cases k2:gx sc re.toNat 0<(gx g.2.2.2.2.1 x.2.2.1.toNat Bb).2.2.1\/(gx g.2.2.2.2.1 x.2.2.1.toNat Bb).2.2.2<gx sc re.toNat 0
       · simp only [if_neg k,if_pos k2]
       · simp only [if_neg k,if_neg k2]
   · obtain ⟨q1,q2⟩:=W0.k13 h;obtain ⟨k,hk⟩:=Yr q1;have UE:=(hF.I.s k (by omega)).2;have hd:V.va x.2.1 rg.length=true:=Am q1 (by have:=hR.2;omega);rw [PU (use x.2.2.1 (by simp [Mf,h])) (Am q1 q2) hd (by rw [hk];exact UE),da];simp only [M.rd,EE,WE];by_cases k:HB (gx rg x.2.2.1.toNat 0) (gx g.2.2.2.2.2.1 x.2.1.toNat Xc).2.1=true
     · simp only [if_pos k];rfl
     · simp only [if_neg k];rfl
   · obtain ⟨q1,q2,q3,q4⟩:=arI (.inr h);rw [MU (use x.2.2.2.1 (by simp [Mf,h])) q1 q2 q3 (use x.2.1 (by simp [Mf,h])) q4,da];simp only [M.rd,EE,WE];by_cases k:gx rg x.2.2.2.1.toNat 0<0\/(gx g.2.2.2.2.2.2.1 x.2.2.1.toNat Bb).2.2.1<=gx rg x.2.2.2.1.toNat 0
     · simp only [if_pos k];rfl
     · by_cases k2:HB (gx rg x.2.1.toNat 0) (gx g.2.2.2.2.2.2.1 x.2.2.1.toNat Bb).2.1=true
       · simp only [if_neg k,if_pos k2]
       · simp only [if_neg k,if_neg k2];rfl
   · obtain ⟨t1,t2⟩:=Aag h;rw [JU (two (by simp [h])).1 (two (by simp [h])).2 t1 t2,da];simp only [M.rd,EE,WE];by_cases k:wS x.2.2.2.2.1 (gx rg x.2.2.1.toNat 0) (gx rg x.2.2.2.1.toNat 0)=true
     · simp only [if_pos k]
     · simp only [if_neg k]
   · simp only [EE,WE]
   · rw [GU Ci.1 Ci.2 hR.2 (by omega) hma,da];simp only [EE,WE];by_cases k:¬ g.2.2.2.1=0/\ti=g.2.2.2.1
     · simp only [if_pos k,Sum.elim_inl]
     · by_cases k2:fu=0
       · subst k2;simp only [if_neg k,if_true,Sum.elim_inl]
       · by_cases k3:ma.length<64
         · simp only [if_neg k,if_neg k2,if_pos k3,qt]
         · simp only [if_neg k,if_neg k2,if_neg k3,Sum.elim_inl]
   · simp only [EE,WE]
   · simp only [EE,WE]
   · rw [BU Ci.1 Ci.2,da];simp only [EE,WE,M.O4];by_cases k:fu=0
     · subst k;simp only [if_true]
     · simp only [if_neg k]
   · simp only [EE,WE,M.fail]
 · rw [if_neg he];simp only [LD.m,Rl,cH,iG,M.t,he,decide_false,cond_false]
end Go.U
end
section
set_option maxRecDepth 20000
namespace Go.U
open Go
abbrev Ob2:=List Bool×Int×Bool
def Nad (g:Ba) (c:Pa) (last at_:Int):Bool:=(decide ((at' g last.toNat).2.2.2.2.2.2.1=at_)&&(gx c.2.1 last.toNat (false,false)).1)||(decide ((at' g last.toNat).2.2.2.2.2.2.2=at_)&&(gx c.2.1 last.toNat (false,false)).2)
def fac (g:Ba) (c:Pa) (o:Ob2) (m:M):Ob2:=(o.1.set m.at_.toNat true,m.at_,if 0<=o.2.1 then o.2.2&&Nad g c o.2.1 m.at_ else o.2.2)
structure J2 (g:Ba) (c:Pa) (o:Ob2):Prop where
 sl:o.1.length=g.1.length
 wl:c.2.1.length=g.1.length
 la:o.2.1<(g.1.length:Int)
theorem J2.next {g:Ba} {c:Pa} {o:Ob2} (h:J2 g c o) {m:M} (ha:m.at_<(g.1.length:Int)):J2 g c (fac g c o m):=⟨by simp [fac,h.sl],h.wl,ha⟩
def ZA (o:Ob2) (m:M):List Bool×Int×Bool×MT:=(o.1,o.2.1,o.2.2,m.t)
end Go.U
end
