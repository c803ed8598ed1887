/- What these Lean functions compute: plain arithmetic of congruences, the checks of a graph, the values of its registers. -/
import Derived.Test.YtjenflkegbmkkaaGreatDoorD4
set_option linter.unusedVariables false
set_option linter.unusedSimpArgs false
set_option linter.unusedSectionVars false
open Bool renaming and_eq_true→Va
open Int renaming toNat_natCast→La,lt_irrefl→Xb,eq_ofNat_of_zero_le→Pf,toNat→fa,reduceEq→Qi
open List renaming length→da,length_take→ic,length_singleton→Tj,take_length→Af
open Option renaming bind_some→ga
section
set_option maxRecDepth 20000
namespace Go.U
open Go
abbrev MT:=Int×Int×Int×Int×Int×Int×Int×List Int×List (List Int)×List (List Int)
def M.t(m:M):MT:=(m.fu,m.at_,m.en,m.si,m.ki,m.ti,m.re,m.rg,m.ar,m.ma)
def M.of(t:MT):M:=⟨t.1,t.2.1,t.2.2.1,t.2.2.2.1,t.2.2.2.2.1,t.2.2.2.2.2.1,t.2.2.2.2.2.2.1,t.2.2.2.2.2.2.2.1,t.2.2.2.2.2.2.2.2.1,t.2.2.2.2.2.2.2.2.2⟩
theorem WQ{ar:List (List Int)}(h:Small ar){i:Nat}(hi:i<ar.length):(decide ((da (gx ar i [])) * 8<=70368744177664)&&decide ((da (gx ar i []))<9223372036854775808))=true:=by
 have:=h.2 i hi;simp only[Va,decide_eq_true_eq];omega
theorem l7c{g g2 g3:Ga}{sc:List Int}{ar ma:List (List Int)}(h:Small ar)(z1 z2 z3 z4 z5 la:Int)(pl:List Bool)(wy:List (Bool×Bool))(er:List Aa)(way fu a en si ki ti re:Int)(rg:List Int)(bs):
  Ma (Hq.m (nt ar.length,g,z1,z2,z3,z4,z5,la,pl,wy,er,way,g2,g3,sc,(fu,(a,(en,(si,(ki,(ti,(re,(rg,(ar,ma))))))))),bs)) (0,[])=some ar:=by
 have hn:=h.1;have:=Xc (step:=Hq.m (nt ar.length,g,z1,z2,z3,z4,z5,la,pl,wy,er,way,g2,g3,sc,(fu,(a,(en,(si,(ki,(ti,(re,(rg,(ar,ma))))))))),bs)) (n:=ar.length) (fun i=>((i:Int),ar.take i)) ar (by omega) (fun t=>ar.length-t.1.toNat) (fun i _=>by simp) (fun i hi=>by
  have h':(i:Int)<(ar.length:Int):=by omega
  have w:Ea ((i:Int)+1)=((i+1:Nat):Int):=by rw[Qb (by omega) (by omega)];rfl
  have hl:(ar.take i).length<=16:=by rw[ic];omega
  have b2:(decide (((da (ar.take i))+(da ([gx ar i []]:List (List Int)))) * 24<=70368744177664)&&decide (((da (ar.take i))+(da ([gx ar i []]:List (List Int))))<9223372036854775808))=true:=by
   simp only[Va,decide_eq_true_eq,Tj];omega
  simp only[LD.m,Hq,nt,h',decide_true,cond_true,fg hi,Oa,La,w,If [] hi];exact(Ee (WQ h hi)).trans (Ee b2)) (by
  simp only[LD.m,Hq,nt,Xb,decide_false,cond_false,Af])
 exact this
def qC(o:UK)(m:M):Int×List Bool×List (Bool×Bool)×Int×MT:=(o.1,o.2.1,o.2.2.1,o.2.2.2,m.t)
def NI(g:Ga)(er:List Aa)(sc:List Int):Ga×Int×Int×Int×Int×Int×(List Aa)×Ga×Ga×(List Int)×Bool×Bool×Bool×Bool×Bool×Bool×Bool:=(g,0,0,0,0,0,er,g,g,sc,true,true,true,true,true,false,false)
section
variable {g:Ga}{D:List Int}{sc:List Int}{m:M}
theorem I_(hF:Mf g D)(hI:Inv g sc m):(decide ((da m.rg) * 8<=70368744177664)&&decide ((da m.rg)<9223372036854775808))=true:=by
 have:=(hI.aD hF).1;simp only[Va,decide_eq_true_eq];omega
theorem o_(hF:Mf g D)(hI:Inv g sc m){j:Nat}(hj:j<g.1.length)(h:(at' g j).1=11\/(at' g j).1=14):V.ja (at' g j).2.2.1 (da g.2.2.2.2.2.2.1)=true/\V.ja (at' g j).2.2.1 m.ar.length=true/\((gx m.ar (at' g j).2.2.1.toNat []).length:Int)=(gx g.2.2.2.2.2.2.1 (at' g j).2.2.1.toNat fb).2.2.1/\1<=(gx g.2.2.2.2.2.2.1 (at' g j).2.2.1.toNat fb).2.1/\(gx g.2.2.2.2.2.2.1 (at' g j).2.2.1.toNat fb).2.1<=3:=by
 obtain⟨h1,h2⟩:=(hF.oD j hj).idx.k11 h;obtain⟨k,hk⟩:=Pf h1;rw[hk]at h2 ⊢;have wU:k<(de g).length:=by omega
 rw[La];exact⟨fg wU,fg (by rw[hI.al];exact wU),hI.az k wU,(hF.I.a k wU).2.1⟩
end
end Go.U
end
section
set_option maxRecDepth 20000
namespace Go.U
open Go
theorem ZN{g:Ga}{D:List Int}{sc:List Int}{m:M}{o:UK}(hF:Mf g D)(hs:sc.length<=9223372036854775807)(hI:Inv g sc m)(hJ:J1 g o)(er:List Aa):
  Jm.m (NI g er sc) (qC o m)=if m.en=0 then some (.inl (qC (sj g o m) (step g sc m)))else some (.inr (qC o m)):=by
 by_cases he:m.en=0
 ·rw[if_pos he];have h0:=hI.at0 he;have hR:=hI.aD hF;have h65:=fun z2 z3 z4 z5 z6 z7 z8 ti e1=>Pab hF hI hJ h0 er z2 z3 z4 z5 z6 z7 z8 ti e1
  have hsm:=hI.small hF;have I2:=I_ hF hI;obtain⟨j,hj⟩:=Pf h0.1;have It:j<g.1.length:=by omega
  have use:∀y,y∈se (at' g j)->V.ja y m.rg.length=true:=fun y hy=>Av hF hI It hy
  have dst:=kO hF hI It;have un:=DV hF hI It;have arI:=o_ hF hI It;have hG:=hF.oD j It;have b8:=hI.re;have Ll:=hI.fu;have hma:=hI.ma;have jc:step g sc m=Sm g sc (at' g j) (m.to (Wz (at' g j))):=by unfold step;rw[hj];rfl
  rw[jc];have yG:(sj g o m).1=m.at_:=rfl;generalize sj g o m=o' at h65 yG ⊢;obtain⟨fu,a,en,si,ki,ti,re,rg,ar,ma⟩:=m;simp only at he h0 hj use dst un arI b8 Ll hma hsm I2 h65 hR yG;subst he;subst hj;have Uk:gx g.1 (fa (j:Int)) Ta=at' g j:=rfl;simp only[LD.m,Jm,NI,qC,M.t,decide_true,cond_true];rw[l7c hsm,ga,Ee I2,h65,ga,fg It,Oa];simp only[Uk];obtain⟨raa,Dv⟩:=hG.op;have aM:=hG.idx;have HV:=hG.oE;clear hG;have opr:(at' g j).1=1\/(at' g j).1=2\/(at' g j).1=3\/(at' g j).1=4\/(at' g j).1=5\/(at' g j).1=6\/(at' g j).1=7\/(at' g j).1=8\/(at' g j).1=9\/(at' g j).1=10\/(at' g j).1=11\/(at' g j).1=12\/(at' g j).1=13\/(at' g j).1=14\/(at' g j).1=15\/(at' g j).1=16\/(at' g j).1=17\/(at' g j).1=18\/(at' g j).1=19\/(at' g j).1=20\/(at' g j).1=21:=by omega
  have two:(at' g j).1=4\/(at' g j).1=5\/(at' g j).1=6\/(at' g j).1=7\/(at' g j).1=8\/(at' g j).1=9\/(at' g j).1=10\/(at' g j).1=15->V.ja (at' g j).2.2.1 rg.length=true/\V.ja (at' g j).2.2.2.1 rg.length=true:=fun h=>by
   rcases h with h|h|h|h|h|h|h|h<;>exact⟨use _ (by simp[se,h]),use _ (by simp[se,h])⟩
  generalize at' g j=x at *
  have key:∀(v:Int)(c:Bool),(some (Sum.inl ((j:Int),o'.2.1,o'.2.2.1,o'.2.2.2,fu,x.2.2.2.2.2.2.1,(aI c x v 0 si ki rg).1,(aI c x v 0 si ki rg).2.1,(aI c x v 0 si ki rg).2.2.1,ti,re,(aI c x v 0 si ki rg).2.2.2,ar,ma)):Option ((Int×List Bool×List (Bool×Bool)×Int×MT) ⊕ (Int×List Bool×List (Bool×Bool)×Int×MT)))=
    some (.inl (o'.1,o'.2.1,o'.2.2.1,o'.2.2.2,(M.TK ⟨fu,Wz x,0,si,ki,ti,re,rg,ar,ma⟩ x v c).t)):=fun v c=>by
   rw[yG];unfold aI M.TK;cases(c&& !(Qp v 3))<;>rfl
  rcases opr with h|h|h|h|h|h|h|h|h|h|h|h|h|h|h|h|h|h|h|h|h
  all_goals simp only[h,Qi,decide_true,decide_false,cond_true,cond_false,Sm,if_true,if_false,M.to]
  ·rw[BX (dst (by omega)),ga];simp only[M.wr,Wz,yG]
  ·rw[NX (use x.2.2.1 (by simp[se,h])) (un (.inl h)) (dst (by omega)),ga];exact key _ _
  ·rw[KX (use x.2.2.1 (by simp[se,h])) (un (.inr h)) (dst (by omega)),ga];exact key _ _
  ·rw[HX (two (by simp[h])).1 (two (by simp[h])).2 (dst (by omega)),ga];exact key _ _
  ·rw[uS (two (by simp[h])).1 (two (by simp[h])).2 (dst (by omega)),ga];exact key _ _
  ·rw[rS (two (by simp[h])).1 (two (by simp[h])).2 (dst (by omega)),ga];exact key _ _
  ·rw[iS (two (by simp[h])).1 (two (by simp[h])).2 (dst (by omega)) h,ga];simp only[M.rd,Wz,yG];by_cases k:gx rg x.2.2.2.1.toNat 0=0
   ·simp only[if_pos k];rfl
   ·by_cases k2:gx rg x.2.2.1.toNat 0= -2147483648/\gx rg x.2.2.2.1.toNat 0= -1
    ·simp only[if_neg k,if_pos k2];rfl
    ·simp only[if_neg k,if_neg k2];rfl
  ·rw[fS (two (by simp[h])).1 (two (by simp[h])).2 (dst (by omega)) h,ga];simp only[M.rd,Wz,yG];by_cases k:gx rg x.2.2.2.1.toNat 0=0
   ·simp only[if_pos k];rfl
   ·simp only[if_neg k];rfl
  ·rw[oS (two (by simp[h])).1 (two (by simp[h])).2 (dst (by omega)),ga];exact key _ _
  ·rw[lS (two (by simp[h])).1 (two (by simp[h])).2 (dst (by omega)),ga];exact key _ _
  ·obtain⟨q1,q2,q3,q4⟩:=arI (.inl h);rw[gX (use x.2.2.2.1 (by simp[se,h])) q1 q2 q3 (dst (by omega)),ga];simp only[M.rd,Wz,yG];by_cases k:gx rg x.2.2.2.1.toNat 0<0\/(gx g.2.2.2.2.2.2.1 x.2.2.1.toNat fb).2.2.1<=gx rg x.2.2.2.1.toNat 0
   ·simp only[if_pos k];rfl
   ·simp only[if_neg k];rfl
  ·obtain⟨q1,q2⟩:=aM.k12 h;rw[YW (wj q1 q2) (dst (by omega)) b8.1 b8.2 hs,ga];simp only[M.rd,Wz,yG];by_cases k:re=sc.length
   ·simp only[if_pos k]
   ·by_cases k2:gx sc re.toNat 0<(gx g.2.2.2.2.1 x.2.2.1.toNat fb).2.2.1\/(gx g.2.2.2.2.1 x.2.2.1.toNat fb).2.2.2<gx sc re.toNat 0
    ·simp only[if_neg k,if_pos k2]
    ·simp only[if_neg k,if_neg k2]
  ·obtain⟨q1,q2⟩:=aM.k13 h;obtain⟨k,hk⟩:=Pf q1;have gD:=(hF.I.s k (by omega)).2;have hd:V.ja x.2.1 rg.length=true:=wj q1 (by have:=hR.2;omega);rw[VW (use x.2.2.1 (by simp[se,h])) (wj q1 q2) hd (by rw[hk];exact gD),ga];simp only[M.rd,Wz,yG];by_cases k:Qp (gx rg x.2.2.1.toNat 0) (gx g.2.2.2.2.2.1 x.2.1.toNat Bc).2.1=true
   ·simp only[if_pos k];rfl
   ·simp only[if_neg k];rfl
  ·obtain⟨q1,q2,q3,q4⟩:=arI (.inr h);rw[RW (use x.2.2.2.1 (by simp[se,h])) q1 q2 q3 (use x.2.1 (by simp[se,h])) q4,ga];simp only[M.rd,Wz,yG];by_cases k:gx rg x.2.2.2.1.toNat 0<0\/(gx g.2.2.2.2.2.2.1 x.2.2.1.toNat fb).2.2.1<=gx rg x.2.2.2.1.toNat 0
   ·simp only[if_pos k];rfl
   ·by_cases k2:Qp (gx rg x.2.1.toNat 0) (gx g.2.2.2.2.2.2.1 x.2.2.1.toNat fb).2.1=true
    ·simp only[if_neg k,if_pos k2]
    ·simp only[if_neg k,if_neg k2];rfl
  ·obtain⟨t1,t2⟩:=HV h;rw[OW (two (by simp[h])).1 (two (by simp[h])).2 t1 t2,ga];simp only[M.rd,Wz,yG];by_cases k:oE x.2.2.2.2.1 (gx rg x.2.2.1.toNat 0) (gx rg x.2.2.2.1.toNat 0)=true
   ·simp only[if_pos k]
   ·simp only[if_neg k]
  ·simp only[Wz,yG]
  ·rw[LW Ll.1 Ll.2 hR.2 (by omega) hma,ga];simp only[Wz,yG];by_cases k:¬g.2.2.2.1=0/\ti=g.2.2.2.1
   ·simp only[if_pos k,Sum.elim_inl]
   ·by_cases k2:fu=0
    ·subst k2;simp only[if_neg k,if_true,Sum.elim_inl]
    ·by_cases k3:ma.length<64
     ·simp only[if_neg k,if_neg k2,if_pos k3,Sum.elim_inr]
     ·simp only[if_neg k,if_neg k2,if_neg k3,Sum.elim_inl]
  ·simp only[Wz,yG]
  ·simp only[Wz,yG]
  ·rw[GW Ll.1 Ll.2,ga];simp only[Wz,yG,M.NN];by_cases k:fu=0
   ·subst k;simp only[if_true]
   ·simp only[if_neg k]
  ·simp only[Wz,yG,M.fail]
 ·rw[if_neg he];simp only[LD.m,Jm,NI,qC,M.t,he,decide_false,cond_false]
end Go.U
end
section
set_option maxRecDepth 20000
namespace Go.U
open Go
abbrev Ob2:=List Bool×Int×Bool
def Aag(g:Ga)(c:vb)(last at_:Int):Bool:=(decide ((at' g last.toNat).2.2.2.2.2.2.1=at_)&&(gx c.2.1 last.toNat (false,false)).1)||(decide ((at' g last.toNat).2.2.2.2.2.2.2=at_)&&(gx c.2.1 last.toNat (false,false)).2)
def Rae(g:Ga)(c:vb)(o:Ob2)(m:M):Ob2:=(o.1.set m.at_.toNat true,m.at_,if 0<=o.2.1 then o.2.2&&Aag g c o.2.1 m.at_ else o.2.2)
structure J2(g:Ga)(c:vb)(o:Ob2):Prop where
 sl:o.1.length=g.1.length
 wl:c.2.1.length=g.1.length
 la:o.2.1<(g.1.length:Int)
theorem J2.next{g:Ga}{c:vb}{o:Ob2}(h:J2 g c o){m:M}(ha:m.at_<(g.1.length:Int)):J2 g c (Rae g c o m):=⟨by simp[Rae,h.sl],h.wl,ha⟩
def pC(o:Ob2)(m:M):List Bool×Int×Bool×MT:=(o.1,o.2.1,o.2.2,m.t)
end Go.U
end
