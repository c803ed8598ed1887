/- What these Lean functions compute: plain arithmetic of congruences, the checks of a graph, the values of its registers. -/
import Derived.Test.YtjenflkegbmkkaaGreatDoorD4
set_option linter.unusedVariables false
set_option linter.unusedSimpArgs false
set_option linter.unusedSectionVars false
section
set_option maxRecDepth 20000
namespace Go.U
open Go
abbrev MT:=Int×Int×Int×Int×Int×Int×Int×List Int×List (List Int)×List (List Int)
def M.t (m:M):MT:=(m.fu,m.at_,m.en,m.si,m.ki,m.ti,m.re,m.rg,m.ar,m.ma)
def M.of (t:MT):M:=⟨t.1,t.2.1,t.2.2.1,t.2.2.2.1,t.2.2.2.2.1,t.2.2.2.2.2.1,t.2.2.2.2.2.2.1,t.2.2.2.2.2.2.2.1,t.2.2.2.2.2.2.2.2.1,t.2.2.2.2.2.2.2.2.2⟩
theorem small_row {ar:List (List Int)} (h:Small ar) {i:Nat} (hi:i<ar.length):(decide ((List.length (gx ar i [])) * 8<=70368744177664)&&decide ((List.length (gx ar i []))<9223372036854775808))=true:=by
 have:=h.2 i hi;simp only [Bool.and_eq_true,decide_eq_true_eq];omega
theorem l7c {g g2 g3:TGraph} {sc:List Int} {ar ma:List (List Int)} (h:Small ar) (z1 z2 z3 z4 z5 la:Int) (pl:List Bool) (wy:List (Bool×Bool)) (er:List TAlarm) (way fu a en si ki ti re:Int) (rg:List Int) (bs):
  loopAll (f25_l7.m (nt ar.length,g,z1,z2,z3,z4,z5,la,pl,wy,er,way,g2,g3,sc,(fu,(a,(en,(si,(ki,(ti,(re,(rg,(ar,ma))))))))),bs)) (0,[])=some ar:=by
 have hn:=h.1;have:=loop_run (step:=f25_l7.m (nt ar.length,g,z1,z2,z3,z4,z5,la,pl,wy,er,way,g2,g3,sc,(fu,(a,(en,(si,(ki,(ti,(re,(rg,(ar,ma))))))))),bs)) (n:=ar.length) (fun i=>((i:Int),ar.take i)) ar (by omega) (fun t=>ar.length-t.1.toNat) (fun i _=>by simp) (fun i hi=>by
  have h':(i:Int)<(ar.length:Int):=by omega
  have w:wi64 ((i:Int)+1)=((i+1:Nat):Int):=by rw [wi64_of (by omega) (by omega)];rfl
  have hl:(ar.take i).length<=16:=by rw [List.length_take];omega
  have b2:(decide (((List.length (ar.take i))+(List.length ([gx ar i []]:List (List Int)))) * 24<=70368744177664)&&decide (((List.length (ar.take i))+(List.length ([gx ar i []]:List (List Int))))<9223372036854775808))=true:=by
   simp only [Bool.and_eq_true,decide_eq_true_eq,List.length_singleton];omega
  simp only [LD.m,f25_l7,nt,h',decide_true,cond_true,inR hi,ask_true,Int.toNat_natCast,w,take_gx [] hi];exact (ask_eq (small_row h hi)).trans (ask_eq b2)) (by
  simp only [LD.m,f25_l7,nt,Int.lt_irrefl,decide_false,cond_false,List.take_length])
 exact this
def enc1 (o:Ob1) (m:M):Int×List Bool×List (Bool×Bool)×Int×MT:=(o.1,o.2.1,o.2.2.1,o.2.2.2,m.t)
def par1w (g:TGraph) (er:List TAlarm) (sc:List Int):TGraph×Int×Int×Int×Int×Int×(List TAlarm)×TGraph×TGraph×(List Int)×Bool×Bool×Bool×Bool×Bool×Bool×Bool:=(g,0,0,0,0,0,er,g,g,sc,true,true,true,true,true,false,false)
section
variable {g:TGraph} {D:List Int} {sc:List Int} {m:M}
theorem reg_ok (hF:FitG g D) (hI:Inv g sc m):(decide ((List.length m.rg) * 8<=70368744177664)&&decide ((List.length m.rg)<9223372036854775808))=true:=by
 have:=(hI.regs hF).1;simp only [Bool.and_eq_true,decide_eq_true_eq];omega
theorem ar_in (hF:FitG g D) (hI:Inv g sc m) {j:Nat} (hj:j<g.1.length) (h:(at' g j).1=11\/(at' g j).1=14):V.inRange (at' g j).2.2.1 (List.length g.2.2.2.2.2.2.1)=true/\V.inRange (at' g j).2.2.1 m.ar.length=true/\((gx m.ar (at' g j).2.2.1.toNat []).length:Int)=(gx g.2.2.2.2.2.2.1 (at' g j).2.2.1.toNat dInput).2.2.1/\1<=(gx g.2.2.2.2.2.2.1 (at' g j).2.2.1.toNat dInput).2.1/\(gx g.2.2.2.2.2.2.1 (at' g j).2.2.1.toNat dInput).2.1<=3:=by
 obtain ⟨h1,h2⟩:=(hF.good j hj).idx.k11 h;obtain ⟨k,hk⟩:=Int.eq_ofNat_of_zero_le h1;rw [hk] at h2 ⊢;have hk2:k<(inps g).length:=by omega
 rw [Int.toNat_natCast];exact ⟨inR hk2,inR (by rw [hI.al];exact hk2),hI.az k hk2,(hF.I.a k hk2).2.1⟩
end
end Go.U
end
section
set_option maxRecDepth 20000
namespace Go.U
open Go
theorem l3_step {g:TGraph} {D:List Int} {sc:List Int} {m:M} {o:Ob1} (hF:FitG g D) (hs:sc.length<=9223372036854775807) (hI:Inv g sc m) (hJ:J1 g o) (er:List TAlarm):
   f25_l3.m (par1w g er sc) (enc1 o m)=if m.en=0 then some (.inl (enc1 (obs1 g o m) (step g sc m))) else some (.inr (enc1 o m)):=by
 by_cases he:m.en=0
 · rw [if_pos he];have h0:=hI.at0 he;have hR:=hI.regs hF;have h65:=fun z2 z3 z4 z5 z6 z7 z8 ti e1=>f65_eq hF hI hJ h0 er z2 z3 z4 z5 z6 z7 z8 ti e1
   have hsm:=hI.small hF;have hro:=reg_ok hF hI;obtain ⟨j,hj⟩:=Int.eq_ofNat_of_zero_le h0.1;have hjn:j<g.1.length:=by omega
   have use:∀ y,y∈f31_l (at' g j)->V.inRange y m.rg.length=true:=fun y hy=>inr_use hF hI hjn hy
   have dst:=inr_dst hF hI hjn;have un:=inr_un hF hI hjn;have arI:=ar_in hF hI hjn;have hG:=hF.good j hjn;have hre:=hI.re;have hfu:=hI.fu;have hma:=hI.ma;have hst:step g sc m=stepI g sc (at' g j) (m.to (nx0 (at' g j))):=by unfold step;rw [hj];rfl
   rw [hst];have ho1:(obs1 g o m).1=m.at_:=rfl;generalize obs1 g o m=o' at h65 ho1 ⊢;obtain ⟨fu,a,en,si,ki,ti,re,rg,ar,ma⟩:=m;simp only at he h0 hj use dst un arI hre hfu hma hsm hro h65 hR ho1;subst he;subst hj;have hat:gx g.1 (Int.toNat (j:Int)) dInstr=at' g j:=rfl;simp only [LD.m,f25_l3,par1w,enc1,M.t,decide_true,cond_true];rw [l7c hsm,Option.bind_some,ask_eq hro,h65,Option.bind_some,inR hjn,ask_true];simp only [hat];obtain ⟨hop1,hop2⟩:=hG.op;have hidx:=hG.idx;have htst:=hG.tst;clear hG;have opr:(at' g j).1=1\/(at' g j).1=2\/(at' g j).1=3\/(at' g j).1=4\/(at' g j).1=5\/(at' g j).1=6\/(at' g j).1=7\/(at' g j).1=8\/(at' g j).1=9\/(at' g j).1=10\/(at' g j).1=11\/(at' g j).1=12\/(at' g j).1=13\/(at' g j).1=14\/(at' g j).1=15\/(at' g j).1=16\/(at' g j).1=17\/(at' g j).1=18\/(at' g j).1=19\/(at' g j).1=20\/(at' g j).1=21:=by omega
   have two:(at' g j).1=4\/(at' g j).1=5\/(at' g j).1=6\/(at' g j).1=7\/(at' g j).1=8\/(at' g j).1=9\/(at' g j).1=10\/(at' g j).1=15->V.inRange (at' g j).2.2.1 rg.length=true/\V.inRange (at' g j).2.2.2.1 rg.length=true:=fun h=>by
     rcases h with h|h|h|h|h|h|h|h<;>exact ⟨use _ (by simp [f31_l,h]),use _ (by simp [f31_l,h])⟩
   generalize at' g j=x at *
   have key:∀ (v:Int) (c:Bool),(some (Sum.inl ((j:Int),o'.2.1,o'.2.2.1,o'.2.2.2,fu,x.2.2.2.2.2.2.1,(arR c x v 0 si ki rg).1,(arR c x v 0 si ki rg).2.1,(arR c x v 0 si ki rg).2.2.1,ti,re,(arR c x v 0 si ki rg).2.2.2,ar,ma)):Option ((Int×List Bool×List (Bool×Bool)×Int×MT) ⊕ (Int×List Bool×List (Bool×Bool)×Int×MT)))=
       some (.inl (o'.1,o'.2.1,o'.2.2.1,o'.2.2.2,(M.ari ⟨fu,nx0 x,0,si,ki,ti,re,rg,ar,ma⟩ x v c).t)):=fun v c=>by
     rw [ho1];unfold arR M.ari;cases (c&& !(wtn v 3))<;>rfl
   rcases opr with h|h|h|h|h|h|h|h|h|h|h|h|h|h|h|h|h|h|h|h|h
   all_goals simp only [h,Int.reduceEq,decide_true,decide_false,cond_true,cond_false,stepI,if_true,if_false,M.to]
   · rw [f80v1_eq (dst (by omega)),Option.bind_some];simp only [M.wr,nx0,ho1]
   · rw [f76v7_eq (use x.2.2.1 (by simp [f31_l,h])) (un (.inl h)) (dst (by omega)),Option.bind_some];exact key _ _
   · rw [f76v8_eq (use x.2.2.1 (by simp [f31_l,h])) (un (.inr h)) (dst (by omega)),Option.bind_some];exact key _ _
   · rw [f76v9_eq (two (by simp [h])).1 (two (by simp [h])).2 (dst (by omega)),Option.bind_some];exact key _ _
   · rw [f76v10_eq (two (by simp [h])).1 (two (by simp [h])).2 (dst (by omega)),Option.bind_some];exact key _ _
   · rw [f76v11_eq (two (by simp [h])).1 (two (by simp [h])).2 (dst (by omega)),Option.bind_some];exact key _ _
   · rw [f86v1_eq7 (two (by simp [h])).1 (two (by simp [h])).2 (dst (by omega)) h,Option.bind_some];simp only [M.rd,nx0,ho1];by_cases k:gx rg x.2.2.2.1.toNat 0=0
     · simp only [if_pos k];rfl
     · by_cases k2:gx rg x.2.2.1.toNat 0= -2147483648/\gx rg x.2.2.2.1.toNat 0= -1
       · simp only [if_neg k,if_pos k2];rfl
       · simp only [if_neg k,if_neg k2];rfl
   · rw [f86v1_eq8 (two (by simp [h])).1 (two (by simp [h])).2 (dst (by omega)) h,Option.bind_some];simp only [M.rd,nx0,ho1];by_cases k:gx rg x.2.2.2.1.toNat 0=0
     · simp only [if_pos k];rfl
     · simp only [if_neg k];rfl
   · rw [f76v12_eq (two (by simp [h])).1 (two (by simp [h])).2 (dst (by omega)),Option.bind_some];exact key _ _
   · rw [f76v13_eq (two (by simp [h])).1 (two (by simp [h])).2 (dst (by omega)),Option.bind_some];exact key _ _
   · obtain ⟨q1,q2,q3,q4⟩:=arI (.inl h);rw [f89v1_eq (use x.2.2.2.1 (by simp [f31_l,h])) q1 q2 q3 (dst (by omega)),Option.bind_some];simp only [M.rd,nx0,ho1];by_cases k:gx rg x.2.2.2.1.toNat 0<0\/(gx g.2.2.2.2.2.2.1 x.2.2.1.toNat dInput).2.2.1<=gx rg x.2.2.2.1.toNat 0
     · simp only [if_pos k];rfl
     · simp only [if_neg k];rfl
   · obtain ⟨q1,q2⟩:=hidx.k12 h;rw [f90v1_eq (inRI q1 q2) (dst (by omega)) hre.1 hre.2 hs,Option.bind_some];simp only [M.rd,nx0,ho1];by_cases k:re=sc.length
     · simp only [if_pos k]
     · by_cases k2:gx sc re.toNat 0<(gx g.2.2.2.2.1 x.2.2.1.toNat dInput).2.2.1\/(gx g.2.2.2.2.1 x.2.2.1.toNat dInput).2.2.2<gx sc re.toNat 0
       · simp only [if_neg k,if_pos k2]
       · simp only [if_neg k,if_neg k2]
   · obtain ⟨q1,q2⟩:=hidx.k13 h;obtain ⟨k,hk⟩:=Int.eq_ofNat_of_zero_le q1;have hty:=(hF.I.s k (by omega)).2;have hd:V.inRange x.2.1 rg.length=true:=inRI q1 (by have:=hR.2;omega);rw [f91v1_eq (use x.2.2.1 (by simp [f31_l,h])) (inRI q1 q2) hd (by rw [hk];exact hty),Option.bind_some];simp only [M.rd,nx0,ho1];by_cases k:wtn (gx rg x.2.2.1.toNat 0) (gx g.2.2.2.2.2.1 x.2.1.toNat dScalar).2.1=true
     · simp only [if_pos k];rfl
     · simp only [if_neg k];rfl
   · obtain ⟨q1,q2,q3,q4⟩:=arI (.inr h);rw [f92v1_eq (use x.2.2.2.1 (by simp [f31_l,h])) q1 q2 q3 (use x.2.1 (by simp [f31_l,h])) q4,Option.bind_some];simp only [M.rd,nx0,ho1];by_cases k:gx rg x.2.2.2.1.toNat 0<0\/(gx g.2.2.2.2.2.2.1 x.2.2.1.toNat dInput).2.2.1<=gx rg x.2.2.2.1.toNat 0
     · simp only [if_pos k];rfl
     · by_cases k2:wtn (gx rg x.2.1.toNat 0) (gx g.2.2.2.2.2.2.1 x.2.2.1.toNat dInput).2.1=true
       · simp only [if_neg k,if_pos k2]
       · simp only [if_neg k,if_neg k2];rfl
   · obtain ⟨t1,t2⟩:=htst h;rw [f93v1_eq (two (by simp [h])).1 (two (by simp [h])).2 t1 t2,Option.bind_some];simp only [M.rd,nx0,ho1];by_cases k:tst x.2.2.2.2.1 (gx rg x.2.2.1.toNat 0) (gx rg x.2.2.2.1.toNat 0)=true
     · simp only [if_pos k]
     · simp only [if_neg k]
   · simp only [nx0,ho1]
   · rw [f94v1_eq hfu.1 hfu.2 hR.2 (by omega) hma,Option.bind_some];simp only [nx0,ho1];by_cases k:¬ g.2.2.2.1=0/\ti=g.2.2.2.1
     · simp only [if_pos k,Sum.elim_inl]
     · by_cases k2:fu=0
       · subst k2;simp only [if_neg k,if_true,Sum.elim_inl]
       · by_cases k3:ma.length<64
         · simp only [if_neg k,if_neg k2,if_pos k3,Sum.elim_inr]
         · simp only [if_neg k,if_neg k2,if_neg k3,Sum.elim_inl]
   · simp only [nx0,ho1]
   · simp only [nx0,ho1]
   · rw [f96v1_eq hfu.1 hfu.2,Option.bind_some];simp only [nx0,ho1,M.spend];by_cases k:fu=0
     · subst k;simp only [if_true]
     · simp only [if_neg k]
   · simp only [nx0,ho1,M.fail]
 · rw [if_neg he];simp only [LD.m,f25_l3,par1w,enc1,M.t,he,decide_false,cond_false]
end Go.U
end
section
set_option maxRecDepth 20000
namespace Go.U
open Go
abbrev Ob2:=List Bool×Int×Bool
def good2 (g:TGraph) (c:TCover) (last at_:Int):Bool:=(decide ((at' g last.toNat).2.2.2.2.2.2.1=at_)&&(gx c.2.1 last.toNat (false,false)).1)||(decide ((at' g last.toNat).2.2.2.2.2.2.2=at_)&&(gx c.2.1 last.toNat (false,false)).2)
def obs2 (g:TGraph) (c:TCover) (o:Ob2) (m:M):Ob2:=(o.1.set m.at_.toNat true,m.at_,if 0<=o.2.1 then o.2.2&&good2 g c o.2.1 m.at_ else o.2.2)
structure J2 (g:TGraph) (c:TCover) (o:Ob2):Prop where
 sl:o.1.length=g.1.length
 wl:c.2.1.length=g.1.length
 la:o.2.1<(g.1.length:Int)
theorem J2.next {g:TGraph} {c:TCover} {o:Ob2} (h:J2 g c o) {m:M} (ha:m.at_<(g.1.length:Int)):J2 g c (obs2 g c o m):=⟨by simp [obs2,h.sl],h.wl,ha⟩
def enc2 (o:Ob2) (m:M):List Bool×Int×Bool×MT:=(o.1,o.2.1,o.2.2,m.t)
end Go.U
end
