/- What these Lean functions compute: plain arithmetic of congruences, the checks of a graph, the values of its registers. -/
import Derived.Test.YtcbcifeaalkdfaaGreatDoorD5
import Derived.Test.YtcbcifeaalkdfaaGreatDoorD4
set_option linter.unusedVariables false
set_option linter.unusedSimpArgs false
set_option linter.unusedSectionVars false
section
set_option maxRecDepth 20000
namespace Go.U
open Go
theorem p27_eq {a b:TCongr} (ha:CR a) (hb:CR b):f27_m (a,b)=some (leqr a b):=f27_eq ha hb
theorem y250004_eq {a b:TCongr} {f:Bool} (h1:CR a) (h2:CR b):y250004_m (a,b,f)=some (cond (leqr a b) (.inr ()) (.inl ())):=by
 unfold y250004_m y250004_c
 simp only
 rw [f27_eq h1 h2]
 simp only [Option.bind_some]
 cases leqr a b<;>rfl
theorem f116_eq {f:Bool} {a b:TMods} (h:Pair a.2.1 b.2.1) (h':Pair a.2.2 b.2.2):f116_m (a,b,f)=some (cond (leqL a.2.1 b.2.1&&leqL a.2.2 b.2.2) (.inr ()) (.inl ())):=by
 unfold f116_m f116_c
 rw [loop_all (n:=a.2.1.length) (by have:=h.n;omega) (p:=fun i=>leqr (gx a.2.1 i dCongr) (gx b.2.1 i dCongr)) (fun i hi=>by
   have h1:(i:Int)<(a.2.1.length:Int):=by omega
   have h3:i<b.2.1.length:=by have:=h.e;omega
   simp only [LD.m,f116_l1,nt,h1,decide_true,cond_true,inR hi,inR h3,ask_true,Int.toNat_natCast]
   rw [y250004_eq (h.ca i hi) (h.cb i hi)]
   simp only [Option.bind_some]
   cases leqr (gx a.2.1 i dCongr) (gx b.2.1 i dCongr)<;>rfl) (by
   simp only [LD.m,f116_l1,nt,Int.lt_irrefl,decide_false,cond_false])]
 simp only [Option.bind_some]
 show _=some (cond (leqL a.2.1 b.2.1&&leqL a.2.2 b.2.2) _ _)
 unfold leqL
 cases (List.range a.2.1.length).all fun i=>leqr (gx a.2.1 i dCongr) (gx b.2.1 i dCongr)
 · rfl
 · simp only [cond_true,Sum.elim_inr,Bool.true_and]
   rw [loop_all (n:=a.2.2.length) (by have:=h'.n;omega) (p:=fun i=>leqr (gx a.2.2 i dCongr) (gx b.2.2 i dCongr)) (fun i hi=>by
    have h1:(i:Int)<(a.2.2.length:Int):=by omega
    have h3:i<b.2.2.length:=by have:=h'.e;omega
    simp only [LD.m,f116_l6,nt,h1,decide_true,cond_true,inR hi,inR h3,ask_true,Int.toNat_natCast]
    rw [y250004_eq (h'.ca i hi) (h'.cb i hi)]
    simp only [Option.bind_some]
    cases leqr (gx a.2.2 i dCongr) (gx b.2.2 i dCongr)<;>rfl) (by
    simp only [LD.m,f116_l6,nt,Int.lt_irrefl,decide_false,cond_false])]
   simp only [Option.bind_some]
   cases (List.range a.2.2.length).all fun i=>leqr (gx a.2.2 i dCongr) (gx b.2.2 i dCongr)<;>rfl
theorem f25_eq {a b:TMods} (h:a.1=true→b.1=true→PairM a b):f25_m (a,b)=some (leqM a b):=by
 unfold f25_m f25_c leqM
 cases h1:a.1
 · simp [h1]
 · cases h2:b.1
   · simp [h1,h2]
   · obtain ⟨hv,hw⟩:=h h1 h2
     simp only [h1,h2,Bool.not_true,cond_false,cond_true,PD.m,f25_q4]
     rw [f116_eq hv hw]
     simp only [Option.bind_some]
     cases leqL a.2.1 b.2.1&&leqL a.2.2 b.2.2<;>rfl
theorem f116v1_eq {p:Bool} {a b:List TCongr} {m:TMods} (h:Pair a m.2.1) (h':Pair b m.2.2):f116v1_m (p,a,b,m)=some (joinL a m.2.1,joinL b m.2.2):=by
 unfold f116v1_m f116v1_c
 rw [loop_set (a:=a) h.n (F:=fun i=>joinc (gx a i dCongr) (gx m.2.1 i dCongr)) (fun i l hi hl hg=>by
  have h1:(i:Int)<(a.length:Int):=by omega
  have h2:i<l.length:=by omega
  have h3:i<m.2.1.length:=by have:=h.e;omega
  simp only [LD.m,f116v1_l1,nt,h1,decide_true,cond_true,inR h2,inR h3,ask_true,Int.toNat_natCast]
  rw [y260009_eq (h.ca i hi) (h.cb i hi) hg];rfl) (fun l hl=>by
  simp only [LD.m,f116v1_l1,nt,Int.lt_irrefl,decide_false,cond_false])]
 simp only [Option.bind_some]
 rw [loop_set (a:=b) h'.n (F:=fun i=>joinc (gx b i dCongr) (gx m.2.2 i dCongr)) (fun i l hi hl hg=>by
  have h1:(i:Int)<(b.length:Int):=by omega
  have h2:i<l.length:=by omega
  have h3:i<m.2.2.length:=by have:=h'.e;omega
  simp only [LD.m,f116v1_l6,nt,h1,decide_true,cond_true,inR h2,inR h3,ask_true,Int.toNat_natCast]
  rw [y260009_eq (h'.ca i hi) (h'.cb i hi) hg];rfl) (fun l hl=>by
  simp only [LD.m,f116v1_l6,nt,Int.lt_irrefl,decide_false,cond_false])]
 rfl
theorem f49_eq {a:TMods} (h:Small a):f49_m a=some ():=by
 unfold f49_m f49_c
 simp only [len24 h.v,len24 h.w,ask_true]
theorem f26_eq {a b:TMods} (hd:b.1=false→b=(false,([],[]))) (sa:Small a) (sb:Small b) (h:a.1=true→b.1=true→PairM a b):f26_m (a,b)=some (joinM a b):=by
 unfold f26_m f26_c joinM
 obtain ⟨a1,a2,a3⟩:=a
 obtain ⟨b1,b2,b3⟩:=b
 simp only at hd h ⊢
 cases a1
 · cases b1
   · rw [hd rfl];rfl
   · simp only [Bool.not_true,Bool.not_false,cond_false,cond_true]
     rw [f49_eq sb];rfl
 · cases b1
   · simp only [Bool.not_true,Bool.not_false,cond_false,cond_true]
     rw [f49_eq sa];rfl
   · obtain ⟨hv,hw⟩:=h rfl rfl
     simp only [Bool.not_true,Bool.not_false,cond_false,cond_true,PD.m,f26_q9]
     rw [f49_eq sa]
     simp only [Option.bind_some]
     rw [f116v1_eq hv hw];rfl
end Go.U
end
section
set_option maxRecDepth 20000
namespace Go.U
open Go
def itvT (t:Int):TItv:=if t=1 then (-128,127) else if t=2 then (-32768,32767) else if t=3 then (-2147483648,2147483647) else (1,0)
def typc (c:TCongr) (t:Int):TCongr:=
 if c.1=true then none31 else if (itvT t).2<(itvT t).1 then none31
 else if c.2.1=0 then (if (itvT t).1≤c.2.2∧c.2.2≤(itvT t).2 then c else none31)
 else if (itvT t).2-((itvT t).2-c.2.2)%c.2.1<(itvT t).1+(c.2.2-(itvT t).1)%c.2.1 then none31
 else if (itvT t).1+(c.2.2-(itvT t).1)%c.2.1=(itvT t).2-((itvT t).2-c.2.2)%c.2.1 then nf 0 ((itvT t).1+(c.2.2-(itvT t).1)%c.2.1) else c
theorem f97_eq (t:Int):f97_m t=some (itvT t):=by
 unfold itvT
 by_cases h1:t=1
 · subst h1;decide +kernel
 · by_cases h2:t=2
   · subst h2;decide +kernel
   · by_cases h3:t=3
     · subst h3;decide +kernel
     · unfold f97_m f97_c
       simp only [h1,h2,h3,decide_false,cond_false,if_false]
theorem itvT_in (t:Int): -2147483648≤(itvT t).1∧(itvT t).1≤1∧0≤(itvT t).2∧(itvT t).2≤2147483647:=by
 unfold itvT
 split
 · decide
 · split
   · decide
   · split<;>decide
theorem of_in {a b:Int} (h1: -2147483648≤a) (h2:a≤2147483647) (h3: -2147483648≤b) (h4:b≤2147483647):f146_m (a,b)=some (if b<a then (1,0) else (a,b)):=by
 unfold f146_m f146_c
 have k1:¬ (4611686018427387904:Int)≤a:=by omega
 have k2:¬ b≤(-4611686018427387904:Int):=by omega
 have k3:¬ (-4611686018427387904:Int)>a:=by omega
 have k4:¬ (4611686018427387904:Int)<b:=by omega
 simp only
 by_cases h:b<a
 · simp only [h,decide_true,cond_true,if_true]
 · simp only [h,k1,k2,k3,k4,decide_false,cond_false,if_false]
theorem meet_in (t:Int):f142_m (itvT t,(-2147483648,2147483647))=some (itvT t):=by
 unfold itvT
 split
 · decide +kernel
 · split
   · decide +kernel
   · split<;>decide +kernel
theorem f50_eq {c:TCongr} (h:CR c) (t:Int):f50_m (c,t)=some (typc c t):=by
 unfold f50_m f50_c f96_m f96_c
 simp only
 obtain ⟨i1,i2,i3,i4⟩:=itvT_in t
 rw [f97_eq,f97_eq]
 simp only [Option.bind_some]
 rw [show itvT 3=(-2147483648,2147483647) from rfl,meet_in]
 simp only [Option.bind_some]
 unfold typc
 cases hb:c.1
 · obtain ⟨a0,a1,a2,a3,a4,a5⟩:=h.bounds hb
   simp only [cond_false,Bool.false_eq_true,if_false]
   by_cases he:(itvT t).2<(itvT t).1
   · simp only [he,decide_true,cond_true,if_true];rfl
   · simp only [he,decide_false,cond_false,if_false]
     have snd:∀ x:Int,f145_m (itvT t,x)=some (decide ((itvT t).1≤x)&&decide (x≤(itvT t).2)):=fun x=>by
       unfold f145_m f145_c f164_m f164_c
       simp only
       rw [of_in i1 (by omega) (by omega) i4,if_neg he]
       simp only [Option.bind_some]
       have k1:¬ (itvT t).1= -4611686018427387904:=by omega
       have k2:¬ (itvT t).2=4611686018427387904:=by omega
       simp only [he,k1,k2,decide_false,Bool.not_false,cond_true,cond_false]
       cases decide ((itvT t).1≤x)<;>rfl
     by_cases h0:c.2.1=0
     · simp only [h0,decide_true,cond_true,if_true]
       rw [snd]
       simp only [Option.bind_some]
       by_cases hin:(itvT t).1≤c.2.2∧c.2.2≤(itvT t).2
       · have d1:=hin.1;have d2:=hin.2
         simp only [d1,d2,decide_true,Bool.and_self,Bool.not_true,cond_false,and_self,if_true]
         rw [of_in (by omega) (by omega) (by omega) (by omega)];rfl
       · rw [if_neg hin]
         have:(decide ((itvT t).1≤c.2.2)&&decide (c.2.2≤(itvT t).2))=false:=by
           rw [Bool.and_eq_false_iff]
           by_cases d1:(itvT t).1≤c.2.2
           · right;exact decide_eq_false fun d2=>hin ⟨d1,d2⟩
           · left;exact decide_eq_false d1
         rw [this];rfl
     · simp only [h0,decide_false,cond_false,if_false]
       have hm:0<c.2.1:=by omega
       rw [wu64_of (n:=c.2.1) a0 (by omega),wi64_of (n:=c.2.2-(itvT t).1) (by omega) (by omega),wi64_of (n:=(itvT t).2-c.2.2) (by omega) (by omega),f117_eq (by omega) (by omega) hm (by omega)]
       simp only [Option.bind_some]
       rw [f117_eq (by omega) (by omega) hm (by omega)]
       simp only [Option.bind_some]
       have p1:=Int.emod_nonneg (c.2.2-(itvT t).1) h0
       have p2:=Int.emod_lt_of_pos (c.2.2-(itvT t).1) hm
       have p3:=Int.emod_nonneg ((itvT t).2-c.2.2) h0
       have p4:=Int.emod_lt_of_pos ((itvT t).2-c.2.2) hm
       generalize (c.2.2-(itvT t).1)%c.2.1=u at p1 p2 ⊢
       generalize ((itvT t).2-c.2.2)%c.2.1=v at p3 p4 ⊢
       rw [wi64_of (n:=u) (by omega) (by omega),wi64_of (n:=v) (by omega) (by omega),wi64_of (n:=(itvT t).1+u) (by omega) (by omega),wi64_of (n:=(itvT t).2-v) (by omega) (by omega)]
       by_cases q1:(itvT t).2-v<(itvT t).1+u
       · simp only [q1,decide_true,cond_true,if_true];rfl
       · simp only [q1,decide_false,cond_false,if_false]
         by_cases q2:(itvT t).1+u=(itvT t).2-v
         · simp only [q2,decide_true,cond_true,if_true]
           obtain ⟨c1,c2⟩:=f127_eq ((itvT t).2-v)
           rw [c1]
           simp only [Option.bind_some]
           rw [of_in (by omega) (by omega) (by omega) (by omega)]
           simp only [Option.bind_some]
           congr 1
           generalize nf 0 ((itvT t).2-v)=w at c2
           obtain ⟨w1,w2,w3⟩:=w
           simp only at c2;subst c2;rfl
         · simp only [q2,decide_false,cond_false,if_false]
           rw [of_in (by omega) (by omega) (by omega) (by omega)];rfl
 · simp only [cond_true,if_true];rfl
theorem typc_cr {c:TCongr} (h:CR c) (t:Int):CR (typc c t):=by
 unfold typc
 split
 · exact none_cr
 · split
   · exact none_cr
   · split
     · split
       · exact h
       · exact none_cr
     · split
       · exact none_cr
       · split
         · exact nf_cr (Int.le_refl _)
         · exact h
theorem typc_cases {c:TCongr} (h:CR c) (t:Int):((∀ z,mem c z→¬ ((itvT t).1≤z∧z≤(itvT t).2))∧typc c t=none31)∨
   (∃ z,mem c z∧((itvT t).1≤z∧z≤(itvT t).2)∧(∀ w,mem c w→((itvT t).1≤w∧w≤(itvT t).2)→w=z)∧typc c t=nf 0 z)∨
   (∃ z w,z≠w∧mem c z∧((itvT t).1≤z∧z≤(itvT t).2)∧mem c w∧((itvT t).1≤w∧w≤(itvT t).2)∧typc c t=c):=by
 obtain ⟨i1,i2,i3,i4⟩:=itvT_in t
 unfold typc
 cases hb:c.1
 · obtain ⟨a0,a1,a2,a3,a4,a5⟩:=h.bounds hb
   simp only [Bool.false_eq_true,if_false]
   by_cases he:(itvT t).2<(itvT t).1
   · rw [if_pos he];exact .inl ⟨fun z _ hz=>by omega,rfl⟩
   · rw [if_neg he]
     by_cases h0:c.2.1=0
     · rw [if_pos h0]
       have only:∀ z,mem c z→z=c.2.2:=fun z ⟨_,_,_,hz⟩=>by
         rw [h0] at hz;have:=Int.zero_dvd.1 hz;omega
       by_cases hin:(itvT t).1≤c.2.2∧c.2.2≤(itvT t).2
       · rw [if_pos hin]
         refine .inr (.inl ⟨c.2.2,⟨hb,a2,a5 h0,by rw [Int.sub_self];exact Int.dvd_zero _⟩,hin,fun w hw _=>only w hw,?_⟩)
         rw [h0] at a4;exact a4.symm
       · rw [if_neg hin];exact .inl ⟨fun z hz hin'=>hin (by rw [← only z hz];exact hin'),rfl⟩
     · rw [if_neg h0]
       have hm:0<c.2.1:=by omega
       have p1:=Int.emod_nonneg (c.2.2-(itvT t).1) h0
       have p2:=Int.emod_lt_of_pos (c.2.2-(itvT t).1) hm
       have p3:=Int.emod_nonneg ((itvT t).2-c.2.2) h0
       have p4:=Int.emod_lt_of_pos ((itvT t).2-c.2.2) hm
       have e1:=Int.emod_add_mul_ediv (c.2.2-(itvT t).1) c.2.1
       have e2:=Int.emod_add_mul_ediv ((itvT t).2-c.2.2) c.2.1
       have dlo:c.2.1 ∣ (itvT t).1+(c.2.2-(itvT t).1)%c.2.1-c.2.2:=⟨-((c.2.2-(itvT t).1)/c.2.1),by rw [Int.mul_neg];omega⟩
       have dhi:c.2.1 ∣ (itvT t).2-((itvT t).2-c.2.2)%c.2.1-c.2.2:=⟨((itvT t).2-c.2.2)/c.2.1,by omega⟩
       generalize (c.2.2-(itvT t).1)%c.2.1=u at p1 p2 dlo ⊢
       generalize ((itvT t).2-c.2.2)%c.2.1=v at p3 p4 dhi ⊢
       have bnd:∀ z,mem c z→(itvT t).1≤z∧z≤(itvT t).2→(itvT t).1+u≤z∧z≤(itvT t).2-v:=fun z ⟨_,_,_,hz⟩ ⟨z1,z2⟩=>by
         obtain ⟨k,hk⟩:=Int.dvd_sub hz dlo
         obtain ⟨l,hl⟩:=Int.dvd_sub dhi hz
         refine ⟨?_,?_⟩
         · rcases Int.lt_or_le k 0 with hk0|hk0
           · have:c.2.1 * k≤c.2.1 * (-1):=Int.mul_le_mul_of_nonneg_left (by omega) (by omega)
             omega
           · have:0≤c.2.1 * k:=Int.mul_nonneg (by omega) hk0
             omega
         · rcases Int.lt_or_le l 0 with hl0|hl0
           · have:c.2.1 * l≤c.2.1 * (-1):=Int.mul_le_mul_of_nonneg_left (by omega) (by omega)
             omega
           · have:0≤c.2.1 * l:=Int.mul_nonneg (by omega) hl0
             omega
       by_cases q1:(itvT t).2-v<(itvT t).1+u
       · rw [if_pos q1];exact .inl ⟨fun z hz hin=>by have:=bnd z hz hin;omega,rfl⟩
       · rw [if_neg q1]
         have mlo:mem c ((itvT t).1+u):=⟨hb,by omega,by omega,dlo⟩
         have mhi:mem c ((itvT t).2-v):=⟨hb,by omega,by omega,dhi⟩
         by_cases q2:(itvT t).1+u=(itvT t).2-v
         · rw [if_pos q2]
           exact .inr (.inl ⟨_,mlo,⟨by omega,by omega⟩,fun w hw hin=>by have:=bnd w hw hin;omega,rfl⟩)
         · rw [if_neg q2]
           exact .inr (.inr ⟨_,_,q2,mlo,⟨by omega,by omega⟩,mhi,⟨by omega,by omega⟩,rfl⟩)
 · simp only [if_true]
   exact .inl ⟨fun z hz=>(by have:=hz.1;rw [hb] at this;cases this),trivial⟩
theorem typc_mono {c d:TCongr} (hc:CR c) (hd:CR d) (h:leqr c d=true) (t:Int):leqr (typc c t) (typc d t)=true:=by
 have hs:=(leq_mem hc hd).1 h
 rcases typc_cases hc t with ⟨_,e⟩|⟨z,z1,z2,_,e⟩|⟨z,w,hn,z1,z2,w1,w2,e⟩
 · rw [e];rfl
 · rw [e]
   rcases typc_cases hd t with ⟨n,_⟩|⟨z',_,_,u,e'⟩|⟨_,_,_,_,_,_,_,e'⟩
   · exact absurd z2 (n z (hs z z1))
   · rw [e',u z (hs z z1) z2];exact leqr_refl (nf_cr (Int.le_refl _))
   · rw [e']
     refine (leq_mem (nf_cr (Int.le_refl _)) hd).2 fun v hv=> ?_
     obtain ⟨_,_,v3⟩:=(mem_nf (Int.le_refl _)).1 hv
     have:=Int.zero_dvd.1 v3
     have:v=z:=by omega
     subst this;exact hs v z1
 · rw [e]
   rcases typc_cases hd t with ⟨n,_⟩|⟨z',_,_,u,e'⟩|⟨_,_,_,_,_,_,_,e'⟩
   · exact absurd z2 (n z (hs z z1))
   · exact absurd ((u z (hs z z1) z2).trans (u w (hs w w1) w2).symm) hn
   · rw [e'];exact h
end Go.U
end
section
set_option maxRecDepth 20000
namespace Go.U
open Go
theorem eq_of_mem {a b:TCongr} (ha:CR a) (hb:CR b) (h:∀ z,mem a z↔mem b z):a=b:=by
 have l1:=(leq_mem ha hb).2 fun z=>(h z).1
 have l2:=(leq_mem hb ha).2 fun z=>(h z).2
 cases h1:a.1
 · obtain ⟨e1,d1,d2⟩:=le_div ha hb l1 h1
   obtain ⟨_,d3,d4⟩:=le_div hb ha l2 e1
   have a0:=(ha.bounds h1).1;have b0:=(hb.bounds e1).1
   have em:a.2.1=b.2.1:=Int.dvd_antisymm a0 b0 d3 d1
   by_cases h0:b.2.1=0
   · exact const_eq ha hb l1 h1 h0
   · have ra:=ha.rem h1 (by rw [em];exact h0)
     have rb:=hb.rem e1 h0
     have er:a.2.2=b.2.2:=by
      rw [ra.1,rb.1,em];exact dvd_emod d2
     obtain ⟨p,m,r⟩:=a
     obtain ⟨q,m',r'⟩:=b
     simp only at h1 e1 em er
     rw [h1,e1,em,er]
 · cases h2:b.1
   · have:=(le_div hb ha l2 h2).1;rw [h1] at this;cases this
   · rw [ha.true h1,hb.true h2]
def MeetS (a b c:TCongr):Prop:=CR c∧∀ z,mem c z↔mem a z∧mem b z
theorem MeetS.uniq {a b c d:TCongr} (h:MeetS a b c) (h':MeetS a b d):c=d:=eq_of_mem h.1 h'.1 fun z=>(h.2 z).trans (h'.2 z).symm
theorem none_mem {z:Int}:¬ mem none31 z:=fun h=>by cases h.1
theorem inv_step {n r s q x y:Nat} (hq:q=r/s) (hI:x * s+y * r≤n):y * (r%s)+(x+q * y) * s≤n:=by
 have e:r=r%s+s * q:=by rw [hq];exact (Nat.mod_add_div r s).symm
 have:y * (r%s)+(x+q * y) * s=x * s+y * r:=by
  rw [Nat.add_mul]
  have e2:y * r=y * (r%s)+q * y * s:=by
   conv=>lhs;rw [e]
   rw [Nat.mul_add,Nat.mul_comm q y,Nat.mul_assoc,Nat.mul_comm s q]
  rw [e2];omega
 omega
theorem f149_eq {a n:Nat} (hn:1<n) (hn1:n<4294967296) (ha:a<n) (hg:Nat.gcd a n=1):∃ v:Int,f149_m ((a:Int),(n:Int))=some v∧0≤v∧v<(n:Int)∧(n:Int) ∣ v * (a:Int)-1:=by
 unfold f149_m f149_c
 simp only
 rw [wi64_of (n:=(a:Int)) (by omega) (by omega),wi64_of (n:=(n:Int)) (by omega) (by omega)]
 obtain ⟨e,h1,h2⟩:=loopAll_of (step:=f149_l2.m (n:Int)) (t:=(1,0,(a:Int),(n:Int)))
  (fun t=>∃ x y r s:Nat,t.2.2.1=(r:Int)∧t.2.2.2=(s:Int)∧((t.1=(x:Int)∧t.2.1= -(y:Int))∨(t.1= -(x:Int)∧t.2.1=(y:Int)))∧x * s+y * r≤n∧x≤n∧y≤n∧r≤n∧s≤n∧(r<n∨s<n)∧Nat.gcd r s=1∧(n:Int) ∣ t.1 * (a:Int)-t.2.2.1∧(n:Int) ∣ t.2.1 * (a:Int)-t.2.2.2)
  (fun t=>t.2.2.2.toNat) (fun e=> -4294967296≤e∧e≤4294967296∧(n:Int) ∣ e * (a:Int)-1)
  ⟨1,0,a,n,rfl,rfl,.inl ⟨rfl,rfl⟩,by omega,by omega,by omega,by omega,by omega,.inl ha,hg,by simp,by simp only [Int.zero_mul,Int.zero_sub];exact Int.dvd_neg.2 (Int.dvd_refl _)⟩ (by simp only;omega) (fun t ⟨x,y,r,s,hr,hs,hxy,hI,hx,hy,hrn,hsn,hlt,hgg,d1,d2⟩=>by
   obtain ⟨tx,ty,tr,ts⟩:=t
   simp only at hr hs hxy d1 d2
   subst hr;subst hs
   simp only [LD.m,f149_l2]
   by_cases h0:s=0
   · subst h0
     simp only [Int.natCast_zero,decide_true,Bool.not_true,cond_false]
     refine .inr ⟨_,rfl,?_⟩
     rw [Nat.gcd_zero_right] at hgg
     subst hgg
     have hb: -4294967296≤tx∧tx≤4294967296:=by rcases hxy with ⟨h,_⟩|⟨h,_⟩<;>omega
     exact ⟨hb.1,hb.2,d1⟩
   · have h0':¬ (s:Int)=0:=by omega
     simp only [h0',decide_false,Bool.not_false,cond_true,cond_false]
     have hq:Int.tdiv (r:Int) (s:Int)=((r/s:Nat):Int):=rfl
     have hqr:r/s≤r:=Nat.div_le_self _ _
     have I2:=inv_step (q:=r/s) rfl hI
     have hqs:r/s * s≤r:=Nat.div_mul_le_self r s
     have er:r%s=r-r/s * s:=by have:=Nat.mod_add_div r s;rw [Nat.mul_comm] at this;omega
     have hmod:r%s<s:=Nat.mod_lt _ (by omega)
     have hgg':Nat.gcd s (r%s)=1:=by rw [Nat.gcd_comm,← Nat.gcd_rec,Nat.gcd_comm];exact hgg
     rw [hq]
     clear hI hq
     generalize r/s=w at hqr I2 hqs er ⊢
     generalize r%s=e at I2 er hmod hgg' ⊢
     have hy':x+w * y≤n:=by
       have:(x+w * y) * 1≤(x+w * y) * s:=Nat.mul_le_mul_left _ (by omega)
       omega
     rw [wi64_of (n:=(w:Int)) (by omega) (by omega)]
     have m1:(w:Int) * (s:Int)=((w * s:Nat):Int):=(Int.natCast_mul _ _).symm
     have m2:(w:Int) * (y:Int)=((w * y:Nat):Int):=(Int.natCast_mul _ _).symm
     rw [m1,wi64_of (n:=((w * s:Nat):Int)) (by omega) (by omega),wi64_of (n:=(r:Int)-((w * s:Nat):Int)) (by omega) (by omega)]
     have e1:(r:Int)-((w * s:Nat):Int)=(e:Int):=by omega
     have hyq:(w:Int) * ty=((w * y:Nat):Int)∨(w:Int) * ty= -((w * y:Nat):Int):=by
       rcases hxy with ⟨_,h⟩|⟨_,h⟩
       · right;rw [h,Int.mul_neg,m2]
       · left;rw [h,m2]
     obtain ⟨wy,hwy⟩:∃ wy,(w:Int) * ty=wy:=⟨_,rfl⟩
     rw [hwy] at hyq ⊢
     have hyb: -4294967296≤wy∧wy≤4294967296:=by
       rcases hyq with h|h<;>rw [h]<;>omega
     have hxb: -4294967296≤tx∧tx≤4294967296:=by rcases hxy with ⟨h,_⟩|⟨h,_⟩<;>omega
     rw [wi64_of (n:=wy) (by omega) (by omega),wi64_of (n:=tx-wy) (by omega) (by omega)]
     refine .inl ⟨_,rfl,⟨y,x+w * y,s,e,rfl,e1,?_,I2,by omega,hy',hsn,by omega,.inr (by omega),hgg',d2,?_⟩,by simp only;omega⟩
     · rcases hxy with ⟨g1,g2⟩|⟨g1,g2⟩
       · right;refine ⟨g2,?_⟩;simp only;rw [g1,← hwy,g2,Int.mul_neg,m2];omega
       · left;refine ⟨g2,?_⟩;simp only;rw [g1,← hwy,g2,m2];omega
     · simp only
       have:(tx-wy) * (a:Int)-((r:Int)-((w * s:Nat):Int))=(tx * (a:Int)-(r:Int))-(w:Int) * (ty * (a:Int)-(s:Int)):=by
         rw [Int.sub_mul,Int.mul_sub,← Int.mul_assoc,hwy,m1];omega
       rw [this]
       exact Int.dvd_sub d1 (Int.dvd_trans d2 (Int.dvd_mul_left _ _)))
 rw [h1]
 simp only [Option.bind_some]
 obtain ⟨b1,b2,b3⟩:=h2
 rw [f117_eq (by omega) (by omega) (by omega) (by omega)]
 refine ⟨_,rfl,Int.emod_nonneg _ (by omega),Int.emod_lt_of_pos _ (by omega),?_⟩
 have k:=Int.emod_add_mul_ediv e (n:Int)
 rw [show e%(n:Int) * (a:Int)-1=(e * (a:Int)-1)-(n:Int) * (e/(n:Int) * (a:Int)) by
  have:e * (a:Int)=e%(n:Int) * (a:Int)+(n:Int) * (e/(n:Int)) * (a:Int):=by rw [← Int.add_mul,k]
  rw [this,Int.mul_assoc];omega]
 exact Int.dvd_sub b3 (Int.dvd_mul_right _ _)
theorem lcm_mem {m n:Nat} {x z r1 r2:Int} (h1:(m:Int) ∣ x-r1) (h2:(n:Int) ∣ x-r2):((m * (n/Nat.gcd m n):Nat):Int) ∣ z-x↔(m:Int) ∣ z-r1∧(n:Int) ∣ z-r2:=by
 have e:m * (n/Nat.gcd m n)=Nat.lcm m n:=(Nat.mul_div_assoc m (Nat.gcd_dvd_right m n)).symm
 rw [e]
 constructor
 · intro h
   have k1:(m:Int) ∣ z-x:=Int.dvd_trans (Int.natCast_dvd_natCast.2 (Nat.dvd_lcm_left m n)) h
   have k2:(n:Int) ∣ z-x:=Int.dvd_trans (Int.natCast_dvd_natCast.2 (Nat.dvd_lcm_right m n)) h
   exact ⟨(dvd_swap h1).1 k1,(dvd_swap h2).1 k2⟩
 · rintro ⟨k1,k2⟩
   have k1:=(dvd_swap h1).2 k1
   have k2:=(dvd_swap h2).2 k2
   exact Int.dvd_natAbs.1 (Int.natCast_dvd_natCast.2 (Nat.lcm_dvd (Int.natCast_dvd_natCast.1 (Int.dvd_natAbs.2 k1)) (Int.natCast_dvd_natCast.1 (Int.dvd_natAbs.2 k2))))
theorem meet_const {a b:TCongr} (ha:CR a) (hb:CR b) (h1:a.1=false) (h0:a.2.1=0):MeetS a b (cond (hasc b a.2.2) a none31):=by
 obtain ⟨a0,_,a2,_,_,a5⟩:=ha.bounds h1
 have only:∀ z,mem a z→z=a.2.2:=fun z ⟨_,_,_,hz⟩=>by
   rw [h0] at hz;have:=Int.zero_dvd.1 hz;omega
 cases hh:hasc b a.2.2
 · refine ⟨none_cr,fun z=>⟨fun h=>absurd h none_mem,fun ⟨k1,k2⟩=> ?_⟩⟩
   rw [only z k1] at k2
   rw [(hasc_mem hb _).2 k2] at hh;cases hh
 · exact ⟨ha,fun z=>⟨fun h=>⟨h,by rw [only z h];exact (hasc_mem hb _).1 hh⟩,fun h=>h.1⟩⟩
theorem MeetS.comm {a b c:TCongr} (h:MeetS a b c):MeetS b a c:=⟨h.1,fun z=>(h.2 z).trans And.comm⟩
theorem f102_eq {a b:TCongr} (ha:CR a) (hb:CR b):∃ c,f102_m (a,b)=some c∧MeetS a b c:=by
 unfold f102_m f102_c
 cases h1:a.1
 · cases h2:b.1
   · simp only [cond_false]
     obtain ⟨a0,a1,a2,a3,a4,a5⟩:=ha.bounds h1
     obtain ⟨b0,b1,b2,b3,b4,b5⟩:=hb.bounds h2
     by_cases c1:a.2.1=0
     · simp only [c1,decide_true,Bool.not_true,cond_true,cond_false]
       rw [f64_eq hb]
       have:=meet_const ha hb h1 c1
       simp only [Option.bind_some]
       cases hh:hasc b a.2.2<;>rw [hh] at this
       · exact ⟨_,rfl,this⟩
       · exact ⟨_,rfl,this⟩
     · by_cases c2:b.2.1=0
       · simp only [c1,c2,decide_true,decide_false,Bool.not_false,cond_true,cond_false]
         rw [f64_eq ha]
         have:=(meet_const hb ha h2 c2).comm
         simp only [Option.bind_some]
         cases hh:hasc a b.2.2<;>rw [hh] at this
         · exact ⟨_,rfl,this⟩
         · exact ⟨_,rfl,this⟩
       · simp only [c1,c2,decide_false,cond_false]
         obtain ⟨M,hM⟩:=Int.eq_ofNat_of_zero_le a0
         obtain ⟨N,hN⟩:=Int.eq_ofNat_of_zero_le b0
         obtain ⟨_,ra0,ra1⟩:=ha.rem h1 c1
         obtain ⟨_,rb0,rb1⟩:=hb.rem h2 c2
         obtain ⟨pa,m,r1⟩:=a
         obtain ⟨pb,n,r2⟩:=b
         simp only at h1 h2 hM hN ra0 ra1 rb0 rb1 a1 b1 a3 b3 c1 c2 ⊢
         subst h1;subst h2;subst hM;subst hN
         have hM0:0<M:=by omega
         have hN0:0<N:=by omega
         have hd0:0<Nat.gcd M N:=Nat.gcd_pos_of_pos_left _ hM0
         have hdM:Nat.gcd M N≤M:=Nat.le_of_dvd hM0 (Nat.gcd_dvd_left _ _)
         have hdN:Nat.gcd M N≤N:=Nat.le_of_dvd hN0 (Nat.gcd_dvd_right _ _)
         rw [wu64_of (n:=(M:Int)) (by omega) (by omega),wu64_of (n:=(N:Int)) (by omega) (by omega),f128_eq _ _ (by omega),wi64_of (n:=r1-r2) (by omega) (by omega),f129_eq (by omega) (by omega)]
         simp only [Option.bind_some]
         have hdz:¬ ((Nat.gcd M N:Nat):Int)=0:=by omega
         simp only [hdz,decide_false,cond_false]
         have dvM:((Nat.gcd M N:Nat):Int) ∣ (M:Int):=gdl M N
         have dvN:((Nat.gcd M N:Nat):Int) ∣ (N:Int):=gdr M N
         by_cases hr:((Nat.gcd M N:Nat):Int) ∣ r1-r2
         · have hr':Int.tmod ((r1-r2).natAbs:Int) ((Nat.gcd M N:Nat):Int)=0:=tmod_zero_iff.2 (Int.dvd_natAbs.2 hr)
           simp only [hr',decide_true,Bool.not_true,cond_false]
           have q1:Int.tdiv (N:Int) ((Nat.gcd M N:Nat):Int)=((N/Nat.gcd M N:Nat):Int):=rfl
           have q2:Int.tdiv (M:Int) ((Nat.gcd M N:Nat):Int)=((M/Nat.gcd M N:Nat):Int):=rfl
           have qN:N/Nat.gcd M N≤N:=Nat.div_le_self _ _
           have qM:M/Nat.gcd M N≤M:=Nat.div_le_self _ _
           have qpos:0<N/Nat.gcd M N:=Nat.div_pos hdN hd0
           have eN:Nat.gcd M N * (N/Nat.gcd M N)=N:=Nat.mul_div_cancel' (Nat.gcd_dvd_right _ _)
           have eM:Nat.gcd M N * (M/Nat.gcd M N)=M:=Nat.mul_div_cancel' (Nat.gcd_dvd_left _ _)
           have hcop:Nat.gcd (M/Nat.gcd M N) (N/Nat.gcd M N)=1:=(Nat.coprime_div_gcd_div_gcd hd0).gcd_eq_one
           have hlm:∀ {x z:Int},(M:Int) ∣ x-r1→(N:Int) ∣ x-r2→(((M * (N/Nat.gcd M N):Nat):Int) ∣ z-x↔(M:Int) ∣ z-r1∧(N:Int) ∣ z-r2):=fun h1 h2=>lcm_mem h1 h2
           rw [q1,q2]
           clear q1 q2
           generalize N/Nat.gcd M N=n' at qN qpos eN hcop hlm ⊢
           generalize M/Nat.gcd M N=m' at qM eM hcop ⊢
           have hLlt:M * n'≤4294967295 * 4294967295:=Nat.mul_le_mul (by omega) (by omega)
           rw [wu64_of (n:=(n':Int)) (by omega) (by omega),wu64_of (n:=(m':Int)) (by omega) (by omega)]
           have hL:(M:Int) * ((n':Nat):Int)=((M * (n'):Nat):Int):=(Int.natCast_mul _ _).symm
           have hL0:0<M * (n'):=Nat.mul_pos hM0 qpos
           have fin:∀ k:Nat,k<n'→(N:Int) ∣ (M:Int) * (k:Int)+r1-r2→∃ c,((f132_m ((wu64 ((M:Int) * ((n':Nat):Int))),(wu64 ((wu64 ((M:Int) * (k:Int)))+(wu64 r1))))).bind fun r=>some r)=some c∧MeetS (false,((M:Int),r1)) (false,((N:Int),r2)) c:=fun k hk hd=>by
             have hMk:(M:Int) * (k:Int)=((M * k:Nat):Int):=(Int.natCast_mul _ _).symm
             have hMk1:M * k+M≤M * (n'):=by rw [← Nat.mul_succ];exact Nat.mul_le_mul_left _ hk
             rw [hMk] at hd ⊢
             rw [hL,wu64_of (n:=((M * (n'):Nat):Int)) (by omega) (by omega),wu64_of (n:=((M * k:Nat):Int)) (by omega) (by omega),wu64_of (n:=r1) ra0 (by omega),wu64_of (n:=((M * k:Nat):Int)+r1) (by omega) (by omega),f132_eq (by omega) (by omega) (by omega) (by omega)]
             refine ⟨_,rfl,nf_cr (by omega),fun z=> ?_⟩
             rw [mem_nf (by omega),hlm (by rw [show ((M * k:Nat):Int)+r1-r1=((M * k:Nat):Int) by omega,← hMk];exact Int.dvd_mul_right _ _) hd]
             exact ⟨fun ⟨g1,g2,g3,g4⟩=>⟨⟨rfl,g1,g2,g3⟩,rfl,g1,g2,g4⟩,fun ⟨⟨_,g1,g2,g3⟩,_,_,_,g4⟩=>⟨g1,g2,g3,g4⟩⟩
           by_cases hn1:1<n'
           · have hn1':(1:Int)<((n':Nat):Int):=by omega
             have hz':¬ ((n':Nat):Int)=0:=by omega
             have wd:wi64 ((Nat.gcd M N:Nat):Int)=((Nat.gcd M N:Nat):Int):=wi64_of (by omega) (by omega)
             simp only [hn1',hz',wd,hdz,decide_true,decide_false,cond_true,cond_false]
             obtain ⟨t,ht⟩:((Nat.gcd M N:Nat):Int) ∣ r2-r1:=by rw [show r2-r1= -(r1-r2) by omega];exact Int.dvd_neg.2 hr
             rw [wi64_of (n:=r2-r1) (by omega) (by omega),ht,Int.mul_tdiv_cancel_left t hdz]
             have htb: -4294967296≤t∧t≤4294967296:=by
              have e:=Int.mul_tdiv_cancel_left t hdz
              rw [← ht] at e
              have:=tdiv_le (a:=r2-r1) (b:=((Nat.gcd M N:Nat):Int))
              rw [e] at this;omega
             rw [wi64_of (n:=t) (by omega) (by omega),f117_eq (by omega) (by omega) (by omega) (by omega)]
             simp only [Option.bind_some]
             have tm:Int.tmod ((m':Nat):Int) ((n':Nat):Int)=((m'%(n'):Nat):Int):=rfl
             rw [tm]
             obtain ⟨v,v1,v2,v3,v4⟩:=f149_eq (a:=m'%(n')) (n:=n') hn1 (by omega) (Nat.mod_lt _ (by omega)) (by rw [← Nat.gcd_rec,Nat.gcd_comm];exact hcop)
             rw [v1]
             simp only [Option.bind_some]
             have u0:=Int.emod_nonneg t hz'
             have u1:=Int.emod_lt_of_pos t (show (0:Int)<((n':Nat):Int) by omega)
             rw [hi0 u0 (by omega) v2 (by omega)]
             have huv:0≤t%((n':Nat):Int) * v:=Int.mul_nonneg u0 v2
             have huv1:t%((n':Nat):Int) * v≤4294967295 * 4294967295:=Int.mul_le_mul (by omega) (by omega) v2 (by decide)
             rw [wu64_of (n:=t%((n':Nat):Int) * v) huv (by omega),f131_eq (by omega) huv]
             simp only [Option.bind_some]
             have k0:=Int.emod_nonneg (t%((n':Nat):Int) * v) hz'
             have k1:=Int.emod_lt_of_pos (t%((n':Nat):Int) * v) (show (0:Int)<((n':Nat):Int) by omega)
             obtain ⟨k,hk⟩:=Int.eq_ofNat_of_zero_le k0
             have dk:((n':Nat):Int) ∣ ((m':Nat):Int) * (k:Int)-t:=by
              have e1:((n':Nat):Int) ∣ (k:Int)-t * v:=by
               rw [← hk]
               refine emod_dvd ?_
               rw [Int.emod_emod_of_dvd _ (Int.dvd_refl _),Int.mul_emod,Int.emod_emod_of_dvd _ (Int.dvd_refl _),← Int.mul_emod]
              have e2:((n':Nat):Int) ∣ v * ((m':Nat):Int)-1:=by
               have:((n':Nat):Int) ∣ ((m':Nat):Int)-((m'%(n'):Nat):Int):=by
                refine emod_dvd ?_
                rw [Int.natCast_emod,Int.emod_emod_of_dvd _ (Int.dvd_refl _)]
               rw [show v * ((m':Nat):Int)-1=v * (((m':Nat):Int)-((m'%(n'):Nat):Int))+(v * ((m'%(n'):Nat):Int)-1) by rw [Int.mul_sub];omega]
               exact Int.dvd_add (Int.dvd_trans this (Int.dvd_mul_left _ _)) v4
              rw [show ((m':Nat):Int) * (k:Int)-t=((m':Nat):Int) * ((k:Int)-t * v)+t * (v * ((m':Nat):Int)-1) by
               have e3:t * (v * (m':Int))=(m':Int) * (t * v):=by rw [← Int.mul_assoc,Int.mul_comm]
               rw [Int.mul_sub,Int.mul_sub,Int.mul_one,e3];omega]
              exact Int.dvd_add (Int.dvd_trans e1 (Int.dvd_mul_left _ _)) (Int.dvd_trans e2 (Int.dvd_mul_left _ _))
             rw [hk]
             refine fin k (by omega) ?_
             obtain ⟨w,hw⟩:=dk
             refine ⟨w,?_⟩
             have eMi:(M:Int)=((Nat.gcd M N:Nat):Int) * ((m':Nat):Int):=by rw [← Int.natCast_mul,eM]
             have eNi:(N:Int)=((Nat.gcd M N:Nat):Int) * ((n':Nat):Int):=by rw [← Int.natCast_mul,eN]
             rw [eNi,Int.mul_assoc,← hw,Int.mul_sub,← ht,← Int.mul_assoc,← eMi];omega
           · have hn1':¬ (1:Int)<((n':Nat):Int):=by omega
             simp only [hn1',decide_false,cond_false]
             have hone:n'=1:=by omega
             refine fin 0 (by omega) ?_
             have:Nat.gcd M N=N:=by rw [hone,Nat.mul_one] at eN;exact eN
             rw [this] at hr
             simpa using hr
         · have hr':¬ Int.tmod ((r1-r2).natAbs:Int) ((Nat.gcd M N:Nat):Int)=0:=fun e=>hr (Int.dvd_natAbs.1 (tmod_zero_iff.1 e))
           simp only [hr',decide_false,Bool.not_false,cond_true]
           refine ⟨_,rfl,none_cr,fun z=>⟨fun h=>absurd h none_mem,fun ⟨⟨_,_,_,g1⟩,_,_,_,g2⟩=>absurd ?_ hr⟩⟩
           simp only at g1 g2
           rw [show r1-r2=(z-r2)-(z-r1) by omega]
           exact Int.dvd_sub (Int.dvd_trans dvN g2) (Int.dvd_trans dvM g1)
   · simp only [cond_false,cond_true]
     exact ⟨_,rfl,none_cr,fun z=>⟨fun h=>absurd h none_mem,fun h=>by have:=h.2.1;rw [h2] at this;cases this⟩⟩
 · simp only [cond_true]
   exact ⟨_,rfl,none_cr,fun z=>⟨fun h=>absurd h none_mem,fun h=>by have:=h.1.1;rw [h1] at this;cases this⟩⟩
open Classical in
noncomputable def meetc (a b:TCongr):TCongr:=if h:∃ c,MeetS a b c then Classical.choose h else none31
theorem meetc_of {a b c:TCongr} (h:MeetS a b c):meetc a b=c:=by
 have hh:∃ c,MeetS a b c:=⟨c,h⟩
 unfold meetc
 rw [dif_pos hh]
 exact (Classical.choose_spec hh).uniq h
theorem meet_eq {a b:TCongr} (ha:CR a) (hb:CR b):f102_m (a,b)=some (meetc a b)∧MeetS a b (meetc a b):=by
 obtain ⟨c,h1,h2⟩:=f102_eq ha hb
 rw [meetc_of h2];exact ⟨h1,h2⟩
theorem meet_mono {a b a' b':TCongr} (ha:CR a) (hb:CR b) (ha':CR a') (hb':CR b') (h:leqr a a'=true) (h':leqr b b'=true):leqr (meetc a b) (meetc a' b')=true:=by
 have m1:=(meet_eq ha hb).2;have m2:=(meet_eq ha' hb').2
 exact (leq_mem m1.1 m2.1).2 fun z hz=>(m2.2 z).2 ⟨(leq_mem ha ha').1 h z ((m1.2 z).1 hz).1,(leq_mem hb hb').1 h' z ((m1.2 z).1 hz).2⟩
end Go.U
end
section
set_option maxRecDepth 20000
namespace Go.U
open Go
def holdsb (op x y:Int):Bool:=cond (decide (op=14)) (decide (x=y)) (cond (decide (op=15)) (!(decide (x=y))) (cond (decide (op=16)) (decide (x<y)) (cond (decide (op=17)) (decide (x≤y)) (cond (decide (op=18)) (decide (y<x)) (decide (y≤x))))))
theorem f147_eq (op x y:Int):f147_m (op,x,y)=some (holdsb op x y):=by
 unfold f147_m f147_c holdsb
 simp only
 cases decide (op=14)
 · cases decide (op=15)
   · cases decide (op=16)
     · cases decide (op=17)
       · cases decide (op=18)<;>rfl
       · rfl
     · rfl
   · rfl
 · rfl
def NoneT (op:Int) (a b:TCongr):Prop:=a.1=true∨b.1=true∨(a.2.1=0∧b.2.1=0∧holdsb op a.2.2 b.2.2=false)
open Classical in
noncomputable def testc (op:Int) (a b:TCongr):TCongr×TCongr:=
 if op<14∨19<op then (a,b) else if NoneT op a b then (none31,none31) else if op=14 then (meetc a b,meetc a b) else (a,b)
theorem f101_eq {op:Int} {a b:TCongr} (ha:CR a) (hb:CR b):f101_m (op,a,b)=some (testc op a b):=by
 unfold f101_m f101_c testc NoneT
 simp only
 by_cases o1:op<14
 · simp [o1]
 · by_cases o2:19<op
   · simp [o2]
   · simp only [o1,o2,decide_false,cond_false,or_self,if_false]
     have hm:=(meet_eq ha hb).1
     have fin:(cond (decide (op=14)) ((f102_m (a,b)).bind fun r=>some (r,r)) (some (a,b)))=some (if op=14 then (meetc a b,meetc a b) else (a,b)):=by
       rw [hm]
       by_cases o3:op=14
       · simp [o3]
       · simp [o3]
     cases h1:a.1
     · cases h2:b.1
       · simp only [cond_false,Bool.false_eq_true,false_or]
         by_cases c1:a.2.1=0
         · by_cases c2:b.2.1=0
           · simp only [c1,c2,decide_true,cond_true,true_and]
             rw [f147_eq]
             simp only [Option.bind_some]
             cases hh:holdsb op a.2.2 b.2.2
             · simp [none31]
             · simp only [Bool.not_true,cond_false,Bool.true_eq_false,if_false]
               exact fin
           · simp only [c1,c2,decide_true,decide_false,cond_true,cond_false,false_and,and_false,if_false]
             exact fin
         · simp only [c1,decide_false,cond_false,false_and,if_false]
           exact fin
       · simp [none31]
     · simp [none31]
theorem testc_cr {op:Int} {a b:TCongr} (ha:CR a) (hb:CR b):CR (testc op a b).1∧CR (testc op a b).2:=by
 have hm:=(meet_eq ha hb).2.1
 unfold testc
 split
 · exact ⟨ha,hb⟩
 · split
   · exact ⟨none_cr,none_cr⟩
   · split
     · exact ⟨hm,hm⟩
     · exact ⟨ha,hb⟩
theorem testc_mono {op:Int} {a b a' b':TCongr} (ha:CR a) (hb:CR b) (ha':CR a') (hb':CR b') (h:leqr a a'=true) (h':leqr b b'=true):leqr (testc op a b).1 (testc op a' b').1=true∧leqr (testc op a b).2 (testc op a' b').2=true:=by
 unfold testc
 by_cases o:op<14∨19<op
 · rw [if_pos o,if_pos o];exact ⟨h,h'⟩
 · rw [if_neg o,if_neg o]
   by_cases n:NoneT op a b
   · rw [if_pos n];exact ⟨rfl,rfl⟩
   · have n':¬ NoneT op a' b':=fun hn=>n (by
       unfold NoneT at n hn ⊢
       cases h1:a.1
       · cases h2:b.1
         · rcases hn with hn|hn|⟨z1,z2,hn⟩
           · have:=(le_div ha ha' h h1).1;rw [hn] at this;cases this
           · have:=(le_div hb hb' h' h2).1;rw [hn] at this;cases this
           · have e1:=const_eq ha ha' h h1 z1
             have e2:=const_eq hb hb' h' h2 z2
             rw [e1,e2];exact .inr (.inr ⟨z1,z2,hn⟩)
         · exact .inr (.inl rfl)
       · exact .inl rfl)
     rw [if_neg n,if_neg n']
     by_cases e:op=14
     · rw [if_pos e,if_pos e]
       have:=meet_mono ha hb ha' hb' h h'
       exact ⟨this,this⟩
     · rw [if_neg e,if_neg e];exact ⟨h,h'⟩
def turnc (op:Int):Int:=if op=14 then 15 else if op=15 then 14 else if op=16 then 19 else if op=17 then 18 else if op=18 then 17 else 16
theorem f100_eq {op:Int} (h0:14≤op) (h1:op≤19):f100_m op=some (turnc op):=by
 have:op=14∨op=15∨op=16∨op=17∨op=18∨op=19:=by omega
 rcases this with rfl|rfl|rfl|rfl|rfl|rfl<;>decide +kernel
noncomputable def refv (S:Int) (v:List TCongr) (r:Int) (c:TCongr):Option (List TCongr):=
 if r<S then (if (meetc (gx v r.toNat dCongr) c).1=true then none else some (v.set r.toNat (meetc (gx v r.toNat dCongr) c))) else some v
structure Vals (S:Int) (v:List TCongr):Prop where
 n:(v.length:Int)=S
 c:∀ i,i<v.length→CR (gx v i dCongr)
theorem refv_vals {S:Int} {v w:List TCongr} {r:Int} {c:TCongr} (hv:Vals S v) (h0:0≤r) (hc:CR c) (h:refv S v r c=some w):Vals S w:=by
 unfold refv at h
 by_cases hr:r<S
 · rw [if_pos hr] at h
   have hn:=hv.n
   have hm:=(meet_eq (hv.c r.toNat (by omega)) hc).2.1
   split at h
   · cases h
   · injection h with h
     subst h
     refine ⟨by simpa using hn,fun i hi=> ?_⟩
     rw [gx_set (by omega)]
     split
     · exact hm
     · exact hv.c i (by simpa using hi)
 · rw [if_neg hr] at h
   injection h with h
   subst h;exact hv
theorem refv_mono {S:Int} {v w v':List TCongr} {r:Int} {c c':TCongr} (hv:Vals S v) (hv':Vals S v') (hl:LeL v v') (h0:0≤r) (hc:CR c) (hc':CR c') (h:leqr c c'=true) (hw:refv S v r c=some w):∃ w',refv S v' r c'=some w'∧LeL w w':=by
 unfold refv at hw ⊢
 by_cases hr:r<S
 · rw [if_pos hr] at hw ⊢
   have hn:=hv.n;have hn':=hv'.n
   have l1:=hl.ca r.toNat (by omega);have l2:=hl.cb r.toNat (by omega);have l3:=hl.le r.toNat (by omega)
   have hm:=(meet_eq l1 hc).2.1;have hm':=(meet_eq l2 hc').2.1
   have hle:=meet_mono l1 hc l2 hc' l3 h
   split at hw
   · cases hw
   · rename_i k
     injection hw with hw
     subst hw
     have k':(meetc (gx v' r.toNat dCongr) c').1=false:=(le_div hm hm' hle (by simpa using k)).1
     rw [if_neg (by rw [k'];simp)]
     refine ⟨_,rfl,by simp [hl.e],fun i hi=> ?_,fun i hi=> ?_,fun i hi=> ?_⟩
     · rw [gx_set (by omega)];split
       · exact hm
       · exact hl.ca i (by simpa using hi)
     · rw [gx_set (by omega)];split
       · exact hm'
       · exact hl.cb i (by simpa using hi)
     · rw [gx_set (by omega),gx_set (by omega)];split
       · exact hle
       · exact hl.le i (by simpa using hi)
 · rw [if_neg hr] at hw ⊢
   injection hw with hw
   subst hw;exact ⟨_,rfl,hl⟩
noncomputable def refs (S:Int) (v:List TCongr) (A B:Int) (p q:TCongr):Option (List TCongr):=(refv S v A p).bind fun w=>refv S w B q
theorem l52_eq {g:TGraph} {s:TMods} {T:List (Int×TInstr)} {M:List (Int×TCongr)} {ar v:List TCongr} {A B:Int} {x y:Bool} {p q:TCongr} (hv:Vals ((scs g).length:Int) v) (hA:0≤A) (hB:0≤B) (hp:CR p) (hq:CR q):
   ∃ e,loopAll (f52_l8.m (A,B,x,y,(p,q),g,s,T,M,ar)) (0,v)=some e∧((refs ((scs g).length:Int) v A B p q=none∧∃ u,e= .inl u)∨∃ w,refs ((scs g).length:Int) v A B p q=some w∧e= .inr w):=by
 refine loopAll_of (step:=f52_l8.m (A,B,x,y,(p,q),g,s,T,M,ar)) (t:=(0,v)) (fun t=>t=(0,v)∨(∃ w,t=(1,w)∧refv ((scs g).length:Int) v A p=some w)∨∃ w,t=(2,w)∧refs ((scs g).length:Int) v A B p q=some w) (fun t=>2-t.1.toNat) _ (.inl rfl) (by simp) fun t ht=> ?_
 have w0:wi64 ((0:Int)+1)=1:=by decide
 have w1:wi64 ((1:Int)+1)=2:=by decide
 have t0:(0:Int)<2:=by decide
 have t1:(1:Int)<2:=by decide
 have t10:¬ (1:Int)=0:=by decide
 rcases ht with rfl|⟨w,rfl,hw⟩|⟨w,rfl,hw⟩
 · simp only [LD.m,f52_l8,t0,decide_true,cond_true,nt]
   by_cases hr:A<((scs g).length:Int)
   · have hr':A<(List.length g.2.2.2.2.2.1:Int):=hr
     have hn:=hv.n
     have hi:A<(v.length:Int):=by omega
     have hi2:A<((List.set v A.toNat (meetc (gx v A.toNat dCongr) p)).length:Int):=by simpa using hi
     have hm:=meet_eq (hv.c A.toNat (by omega)) hp
     simp only [hr',decide_true,cond_true,inRI hA hi,ask_true]
     rw [hm.1]
     simp only [Option.bind_some,inRI hA hi2,ask_true]
     rw [gx_set (by omega),if_pos rfl]
     cases hb:(meetc (gx v A.toNat dCongr) p).1
     · simp only [cond_false,w0]
       exact .inl ⟨_,rfl,.inr (.inl ⟨_,rfl,by unfold refv;rw [if_pos hr,if_neg (by rw [hb];simp)]⟩),by simp⟩
     · simp only [cond_true]
       exact .inr ⟨_,rfl,.inl ⟨by unfold refs refv;rw [if_pos hr,if_pos hb];rfl,_,rfl⟩⟩
   · have hr':¬ A<(List.length g.2.2.2.2.2.1:Int):=hr
     simp only [hr',decide_false,cond_false,w0]
     exact .inl ⟨_,rfl,.inr (.inl ⟨_,rfl,by unfold refv;rw [if_neg hr]⟩),by simp⟩
 · have hv2:=refv_vals hv hA hp hw
   have hrs:refs ((scs g).length:Int) v A B p q=refv ((scs g).length:Int) w B q:=by unfold refs;rw [hw];rfl
   simp only [LD.m,f52_l8,t1,t10,decide_true,decide_false,cond_true,cond_false,nt]
   by_cases hr:B<((scs g).length:Int)
   · have hr':B<(List.length g.2.2.2.2.2.1:Int):=hr
     have hn:=hv2.n
     have hi:B<(w.length:Int):=by omega
     have hi2:B<((List.set w B.toNat (meetc (gx w B.toNat dCongr) q)).length:Int):=by simpa using hi
     have hm:=meet_eq (hv2.c B.toNat (by omega)) hq
     simp only [hr',decide_true,cond_true,inRI hB hi,ask_true]
     rw [hm.1]
     simp only [Option.bind_some,inRI hB hi2,ask_true]
     rw [gx_set (by omega),if_pos rfl]
     cases hb:(meetc (gx w B.toNat dCongr) q).1
     · simp only [cond_false,w1]
       exact .inl ⟨_,rfl,.inr (.inr ⟨_,rfl,by rw [hrs];unfold refv;rw [if_pos hr,if_neg (by rw [hb];simp)]⟩),by simp⟩
     · simp only [cond_true]
       exact .inr ⟨_,rfl,.inl ⟨by rw [hrs];unfold refv;rw [if_pos hr,if_pos hb],_,rfl⟩⟩
   · have hr':¬ B<(List.length g.2.2.2.2.2.1:Int):=hr
     simp only [hr',decide_false,cond_false,w1]
     exact .inl ⟨_,rfl,.inr (.inr ⟨_,rfl,by rw [hrs];unfold refv;rw [if_neg hr]⟩),by simp⟩
 · simp only [LD.m,f52_l8,Int.lt_irrefl,decide_false,cond_false]
   exact .inr ⟨_,rfl,.inr ⟨_,hw,rfl⟩⟩
end Go.U
end
section
set_option maxRecDepth 20000
namespace Go.U
open Go
def deadM:TMods:=(false,([],[]))
noncomputable def stepM (g:TGraph) (s:TMods) (out:List TCongr) (y:TInstr) (way:Int):TMods:=
 if 2≤y.1∧y.1≤8 then (if (gx out y.2.1.toNat dCongr).1=true then deadM else s)
 else if y.1=13 then (if (typc (gx out y.2.2.1.toNat dCongr) (gx (scs g) y.2.1.toNat dScalar).2.1).1=true then deadM else (s.1,(s.2.1.set y.2.1.toNat (typc (gx out y.2.2.1.toNat dCongr) (gx (scs g) y.2.1.toNat dScalar).2.1),s.2.2)))
 else if y.1=14 then (if (typc (gx out y.2.1.toNat dCongr) (gx (inps g) y.2.2.1.toNat dArray).2.1).1=true then deadM else (s.1,(s.2.1,s.2.2.set y.2.2.1.toNat (if 1<(gx (inps g) y.2.2.1.toNat dArray).2.2.1 then joinc (gx s.2.2 y.2.2.1.toNat dCongr) (typc (gx out y.2.1.toNat dCongr) (gx (inps g) y.2.2.1.toNat dArray).2.1) else typc (gx out y.2.1.toNat dCongr) (gx (inps g) y.2.2.1.toNat dArray).2.1))))
 else if y.1=15 then (if (testc (if way=1 then turnc y.2.2.2.2.1 else y.2.2.2.2.1) (gx out y.2.2.1.toNat dCongr) (gx out y.2.2.2.1.toNat dCongr)).1.1=true∧(testc (if way=1 then turnc y.2.2.2.2.1 else y.2.2.2.2.1) (gx out y.2.2.1.toNat dCongr) (gx out y.2.2.2.1.toNat dCongr)).2.1=true then deadM
  else ((refs ((scs g).length:Int) s.2.1 y.2.2.1 y.2.2.2.1 (testc (if way=1 then turnc y.2.2.2.2.1 else y.2.2.2.2.1) (gx out y.2.2.1.toNat dCongr) (gx out y.2.2.2.1.toNat dCongr)).1 (testc (if way=1 then turnc y.2.2.2.2.1 else y.2.2.2.2.1) (gx out y.2.2.1.toNat dCongr) (gx out y.2.2.2.1.toNat dCongr)).2).map fun v=>((s.1,(v,s.2.2)):TMods)).getD deadM)
 else s
section
variable {g:TGraph} {D:List Int} {s:TMods} {out:List TCongr} {T:List (Int×TInstr)}
theorem rec_eq (hG:FitG g D) (hs:FitS g s) (hb:s.1=true) (ho:Outs g s g.1.length out) (hT:∀ j,j<g.1.length→isD (at' g j)=true→hasI (at' g j).2.1 T=true∧getI (at' g j).2.1 dInstr T=at' g j) {x:Int} (h0:0≤x) (h1:x<g.2.2.1) {M:List (Int×TCongr)} (hM:MemoOK out M):
  ∃ M',Rec47.m (x,g,s,T,M)=some (gx out x.toNat dCongr,M')∧MemoOK out M':=by
 have hN:=hG.N
 have hx:x<((scs g).length:Int)∨∃ j,j+1<f47_fuel∧j<g.1.length∧isD (at' g j)=true∧(at' g j).2.1=x:=by
  rcases reg_cases hG h0 h1 with h|⟨j,_,d2,d3,d4⟩
  · exact .inl h.2
  · exact .inr ⟨j,by unfold f47_fuel;omega,d2,d3,d4⟩
 exact ev_eq hG hs hb ho hT f47_fuel x M (by unfold f47_fuel;omega) h0 h1 hx hM
theorem out_cr (hG:FitG g D) (hs:FitS g s) (ho:Outs g s g.1.length out) {x:Int} (h0:0≤x) (h1:x<g.2.2.1):CR (gx out x.toNat dCongr):=by
 rcases reg_cases hG h0 h1 with ⟨_,h⟩|⟨j,_,d2,d3,d4⟩
 · have:=hs.sl
   rw [ho.sc _ (by omega)];exact hs.sc _ (by omega)
 · have:=(ho.df j d2 d3).2
   rw [d4] at this;exact this
theorem small_fit (hG:FitG g D) (hs:FitS g s):Small s:=by
 have h1:=hG.S;have h2:=hG.A;have a1:=hs.sl;have a2:=hs.il
 exact ⟨by omega,by omega⟩
def wayBad (g:TGraph) (s:TMods) (j:Nat) (way:Int):Prop:=s.1=false∨way<0∨1<way∨(way=0∧(at' g j).2.2.2.2.2.2.1= -1)∨(way=1∧(at' g j).2.2.2.2.2.2.2= -1)
theorem r1_eq16 {j:Nat} {way:Int} (hj:j<g.1.length):∃ r,f16_r1.m (((j:Int),way),g,s,false)=some r∧(r=true↔wayBad g s j way):=by
 simp only [PD.m,f16_r1,wayBad]
 cases s.1
 · simp
 · by_cases w1:way<0
   · simp [w1]
   · by_cases w2:1<way
     · simp [w2]
     · simp only [w1,w2,decide_false,Bool.not_true,cond_false,inR hj,ask_true,Int.toNat_natCast]
       by_cases w3:way=0
       · subst w3
         refine ⟨_,rfl,?_⟩
         simp
         exact Iff.rfl
       · have w4:way=1:=by omega
         subst w4
         refine ⟨_,rfl,?_⟩
         simp
         exact Iff.rfl
theorem r4_eq16 (a b c d e f i h) (y:TInstr):f16_r4.m (a,b,c,y,d,e,f,i,h)=some (decide (2≤y.1)&&decide (y.1≤8)):=by
 simp only [PD.m,f16_r4]
 cases decide (2≤y.1)<;>rfl
theorem f16_bad (hG:FitG g D) {j:Nat} {way:Int} (hj:j<g.1.length) (hw:wayBad g s j way):f16_m (g,s,(j:Int),way)=some deadM:=by
 unfold f16_m f16_c
 obtain ⟨r,h1,h2⟩:=r1_eq16 (s:=s) (way:=way) hj
 simp only
 rw [h1]
 simp only [Option.bind_some]
 rw [h2.2 hw];rfl
theorem f52_eq (hG:FitG g D) (hs:FitS g s) (hb:s.1=true) (ho:Outs g s g.1.length out) (hT:∀ j,j<g.1.length→isD (at' g j)=true→hasI (at' g j).2.1 T=true∧getI (at' g j).2.1 dInstr T=at' g j) {M:List (Int×TCongr)} (hM:MemoOK out M) {y:TInstr} {way:Int} {l:Bool}
   (hA:0≤y.2.2.1∧y.2.2.1<g.2.2.1) (hB:0≤y.2.2.2.1∧y.2.2.2.1<g.2.2.1) (hn:14≤y.2.2.2.2.1∧y.2.2.2.2.1≤19) (h15:y.1=15):
   ∃ M',f52_m (y,way,s.1,g,s,T,M,s.2.1,s.2.2)=some (stepM g s out y way,M'):=by
 have hv:Vals ((scs g).length:Int) s.2.1:=⟨by have:=hs.sl;omega,hs.sc⟩
 have cA:=out_cr hG hs ho hA.1 hA.2
 have cB:=out_cr hG hs ho hB.1 hB.2
 have hst:∀ op,op=(if way=1 then turnc y.2.2.2.2.1 else y.2.2.2.2.1)→∃ M',((Rec47.m (y.2.2.1,g,s,T,M)).bind fun r2=>(Rec47.m (y.2.2.2.1,g,s,T,r2.2)).bind fun r3=>(f101_m (op,r2.1,r3.1)).bind fun r4=>
     cond r4.1.1 (cond r4.2.1 (some (((false,([],[])):TMods),r3.2)) ((loopAll (f52_l8.m (y.2.2.1,y.2.2.2.1,s.1,false,r4,g,s,T,r3.2,s.2.2)) (0,s.2.1)).bind fun e=>Sum.elim (fun _=>some (((false,([],[])):TMods),r3.2)) (fun w=>some ((s.1,(w,s.2.2)),r3.2)) e))
       ((loopAll (f52_l8.m (y.2.2.1,y.2.2.2.1,s.1,false,r4,g,s,T,r3.2,s.2.2)) (0,s.2.1)).bind fun e=>Sum.elim (fun _=>some (((false,([],[])):TMods),r3.2)) (fun w=>some ((s.1,(w,s.2.2)),r3.2)) e))=some (stepM g s out y way,M'):=fun op hop=>by
   obtain ⟨M1,m1,m2⟩:=rec_eq hG hs hb ho hT hA.1 hA.2 hM
   rw [m1]
   simp only [Option.bind_some]
   obtain ⟨M2,n1,n2⟩:=rec_eq hG hs hb ho hT hB.1 hB.2 m2
   rw [n1]
   simp only [Option.bind_some]
   rw [f101_eq cA cB]
   simp only [Option.bind_some]
   obtain ⟨t1,t2⟩:=testc_cr (op:=op) cA cB
   have k1:¬ (2≤y.1∧y.1≤8):=by omega
   have k2:¬ y.1=13:=by omega
   have k3:¬ y.1=14:=by omega
   refine ⟨M2,?_⟩
   unfold stepM
   rw [if_neg k1,if_neg k2,if_neg k3,if_pos h15,← hop]
   generalize testc op (gx out y.2.2.1.toNat dCongr) (gx out y.2.2.2.1.toNat dCongr)=pq at t1 t2 ⊢
   obtain ⟨p,q⟩:=pq
   obtain ⟨e,l1,l2⟩:=l52_eq (g:=g) (s:=s) (T:=T) (M:=M2) (ar:=s.2.2) (x:=s.1) (y:=false) hv hA.1 hB.1 t1 t2
   rw [l1]
   simp only [Option.bind_some]
   have fin:(Sum.elim (fun _=>some (((false,([],[])):TMods),M2)) (fun w=>some ((s.1,(w,s.2.2)),M2)) e)=some (((refs ((scs g).length:Int) s.2.1 y.2.2.1 y.2.2.2.1 p q).map fun v=>((s.1,(v,s.2.2)):TMods)).getD deadM,M2):=by
     rcases l2 with ⟨r1,u,rfl⟩|⟨w,r1,rfl⟩
     · rw [r1];rfl
     · rw [r1];rfl
   cases hp:p.1
   · simp only [cond_false,Bool.false_eq_true,false_and,if_false];exact fin
   · cases hq:q.1
     · simp only [cond_false,cond_true,Bool.false_eq_true,and_false,if_false];exact fin
     · simp only [cond_true,and_self,if_true];rfl
 unfold f52_m f52_c
 simp only
 by_cases hw:way=1
 · simp only [hw,decide_true,cond_true]
   rw [f100_eq hn.1 hn.2]
   simp only [Option.bind_some]
   subst hw
   exact hst _ (by rw [if_pos rfl])
 · simp only [hw,decide_false,cond_false]
   exact hst _ (by rw [if_neg hw])
theorem f16_eq (hG:FitG g D) (hs:FitS g s) (ho:s.1=true→Outs g s g.1.length out) {j:Nat} {way:Int} (hj:j<g.1.length) (hw:¬ wayBad g s j way):f16_m (g,s,(j:Int),way)=some (stepM g s out (at' g j) way):=by
 have hb:s.1=true:=by
   cases h:s.1
   · exact absurd (.inl h) hw
   · rfl
 have ho:=ho hb
 unfold f16_m f16_c
 obtain ⟨r,h1,h2⟩:=r1_eq16 (s:=s) (way:=way) hj
 simp only
 rw [h1]
 have hr:r=false:=by
   cases hr:r
   · rfl
   · exact absurd (h2.1 hr) hw
 subst hr
 simp only [Option.bind_some,cond_false]
 obtain ⟨T,t1,t2⟩:=f46_eq (s:=s) hG
 rw [t1]
 simp only [Option.bind_some,inR hj,ask_true,Int.toNat_natCast]
 rw [f49_eq (small_fit hG hs)]
 simp only [Option.bind_some]
 have hM:MemoOK out ([]:List (Int×TCongr)):=fun z hz=>by cases hz
 obtain ⟨y,hy⟩:∃ y,at' g j=y:=⟨_,rfl⟩
 have hy':gx g.1 j dInstr=y:=hy
 have good:=hG.good j hj
 rw [hy]
 rw [hy',r4_eq16]
 simp only [Option.bind_some]
 have use:∀ x∈f41_l y,0≤x∧x<g.2.2.1:=fun x hx=>by
   obtain ⟨a,b,_⟩:=use_cases hG (good.use x (by rw [hy];exact hx));exact ⟨a,b⟩
 have idx:=good.idx
 have tst:=good.tst
 rw [hy] at idx tst
 simp only [PD.m,f16_c5]
 have hsl:=hs.sl;have hil:=hs.il
 by_cases k1:2≤y.1∧y.1≤8
 · have d1:=k1.1;have d2:=k1.2
   simp only [d1,d2,decide_true,Bool.and_self,cond_true]
   have hd:isD (at' g j)=true:=by rw [hy];exact isD_true.2 ⟨by omega,by omega⟩
   obtain ⟨u1,u2⟩:=def_reg hG hj hd
   rw [hy] at u1 u2
   obtain ⟨M1,m1,m2⟩:=rec_eq hG hs hb ho t2 (by omega) u2 hM
   rw [m1]
   simp only [Option.bind_some]
   unfold stepM
   rw [if_pos k1]
   cases hc:(gx out y.2.1.toNat dCongr).1
   · simp
   · simp [deadM]
 · have b1:(decide (2≤y.1)&&decide (y.1≤8))=false:=by
     rw [Bool.and_eq_false_iff]
     by_cases d1:2≤y.1
     · right;exact decide_eq_false fun d2=>k1 ⟨d1,d2⟩
     · left;exact decide_eq_false d1
   rw [b1]
   simp only [cond_false]
   simp only [PD.m,f16_c8]
   by_cases k2:y.1=13
   · obtain ⟨i1,i2⟩:=idx.k13 k2
     have i2':y.2.1<(List.length g.2.2.2.2.2.1:Int):=i2
     have i3:y.2.1<(List.length s.2.1:Int):=by omega
     obtain ⟨a1,a2⟩:=use y.2.2.1 (by simp [f41_l,k2])
     obtain ⟨M1,m1,m2⟩:=rec_eq hG hs hb ho t2 a1 a2 hM
     simp only [k2,decide_true,cond_true]
     rw [m1]
     simp only [Option.bind_some,inRI i1 i2',ask_true]
     rw [f50_eq (out_cr hG hs ho a1 a2)]
     simp only [Option.bind_some,inRI i1 i3,ask_true]
     unfold stepM
     rw [if_neg k1,if_pos k2]
     show _=some (if (typc (gx out y.2.2.1.toNat dCongr) (gx g.2.2.2.2.2.1 y.2.1.toNat dScalar).2.1).1=true then deadM else (s.1,(s.2.1.set y.2.1.toNat (typc (gx out y.2.2.1.toNat dCongr) (gx g.2.2.2.2.2.1 y.2.1.toNat dScalar).2.1),s.2.2)))
     cases hc:(typc (gx out y.2.2.1.toNat dCongr) (gx g.2.2.2.2.2.1 y.2.1.toNat dScalar).2.1).1
     · simp
     · simp [deadM]
   · simp only [k2,decide_false,cond_false]
     simp only [PD.m,f16_c13]
     by_cases k3:y.1=14
     · obtain ⟨i1,i2⟩:=idx.k11 (.inr k3)
       have i2':y.2.2.1<(List.length g.2.2.2.2.2.2.1:Int):=i2
       have i3:y.2.2.1<(List.length s.2.2:Int):=by omega
       obtain ⟨a1,a2⟩:=use y.2.1 (by simp [f41_l,k3])
       obtain ⟨M1,m1,m2⟩:=rec_eq hG hs hb ho t2 a1 a2 hM
       have cr:=out_cr hG hs ho a1 a2
       simp only [k3,decide_true,cond_true]
       rw [m1]
       simp only [Option.bind_some,inRI i1 i2',ask_true]
       rw [f50_eq cr]
       have tcr:=typc_cr cr (gx g.2.2.2.2.2.2.1 y.2.2.1.toNat dArray).2.1
       simp only [Option.bind_some]
       unfold stepM
       rw [if_neg k1,if_neg k2,if_pos k3]
       show _=some (if (typc (gx out y.2.1.toNat dCongr) (gx g.2.2.2.2.2.2.1 y.2.2.1.toNat dArray).2.1).1=true then deadM else (s.1,(s.2.1,s.2.2.set y.2.2.1.toNat (if 1<(gx g.2.2.2.2.2.2.1 y.2.2.1.toNat dArray).2.2.1 then joinc (gx s.2.2 y.2.2.1.toNat dCongr) (typc (gx out y.2.1.toNat dCongr) (gx g.2.2.2.2.2.2.1 y.2.2.1.toNat dArray).2.1) else typc (gx out y.2.1.toNat dCongr) (gx g.2.2.2.2.2.2.1 y.2.2.1.toNat dArray).2.1))))
       generalize typc (gx out y.2.1.toNat dCongr) (gx g.2.2.2.2.2.2.1 y.2.2.1.toNat dArray).2.1=c at tcr ⊢
       cases hc:c.1
       · simp only [cond_false,Bool.false_eq_true,if_false,PD.m,f16_c17]
         by_cases k4:1<(gx g.2.2.2.2.2.2.1 y.2.2.1.toNat dArray).2.2.1
         · simp only [k4,decide_true,cond_true,if_true,inRI i1 i3,ask_true]
           rw [(join_eq (hs.ic y.2.2.1.toNat (by omega)) tcr).1]
           simp only [Option.bind_some,inRI i1 i3,ask_true,Sum.elim_inr]
         · simp only [k4,decide_false,cond_false,if_false,Option.bind_some,inRI i1 i3,ask_true,Sum.elim_inr]
       · simp [deadM]
     · simp only [k3,decide_false,cond_false]
       by_cases k4:y.1=15
       · simp only [k4,decide_true,cond_true]
         obtain ⟨a1,a2⟩:=use y.2.2.1 (by simp [f41_l,k4])
         obtain ⟨b1,b2⟩:=use y.2.2.2.1 (by simp [f41_l,k4])
         obtain ⟨M1,m1⟩:=f52_eq (l:=false) (way:=way) hG hs hb ho t2 hM ⟨a1,a2⟩ ⟨b1,b2⟩ (tst k4) k4
         rw [m1]
         simp only [Option.bind_some,Sum.elim_inl]
       · simp only [k4,decide_false,cond_false,Option.bind_some,Sum.elim_inr]
         unfold stepM
         rw [if_neg k1,if_neg k2,if_neg k3,if_neg k4]
end
end Go.U
end
section
set_option maxRecDepth 20000
namespace Go.U
open Go
theorem LeL.pair {a b:List TCongr} (h:LeL a b) (hn:a.length≤1048576):Pair a b:=⟨hn,h.e,h.ca,h.cb⟩
theorem LeL.leqL {a b:List TCongr} (h:LeL a b):Go.U.leqL a b=true:=List.all_eq_true.2 fun i hi=>h.le i (List.mem_range.1 hi)
theorem LeL.set {a b:List TCongr} {c d:TCongr} (h:LeL a b) (hc:CR c) (hd:CR d) (hl:leqr c d=true) {i:Nat} (hi:i<a.length):LeL (a.set i c) (b.set i d):=by
 have e:=h.e
 refine ⟨by simp [e],fun k hk=> ?_,fun k hk=> ?_,fun k hk=> ?_⟩
 · rw [gx_set hi];split
   · exact hc
   · exact h.ca k (by simpa using hk)
 · rw [gx_set (by omega)];split
   · exact hd
   · exact h.cb k (by simpa using hk)
 · rw [gx_set hi,gx_set (by omega)];split
   · exact hl
   · exact h.le k (by simpa using hk)
structure LeM (a b:TMods):Prop where
 live:b.1=true
 v:LeL a.2.1 b.2.1
 w:LeL a.2.2 b.2.2
def LeR (a b:TMods):Prop:=a.1=true→LeM a b
theorem LeR.dead {b:TMods}:LeR deadM b:=fun h=>by cases h
theorem LeR.leq {a b:TMods} (h:LeR a b):leqM a b=true:=by
 unfold leqM
 cases h1:a.1
 · rfl
 · obtain ⟨l,v,w⟩:=h h1
   simp only [cond_true,l,v.leqL,w.leqL,Bool.and_self]
theorem LeM.pairM {a b:TMods} (h:LeM a b) (hs:Small a):PairM a b:=⟨h.v.pair hs.v,h.w.pair hs.w⟩
section
variable {g:TGraph} {D:List Int} {a b:TMods} {oa ob:List TCongr}
theorem step_mono (hG:FitG g D) (ha:FitS g a) (hb:FitS g b) (hl:LeM a b) (h1:a.1=true) (ho:Outs g a g.1.length oa) (hp:Outs g b g.1.length ob) {j:Nat} (hj:j<g.1.length) (way:Int):LeR (stepM g a oa (at' g j) way) (stepM g b ob (at' g j) way):=by
 have good:=hG.good j hj
 obtain ⟨y,hy⟩:∃ y,at' g j=y:=⟨_,rfl⟩
 have use:∀ x∈f41_l y,0≤x∧x<g.2.2.1:=fun x hx=>by
   obtain ⟨a,b,_⟩:=use_cases hG (good.use x (by rw [hy];exact hx));exact ⟨a,b⟩
 have idx:=good.idx
 have out:=fun {x:Int} (h0:0≤x) (h1:x<g.2.2.1)=>outs_le hG ha hb hl.v hl.w ho hp h0 h1
 have hsl:=ha.sl;have hil:=ha.il;have hsb:=hb.sl
 rw [hy] at idx ⊢
 unfold stepM
 by_cases k1:2≤y.1∧y.1≤8
 · rw [if_pos k1,if_pos k1]
   have hd:isD (at' g j)=true:=by rw [hy];exact isD_true.2 ⟨by omega,by omega⟩
   obtain ⟨u1,u2⟩:=def_reg hG hj hd
   rw [hy] at u1 u2
   obtain ⟨c1,c2,c3⟩:=out (x:=y.2.1) (by omega) u2
   by_cases k:(gx oa y.2.1.toNat dCongr).1=true
   · rw [if_pos k];exact .dead
   · have k':=(le_div c1 c2 c3 (by simpa using k)).1
     rw [if_neg k,if_neg (show ¬ (gx ob y.2.1.toNat dCongr).1=true by rw [k'];simp)]
     exact fun _=>hl
 · rw [if_neg k1,if_neg k1]
   by_cases k2:y.1=13
   · rw [if_pos k2,if_pos k2]
     obtain ⟨i1,i2⟩:=idx.k13 k2
     obtain ⟨a1,a2⟩:=use y.2.2.1 (by simp [f41_l,k2])
     obtain ⟨c1,c2,c3⟩:=out a1 a2
     have t1:=typc_cr c1 (gx (scs g) y.2.1.toNat dScalar).2.1
     have t2:=typc_cr c2 (gx (scs g) y.2.1.toNat dScalar).2.1
     have t3:=typc_mono c1 c2 c3 (gx (scs g) y.2.1.toNat dScalar).2.1
     generalize typc (gx oa y.2.2.1.toNat dCongr) (gx (scs g) y.2.1.toNat dScalar).2.1=ca at t1 t3 ⊢
     generalize typc (gx ob y.2.2.1.toNat dCongr) (gx (scs g) y.2.1.toNat dScalar).2.1=cb at t2 t3 ⊢
     by_cases k:ca.1=true
     · rw [if_pos k];exact .dead
     · have k':=(le_div t1 t2 t3 (by simpa using k)).1
       rw [if_neg k,if_neg (show ¬ cb.1=true by rw [k'];simp)]
       exact fun _=>⟨hl.live,hl.v.set t1 t2 t3 (by omega),hl.w⟩
   · rw [if_neg k2,if_neg k2]
     by_cases k3:y.1=14
     · rw [if_pos k3,if_pos k3]
       obtain ⟨i1,i2⟩:=idx.k11 (.inr k3)
       obtain ⟨a1,a2⟩:=use y.2.1 (by simp [f41_l,k3])
       obtain ⟨c1,c2,c3⟩:=out a1 a2
       have t1:=typc_cr c1 (gx (inps g) y.2.2.1.toNat dArray).2.1
       have t2:=typc_cr c2 (gx (inps g) y.2.2.1.toNat dArray).2.1
       have t3:=typc_mono c1 c2 c3 (gx (inps g) y.2.2.1.toNat dArray).2.1
       generalize typc (gx oa y.2.1.toNat dCongr) (gx (inps g) y.2.2.1.toNat dArray).2.1=ca at t1 t3 ⊢
       generalize typc (gx ob y.2.1.toNat dCongr) (gx (inps g) y.2.2.1.toNat dArray).2.1=cb at t2 t3 ⊢
       by_cases k:ca.1=true
       · rw [if_pos k];exact .dead
       · have k':=(le_div t1 t2 t3 (by simpa using k)).1
         rw [if_neg k,if_neg (show ¬ cb.1=true by rw [k'];simp)]
         refine fun _=>⟨hl.live,hl.v,?_⟩
         have hi:y.2.2.1.toNat<a.2.2.length:=by omega
         split
         · have w1:=hl.w.ca _ hi;have w2:=hl.w.cb _ hi
           exact hl.w.set (join_cr w1 t1) (join_cr w2 t2) (join_mono w1 t1 w2 t2 (hl.w.le _ hi) t3) hi
         · exact hl.w.set t1 t2 t3 hi
     · rw [if_neg k3,if_neg k3]
       by_cases k4:y.1=15
       · rw [if_pos k4,if_pos k4]
         obtain ⟨a1,a2⟩:=use y.2.2.1 (by simp [f41_l,k4])
         obtain ⟨b1,b2⟩:=use y.2.2.2.1 (by simp [f41_l,k4])
         obtain ⟨c1,c2,c3⟩:=out a1 a2
         obtain ⟨d1,d2,d3⟩:=out b1 b2
         have t1:=testc_cr (op:=if way=1 then turnc y.2.2.2.2.1 else y.2.2.2.2.1) c1 d1
         have t2:=testc_cr (op:=if way=1 then turnc y.2.2.2.2.1 else y.2.2.2.2.1) c2 d2
         have t3:=testc_mono (op:=if way=1 then turnc y.2.2.2.2.1 else y.2.2.2.2.1) c1 d1 c2 d2 c3 d3
         generalize testc (if way=1 then turnc y.2.2.2.2.1 else y.2.2.2.2.1) (gx oa y.2.2.1.toNat dCongr) (gx oa y.2.2.2.1.toNat dCongr)=pq at t1 t3 ⊢
         generalize testc (if way=1 then turnc y.2.2.2.2.1 else y.2.2.2.2.1) (gx ob y.2.2.1.toNat dCongr) (gx ob y.2.2.2.1.toNat dCongr)=pq' at t2 t3 ⊢
         have va:Vals ((scs g).length:Int) a.2.1:=⟨by omega,ha.sc⟩
         have vb:Vals ((scs g).length:Int) b.2.1:=⟨by omega,hb.sc⟩
         by_cases k:pq.1.1=true∧pq.2.1=true
         · rw [if_pos k];exact .dead
         · rw [if_neg k,if_neg (show ¬ (pq'.1.1=true∧pq'.2.1=true) from fun ⟨e1,e2⟩=>k ⟨by
            cases h:pq.1.1
            · have:=(le_div t1.1 t2.1 t3.1 h).1;rw [e1] at this;cases this
            · rfl,by
            cases h:pq.2.1
            · have:=(le_div t1.2 t2.2 t3.2 h).1;rw [e2] at this;cases this
            · rfl⟩)]
           unfold refs
           cases hw:refv ((scs g).length:Int) a.2.1 y.2.2.1 pq.1 with
           |none=>exact .dead
           |some w=>
            obtain ⟨w',e1,l1⟩:=refv_mono va vb hl.v a1 t1.1 t2.1 t3.1 hw
            have va2:=refv_vals va a1 t1.1 hw
            have vb2:=refv_vals vb a1 t2.1 e1
            rw [e1]
            simp only [Option.bind_some]
            cases hw2:refv ((scs g).length:Int) w y.2.2.2.1 pq.2 with
            |none=>exact .dead
            |some u=>
              obtain ⟨u',e2,l2⟩:=refv_mono va2 vb2 l1 b1 t1.2 t2.2 t3.2 hw2
              rw [e2]
              exact fun _=>⟨hl.live,l2,hl.w⟩
       · rw [if_neg k4,if_neg k4]
         exact fun _=>hl
theorem small_ite {P:Prop} [Decidable P] {x y:TMods} (hx:Small x) (hy:Small y):Small (if P then x else y):=by
 split
 · exact hx
 · exact hy
theorem refv_len {S:Int} {v w:List TCongr} {r:Int} {c:TCongr} (h:refv S v r c=some w):w.length=v.length:=by
 unfold refv at h
 split at h
 · split at h
   · cases h
   · injection h with h;subst h;simp
 · injection h with h;subst h;rfl
theorem refs_small {S:Int} (hs:Small a) (A B:Int) (p q:TCongr):Small (((refs S a.2.1 A B p q).map fun v=>((a.1,(v,a.2.2)):TMods)).getD deadM):=by
 have hd:Small deadM:=⟨Nat.zero_le _,Nat.zero_le _⟩
 unfold refs
 cases hw:refv S a.2.1 A p with
 |none=>exact hd
 |some w=>
  simp only [Option.bind_some]
  cases hw2:refv S w B q with
  |none=>exact hd
  |some u=>exact ⟨by have:=hs.v;show u.length≤_;rw [refv_len hw2,refv_len hw];exact this,hs.w⟩
theorem step_small (hs:Small a) {j:Nat} (way:Int):Small (stepM g a oa (at' g j) way):=by
 have hd:Small deadM:=⟨Nat.zero_le _,Nat.zero_le _⟩
 unfold stepM
 exact small_ite (small_ite hd hs) (small_ite (small_ite hd ⟨by simpa using hs.v,hs.w⟩) (small_ite (small_ite hd ⟨hs.v,by simpa using hs.w⟩) (small_ite (small_ite hd (refs_small hs _ _ _ _)) hs)))
theorem join_leM (hG:FitG g D) (ha:FitS g a) (hb:FitS g b) (h1:a.1=true) (h2:b.1=true):LeM a (joinM a b)∧LeM b (joinM a b)∧FitS g (joinM a b):=by
 have a1:=ha.sl;have a2:=ha.il;have b1:=hb.sl;have b2:=hb.il
 have e:joinM a b=(true,(joinL a.2.1 b.2.1,joinL a.2.2 b.2.2)):=by unfold joinM;rw [h1,h2];rfl
 have l1:(joinL a.2.1 b.2.1).length=a.2.1.length:=by unfold joinL;simp
 have l2:(joinL a.2.2 b.2.2).length=a.2.2.length:=by unfold joinL;simp
 have g1:∀ i,i<a.2.1.length→gx (joinL a.2.1 b.2.1) i dCongr=joinc (gx a.2.1 i dCongr) (gx b.2.1 i dCongr):=fun i hi=>gx_map hi
 have g2:∀ i,i<a.2.2.length→gx (joinL a.2.2 b.2.2) i dCongr=joinc (gx a.2.2 i dCongr) (gx b.2.2 i dCongr):=fun i hi=>gx_map hi
 rw [e]
 refine ⟨⟨rfl,⟨l1.symm,ha.sc,fun i hi=> ?_,fun i hi=> ?_⟩,⟨l2.symm,ha.ic,fun i hi=> ?_,fun i hi=> ?_⟩⟩,⟨rfl,⟨by show b.2.1.length=(joinL a.2.1 b.2.1).length;omega,hb.sc,fun i hi=> ?_,fun i hi=> ?_⟩,⟨by show b.2.2.length=(joinL a.2.2 b.2.2).length;omega,hb.ic,fun i hi=> ?_,fun i hi=> ?_⟩⟩,⟨by show (joinL a.2.1 b.2.1).length=_;omega,by show (joinL a.2.2 b.2.2).length=_;omega,fun i hi=> ?_,fun i hi=> ?_⟩⟩
 · show CR (gx (joinL a.2.1 b.2.1) i dCongr);rw [g1 i hi];exact join_cr (ha.sc i hi) (hb.sc i (by omega))
 · show leqr _ (gx (joinL a.2.1 b.2.1) i dCongr)=true;rw [g1 i hi];exact (le_join (ha.sc i hi) (hb.sc i (by omega))).1
 · show CR (gx (joinL a.2.2 b.2.2) i dCongr);rw [g2 i hi];exact join_cr (ha.ic i hi) (hb.ic i (by omega))
 · show leqr _ (gx (joinL a.2.2 b.2.2) i dCongr)=true;rw [g2 i hi];exact (le_join (ha.ic i hi) (hb.ic i (by omega))).1
 · show CR (gx (joinL a.2.1 b.2.1) i dCongr);rw [g1 i (by omega)];exact join_cr (ha.sc i (by omega)) (hb.sc i hi)
 · show leqr _ (gx (joinL a.2.1 b.2.1) i dCongr)=true;rw [g1 i (by omega)];exact (le_join (ha.sc i (by omega)) (hb.sc i hi)).2
 · show CR (gx (joinL a.2.2 b.2.2) i dCongr);rw [g2 i (by omega)];exact join_cr (ha.ic i (by omega)) (hb.ic i hi)
 · show leqr _ (gx (joinL a.2.2 b.2.2) i dCongr)=true;rw [g2 i (by omega)];exact (le_join (ha.ic i (by omega)) (hb.ic i hi)).2
 · have hi':i<a.2.1.length:=by rw [← l1];exact hi
   show CR (gx (joinL a.2.1 b.2.1) i dCongr);rw [g1 i hi'];exact join_cr (ha.sc i hi') (hb.sc i (by omega))
 · have hi':i<a.2.2.length:=by rw [← l2];exact hi
   show CR (gx (joinL a.2.2 b.2.2) i dCongr);rw [g2 i hi'];exact join_cr (ha.ic i hi') (hb.ic i (by omega))
end
end Go.U
end
section
set_option maxRecDepth 20000
namespace Go.U
open Go
theorem f11_dead {g:TGraph} {s:TMods} (h:f11_m (g,s)=some true) (hb:s.1=false):s=(false,([],[])):=by
 obtain ⟨b,v,w⟩:=s
 simp only at hb
 subst hb
 unfold f11_m f11_c at h
 cases v with
 |nil=>cases w with
  |nil=>rfl
  |cons x l=>
   have e:¬ nt (l.length+1)=0:=by simp only [nt];omega
   have e0:nt 0=0:=rfl
   simp [e,e0] at h
 |cons x l=>
  have e:¬ nt (l.length+1)=0:=by simp only [nt];omega
  simp [e] at h
section
variable {g:TGraph} {D:List Int} {a b c:TMods}
theorem LeM.refl (ha:FitS g a) (h1:a.1=true):LeM a a:=⟨h1,⟨rfl,ha.sc,ha.sc,fun i hi=>leqr_refl (ha.sc i hi)⟩,⟨rfl,ha.ic,ha.ic,fun i hi=>leqr_refl (ha.ic i hi)⟩⟩
theorem join_all (hG:FitG g D) (ha:a.1=true→FitS g a) (hb:b.1=true→FitS g b):LeR a (joinM a b)∧LeR b (joinM a b)∧((joinM a b).1=true→FitS g (joinM a b)):=by
 cases h1:a.1
 · have e:joinM a b=b:=by unfold joinM;rw [h1];rfl
   rw [e]
   exact ⟨fun h=>(by rw [h1] at h;cases h),fun h=>LeM.refl (hb h) h,hb⟩
 · cases h2:b.1
   · have e:joinM a b=a:=by unfold joinM;rw [h1,h2];rfl
     rw [e]
     exact ⟨fun h=>LeM.refl (ha h) h,fun h=>(by rw [h2] at h;cases h),ha⟩
   · obtain ⟨j1,j2,j3⟩:=join_leM hG (ha h1) (hb h2) h1 h2
     exact ⟨fun _=>j1,fun _=>j2,fun _=>j3⟩
theorem outs_ex (hG:FitG g D) (hn:NumsG g) (hs:a.1=true→FitS g a):∃ out,a.1=true→Outs g a g.1.length out:=by
 cases h:a.1
 · exact ⟨[],fun h=>by cases h⟩
 · obtain ⟨out,o1,_⟩:=f14_eq hG (hs h) h hn
   exact ⟨out,fun _=>o1⟩
theorem steps_le (hG:FitG g D) (hn:NumsG g) (ha:a.1=true→FitS g a) (hc:c.1=true→FitS g c) (hl:LeR a c) {j:Nat} (hj:j<g.1.length) (way:Int):
   ∃ r r',f16_m (g,a,(j:Int),way)=some r∧f16_m (g,c,(j:Int),way)=some r'∧LeR r r'∧Small r:=by
 obtain ⟨oa,ha2⟩:=outs_ex hG hn ha
 obtain ⟨oc,hc2⟩:=outs_ex hG hn hc
 have hd:Small deadM:=⟨Nat.zero_le _,Nat.zero_le _⟩
 by_cases wa:wayBad g a j way
 · have e:=f16_bad (s:=a) hG hj wa
   by_cases wc:wayBad g c j way
   · exact ⟨_,_,e,f16_bad hG hj wc,.dead,hd⟩
   · have lc:c.1=true:=by
       cases h:c.1
       · exact absurd (.inl h) wc
       · rfl
     exact ⟨_,_,e,f16_eq hG (hc lc) hc2 hj wc,.dead,hd⟩
 · have la:a.1=true:=by
     cases h:a.1
     · exact absurd (.inl h) wa
     · rfl
   have lm:=hl la
   have wc:¬ wayBad g c j way:=fun h=>by
     rcases h with h|h
     · rw [lm.live] at h;cases h
     · exact wa (.inr h)
   exact ⟨_,_,f16_eq hG (ha la) ha2 hj wa,f16_eq hG (hc lm.live) hc2 hj wc,step_mono hG (ha la) (hc lm.live) lm la (ha2 la) (hc2 lm.live) hj way,step_small (small_fit hG (ha la)) way⟩
theorem evals_le (hG:FitG g D) (hn:NumsG g) (ha:a.1=true→FitS g a) (hc:c.1=true→FitS g c) (hl:LeR a c) {x:Int} (h0:0≤x) (h1:x<g.2.2.1):
   ∃ r r',f13_m (g,a,x)=some r∧f13_m (g,c,x)=some r'∧f27_m (r,r')=some true:=by
 obtain ⟨oa,ha2⟩:=outs_ex hG hn ha
 obtain ⟨oc,hc2⟩:=outs_ex hG hn hc
 cases la:a.1
 · have e:=f13_no (s:=a) hG la x
   cases lc:c.1
   · exact ⟨_,_,e,f13_no hG lc x,rfl⟩
   · exact ⟨_,_,e,f13_eq hG (hc lc) lc (hc2 lc) h0 h1,rfl⟩
 · have lm:=hl la
   obtain ⟨c1,c2,c3⟩:=outs_le hG (ha la) (hc lm.live) lm.v lm.w (ha2 la) (hc2 lm.live) h0 h1
   exact ⟨_,_,f13_eq hG (ha la) la (ha2 la) h0 h1,f13_eq hG (hc lm.live) lm.live (hc2 lm.live) h0 h1,by rw [f27_eq c1 c2,c3]⟩
end
theorem small_all {g:TGraph} {D:List Int} {a:TMods} (hG:FitG g D) (hf:a.1=true→FitS g a) (hd:a.1=false→a=(false,([],[]))):Small a:=by
 cases hb:a.1
 · rw [hd hb];exact ⟨Nat.zero_le _,Nat.zero_le _⟩
 · exact small_fit hG (hf hb)
end Go.U
end
