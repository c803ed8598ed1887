/- What these Lean functions compute: plain arithmetic of congruences, the checks of a graph, the values of its registers. -/
import Derived.Test.YtcbcifeaalkdfaaGreatDoorC1
import Derived.Test.YtcbcifeaalkdfaaGreatDoorC7
set_option linter.unusedVariables false
set_option linter.unusedSimpArgs false
set_option linter.unusedSectionVars false
open Bool renaming not_false→Sb,not_true→Ub
open Int renaming emod_emod_of_dvd→Wl,dvd_refl→Wh,emod_nonneg→Tc,emod_lt_of_pos→uc,emod_add_mul_ediv→Uc,mul_sub→Zg,le_refl→Bd,tmod→zb,eq_ofNat_of_zero_le→Ad,toNat_natCast→Pa,mul_add→LF,emod_eq_of_lt→fj,add_mul_emod_self_left→Jk,dvd_of_emod_eq_zero→Cn,emod_eq_zero_of_dvd→Bn,mul_neg→ah,mul_le_mul_of_nonneg_left→vg,natAbs_natCast→ye,toNat→ia,lt_irrefl→Tb,emod_eq_emod_iff_emod_sub_eq_zero→fl
open List renaming length→fa,getD→Qi,countP→Xc,countP_cons→KF,countP_le_length→Rd,length_take→je,take_of_length_le→Rf,replicate→fb,length_replicate→Nv,getElem?_set→Cc,getElem?_eq_none→Nb,getElem?_eq_getElem→Da,mem_of_getElem?→Eb,getElem_mem→JF,range→mb,mem_range→jg,all_eq_true→ec
open Nat renaming not_lt_zero→Td,gcd→Ea,gcd_comm→Aq,zero_le→Ac,le_trans→Db,le_refl→ya,lt_or_ge→dc
open Option renaming bind_some→da,bind_eq_some_iff→aa
open Option.some renaming inj→fA
open Prod.mk renaming injEq→Qe
open Sum renaming elim_inr→zi
namespace Go.U
open Go
theorem Ya{n:Int}(h0: -9223372036854775808<=n)(h1:n<=9223372036854775807):Ka n=n:=by
 unfold Ka;rw[IntKind.wrap_i64];omega
theorem WH(n:Int):Ia n=n%18446744073709551616:=by
 unfold Ia IntKind.wrap;simp[IntKind.bits,IntKind.signed]
theorem Yb{n:Int}(h0:0<=n)(h1:n<18446744073709551616):Ia n=n:=by
 rw[WH];omega
theorem rY{n:Int}(h0:n<0)(h1: -9223372036854775808<=n):Ia (0-Ia n)= -n:=by
 rw[WH,WH];omega
theorem CL{T E:Type}{step:T->Option (T ⊕ E)}(I:T->Prop)(μ:T->Nat)(Q:E->Prop)
  (hs:∀t,I t->(∃t',step t=some (.inl t')/\I t'/\μ t'<μ t)\/∃e,step t=some (.inr e)/\Q e):∀(n:Nat)(t:T),I t->μ t<n->∃e,uA step n t=some e/\Q e
 |0,t,_,h=>absurd h (Td _)
 |n+1,t,hI,h=>by
  rcases hs t hI with⟨t',h1,h2,h3⟩|⟨e,h1,h2⟩
  ·obtain⟨e,h4,h5⟩:=CL I μ Q hs n t' h2 (by omega);exact⟨e,by simp only[uA,h1,da,h4],h5⟩
  ·exact⟨e,by simp only[uA,h1,da],h2⟩
theorem Gc{T E:Type}{step:T->Option (T ⊕ E)}{t:T}(I:T->Prop)(μ:T->Nat)(Q:E->Prop)(hI:I t)(hμ:μ t<18446744073709551616)
  (hs:∀t,I t->(∃t',step t=some (.inl t')/\I t'/\μ t'<μ t)\/∃e,step t=some (.inr e)/\Q e):∃e,Ua step t=some e/\Q e:=
 CL I μ Q hs _ t hI hμ
def Qm(m x:Int):Int:= -2147483648+(x+2147483648)%m
def nf(m x:Int):ga:=
 if m=0 then(if -2147483648<=x/\x<=2147483647 then(false,(0,x))else(true,(0,0)))
 else if 2147483647<Qm m x then(true,(0,0))
 else if 2147483647<Qm m x+m then(false,(0,Qm m x))
 else(false,(m,x%m))
theorem Ts{m x y:Int}(h:x%m=y%m)(hm:m≠0):nf m x=nf m y:=by
 have e:(x+2147483648)%m=(y+2147483648)%m:=by rw[Int.add_emod,h,<- Int.add_emod]
 unfold nf Qm;rw[e,h,if_neg hm,if_neg hm]
theorem yw{m x:Int}(hm:m≠0):nf m (x%m)=nf m x:=Ts (Wl x (Wh m)) hm
theorem Ip{m x:Int}(hm:0<m):∃k:Int,Qm m x=x%m-m * k/\ -2147483648<=Qm m x/\Qm m x< -2147483648+m:=by
 have h1:=Tc (x+2147483648) (by omega:m≠0);have h2:=uc (x+2147483648) hm;refine⟨(x+2147483648)/m-x/m,?_,by unfold Qm;omega,by unfold Qm;omega⟩;unfold Qm;have e1:=Uc (x+2147483648) m;have e2:=Uc x m;rw[Zg];omega
def CR(c:ga):Prop:=c=(true,(0,0))\/(c.1=false/\0<=c.2.1/\nf c.2.1 c.2.2=c)
theorem zg{m x:Int}(hm:0<=m):CR (nf m x):=by
 by_cases h0:m=0
 ·subst h0;simp only[nf,if_true];split
  ·rename_i h;exact .inr ⟨rfl,Bd _,by simp only[nf,if_true];rw[if_pos h]⟩
  ·exact .inl rfl
 ·obtain⟨k,h1,h2,h3⟩:=Ip (m:=m) (x:=x) (by omega);unfold nf;rw[if_neg h0];split
  ·exact .inl rfl
  ·rename_i g1;split
   ·rename_i g2;exact .inr ⟨rfl,Bd _,by simp only[nf,if_true];rw[if_pos ⟨h2,by omega⟩]⟩
   ·rename_i g2;refine .inr ⟨rfl,hm,?_⟩;simp only;rw[yw h0];simp only[nf,if_neg h0,if_neg g1,if_neg g2]
theorem CR.bounds{c:ga}(h:CR c)(h1:c.1=false):0<=c.2.1/\c.2.1<4294967296/\ -2147483648<=c.2.2/\c.2.2<4294967296/\nf c.2.1 c.2.2=c/\(c.2.1=0->c.2.2<=2147483647):=by
 rcases h with rfl|⟨_,h2,h3⟩
 ·simp at h1
 ·obtain⟨b,m,x⟩:=c;simp only at h1 h2 h3 ⊢;subst h1;have h3':=h3;unfold nf at h3;split at h3
  ·rename_i h0;subst h0;split at h3
   ·rename_i h;exact⟨h2,by omega,h.1,by omega,h3',λ_=>h.2⟩
   ·simp at h3
  ·rename_i h0;obtain⟨k,g1,g2,g3⟩:=Ip (m:=m) (x:=x) (by omega);have fg:0<m:=by omega
   have k1:=Tc x h0;have k2:=uc x fg;split at h3
   ·simp at h3
   ·split at h3
    ·simp only[Qe,true_and]at h3;omega
    ·simp only[Qe,true_and]at h3;refine⟨h2,by omega,by omega,by omega,h3',λh=>absurd h h0⟩
end Go.U
section
set_option maxRecDepth 20000
namespace Go.U
open Go
theorem Se{x:Int}(h0: -9223372036854775808<=x)(h1:x<=9223372036854775807):Kc x=some (x.natAbs:Int):=by
 unfold Kc dK;by_cases h:x<0
 ·simp only[h,decide_true,cond_true];rw[Ya (n:=x+1) (by omega) (by omega),Ya (by omega) (by omega),Yb (n:=0-(x+1)) (by omega) (by omega),Yb (by omega) (by omega)];congr 1;omega
 ·simp only[h,decide_false,cond_false];rw[Yb (by omega) (by omega)];congr 1;omega
theorem Ll{x:Int}(h0: -9223372036854775808<=x)(h1:x<=9223372036854775807):dh x=some (x.natAbs:Int):=by
 unfold dh NJ;by_cases h:x<0
 ·simp only[h,decide_true,cond_true];rw[rY h (by omega)];congr 1;omega
 ·simp only[h,decide_false,cond_false];rw[Yb (by omega) (by omega)];congr 1;omega
theorem L0{t:Int×Int}(h0:0<=t.1)(h1:0<=t.2)(h2:t.2≠0):0<=zb t.1 t.2/\zb t.1 t.2<t.2/\Ea t.2.toNat (zb t.1 t.2).toNat=Ea t.1.toNat t.2.toNat:=by
 obtain⟨a,b⟩:=t;simp only at *
 obtain⟨a,rfl⟩:=Ad h0;obtain⟨b,rfl⟩:=Ad h1;have e:zb (a:Int) (b:Int)=((a%b:Nat):Int):=rfl;rw[e];have hb:0<b:=by omega
 have:=Nat.mod_lt a hb;refine⟨by omega,by omega,?_⟩;simp only[Pa];rw[Aq,<- Nat.gcd_rec,Aq]
theorem xS{L:LD Unit (Int×Int) Int}(hL:∀t,L.m () t=cond (!(decide (t.2=(0:Int)))) (cond (decide (t.2=(0:Int))) none (some (.inl (t.2,zb t.1 t.2)))) (some (.inr t.1)))(a b:Nat)(hb:b<18446744073709551616):
  Ua (L.m ()) ((a:Int),(b:Int))=some (Ea a b:Int):=by
 obtain⟨e,h1,h2⟩:=Gc (step:=L.m ()) (t:=((a:Int),(b:Int))) (λt=>0<=t.1/\0<=t.2/\Ea t.1.toNat t.2.toNat=Ea a b) (λt=>t.2.toNat) (λe=>e=(Ea a b:Int)) ⟨by simp,by simp,by simp⟩ (by simpa using hb) (λt⟨h0,h1,h2⟩=>by
  rw[hL];by_cases hz:t.2=0
  ·refine .inr ⟨t.1,by simp[hz],?_⟩;rw[hz]at h2;simp at h2;omega
  ·obtain⟨g1,g2,g3⟩:=L0 h0 h1 hz;exact .inl ⟨(t.2,zb t.1 t.2),by simp[hz],⟨h1,g1,g3.trans h2⟩,by simp only;omega⟩)
 rw[h1,h2]
theorem Ml(a b:Nat)(hb:b<18446744073709551616):Dg ((a:Int),(b:Int))=some (Ea a b:Int):=by
 unfold Dg PJ;rw[xS (λ_=>rfl) a b hb];rfl
theorem Kq{x m:Int}(h0:0<=x):zb x m=x%m:=Int.tmod_eq_emod_of_nonneg h0
theorem Xm{x m:Int}(TG: -9223372036854775808<=x)(aj:x<=9223372036854775807)(hm:0<m)(cY:m<18446744073709551616):Xj (x,m)=some (x%m):=by
 unfold Xj XJ;simp only;rw[Ll TG aj];simp only[da];have e0:m≠0:=by omega
 rw[Kq (by omega)];have k1:=Tc (x.natAbs:Int) e0;have k2:=uc (x.natAbs:Int) hm;have k3:=Tc x e0;have k4:=uc x hm;by_cases h:x<0
 ·have e1:(x.natAbs:Int)= -x:=by omega
  rw[e1]at k1 k2 ⊢;have k5:=Uc (-x) m;have k6:=Uc x m;by_cases hr:0< -x%m
  ·simp only[e0,h,hr,decide_true,decide_false,cond_true,cond_false];rw[Yb (by omega) (by omega)];congr 1;have:m- -x%m=(x+m * (-x/m+1)):=by rw[LF];omega
   rw[<- fj (a:=m- -x%m) (b:=m) (by omega) (by omega),this,Jk]
  ·simp only[e0,h,hr,decide_true,decide_false,cond_true,cond_false];congr 1;have h0: -x%m=0:=by omega
   have:m ∣ x:=(Int.dvd_neg).1 (Cn h0);rw[Bn this];exact h0
 ·have e1:(x.natAbs:Int)=x:=by omega
  rw[e1];simp only[e0,h,decide_true,decide_false,cond_true,cond_false]
theorem Ht{m r:Int}(hm:0<m)(cY:m<18446744073709551616)(h0:0<=r)(h1:r<m):Wj (m,r)=some (nf m r):=by
 unfold Wj KJ;simp only;rw[Xm (by omega) (by omega) hm cY];simp only[da];have e0:m≠0:=by omega
 have k3:=Tc (-2147483648) e0;have k4:=uc (-2147483648) hm;have hr:r%m=r:=fj h0 h1;have k5:=Uc (-2147483648) m;have g1:=Tc (r+2147483648) e0;have g2:=uc (r+2147483648) hm;generalize hq:(-2147483648)%m=q at *
 have fin:∀ off,off=(r+2147483648)%m->(cond (decide ((4294967295:Int)<off)) (some ((true,(0,0)):ga)) (cond (decide ((Ia (Ka ((2147483647:Int)-(Ka ((-2147483648:Int)+(Ka off))))))<m))
   (some (false,(0,(Ka ((-2147483648:Int)+(Ka off)))))) (some (false,((Ka m),(Ka r))))))=some (nf m r):=λoff ho=>by
  subst ho;unfold nf Qm;rw[if_neg e0,hr];by_cases c1:4294967295<(r+2147483648)%m
  ·rw[if_pos (by omega)];simp only[c1,decide_true,cond_true]
  ·rw[if_neg (by omega)];simp only[c1,decide_false,cond_false];rw[Ya (n:=(r+2147483648)%m) (by omega) (by omega),Ya (n:= -2147483648+(r+2147483648)%m) (by omega) (by omega),Ya (n:=2147483647-(-2147483648+(r+2147483648)%m)) (by omega) (by omega),Yb (by omega) (by omega)];by_cases c2:2147483647< -2147483648+(r+2147483648)%m+m
   ·rw[if_pos c2];have:2147483647-(-2147483648+(r+2147483648)%m)<m:=by omega
    simp only[this,decide_true,cond_true]
   ·rw[if_neg c2];have:¬2147483647-(-2147483648+(r+2147483648)%m)<m:=by omega
    simp only[this,decide_false,cond_false];rw[Ya (n:=m) (by omega) (by omega),Ya (n:=r) (by omega) (by omega)]
 have Oam:(r+2147483648)%m=(r-q)%m:=by
  have:r+2147483648=(r-q)+m * (- (-2147483648/m)):=by rw[ah];omega
  rw[this,Jk]
 by_cases Mc:r<q
 ·simp only[Mc,decide_true,cond_true];rw[Yb (n:=m-q) (by omega) (by omega),Yb (n:=r+(m-q)) (by omega) (by omega)];refine fin _ ?_;rw[Oam];have:r+(m-q)=(r-q)+m * 1:=by omega
  rw[<- fj (a:=r+(m-q)) (b:=m) (by omega) (by omega),this,Jk]
 ·simp only[Mc,decide_false,cond_false];rw[Yb (n:=r-q) (by omega) (by omega)];refine fin _ ?_;rw[Oam,fj (by omega) (by omega)]
theorem rU(x:Int):Li x=some ((nf 0 x).1,(nf 0 x).2.2)/\(nf 0 x).2.1=0:=by
 unfold Li QJ nf;by_cases h1:x< -2147483648
 ·have:¬(-2147483648<=x/\x<=2147483647):=by omega
  simp[h1,this]
 ·by_cases h2:2147483647<x
  ·have:¬(-2147483648<=x/\x<=2147483647):=by omega
   simp[h1,h2,this]
  ·have: -2147483648<=x/\x<=2147483647:=by omega
   simp[h1,h2,this]
theorem Nl(x:Int):((Li x).bind λr=>some ((r.1,(0,r.2)):ga))=some (nf 0 x):=by
 obtain⟨h1,h2⟩:=rU x;rw[h1,da];generalize nf 0 x=c at h2;obtain⟨b,m,r⟩:=c;simp only at h2;subst h2;rfl
theorem rD{m x:Int}(hm:0<=m)(cY:m<9223372036854775808)(TG: -9223372036854775808<=x)(aj:x<=9223372036854775807):Fo (m,x)=some (nf m x):=by
 unfold Fo BS;simp only;by_cases h:m=0
 ·subst h;simp only[decide_true,cond_true];exact Nl x
 ·simp only[h,decide_false,cond_false];rw[Xm TG aj (by omega) (by omega)];simp only[da];rw[Ht (by omega) (by omega) (Tc _ h) (uc _ (by omega))];rw[yw h];rfl
theorem sU{m x:Int}(YV: -9223372036854775808<=m)(cY:m<=9223372036854775807)(TG: -9223372036854775808<=x)(aj:x<=9223372036854775807):Cm (m,x)=some (nf (m.natAbs:Int) x):=by
 unfold Cm IE;simp only;by_cases h:m=0
 ·subst h;simp only[decide_true,cond_true];exact Nl x
 ·simp only[h,decide_false,cond_false];rw[Ll YV cY];simp only[da];rw[Xm TG aj (by omega) (by omega)];simp only[da];rw[Ht (by omega) (by omega) (Tc _ (by omega)) (uc _ (by omega))];rw[yw (by omega)];rfl
end Go.U
end
section
set_option maxRecDepth 20000
namespace Go.U
open Go
theorem Lal(p):aC.m p=cond p.1.2 (some (decide (p.1.1<=(2147483648:Int)))) (some false):=rfl
theorem Kal(p):ZB.m p=cond (!p.1.2) (some (decide (p.1.1<=(2147483647:Int)))) (some false):=rfl
theorem Jal(p):YB.m p=cond p.2.2.1 (some (!(decide (p.2.1=(0:Int))))) (some false):=rfl
theorem Zao(p):eC.m p=cond p.2.2.1 (some (Ia (p.1-p.2.1))) (some p.2.1):=rfl
theorem oak(p):Ox.m p=cond p.2.2.1 (some [Ka p.2.1]) (some []):=rfl
theorem nak(p):Nx.m p=cond p.2.2.1 (ask (decide ((p.2.2.2.2.2.2.length+1) * 8<=70368744177664)&&decide ((p.2.2.2.2.2.2.length+1)<9223372036854775808)) (some (p.2.2.2.2.2.2++[Ka (0-Ka (Ia (p.1-p.2.1)))]))) (some p.2.2.2.2.2.2):=rfl
theorem mak(p):Mx.m p=cond p.2.2.1 (ask (decide ((p.2.2.2.2.2.2.length+1) * 8<=70368744177664)&&decide ((p.2.2.2.2.2.2.length+1)<9223372036854775808)) (some (p.2.2.2.2.2.2++[0]))) (some p.2.2.2.2.2.2):=rfl
theorem lak(p):Lx.m p=cond p.2.2.1 (ask (decide ((p.2.2.2.2.2.2.length+1) * 8<=70368744177664)&&decide ((p.2.2.2.2.2.2.length+1)<9223372036854775808)) (some (p.2.2.2.2.2.2++[0]))) (some p.2.2.2.2.2.2):=rfl
theorem eaf(p):Kx.m p=cond (decide ((nt (fa p.2.2.2.2.2))=(1:Int)))
 (ask (V.ua 0 (fa p.2.2.2.2.2)) (cond (decide ((0:Int)<=(gx p.2.2.2.2.2 0 (0:Int))))
 (ask (V.ua 0 (fa p.2.2.2.2.2)) (some ((decide (p.1<=(Ia ((2147483647:Int)-(Ia (gx p.2.2.2.2.2 0 (0:Int))))))))))
 (some (false))))
 (some (false)):=rfl
theorem daf(p):Jx.m p=cond (decide ((nt (fa p.2.2.2.2.2))=(1:Int)))
 (ask (V.ua 0 (fa p.2.2.2.2.2)) (cond (decide ((gx p.2.2.2.2.2 0 (0:Int))<(0:Int)))
 (ask (V.ua 0 (fa p.2.2.2.2.2)) ((Kc (gx p.2.2.2.2.2 0 (0:Int))).bind λr1=>
 some ((decide (p.1<=(Ia ((2147483648:Int)-r1)))))))
 (some (false))))
 (some (false)):=rfl
theorem aZ{m s:Int}(hm:0<m)(h0:0<=s)(h1:s<m):
  (¬s<=2147483647->¬m-s<=2147483648->nf m s=(true,(0,0)))/\
  (s<=2147483647->¬m-s<=2147483648->m<=2147483647-s->nf m s=(false,(m,s)))/\
  (s<=2147483647->¬m-s<=2147483648->¬m<=2147483647-s->nf m s=(false,(0,s)))/\
  (¬s<=2147483647->m-s<=2147483648->m<=2147483648-(m-s)->nf m s=(false,(m,s)))/\
  (¬s<=2147483647->m-s<=2147483648->¬m<=2147483648-(m-s)->nf m s=(false,(0,s-m)))/\
  (s<=2147483647->m-s<=2147483648->nf m s=(false,(m,s))):=by
 obtain⟨k,hk,hl,hu⟩:=Ip (m:=m) (x:=s) hm;have e0:m≠0:=by omega
 have hs:s%m=s:=fj h0 h1;rw[hs]at hk;have dY:k<0->m * k<= -m:=λh=>by
  have:=vg (show k<= -1 by omega) (show 0<=m by omega);omega
 have b9:1<=k->m<=m * k:=λh=>by
  have:=vg h (show 0<=m by omega);omega
 have q_:2<=k->2 * m<=m * k:=λh=>by
  have:=vg h (show 0<=m by omega);omega
 have hkz:k=0->m * k=0:=λh=>by rw[h];exact Int.mul_zero m
 have hko:k=1->m * k=m:=λh=>by rw[h];exact Int.mul_one m
 have hc:k<0\/k=0\/k=1\/2<=k:=by omega
 have EA:(k=0/\m * k=0)\/(k=1/\m * k=m)\/(2<=k/\2 * m<=m * k)\/(k<0/\m * k<= -m):=by
  rcases hc with h|h|h|h
  ·exact .inr (.inr (.inr ⟨h,dY h⟩))
  ·exact .inl ⟨h,hkz h⟩
  ·exact .inr (.inl ⟨h,hko h⟩)
  ·exact .inr (.inr (.inl ⟨h,q_ h⟩))
 generalize hmk:m * k=mk at *
 unfold nf;rw[if_neg e0,hs,hk];refine⟨λa b=> ?_,λa b c=> ?_,λa b c=> ?_,λa b c=> ?_,λa b c=> ?_,λa b=> ?_⟩
 ·rw[if_pos (by omega)]
 ·rw[if_neg (by omega),if_neg (by omega)]
 ·rw[if_neg (by omega),if_pos (by omega)];have:s-mk=s:=by omega
  rw[this]
 ·rw[if_neg (by omega),if_neg (by omega)]
 ·rw[if_neg (by omega),if_pos (by omega)];have:s-mk=s-m:=by omega
  rw[this]
 ·rw[if_neg (by omega),if_neg (by omega)]
theorem cC{m r:Int}{neg:Bool}(hm:0<=m)(cY:m<18446744073709551616)(hr:0<=r)(hr1:r<18446744073709551616):Ln (m,r,neg)=some (nf m (cond neg (-r) r)):=by
 unfold Ln SJ;simp only[Lal,Kal,Jal,Zao,oak,nak,eaf,mak,daf,lak];by_cases h0:m=0
 ·subst h0;simp only[decide_true,cond_true];cases neg
  ·simp only[cond_false,cond_true,da,Sb];by_cases hc:r<=2147483647
   ·have e:nf 0 r=(false,(0,r)):=by unfold nf;rw[if_pos rfl,if_pos ⟨by omega,hc⟩]
    rw[e,Ya (by omega) (by omega)];simp only[hc,decide_true,cond_true]
   ·have e:nf 0 r=(true,(0,0)):=by unfold nf;rw[if_pos rfl,if_neg (by omega)]
    rw[e];simp only[hc,decide_false,cond_false]
  ·simp only[cond_false,cond_true,da,Ub];by_cases hc:r<=2147483648
   ·have e:nf 0 (-r)=(false,(0,-r)):=by unfold nf;rw[if_pos rfl,if_pos ⟨by omega,by omega⟩]
    rw[e,Ya (n:=r) (by omega) (by omega),Ya (by omega) (by omega),Int.zero_sub];simp only[hc,decide_true,cond_true]
   ·have e:nf 0 (-r)=(true,(0,0)):=by unfold nf;rw[if_pos rfl,if_neg (by omega)]
    rw[e];simp only[hc,decide_false,cond_false]
 ·simp only[h0,decide_false,cond_false];have fg:0<m:=by omega
  rw[Kq hr];have g1:=Tc r h0;have g2:=uc r fg;obtain⟨s,hs,BZ,AZ,he⟩:∃s,(((cond neg (some (!(decide (r%m=(0:Int))))) (some false)).bind λe3=>(cond e3 (some (Ia (m-r%m))) (some (r%m))))=some s)/\0<=s/\s<m/\nf m (cond neg (-r) r)=nf m s:=by
   cases neg
   ·exact⟨r%m,rfl,g1,g2,(yw h0).symm⟩
   ·by_cases hz:r%m=0
    ·refine⟨0,by simp[hz],by omega,by omega,?_⟩;have hd:m ∣ -r:=(Int.dvd_neg).2 (Cn hz);exact Ts (by simp only[cond_true];rw[Bn hd];simp) h0
    ·refine⟨m-r%m,by simp[hz];exact Yb (by omega) (by omega),by omega,by omega,?_⟩;refine Ts ?_ h0;have k5:=Uc r m;have:m-r%m= -r+m * (r/m+1):=by rw[LF];omega
     rw[this,Jk];rfl
  rw[he];obtain⟨e3,nr,Dy⟩:=aa.1 hs;rw[nr];simp only[da];rw[Dy];simp only[da];obtain⟨f1,f2,f3,f4,f5,f6⟩:=aZ fg BZ AZ;have w1:Ia (m-s)=m-s:=Yb (by omega) (by omega);simp only[w1];by_cases ha:s<=2147483647<;>by_cases hb:m-s<=2147483648
  ·have w2:Ka s=s:=Ya (by omega) (by omega);have w3:Ka (m-s)=m-s:=Ya (by omega) (by omega);have w4:Ka (0-(m-s))=s-m:=by rw[Ya (by omega) (by omega)];omega
   have w5:Ka m=m:=Ya (by omega) (by omega);rw[f6 ha hb];simp[w2,w3,w4,w5,ha,hb,ask,nt,gx,V.ua]
  ·have w2:Ka s=s:=Ya (by omega) (by omega);have v1:Ia s=s:=Yb (by omega) (by omega);have v2:Ia (2147483647-s)=2147483647-s:=Yb (by omega) (by omega);by_cases hc:m<=2147483647-s
   ·have w5:Ka m=m:=Ya (by omega) (by omega);rw[f2 ha hb hc];simp[w2,w5,ha,hb,hc,ask,nt,gx,V.ua,v1,v2,BZ]
   ·rw[f3 ha hb hc];simp[w2,ha,hb,hc,ask,nt,gx,V.ua,v1,v2,BZ,Int.not_lt.2 BZ]
  ·have w3:Ka (m-s)=m-s:=Ya (by omega) (by omega);have w4:Ka (0-(m-s))=s-m:=by rw[Ya (by omega) (by omega)];omega
   simp only[w3,w4];have v3:Kc (s-m)=some (m-s):=by rw[Se (by omega) (by omega)];congr 1;omega
   have v4:Ia (2147483648-(m-s))=2147483648-(m-s):=Yb (by omega) (by omega);have v5:¬(0<=s-m):=by omega
   have v6:s-m<0:=by omega
   have v7:¬m<=s:=by omega
   by_cases hc:m<=2147483648-(m-s)
   ·have w5:Ka m=m:=Ya (by omega) (by omega);have w2:Ka s=s:=Ya (by omega) (by omega);rw[f4 ha hb hc];simp[w2,w3,w4,w5,ha,hb,hc,ask,nt,gx,V.ua,v3,v4,v5,v6,v7]
   ·rw[f5 ha hb hc];simp[w3,w4,ha,hb,hc,ask,nt,gx,V.ua,v3,v4,v5,v6,v7]
  ·rw[f1 ha hb];simp[ha,hb,ask,nt,gx,V.ua]
theorem DY(x:Int):cond (decide (x<0)) (-(x.natAbs:Int)) (x.natAbs:Int)=x:=by
 by_cases h:x<0
 ·simp only[h,decide_true,cond_true];omega
 ·simp only[h,decide_false,cond_false];omega
theorem Er{m x:Int}(YV: -9223372036854775808<=m)(cY:m<=9223372036854775807)(TG: -9223372036854775808<=x)(aj:x<=9223372036854775807):Yi (m,x)=some (nf (m.natAbs:Int) x):=by
 unfold Yi ZS;simp only;rw[Se (by omega) (by omega),Se TG aj];simp only[da];rw[cC (by omega) (by omega) (by omega) (by omega),DY];rfl
end Go.U
end
section
set_option maxRecDepth 20000
namespace Go.U
open Go
theorem Ol(a b:Nat)(hb:b<18446744073709551616):wg ((a:Int),(b:Int))=some (Ea a b:Int):=by
 unfold wg fK;rw[xS (λ_=>rfl) a b hb];rfl
theorem Zx{m x:Int}(YV:0<=m)(cY:m<9223372036854775808)(TG: -4611686018427387904<=x)(aj:x<=4611686018427387904):Yj (m,x)=some (nf m x):=by
 unfold Yj gK;simp only;rw[Se (by omega) (by omega)];simp only[da];rw[cC (by omega) (by omega) (by omega) (by omega),DY];rfl
def ld:ga:=(true,(0,0))
theorem be:CR ld:= .inl rfl
theorem Jn{a b N:Nat}(ha:a<N)(hb:b<N):Ea a b<N:=by
 rcases Nat.eq_zero_or_pos a with h|h
 ·subst h;rw[Nat.gcd_zero_left];exact hb
 ·exact Nat.lt_of_le_of_lt (Nat.gcd_le_left b h) ha
theorem CR.true{c:ga}(h:CR c)(h1:c.1=true):c=ld:=by
 rcases h with rfl|⟨h2,_⟩
 ·rfl
 ·rw[h1]at h2;cases h2
theorem CR.Yt{m r:Int}(h:CR ((false,(m,r)):ga)):∃M:Nat,m=(M:Int)/\M<4294967296/\ -2147483648<=r/\r<4294967296/\nf m r=(false,(m,r))/\(M=0->r<=2147483647):=by
 obtain⟨a0,a1,a2,a3,a4,a5⟩:=h.bounds rfl;simp only at a0 a1 a2 a3 a4 a5;obtain⟨M,rfl⟩:=Ad a0;exact⟨M,rfl,by omega,a2,a3,a4,λh=>a5 (by omega)⟩
def Pf(x y:ga):ga:=cond x.1 y (cond y.1 x (nf (Ea (Ea x.2.1.natAbs y.2.1.natAbs) (x.2.2-y.2.2).natAbs:Nat) x.2.2))
theorem join_eq{x y:ga}(hx:CR x)(hy:CR y):yu (x,y)=some (Pf x y)/\ux (x,y)=some (Pf x y)/\CR (Pf x y):=by
 obtain⟨b1,m1,r1⟩:=x;obtain⟨b2,m2,r2⟩:=y;cases b1
 case true=>exact⟨rfl,rfl,hy⟩
 cases b2
 case true=>exact⟨rfl,rfl,hx⟩
 obtain⟨M1,rfl,p1,p2,p3,p4,p5⟩:=hx.Yt;obtain⟨M2,rfl,q1,q2,q3,q4,q5⟩:=hy.Yt;have hg:=Jn p1 q1;have hg2:Ea (Ea M1 M2) (r1-r2).natAbs<9223372036854775808:=Jn (by omega) (by omega);refine⟨?_,?_,zg (by simp only;omega)⟩
 ·unfold yu vT Pf uM AS;simp only[cond_false,ye];rw[Yb (n:=(M1:Int)) (by omega) (by omega),Yb (n:=(M2:Int)) (by omega) (by omega),Ml _ _ (by omega),Ya (by omega) (by omega),Ll (by omega) (by omega)];simp only[da];rw[Ml _ _ (by omega)];simp only[da];rw[rD (by omega) (by omega) (by omega) (by omega)];rfl
 ·unfold ux oT Pf;simp only[cond_false];rw[Se (by omega) (by omega),Se (by omega) (by omega),Ya (by omega) (by omega),Se (x:=r1-r2) (by omega) (by omega)];simp only[da,ye];rw[Ol _ _ (by omega)];simp only[da];rw[Ol _ _ (by omega)];simp only[da];rw[Zx (by omega) (by omega) (by omega) (by omega)];rfl
end Go.U
end
section
set_option maxRecDepth 20000
namespace Go.U
open Go
theorem kM{α:Type}{l:List α}{i:Nat}{d x:α}(h:l[i]?=some x):gx l i d=x:=by simp[gx,Qi,h]
theorem ym{α:Type}{l:List α}{i:Nat}{d:α}(h:i<l.length):l[i]?=some (gx l i d):=by simp[gx,Qi,h]
theorem Tk{i:Nat}{n:Nat}(h:i<n):V.ua (i:Int) n=true:=by simp[V.ua,h]
theorem Sd{i:Int}{n:Nat}(h0:0<=i)(h:i<n):V.ua i n=true:=by simp[V.ua,h,h0]
theorem Fa{X:Type}{x:Option X}:ask true x=x:=rfl
theorem jB{α:Type}{p:α->Bool}{l:List α}{n:Nat}(d:α)(h:n<l.length):Xc p (l.take (n+1))=Xc p (l.take n)+if p (gx l n d)=true then 1 else 0:=by
 rw[List.take_add_one,List.countP_append,ym (d:=d) h];simp[KF]
def at'(g:Ba)(j:Nat):Lb:=gx g.1 j Pb
def wk(x:Lb):Bool:=decide (1<=x.1)&&decide (x.1<=12)
abbrev af(g:Ba):List Ul:=g.2.2.2.2.2.1
theorem Bg{x:Lb}:wk x=true↔1<=x.1/\x.1<=12:=by simp[wk]
structure Zr(g:Ba)(D:List Int):Prop where
 rV:g.2.2.1=(((af g).length+D.length:Nat):Int)
 len:D.length<=4096
 dn:∀k,k<D.length->∃j:Nat,D[k]?=some (j:Int)/\j<g.1.length/\wk (at' g j)=true/\(at' g j).2.1=(((af g).length+k:Nat):Int)
 up:∀j,j<g.1.length->wk (at' g j)=true->∃k:Nat,(at' g j).2.1=(((af g).length+k:Nat):Int)/\D[k]?=some (j:Int)
theorem W3(g:Ba)(hN:g.1.length<=4096):Ua (uz.m (g.1,(nt (fa g.1)),g)) (0,0)=some ((Xc wk g.1:Nat):Int):=by
 obtain⟨e,h1,h2⟩:=Gc (step:=uz.m (g.1,(nt (fa g.1)),g)) (t:=(0,0)) (λt=>∃n:Nat,n<=g.1.length/\t=(((Xc wk (g.1.take n):Nat):Int),(n:Int))) (λt=>g.1.length-t.2.toNat)
  (λe=>e=((Xc wk g.1:Nat):Int)) ⟨0,Ac _,by simp⟩ (by simp;omega) (λt⟨n,hn,ht⟩=>by
   subst ht;have hc:Xc wk (g.1.take n)<=4096:=Db Rd (by rw[je];omega);simp only[LD.m,uz,nt];by_cases h:n<g.1.length
   ·have h':(n:Int)<(g.1.length:Int):=by omega
    simp only[h',decide_true,cond_true,Tk h,Fa,Pa];have hs:=jB (p:=wk) (l:=g.1) Pb h;rw[Ya (n:=(n:Int)+1) (by omega) (by omega)];by_cases k1:1<=(gx g.1 n Pb).1
    ·by_cases k2:(gx g.1 n Pb).1<=12
     ·refine .inl ⟨(((Xc wk (g.1.take n):Nat):Int)+1,(n:Int)+1),?_,⟨n+1,h,?_⟩,?_⟩
      ·simp only[k1,k2,decide_true,cond_true];rw[Ya (by omega) (by omega)]
      ·rw[hs,if_pos (Bg.2 ⟨k1,k2⟩)];simp
      ·simp only;omega
     ·refine .inl ⟨(((Xc wk (g.1.take n):Nat):Int),(n:Int)+1),?_,⟨n+1,h,?_⟩,?_⟩
      ·simp only[k1,k2,decide_true,decide_false,cond_true,cond_false]
      ·rw[hs,if_neg (λhh=>k2 (Bg.1 hh).2)];simp
      ·simp only;omega
    ·refine .inl ⟨(((Xc wk (g.1.take n):Nat):Int),(n:Int)+1),?_,⟨n+1,h,?_⟩,?_⟩
     ·simp only[k1,decide_true,decide_false,cond_true,cond_false]
     ·rw[hs,if_neg (λhh=>k1 (Bg.1 hh).1)];simp
     ·simp only;omega
   ·have h':¬(n:Int)<(g.1.length:Int):=by omega
    refine .inr ⟨_,by simp only[h',decide_false,cond_false];rfl,?_⟩;rw[Rf (by omega)])
 rw[h1,h2]
theorem PW(g:Ba)(n:Nat)(hn:n<=4096):Ua (Gt.m ((n:Int),(nt (fa (fb (ia (n:Int)) (0:Int)))),g)) (0,fb (ia (n:Int)) (0:Int))=some (fb n (-1)):=by
 have hl:(fb (ia (n:Int)) (0:Int))=fb n 0:=by simp
 rw[hl,Nv];obtain⟨e,h1,h2⟩:=Gc (step:=Gt.m ((n:Int),(nt n),g)) (t:=(0,fb n (0:Int))) (λt=>∃k:Nat,k<=n/\t.1=(k:Int)/\t.2.length=n/\∀i,i<k->t.2[i]?=some (-1)) (λt=>n-t.1.toNat)
  (λe=>e=fb n (-1)) ⟨0,Ac _,rfl,by simp,λi h=>absurd h (Td _)⟩ (by simp;omega) (λt⟨k,hk,ht,hlen,qj⟩=>by
   obtain⟨ti,l⟩:=t;simp only at ht hlen qj;subst ht;simp only[LD.m,Gt,nt];by_cases h:k<n
   ·have h':(k:Int)<(n:Int):=by omega
    refine .inl ⟨((k:Int)+1,l.set k (-1)),?_,⟨k+1,h,by simp,by simpa using hlen,λi hi=> ?_⟩,by simp only;omega⟩
    ·simp only[h',decide_true,cond_true,hlen,Tk h,Fa,Pa];rw[Ya (by omega) (by omega)]
    ·simp only[Cc];by_cases e:k=i
     ·rw[if_pos e,if_pos (by omega)]
     ·rw[if_neg e];exact qj i (by omega)
   ·have h':¬(k:Int)<(n:Int):=by omega
    refine .inr ⟨l,by simp only[h',decide_false,cond_false],?_⟩;refine List.ext_getElem? λi=> ?_
    by_cases hi:i<n
    ·rw[qj i (by omega)];simp[hi]
    ·rw[Nb (by omega)];simp[hi])
 rw[h1,h2]
end Go.U
end
section
set_option maxRecDepth 20000
namespace Go.U
open Go
structure aac(g:Ba)(c n:Nat)(D:List Int):Prop where
 len:D.length=c
 dn:∀k,k<c->D[k]?=some (-1)\/∃j:Nat,D[k]?=some (j:Int)/\j<n/\wk (at' g j)=true/\(at' g j).2.1=(((af g).length+k:Nat):Int)
 up:∀j,j<n->wk (at' g j)=true->∃k:Nat,(at' g j).2.1=(((af g).length+k:Nat):Int)/\D[k]?=some (j:Int)
 FF:Xc (λd=>decide ((0:Int)<=d)) D=Xc wk (g.1.take n)
theorem OW(g:Ba)(c:Nat)(hc:c<=4096)(hN:g.1.length<=4096)(hS:(af g).length<=64)(hA:∀j,j<g.1.length-> -9223372036854775808<=(at' g j).2.1/\(at' g j).2.1<=9223372036854775807):
  ∃e,Ua (Ft.m ((c:Int),g.1,(nt (fa g.1)),g)) (0,fb c (-1))=some e/\((∃u,e= .inl u)\/∃D,e= .inr D/\aac g c g.1.length D):=by
 refine Gc (step:=Ft.m ((c:Int),g.1,(nt (fa g.1)),g)) (λt=>∃n:Nat,n<=g.1.length/\t.1=(n:Int)/\aac g c n t.2) (λt=>g.1.length-t.1.toNat) (λe=>(∃u,e= .inl u)\/∃D,e= .inr D/\aac g c g.1.length D)
  ⟨0,Ac _,rfl,by simp,λk hk=> .inl (by simp[hk]),λj h=>absurd h (Td _),?_⟩ (by simp;omega) (λt⟨n,hn,ht,hI⟩=> ?_)
 ·rw[List.take_zero,List.countP_nil,List.countP_eq_zero];intro a ha;have:=List.eq_of_mem_replicate ha;subst this;decide
 ·obtain⟨ti,D⟩:=t;simp only at ht hI;subst ht;simp only[LD.m,Ft,nt];by_cases h:n<g.1.length
  ·have h':(n:Int)<(g.1.length:Int):=by omega
   obtain⟨x,hx⟩:∃x,gx g.1 n Pb=x:=⟨_,rfl⟩;have Rm:at' g n=x:=hx;simp only[h',decide_true,cond_true,Tk h,Fa,Pa,hx];have hs:=jB (p:=wk) (l:=g.1) Pb h;rw[hx]at hs;have w:Ka ((n:Int)+1)=(n:Int)+1:=Ya (by omega) (by omega);rw[w];have skip:wk x=false->aac g c (n+1) D:=λhd=>⟨hI.len,λk hk=>(hI.dn k hk).imp_right λ⟨j,h1,h2,h3⟩=>⟨j,h1,by omega,h3⟩,λj hj DA=>by
    by_cases e:j=n
    ·subst e;rw[Rm,hd]at DA;cases DA
    ·exact hI.up j (by omega) DA,by rw[hs,hd,hI.FF];simp⟩
   by_cases k1:x.1<1
   ·simp only[k1,decide_true,cond_true];exact .inl ⟨_,rfl,⟨n+1,h,rfl,skip (by simp[wk];omega)⟩,by simp only;omega⟩
   ·by_cases k2:12<x.1
    ·simp only[k1,k2,decide_true,decide_false,cond_true,cond_false];exact .inl ⟨_,rfl,⟨n+1,h,rfl,skip (by simp[wk];omega)⟩,by simp only;omega⟩
    ·have hd:wk x=true:=Bg.2 ⟨by omega,by omega⟩;have hb:=hA n h;rw[Rm]at hb;simp only[k1,k2,decide_false,cond_false];obtain⟨y,hy⟩:∃y,Ka (x.2.1-((af g).length:Int))=y:=⟨_,rfl⟩;have hy2:Ka (x.2.1-(fa g.2.2.2.2.2.1:Int))=y:=hy;rw[hy2];by_cases k3:y<0
     ·simp only[k3,decide_true,cond_true];exact .inr ⟨_,rfl,.inl ⟨(),rfl⟩⟩
     ·by_cases k4:(c:Int)<=y
      ·simp only[k3,k4,decide_true,decide_false,cond_true,cond_false];exact .inr ⟨_,rfl,.inl ⟨(),rfl⟩⟩
      ·obtain⟨k,rfl⟩:=Ad (show 0<=y by omega);have hk:k<c:=by omega
       have hAx:x.2.1=(((af g).length+k:Nat):Int):=by
        unfold Ka at hy;rw[IntKind.wrap_i64]at hy;omega
       have hkD:k<D.length:=by rw[hI.len];exact hk
       have k4':¬((c:Int)<=(k:Int)):=by omega
       simp only[k3,k4',decide_false,cond_false,Tk hkD,Fa,Pa];by_cases k5:0<=gx D k 0
       ·simp only[k5,decide_true,cond_true];exact .inr ⟨_,rfl,.inl ⟨(),rfl⟩⟩
       ·simp only[k5,decide_false,cond_false];have hDk:D[k]?=some (-1):=by
         rcases hI.dn k hk with e|⟨j,e,_⟩
         ·exact e
         ·rw[kM e]at k5;omega
        refine .inl ⟨_,rfl,⟨n+1,h,rfl,by simpa using hI.len,λi hi=> ?_,λj hj DA=> ?_,?_⟩,by simp only;omega⟩
        ·simp only[Cc];by_cases e:k=i
         ·subst e;rw[if_pos rfl,if_pos hkD];exact .inr ⟨n,rfl,by omega,by rw[Rm];exact hd,by rw[Rm];exact hAx⟩
         ·rw[if_neg e];exact(hI.dn i hi).imp_right λ⟨j,h1,h2,h3⟩=>⟨j,h1,by omega,h3⟩
        ·by_cases e:j=n
         ·subst e;exact⟨k,by rw[Rm];exact hAx,by simp[Cc,hkD]⟩
         ·obtain⟨i,h1,h2⟩:=hI.up j (by omega) DA;refine⟨i,h1,?_⟩;simp only[Cc];by_cases e2:k=i
          ·subst e2;rw[hDk]at h2;simp at h2
          ·rw[if_neg e2];exact h2
        ·simp only;rw[List.countP_set hkD,hs,hI.FF,hd];have e1:D[k]= -1:=by rw[Da hkD]at hDk;exact fA hDk
         simp[e1]
  ·have h':¬(n:Int)<(g.1.length:Int):=by omega
   simp only[h',decide_false,cond_false];refine .inr ⟨_,rfl,.inr ⟨D,rfl,?_⟩⟩;have:n=g.1.length:=by omega
   rw[<- this];exact hI
theorem uai(g:Ba)(hN:g.1.length<=4096)(hS:(af g).length<=64)(hA:∀j,j<g.1.length-> -9223372036854775808<=(at' g j).2.1/\(at' g j).2.1<=9223372036854775807):
  ∃r,tH g=some r/\(r.2=true->Zr g r.1):=by
 have hc:Xc wk g.1<=4096:=Db Rd hN;unfold tH JT;rw[W3 g hN];simp only[da];obtain⟨c,DB⟩:∃c,Xc wk g.1=c:=⟨_,rfl⟩;rw[DB]at hc ⊢;have w:Ka (nt (fa g.2.2.2.2.2.1)+(c:Int))=(((af g).length+c:Nat):Int):=by
  show Ka (((af g).length:Int)+(c:Int))=_;rw[Ya (by omega) (by omega)];omega
 rw[w];by_cases hr:g.2.2.1=(((af g).length+c:Nat):Int)
 ·have b1:(decide (0<=(c:Int))&&decide ((c:Int)<=(c:Int))&&decide (8 * (c:Int)<=70368744177664)&&decide ((c:Int)<9223372036854775808))=true:=by simp;omega
  simp only[hr,decide_true,Ub,cond_false,b1,Fa];rw[PW g c hc];simp only[da];obtain⟨e,h1,h2⟩:=OW g c hc hN hS hA;rw[h1];simp only[da];rcases h2 with⟨u,rfl⟩|⟨D,rfl,hI⟩
  ·exact⟨([],false),rfl,λh=>by cases h⟩
  ·refine⟨(D,true),rfl,λ_=> ?_⟩;have qj:∀k,k<c->D[k]?≠some (-1):=λk hk hm=>by
    have h3:Xc (λd=>decide ((0:Int)<=d)) D=D.length:=by
     rw[hI.FF,Rf (ya _),DB,hI.len]
    have:=List.countP_eq_length.1 h3 (-1) (Eb hm);simp at this
   exact⟨by rw[hr,hI.len],by rw[hI.len];exact hc,λk hk=>by
    rw[hI.len]at hk;rcases hI.dn k hk with e|⟨j,h1,h2,h3,h4⟩
    ·exact absurd e (qj k hk)
    ·exact⟨j,h1,h2,h3,h4⟩,hI.up⟩
 ·simp only[hr,decide_false,Sb,cond_true];exact⟨([],false),rfl,λh=>by cases h⟩
end Go.U
end
section
set_option maxRecDepth 20000
namespace Go.U
open Go
theorem Qd{α:Type}{b:Bool}{x y:Option α}(hx:∃r,x=some r)(hy:∃r,y=some r):∃r,cond b x y=some r:=by cases b<;>assumption
theorem Fj{α β:Type}{x:Option α}{f:α->Option β}(hx:∃r,x=some r)(hf:∀a,x=some a->∃r,f a=some r):∃r,x.bind f=some r:=by
 obtain⟨a,h⟩:=hx;rw[h];exact hf a h
theorem Pc{α:Type}(a:α):∃r,some a=some r:=⟨a,rfl⟩
theorem UI(a):∃r,XA a=some r:=by unfold XA WS;exact Qd (Pc _) (Pc _)
theorem TI(a):∃r,rq a=some r:=by unfold rq zM;exact Qd (Pc _) (Qd (Pc _) (Pc _))
theorem VS(a):∃r,Dr a=some r:=by unfold Dr yM;exact Fj (TI _) λ_ _=>Pc _
theorem R7{E:Type}{L:Type}{n:Nat}{step:Int->Option (Int ⊕ E)}(hn:n<=9223372036854775807)(I:Nat->Prop)(Q:E->Prop)(h0:I 0)
  (hs:∀i:Nat,i<n->I i->(step (i:Int)=some (.inl (Ka ((i:Int)+1)))/\I (i+1))\/∃e,step (i:Int)=some (.inr e)/\Q e)
  (he:I n->∃e,step (n:Int)=some (.inr e)/\Q e):∃e,Ua step 0=some e/\Q e:=by
 refine Gc (λt=>∃i:Nat,i<=n/\t=(i:Int)/\I i) (λt=>n-t.toNat) Q ⟨0,Ac _,rfl,h0⟩ (by simp;omega) (λt⟨i,hi,ht,hI⟩=> ?_);subst ht;by_cases h:i<n
 ·rcases hs i h hI with⟨h1,h2⟩|h1
  ·rw[Ya (by omega) (by omega)]at h1;exact .inl ⟨_,h1,⟨i+1,h,rfl,h2⟩,by omega⟩
  ·exact .inr h1
 ·have:i=n:=by omega
  subst this;exact .inr (he hI)
def Gd{E:Type}(i:Int)(I':Prop)(Q:E->Prop)(x:Option (Int ⊕ E)):Prop:=(x=some (.inl (Ka (i+1)))/\I')\/∃e,x=some (.inr e)/\Q e
section
variable {E:Type}{i:Int}{I':Prop}{Q:E->Prop}
theorem Ci{b:Bool}{x y:Option (Int ⊕ E)}(hx:b=true->Gd i I' Q x)(hy:b=false->Gd i I' Q y):Gd i I' Q (cond b x y):=by
 cases b
 ·exact hy rfl
 ·exact hx rfl
theorem Tw{α:Type}{x:Option α}{f:α->Option (Int ⊕ E)}(hx:∃r,x=some r)(hf:∀a,x=some a->Gd i I' Q (f a)):Gd i I' Q (x.bind f):=by
 obtain⟨a,h⟩:=hx;rw[h];exact hf a h
theorem Sw(h:I'):Gd i I' Q (some (.inl (Ka (i+1)))):= .inl ⟨rfl,h⟩
theorem uj{e:E}(h:Q e):Gd i I' Q (some (.inr e)):= .inr ⟨e,rfl,h⟩
end
theorem Jh{E:Type}{n:Nat}{step:Int->Option (Int ⊕ E)}(hn:n<=9223372036854775807)(I:Nat->Prop)(Q:E->Prop)(h0:I 0)
 (hs:∀i:Nat,i<n->I i->Gd (i:Int) (I (i+1)) Q (step (i:Int)))
 (he:I n->∃e,step (n:Int)=some (.inr e)/\Q e):∃e,Ua step 0=some e/\Q e:=R7 (L:=Unit) hn I Q h0 hs he
theorem RW(p:(List Kd)×Int×Ba)(h:p.2.1=nt p.1.length)(hn:p.1.length<=9223372036854775807):∃e,Ua (ov.m p) 0=some e:=by
 obtain⟨e,h1,_⟩:=Jh (n:=p.1.length) (step:=ov.m p) hn (λ_=>True) (λ_=>True) trivial (λi hi _=>by
  have h':(i:Int)<(p.1.length:Int):=by omega
  simp only[LD.m,ov,h,nt,h',decide_true,cond_true,Tk hi,Fa]
  repeat (first|exact uj trivial|exact Sw trivial|(refine Ci (λ_=> ?_) (λ_=> ?_)))) (λ_=>by
  simp only[LD.m,ov,h,nt,Tb,decide_false,cond_false];exact⟨_,rfl,trivial⟩)
 exact⟨e,h1⟩
theorem uP(p:(List Yk)×Int×Ba)(h:p.2.1=nt p.1.length)(hn:p.1.length<=9223372036854775807):∃e,Ua (Up.m p) 0=some e:=by
 obtain⟨e,h1,_⟩:=Jh (n:=p.1.length) (step:=Up.m p) hn (λ_=>True) (λ_=>True) trivial (λi hi _=>by
  have h':(i:Int)<(p.1.length:Int):=by omega
  simp only[LD.m,Up,h,nt,h',decide_true,cond_true,Tk hi,Fa]
  repeat (first|exact uj trivial|exact Sw trivial|(refine Ci (λ_=> ?_) (λ_=> ?_))|(refine Tw (UI _) λ_ _=> ?_)|(refine Tw (TI _) λ_ _=> ?_)|(refine Tw (VS _) λ_ _=> ?_))) (λ_=>by
  simp only[LD.m,Up,h,nt,Tb,decide_false,cond_false];exact⟨_,rfl,trivial⟩)
 exact⟨e,h1⟩
theorem fP(a):∃r,rq a=some r/\ -2147483648<=r/\r<= -128:=by
 unfold rq zM;cases decide (a=(1:Int))
 ·cases decide (a=(2:Int))
  ·exact⟨_,rfl,by decide,by decide⟩
  ·exact⟨_,rfl,by decide,by decide⟩
 ·exact⟨_,rfl,by decide,by decide⟩
theorem Q1(a):∃r,Dr a=some r/\r<=2147483647:=by
 obtain⟨r,h1,h2,h3⟩:=fP a;unfold Dr yM;rw[h1];refine⟨_,rfl,?_⟩;rw[Ya (n:=0-r) (by omega) (by omega),Ya (by omega) (by omega)];omega
def InI(x:Int):Prop:= -2147483648<=x/\x<=2147483647
theorem TW(p:(List Ul)×Int×Ba)(h:p.2.1=nt p.1.length)(hn:p.1.length<=9223372036854775807):∃e,Ua (Sp.m p) 0=some e/\((∃u,e= .inl u)\/(∃u,e= .inr u)/\∀j,j<p.1.length->InI (gx p.1 j ud).2.2):=
 Jh (n:=p.1.length) (step:=Sp.m p) hn (λk=>∀j,j<k->InI (gx p.1 j ud).2.2) _ (λj h=>absurd h (Td _)) (λi hi hI=>by
  have h':(i:Int)<(p.1.length:Int):=by omega
  simp only[LD.m,Sp,h,nt,h',decide_true,cond_true,Tk hi,Fa,Pa];refine Tw (UI _) λ_ _=>Ci (λ_=>uj (.inl ⟨(),rfl⟩)) λ_=> ?_
  obtain⟨r,r1,r2,_⟩:=fP (gx p.1 i ud).2.1;obtain⟨t,t1,t2⟩:=Q1 (gx p.1 i ud).2.1;rw[r1,t1];refine Ci (λ_=>uj (.inl ⟨(),rfl⟩)) λc1=>Ci (λ_=>uj (.inl ⟨(),rfl⟩)) λc2=>Sw λj hj=> ?_
  have c1:=of_decide_eq_false c1;have c2:=of_decide_eq_false c2;by_cases e:j=i
  ·subst e;exact⟨by omega,by omega⟩
  ·exact hI j (by omega)) (λhI=>by
  simp only[LD.m,Sp,h,nt,Tb,decide_false,cond_false];exact⟨_,rfl,.inr ⟨⟨(),rfl⟩,hI⟩⟩)
theorem SW(p:(List Yk)×Int)(h:p.2=nt p.1.length)(hn:p.1.length<=9223372036854775807):∃e,Ua (Rp.m p) 0=some e/\((∃u,e= .inl u)\/(∃u,e= .inr u)/\∀j,j<p.1.length->InI (gx p.1 j Ob).2.2.2):=
 Jh (n:=p.1.length) (step:=Rp.m p) hn (λk=>∀j,j<k->InI (gx p.1 j Ob).2.2.2) _ (λj h=>absurd h (Td _)) (λi hi hI=>by
  have h':(i:Int)<(p.1.length:Int):=by omega
  simp only[LD.m,Rp,h,nt,h',decide_true,cond_true,Tk hi,Fa,Pa];refine Tw (UI _) λ_ _=>Ci (λ_=>uj (.inl ⟨(),rfl⟩)) λ_=> ?_
  obtain⟨r,r1,r2,_⟩:=fP (gx p.1 i Ob).2.1;obtain⟨t,t1,t2⟩:=Q1 (gx p.1 i Ob).2.1;rw[r1,t1];refine Ci (λ_=>uj (.inl ⟨(),rfl⟩)) λc1=>Ci (λ_=>uj (.inl ⟨(),rfl⟩)) λc2=>Ci (λ_=>uj (.inl ⟨(),rfl⟩)) λ_=>Ci (λ_=>uj (.inl ⟨(),rfl⟩)) λ_=>Sw λj hj=> ?_
  have c1:=of_decide_eq_false c1;have c2:=of_decide_eq_false c2;by_cases e:j=i
  ·subst e;exact⟨by omega,by omega⟩
  ·exact hI j (by omega)) (λhI=>by
  simp only[LD.m,Rp,h,nt,Tb,decide_false,cond_false];exact⟨_,rfl,.inr ⟨⟨(),rfl⟩,hI⟩⟩)
abbrev Tr(g:Ba):List Yk:=g.2.2.2.2.1
abbrev Rg(g:Ba):List Yk:=g.2.2.2.2.2.2.1
abbrev lns(g:Ba):List Kd:=g.2.2.2.2.2.2.2
structure zak(g:Ba):Prop where
 i:g.1.length<=9223372036854775807
 s:(af g).length<=9223372036854775807
 a:(Tr g).length<=9223372036854775807
 n:(Rg g).length<=9223372036854775807
 l:(lns g).length<=9223372036854775807
 A:∀j,j<g.1.length-> -9223372036854775808<=(at' g j).2.1/\(at' g j).2.1<=9223372036854775807
structure NU(g:Ba):Prop where
 s:∀j,j<(af g).length->InI (gx (af g) j ud).2.2
 a:∀j,j<(Rg g).length->InI (gx (Rg g) j Ob).2.2.2
def Tp(P:Prop)(x:Option Bool):Prop:=∃r,x=some r/\(r=true->P)
theorem aI{P:Prop}{b:Bool}{x y:Option Bool}(hx:Tp P x)(hy:Tp P y):Tp P (cond b x y):=by
 cases b
 ·exact hy
 ·exact hx
theorem nk{P:Prop}:Tp P (some false):=⟨false,rfl,λh=>by cases h⟩
theorem xai{g:Ba}(h:zak g):∃r,uH g=some r/\(r=true->(af g).length<=64/\(Rg g).length<=16/\NU g):=by
 unfold uH MT;by_cases h1:(32:Int)<nt (fa g.2.2.2.2.1)
 ·simp only[h1,decide_true,cond_true];exact⟨false,rfl,λh=>by cases h⟩
 ·by_cases h2:(64:Int)<nt (fa g.2.2.2.2.2.1)
  ·simp only[h1,h2,decide_true,decide_false,cond_true,cond_false];exact⟨false,rfl,λh=>by cases h⟩
  ·have h3:(af g).length<=64:=by simp only[nt]at h2;show fa g.2.2.2.2.2.1<=64;omega
   by_cases h6:(16:Int)<nt (fa g.2.2.2.2.2.2.1)
   ·simp only[h1,h2,h6,decide_true,decide_false,cond_true,cond_false];exact⟨false,rfl,λh=>by cases h⟩
   have h7:(Rg g).length<=16:=by simp only[nt]at h6;show fa g.2.2.2.2.2.2.1<=16;omega
   simp only[h1,h2,h6,decide_false,cond_false]
   suffices h:Tp (NU g) _ by
    obtain⟨r,q1,q2⟩:=h;exact⟨r,q1,λhr=>⟨h3,h7,q2 hr⟩⟩
   refine aI nk (aI nk ?_);by_cases h4:(nt (fa g.2.2.2.2.2.2.2))<(1:Int)
   ·simp only[h4,decide_true,cond_true];exact nk
   ·have h5:V.ua 0 (fa g.2.2.2.2.2.2.2)=true:=Sd (by decide) (by simp only[nt]at h4;omega);simp only[h4,decide_false,cond_false,h5,Fa];obtain⟨e1,l1⟩:=RW (g.2.2.2.2.2.2.2,nt g.2.2.2.2.2.2.2.length,g) rfl h.l;rw[l1];refine aI nk ?_;simp only[da];cases e1
    ·exact nk
    ·obtain⟨e2,l2⟩:=uP (g.2.2.2.2.1,nt g.2.2.2.2.1.length,g) rfl h.a;simp only[zi];rw[l2];simp only[da];cases e2
     ·exact nk
     ·obtain⟨e3,l3,m3⟩:=TW (g.2.2.2.2.2.1,nt g.2.2.2.2.2.1.length,g) rfl h.s;simp only[zi];rw[l3];simp only[da];rcases m3 with⟨u,rfl⟩|⟨⟨u,rfl⟩,i3⟩
      ·exact nk
      ·obtain⟨e4,l4,m4⟩:=SW (g.2.2.2.2.2.2.1,nt g.2.2.2.2.2.2.1.length) rfl h.n;simp only[zi];rw[l4];simp only[da];rcases m4 with⟨u,rfl⟩|⟨⟨u,rfl⟩,i4⟩
       ·exact nk
       ·exact⟨true,rfl,λ_=>⟨i3,i4⟩⟩
end Go.U
end
section
set_option maxRecDepth 20000
namespace Go.U
open Go
theorem IW(p):∃r,aE.m p=some r:=by
 simp only[PD.m,aE]
 repeat (first|exact Pc _|(refine Qd ?_ ?_))
theorem HW(p):∃r,ZD.m p=some r:=by
 simp only[PD.m,ZD]
 repeat (first|exact Pc _|(refine Qd ?_ ?_))
theorem GW(p):∃r,YD.m p=some r:=by
 simp only[PD.m,YD]
 repeat (first|exact Pc _|(refine Qd ?_ ?_))
theorem FW(p):∃r,XD.m p=some r:=by
 simp only[PD.m,XD]
 repeat (first|exact Pc _|(refine Qd ?_ ?_))
theorem EW(p):∃r,WD.m p=some r:=by
 simp only[PD.m,WD]
 repeat (first|exact Pc _|(refine Qd ?_ ?_))
theorem T_(a):∃r,bE a=some r:=by
 unfold bE HT;exact Fj (IW _) λ_ _=>Fj (HW _) λ_ _=>Fj (GW _) λ_ _=>Fj (FW _) λ_ _=>Fj (EW _) λ_ _=>Pc _
theorem rah(a b:Int):WA (a,b)=some (decide (0<=a)&&decide (a<b)):=by
 unfold WA TS;simp only;by_cases h:0<=a<;>simp[h]
theorem pai(x:Lb)(n:Int)(hn:0<=n):∃r,VD (x,n)=some r/\(r=true->x.2.2.2.2.2.2.1<n/\x.2.2.2.2.2.2.2<n):=by
 unfold VD FT;simp only[rah,da];by_cases h1:x.1=15
 ·simp only[h1,decide_true,cond_true];cases hb:(decide (0<=x.2.2.2.2.2.2.1)&&decide (x.2.2.2.2.2.2.1<n))
  ·exact⟨false,rfl,λh=>by cases h⟩
  ·simp at hb;exact⟨_,rfl,λh=>by simp at h;exact⟨hb.2,h.2⟩⟩
 ·simp only[h1,decide_false,cond_false];by_cases h2:x.1=21
  ·simp only[h2,decide_true,cond_true];by_cases h3:x.2.2.2.2.2.2.1= -1
   ·simp only[h3,decide_true,cond_true];exact⟨_,rfl,λh=>by simp at h;omega⟩
   ·simp only[h3,decide_false,cond_false];exact⟨false,rfl,λh=>by cases h⟩
  ·simp only[h2,decide_false,cond_false];cases hb:(decide (0<=x.2.2.2.2.2.2.1)&&decide (x.2.2.2.2.2.2.1<n))
   ·exact⟨false,rfl,λh=>by cases h⟩
   ·simp at hb;exact⟨_,rfl,λh=>by simp at h;omega⟩
def jf(a:Lb):List Int:=
 cond (decide (a.1=2)) [a.2.2.1] (cond (decide (a.1=3)) [a.2.2.1] (cond (decide (a.1=13)) [a.2.2.1] (cond (decide (a.1=4)) [a.2.2.1,a.2.2.2.1] (cond (decide (a.1=5)) [a.2.2.1,a.2.2.2.1] (cond (decide (a.1=6)) [a.2.2.1,a.2.2.2.1]
 (cond (decide (a.1=7)) [a.2.2.1,a.2.2.2.1] (cond (decide (a.1=8)) [a.2.2.1,a.2.2.2.1] (cond (decide (a.1=9)) [a.2.2.1,a.2.2.2.1] (cond (decide (a.1=10)) [a.2.2.1,a.2.2.2.1] (cond (decide (a.1=15)) [a.2.2.1,a.2.2.2.1] (cond (decide (a.1=11)) [a.2.2.2.1] (cond (decide (a.1=14)) [a.2.1,a.2.2.2.1] []))))))))))))
theorem kG{α:Type}{b:Bool}{x y:α}:cond b (some x) (some y)=some (cond b x y):=by cases b<;>rfl
theorem mai(a:Lb):rH a=some (jf a):=by
 unfold rH ET jf;simp only[kG]
theorem s8{b:Bool}{l m:List Int}(h1:l.length<=2)(h2:m.length<=2):(cond b l m).length<=2:=by cases b<;>assumption
theorem S_(a:Lb):(jf a).length<=2:=by
 unfold jf
 repeat (first|exact(show(0:Nat)<=2 by decide)|exact(show(1:Nat)<=2 by decide)|exact(show(2:Nat)<=2 by decide)|refine s8 ?_ ?_)
def s9(g:Ba)(D:List Int)(i:Nat)(x:Int):Prop:=0<=x/\x<g.2.2.1/\(((af g).length:Int)<=x->gx D (x-((af g).length:Int)).toNat 0<(i:Int))
theorem faf{g:Ba}{D:List Int}(hD:Zr g D)(hS:(af g).length<=64)(i:Nat)(x:Int)(a b c e f j)(y:Lb):∃r,Vx.m (D,(i:Int),x,a,b,c,e,f,j,(g,y))=some r/\(r=false->s9 g D i x):=by
 simp only[PD.m,Vx,nt];by_cases h1:x<0
 ·simp only[h1,decide_true,cond_true];exact⟨true,rfl,λh=>by cases h⟩
 ·by_cases h2:g.2.2.1<=x
  ·simp only[h1,h2,decide_true,decide_false,cond_true,cond_false];exact⟨true,rfl,λh=>by cases h⟩
  ·simp only[h1,h2,decide_false,cond_false];have hr:=hD.rV;have hl:=hD.len;by_cases h3:((af g).length:Int)<=x
   ·have h3':(fa g.2.2.2.2.2.1:Int)<=x:=h3;simp only[h3',decide_true,cond_true];have w:Ka (x-(fa g.2.2.2.2.2.1:Int))=x-((af g).length:Int):=Ya (by show _<=x-((af g).length:Int);omega) (by show x-((af g).length:Int)<=_;omega);simp only[w,Sd (show 0<=x-((af g).length:Int)by omega) (show x-((af g).length:Int)<(D.length:Int)by omega),Fa];exact⟨_,rfl,λh=>⟨by omega,by omega,λ_=>by simpa using h⟩⟩
   ·have h3':¬(fa g.2.2.2.2.2.1:Int)<=x:=h3;simp only[h3',decide_false,cond_false];exact⟨false,rfl,λ_=>⟨by omega,by omega,λh=>absurd h h3⟩⟩
theorem taf{g:Ba}{D:List Int}(hD:Zr g D)(hS:(af g).length<=64)(i:Nat)(y:Lb)(l:List Int)(hl:l.length<=2)(a b c):
  ∃e,Ua (fq.m (D,(i:Int),a,b,c,l,nt l.length,g,y)) 0=some e/\((∃u,e= .inl u)\/(∃u,e= .inr u)/\∀x∈l,s9 g D i x):=by
 refine Jh (n:=l.length) (step:=fq.m (D,(i:Int),a,b,c,l,nt l.length,g,y)) (by omega) (λk=>∀j,j<k->s9 g D i (gx l j 0)) (λe=>(∃u,e= .inl u)\/(∃u,e= .inr u)/\∀x∈l,s9 g D i x) (λj h=>absurd h (Td _)) (λk hk hI=> ?_) (λhI=> ?_)
 ·have h':(k:Int)<(l.length:Int):=by omega
  simp only[LD.m,fq,nt,h',decide_true,cond_true,Tk hk,Fa,Pa];obtain⟨r,h1,h2⟩:=faf hD hS i (gx l k 0) a b c l (nt l.length) (k:Int) y;simp only[nt]at h1;rw[h1];simp only[da];cases r
  ·exact Sw λj hj=>by
    by_cases e:j=k
    ·subst e;exact h2 rfl
    ·exact hI j (by omega)
  ·exact uj (.inl ⟨(),rfl⟩)
 ·simp only[LD.m,fq,nt,Tb,decide_false,cond_false];exact⟨_,rfl,.inr ⟨⟨(),rfl⟩,λx hx=>by
   obtain⟨j,hj⟩:=List.mem_iff_getElem?.1 hx;have Mc:j<l.length:=by rcases dc j l.length with h|h;exact h;rw[Nb h]at hj;cases hj
   have:=hI j Mc;rw[kM hj]at this;exact this⟩⟩
end Go.U
end
section
set_option maxRecDepth 20000
namespace Go.U
open Go
def Fn(P:Prop)(x:Option Bool):Prop:=∃r,x=some r/\(r=false->P)
theorem Di{P:Prop}{b:Bool}{x y:Option Bool}(hx:b=true->Fn P x)(hy:b=false->Fn P y):Fn P (cond b x y):=by
 cases b
 ·exact hy rfl
 ·exact hx rfl
theorem xj{P:Prop}:Fn P (some true):=⟨true,rfl,λh=>by cases h⟩
theorem PB{P:Prop}{b:Bool}(h:b=false->P):Fn P (some b):=⟨b,rfl,h⟩
theorem yS{α:Type}{P:Prop}{x:Option α}{f:α->Option Bool}(hx:∃r,x=some r)(hf:∀a,x=some a->Fn P (f a)):Fn P (x.bind f):=by
 obtain⟨a,h⟩:=hx;rw[h];exact hf a h
structure Idx(g:Ba)(y:Lb):Prop where
 k11:y.1=11\/y.1=14->0<=y.2.2.1/\y.2.2.1<((Rg g).length:Int)
 k12:y.1=12->0<=y.2.2.1/\y.2.2.1<((Tr g).length:Int)
 k13:y.1=13->0<=y.2.1/\y.2.1<((af g).length:Int)
theorem V9(p):Ux.m p=some (decide (p.2.2.2.2.2.1=(11:Int))||decide (p.2.2.2.2.2.1=(14:Int))):=by
 simp only[PD.m,Ux];cases decide (p.2.2.2.2.2.1=(11:Int))<;>rfl
theorem caf(g:Ba)(y:Lb)(D l n t):Fn (Idx g y) (Tx.m (D,(decide (y.1=(11:Int))||decide (y.1=(14:Int))),l,n,t,g,y)):=by
 simp only[PD.m,Tx,nt]
 repeat' (first|exact xj|(refine PB λh=> ?_)|(refine Di (λh=> ?_) (λh=> ?_)))
 all_goals
  rename_i h1;refine⟨λk=> ?_,λk=> ?_,λk=> ?_⟩
 all_goals simp_all [Rg,Tr,af]
 all_goals (first|omega|(have q:=of_decide_eq_false ‹decide (_<=_)=false›;omega))
structure Good(g:Ba)(D:List Int)(j:Nat):Prop where
 use:∀x∈jf (at' g j),s9 g D j x
 idx:Idx g (at' g j)
 nx:(at' g j).2.2.2.2.2.2.1<(g.1.length:Int)/\(at' g j).2.2.2.2.2.2.2<(g.1.length:Int)
 tst:(at' g j).1=15->14<=(at' g j).2.2.2.2.1/\(at' g j).2.2.2.2.1<=19
theorem M_{g:Ba}{D:List Int}(hD:Zr g D)(hS:(af g).length<=64){i:Nat}{y:Lb}(hu:∀x∈jf y,s9 g D i x)(hi:Idx g y)(hG:∀j,j<i->Good g D j):∃r,jH (g,D,y)=some r:=by
 unfold jH SS;simp only[nt];refine Qd (Pc _) (Qd (Pc _) (Qd (Pc _) (Qd (Pc _) (Qd (Pc _) (Qd (Pc _) (Qd (Pc _) (Qd (Pc _) ?_)))))));by_cases h14:y.1=14
 ·obtain⟨a,b⟩:=hi.k11 (.inr h14);have b':y.2.2.1<(fa g.2.2.2.2.2.2.1:Int):=b;simp only[h14,decide_true,cond_true,Sd a b',Fa];exact Qd (Pc _) (Pc _)
 ·simp only[h14,decide_false,cond_false];refine Qd (Pc _) ?_;by_cases h13:y.1=13
  ·obtain⟨a,b⟩:=hi.k13 h13;have b':y.2.1<(fa g.2.2.2.2.2.1:Int):=b;simp only[h13,decide_true,cond_true,Sd a b',Fa];by_cases hs:(fa g.2.2.2.2.2.1:Int)<=y.2.2.1
   ·simp only[hs,decide_true,cond_true];have o_:y.2.2.1∈jf y:=by simp[jf,h13]
    obtain⟨u1,u2,u3⟩:=hu _ o_;have hr:=hD.rV;have hl:=hD.len;have aY:((af g).length:Int)<=y.2.2.1:=hs;have u3:=u3 aY;obtain⟨k,hk⟩:=Ad (show 0<=y.2.2.1-((af g).length:Int)by omega);have w:Ka (y.2.2.1-(fa g.2.2.2.2.2.1:Int))=(k:Int):=by
     show Ka (y.2.2.1-((af g).length:Int))=_;rw[hk,Ya (by omega) (by omega)]
    have hkD:k<D.length:=by omega
    obtain⟨j,d1,d2,d3,d4⟩:=hD.dn k hkD;rw[hk,Pa,kM d1]at u3;have hji:j<i:=by omega
    have gj:=hG j hji;simp only[w,Tk hkD,Fa,Pa,kM d1,Tk d2];by_cases h12:(gx g.1 j Pb).1=12
    ·obtain⟨i1,i2⟩:=gj.idx.k12 h12;have i1:0<=(gx g.1 j Pb).2.2.1:=i1;have xO:(gx g.1 j Pb).2.2.1<(fa g.2.2.2.2.1:Int):=i2;simp only[h12,decide_true,cond_true,Sd i1 xO,Fa];refine Fj (TI _) λ_ _=>Qd (Fj (VS _) λ_ _=>Qd (Pc _) (Pc _)) (Pc _)
    ·simp only[h12,decide_false,cond_false];exact Pc _
   ·simp only[hs,decide_false,cond_false];exact Pc _
  ·simp only[h13,decide_false,cond_false];exact Pc _
theorem R_{g:Ba}{D:List Int}(hD:Zr g D)(hS:(af g).length<=64){i:Nat}{y:Lb}(hu:∀x∈jf y,s9 g D i x)(hi:Idx g y)(hG:∀j,j<i->Good g D j):∃r,yx (g,D,y)=some r:=by
 unfold yx DT;refine Fj (M_ hD hS hu hi hG) λr _=>Qd (Pc _) (Qd ?_ (Pc _))
 by_cases h1:(0:Int)<y.2.2.2.2.2.1
 ·simp only[h1,decide_true,cond_true,nt];by_cases h2:y.2.2.2.2.2.1<(fa g.2.2.2.2.2.2.2:Int)
  ·simp only[h2,decide_true,cond_true,Sd (Int.le_of_lt h1) h2,Fa];exact Pc _
  ·simp only[h2,decide_false,cond_false];exact Pc _
 ·simp only[h1,decide_false,cond_false];exact Pc _
theorem baf{g:Ba}{D:List Int}(hD:Zr g D)(hS:(af g).length<=64){i:Nat}{y:Lb}(hu:∀x∈jf y,s9 g D i x)(hi:Idx g y)(hG:∀j,j<i->Good g D j)(a b c):Fn (y.1=15->14<=y.2.2.2.2.1/\y.2.2.2.2.1<=19) (Sx.m (D,a,b,c,g,y)):=by
 simp only[PD.m,Sx];have h42:=R_ hD hS hu hi hG
 repeat' (first|exact xj|(refine Di (λh=> ?_) (λh=> ?_))|(refine yS h42 λ_ _=> ?_)|(refine PB λh=> ?_))
 all_goals
  intro k;simp_all
theorem Ial(g:Ba)(y:Lb)(D a b c d):Fn (y.2.2.2.2.2.2.1<(g.1.length:Int)/\y.2.2.2.2.2.2.2<(g.1.length:Int)) (QE.m (D,a,b,c,d,g,y)):=by
 simp only[PD.m,QE];obtain⟨r,h1,h2⟩:=pai y (nt g.1.length) (by simp only[nt];omega);refine Di (λ_=>xj) λ_=>Di (λ_=>xj) λ_=>Di (λ_=>Di (λ_=>xj) λ_=> ?_) λ_=> ?_
 all_goals
  refine yS (T_ _) λ_ _=>Di (λ_=>xj) λ_=> ?_
  rw[h1];exact PB λh=>h2 (by simpa using h)
theorem Sal{g : Ba}{D : List Int}(hL : g.1.length ≤ 4096)(hD : Zr g D)(hS : (af g).length ≤ 64) :
    ∃e, Ua (Cv.m (D, g.1, nt g.1.length, g)) 0 = some e ∧ ((∃u, e = .inl u) ∨ (∃u, e = .inr u) ∧ ∀j, j < g.1.length → Good g D j) := by
  refine Jh (n := g.1.length) (step := Cv.m (D, g.1, nt g.1.length, g)) (by omega) (λk => ∀j, j < k → Good g D j) (λe => (∃u, e = .inl u) ∨ (∃u, e = .inr u) ∧ ∀j, j < g.1.length → Good g D j) (λj h => absurd h (Td _)) (λk hk hI => ?_) (λhI => ?_)
  · have h' : (k : Int) < (g.1.length : Int) := by omega
    obtain⟨y, hy⟩ : ∃y, gx g.1 k Pb = y := ⟨_, rfl⟩
    have Rm : at' g k = y := hy
    simp only[LD.m, Cv, nt, h', decide_true, cond_true, Tk hk, Fa, Pa, hy]
    obtain⟨r, q1, q2⟩ := Ial g y D (k : Int) g.1 (g.1.length : Int) (k : Int)
    rw[q1]
    simp only[da]
    cases r
    · simp only[cond_false]
      rw[mai]
      simp only[da]
      obtain⟨e, l1, l2⟩ := taf hD hS k y (jf y) (S_ y) g.1 (g.1.length : Int) (k : Int)
      simp only[nt]at l1
      rw[l1]
      simp only[da]
      rcases l2 with⟨u, rfl⟩ | ⟨⟨u, rfl⟩, hu⟩
      · exact uj (.inl ⟨(), rfl⟩)
      · simp only[zi]
        rw[V9]
        simp only[da]
        obtain⟨r, w1, w2⟩ := caf g y D g.1 (g.1.length : Int) (k : Int)
        rw[w1]
        simp only[da]
        cases r
        · simp only[cond_false]
          have hi := w2 rfl
          obtain⟨b, v1, v2⟩ := baf hD hS hu hi hI g.1 (g.1.length : Int) (k : Int)
          rw[v1]
          simp only[da]
          cases b
          · exact Sw λj hj => by
              by_cases e : j = k
              · subst e; exact⟨by rw[Rm]; exact hu, by rw[Rm]; exact hi, by rw[Rm]; exact q2 rfl, by rw[Rm]; exact v2 rfl⟩
              · exact hI j (by omega)
          · exact uj (.inl ⟨(), rfl⟩)
        · exact uj (.inl ⟨(), rfl⟩)
    · exact uj (.inl ⟨(), rfl⟩)
  · simp only[LD.m, Cv, nt, Tb, decide_false, cond_false]
    exact⟨_, rfl, .inr ⟨⟨(), rfl⟩, hI⟩⟩
end Go.U
end
section
set_option maxRecDepth 20000
namespace Go.U
open Go
theorem raf(g:Ba)(a b)(nx:Kd)(l:List Bool)(h1:nx.1<(l.length:Int))(h2:nx.2<(l.length:Int)):∃e,Ua (Et.m (a,b,nx,g,l)) (true,0)=some e:=by
 obtain⟨e,h,_⟩:=Gc (step:=Et.m (a,b,nx,g,l)) (t:=(true,0)) (λt=>t.2=0\/t.2=1\/t.2=2) (λt=>2-t.2.toNat) (λ_=>True) (.inl rfl) (by simp) (λt ht=>by
  obtain⟨c,i⟩:=t;simp only at ht;simp only[LD.m,Et];have w0:Ka ((0:Int)+1)=1:=by decide
  have w1:Ka ((1:Int)+1)=2:=by decide
  rcases ht with rfl|rfl|rfl
  ·have d1:(0:Int)<2:=by decide
   simp only[d1,decide_true,cond_true,w0];refine .inl ?_;cases c
   ·exact⟨_,rfl,.inr (.inl rfl),by simp⟩
   ·simp only[cond_true];by_cases hn:nx.1<0
    ·simp only[hn,decide_true,cond_true];exact⟨_,rfl,.inr (.inl rfl),by simp⟩
    ·simp only[hn,decide_false,cond_false,Sd (show 0<=nx.1 by omega) h1,Fa];exact⟨_,rfl,.inr (.inl rfl),by simp⟩
  ·have d1:(1:Int)<2:=by decide
   have d2:¬(1:Int)=0:=by decide
   simp only[d1,d2,decide_true,decide_false,cond_true,cond_false,w1];refine .inl ?_;cases c
   ·exact⟨_,rfl,.inr (.inr rfl),by simp⟩
   ·simp only[cond_true];by_cases hn:nx.2<0
    ·simp only[hn,decide_true,cond_true];exact⟨_,rfl,.inr (.inr rfl),by simp⟩
    ·simp only[hn,decide_false,cond_false,Sd (show 0<=nx.2 by omega) h2,Fa];exact⟨_,rfl,.inr (.inr rfl),by simp⟩
  ·have d1:¬(2:Int)<2:=by decide
   simp only[d1,decide_false,cond_false];exact .inr ⟨_,rfl,trivial⟩)
 exact⟨e,h⟩
def cf(l:List Bool):Nat:=Xc (λb=> !b) l
theorem jak{l:List Bool}{i:Nat}(hi:i<l.length)(h:gx l i false=false):cf (l.set i true)<cf l:=by
 unfold cf;rw[List.countP_set hi];have e:l[i]=false:=by
  have:=ym (d:=false) hi;rw[h,Da hi]at this;exact fA this
 have:0<Xc (λb=> !b) l:=List.countP_pos_iff.2 ⟨false,by rw[<- e];exact JF hi,rfl⟩;simp[e];omega
theorem Val(g:Ba)(hN:g.1.length<=4096)(hx:∀j,j<g.1.length->(at' g j).2.2.2.2.2.2.1<(g.1.length:Int)/\(at' g j).2.2.2.2.2.2.2<(g.1.length:Int))(l0:List Bool)(OO:l0.length=g.1.length):
  ∃e,Ua (Qp.m g) (false,(Ka ((nt (fa g.1))-(1:Int))),l0)=some e/\e.2.length=g.1.length/\cf e.2<=cf l0/\(e.1=true->cf e.2<cf l0):=by
 rw[Ya (by simp only[nt];omega) (by simp only[nt];omega)];refine Gc (step:=Qp.m g) (λt=>(∃n:Nat,n<=g.1.length/\t.2.1=(n:Int)-1)/\t.2.2.length=g.1.length/\cf t.2.2<=cf l0/\(t.1=true->cf t.2.2<cf l0)) (λt=>(t.2.1+1).toNat) (λe=>e.2.length=g.1.length/\cf e.2<=cf l0/\(e.1=true->cf e.2<cf l0))
  ⟨⟨g.1.length,ya _,rfl⟩,OO,ya _,λh=>by cases h⟩ (by simp only[nt];omega) (λt⟨⟨n,hn,ht⟩,hl,hc,hs⟩=> ?_)
 obtain⟨c,i,l⟩:=t;simp only at ht hl hc hs;subst ht;simp only[LD.m,Qp];cases n with
 |zero=>
  have d:¬(0:Int)<=((0:Nat):Int)-1:=by decide
  simp only[d,decide_false,cond_false];exact .inr ⟨_,rfl,hl,hc,hs⟩
 |succ n=>
  have d:(0:Int)<=((n+1:Nat):Int)-1:=by omega
  have e:((n+1:Nat):Int)-1=(n:Int):=by omega
  have Vk:n<l.length:=by omega
  have hng:n<g.1.length:=by omega
  have w:Ka ((n:Int)-1)=(n:Int)-1:=Ya (by omega) (by omega);simp only[d,decide_true,cond_true];rw[e];simp only[Tk Vk,Tk hng,Fa,Pa,w];refine .inl ?_;cases hg:gx l n false
  ·have hm:=jak Vk hg;have mark:∃t',some (Sum.inl (true,((n:Int)-1,l.set n true)))=some (Sum.inl t':(Bool×Int×List Bool) ⊕ (Bool×List Bool))/\((∃m:Nat,m<=g.1.length/\t'.2.1=(m:Int)-1)/\t'.2.2.length=g.1.length/\cf t'.2.2<=cf l0/\(t'.1=true->cf t'.2.2<cf l0))/\(t'.2.1+1).toNat<((n:Int)+1).toNat:=
    ⟨_,rfl,⟨⟨n,by omega,rfl⟩,by simpa using hl,by simp only;omega,λ_=>by simp only;omega⟩,by simp only;omega⟩
   have stay:∃t',some (Sum.inl (c,((n:Int)-1,l)))=some (Sum.inl t':(Bool×Int×List Bool) ⊕ (Bool×List Bool))/\((∃m:Nat,m<=g.1.length/\t'.2.1=(m:Int)-1)/\t'.2.2.length=g.1.length/\cf t'.2.2<=cf l0/\(t'.1=true->cf t'.2.2<cf l0))/\(t'.2.1+1).toNat<((n:Int)+1).toNat:=
    ⟨_,rfl,⟨⟨n,by omega,rfl⟩,hl,hc,hs⟩,by simp only;omega⟩
   simp only[cond_false];cases !(decide ((gx g.1 n Pb).1=(17:Int)))
   ·exact mark
   ·simp only[cond_true];cases !(decide ((gx g.1 n Pb).1=(20:Int)))
    ·exact mark
    ·simp only[cond_true];obtain⟨x1,x2⟩:=hx n hng;obtain⟨r,hr⟩:=raf g c (n:Int) (gx g.1 n Pb).2.2.2.2.2.2 l (by rw[hl];exact x1) (by rw[hl];exact x2);rw[hr];simp only[da];cases r
     ·exact stay
     ·exact mark
  ·simp only[cond_true];exact⟨_,rfl,⟨⟨n,by omega,rfl⟩,hl,hc,hs⟩,by simp only;omega⟩
theorem vaq{n:Nat}(h:n<=4096):(decide (0<=(n:Int))&&decide ((n:Int)<=(n:Int))&&decide (1 * (n:Int)<=70368744177664)&&decide ((n:Int)<9223372036854775808))=true:=by
 have h1:(0:Int)<=n:=by omega
 have h2:1 * (n:Int)<=70368744177664:=by omega
 have h3:(n:Int)<9223372036854775808:=by omega
 rw[decide_eq_true h1,decide_eq_true (Bd _),decide_eq_true h2,decide_eq_true h3];rfl
theorem Q_(g:Ba)(hN:g.1.length<=4096)(hx:∀j,j<g.1.length->(at' g j).2.2.2.2.2.2.1<(g.1.length:Int)/\(at' g j).2.2.2.2.2.2.2<(g.1.length:Int)):∃r,qH g=some r:=by
 unfold qH BT;have b1:(decide (0<=(nt (fa g.1)))&&decide ((nt (fa g.1))<=(nt (fa g.1)))&&decide (1 * (nt (fa g.1))<=70368744177664)&&decide ((nt (fa g.1))<9223372036854775808))=true:=vaq hN;rw[b1,Fa];obtain⟨e,h1,h2⟩:=Gc (step:=UD.m g) (t:=(true,fb (ia (nt (fa g.1))) false)) (λt=>t.2.length=g.1.length) (λt=>2 * cf t.2+cond t.1 1 0) (λe=>e.length=g.1.length) (by simp[nt]) (by
   have:cf (fb (ia (nt (fa g.1))) false)<=4096:=Db Rd (by simp[nt];exact hN);simp only[cond_true];omega) (λt ht=>by
  obtain⟨c,l⟩:=t;simp only at ht;simp only[LD.m,UD];cases c
  ·exact .inr ⟨_,rfl,ht⟩
  ·obtain⟨e,q1,q2,q3,q4⟩:=Val g hN hx l ht;have OY:Ua (LD.m Qp g) (false,(Ka ((nt (fa g.1))-(1:Int))),l)=some e:=q1;simp only[cond_true];refine .inl ⟨(e.1,e.2),?_,q2,?_⟩
   ·have:(λt=>Qp.m g t)=Qp.m g:=rfl;rw[OY];rfl
   ·cases hb:e.1
    ·simp only[cond_false,cond_true];omega
    ·simp only[cond_true];have:=q4 hb;omega)
 rw[h1];simp only[da];obtain⟨e2,h3,_⟩:=Jh (n:=e.length) (step:=Dt.m ((nt (fa e)),e)) (by omega) (λ_=>True) (λ_=>True) trivial (λi hi _=>by
  have h':(i:Int)<(e.length:Int):=by omega
  simp only[LD.m,Dt,nt,h',decide_true,cond_true,Tk hi,Fa]
  repeat (first|exact uj trivial|exact Sw trivial|(refine Ci (λ_=> ?_) (λ_=> ?_)))) (λ_=>by
  simp only[LD.m,Dt,nt,Tb,decide_false,cond_false];exact⟨_,rfl,trivial⟩)
 rw[h3];simp only[da];cases e2<;>exact Pc _
structure Fe(g:Ba)(D:List Int):Prop where
 N1:0<g.1.length
 N:g.1.length<=4096
 S:(af g).length<=64
 A:(Rg g).length<=16
 I:NU g
 defs:Zr g D
 Kg:∀j,j<g.1.length->Good g D j
theorem Uaj{g:Ba}(h:zak g):∃r,CH g=some r/\(r=true->∃D,Fe g D):=by
 unfold CH wU;have no:∃r,some false=some r/\(r=true->∃D,Fe g D):=⟨false,rfl,λh=>by cases h⟩;obtain⟨b,hb,Dy⟩:Fn ((0<g.1.length/\g.1.length<=4096)/\(af g).length<=64/\(Rg g).length<=16/\NU g) (SE.m g):=by
  simp only[PD.m,SE,nt];refine Di (λ_=>xj) λk1=>Di (λ_=>xj) λk2=>Di (λ_=>xj) λk3=>Di (λ_=>xj) λk4=> ?_
  have k3:=of_decide_eq_false k3;have k4:=of_decide_eq_false k4;have k2:=of_decide_eq_false k2;have k1:=of_decide_eq_false k1;rw[Sd (by omega) (by omega),Fa];refine Di (λ_=>xj) λ_=> ?_
  obtain⟨r,q1,q2⟩:=xai h;rw[q1];exact PB λhr=>⟨⟨by omega,by omega⟩,q2 (by simpa using hr)⟩
 rw[hb];simp only[da];cases b
 ·obtain⟨⟨gW,hN⟩,hS,hA,hI⟩:=Dy rfl;simp only[cond_false];obtain⟨r,d1,d2⟩:=uai g hN hS h.A;rw[d1];simp only[da];cases hr:r.2
  ·exact no
  ·have hD:=d2 hr;simp only[Ub,cond_false];obtain⟨e,l1,l2⟩:=Sal hN hD hS;rw[l1];simp only[da];rcases l2 with⟨u,rfl⟩|⟨⟨u,rfl⟩,hG⟩
   ·exact no
   ·simp only[zi];obtain⟨r,hr⟩:=Q_ g hN λj hj=>(hG j hj).nx
    rw[hr];exact⟨r,rfl,λ_=>⟨_,gW,hN,hS,hA,hI,hD,hG⟩⟩
 ·exact no
end Go.U
end
section
set_option maxRecDepth 20000
namespace Go.U
open Go
def I64(x:Int):Prop:= -9223372036854775808<=x/\x<=9223372036854775807
def CI(c:ga):Prop:=I64 c.2.1/\I64 c.2.2
theorem mah{c:ga}(h:CI c):∃r,VA c=some r/\(r=true->CR c):=by
 obtain⟨b,m,x⟩:=c;obtain⟨⟨h1,h2⟩,h3,h4⟩:=h;simp only at h1 h2 h3 h4;unfold VA xM;cases b
 ·simp only[cond_false];by_cases hm:0<=m
  ·simp only[hm,decide_true,cond_true];rw[Er h1 h2 h3 h4];simp only[da];have e:(m.natAbs:Int)=m:=by omega
   rw[e];refine⟨_,rfl,λhr=> .inr ⟨rfl,hm,?_⟩⟩;simp at hr;rcases hq:nf m x with⟨b1,m1,x1⟩
   rw[hq]at hr;simp at hr;obtain⟨rfl,rfl,rfl⟩:=hr;rfl
  ·simp only[hm,decide_false,cond_false];exact⟨false,rfl,λh=>by cases h⟩
 ·simp only[cond_true];by_cases hm:m=0
  ·simp only[hm,decide_true,cond_true];exact⟨_,rfl,λhr=> .inl (by simp at hr;rw[hr])⟩
  ·simp only[hm,decide_false,cond_false];exact⟨false,rfl,λh=>by cases h⟩
theorem V3{l : List ga}{n : Int}(hl : l.length ≤ 9223372036854775807)(hc : ∀c ∈ l, CI c) : ∃r, xx (l, n) = some r ∧ (r = true → (l.length : Int) = n ∧ ∀j, j < l.length → CR (gx l j Aa)) := by
  unfold xx HM
  simp only[nt]
  by_cases hn : (l.length : Int) = n
  · subst hn
    simp only[decide_true, Ub, cond_false]
    obtain⟨e, h1, h2⟩ := Jh (n := l.length) (step := Ir.m (l, (l.length : Int))) hl (λk => ∀j, j < k → CR (gx l j Aa)) (λe => (∃u, e = .inl u) ∨ (∃u, e = .inr u) ∧ ∀j, j < l.length → CR (gx l j Aa)) (λj h => absurd h (Td _)) (λk hk hI => by
      have h' : (k : Int) < (l.length : Int) := by omega
      simp only[LD.m, Ir, h', decide_true, cond_true, Tk hk, Fa, Pa]
      refine Ci (λ_ => uj (.inl ⟨(), rfl⟩)) λ_ => ?_
      obtain⟨r, q1, q2⟩ := mah (hc (gx l k Aa) (Eb (ym hk)))
      rw[q1]
      simp only[da]
      cases r
      · exact uj (.inl ⟨(), rfl⟩)
      · exact Sw λj hj => by
          by_cases e : j = k
          · subst e; exact q2 rfl
          · exact hI j (by omega)) (λhI => by
      simp only[LD.m, Ir, Tb, decide_false, cond_false]
      exact⟨_, rfl, .inr ⟨⟨(), rfl⟩, hI⟩⟩)
    rw[h1]
    simp only[da]
    rcases h2 with⟨u, rfl⟩ | ⟨⟨u, rfl⟩, hI⟩
    · exact⟨false, rfl, λh => by cases h⟩
    · exact⟨true, rfl, λ_ => ⟨trivial, hI⟩⟩
  · simp only[hn, decide_false, Sb, cond_true]; exact⟨false, rfl, λh => by cases h⟩
structure tF(s:Ga):Prop where
 a:s.2.1.length<=9223372036854775807
 b:s.2.2.length<=9223372036854775807
 ca:∀c∈s.2.1,CI c
 cb:∀c∈s.2.2,CI c
structure vi(g:Ba)(s:Ga):Prop where
 sl:s.2.1.length=(af g).length
 il:s.2.2.length=(Rg g).length
 sc:∀j,j<s.2.1.length->CR (gx s.2.1 j Aa)
 ic:∀j,j<s.2.2.length->CR (gx s.2.2 j Aa)
theorem Maj{g:Ba}{s:Ga}(h:tF s):∃r,Au (g,s)=some r/\(r=true->s.1=true->vi g s):=by
 unfold Au BH;cases hb:s.1
 ·simp only[hb,Sb,cond_true];obtain⟨r,hr⟩:=(Qd (Pc _) (Pc _):∃r,(cond (decide ((nt (fa s.2.1))=(0:Int))) (some (decide ((nt (fa s.2.2))=(0:Int)))) (some false))=some r);exact⟨r,hr,λ_ h=>by cases h⟩
 ·simp only[hb,Ub,cond_false];obtain⟨r1,q1,q2⟩:=V3 (n:=nt (fa g.2.2.2.2.2.1)) h.a h.ca;rw[q1];simp only[da];cases r1
  ·exact⟨false,rfl,λh=>by cases h⟩
  ·obtain⟨r2,q3,q4⟩:=V3 (n:=nt (fa g.2.2.2.2.2.2.1)) h.b h.cb;simp only[cond_true];rw[q3];refine⟨r2,rfl,λhr _=> ?_⟩;obtain⟨a1,a2⟩:=q2 rfl;obtain⟨b1,b2⟩:=q4 hr;simp only[nt]at a1 b1;exact⟨Int.ofNat.inj a1,Int.ofNat.inj b1,a2,b2⟩
end Go.U
end
section
set_option maxRecDepth 20000
namespace Go.U
open Go
theorem CR.rem{c:ga}(h:CR c)(h1:c.1=false)(h0:c.2.1≠0):c.2.2=c.2.2%c.2.1/\0<=c.2.2/\c.2.2<c.2.1:=by
 rcases h with rfl|⟨_,h2,h3⟩
 ·simp at h1
 ·obtain⟨b,m,x⟩:=c;simp only at h0 h2 h3 ⊢;have k1:=Tc x h0;have k2:=uc x (show 0<m by omega);have e:x=x%m:=by
   unfold nf at h3;rw[if_neg h0]at h3;split at h3
   ·simp only[Qe]at h3;exact absurd h3.2.1.symm h0
   ·split at h3
    ·simp only[Qe]at h3;exact absurd h3.2.1.symm h0
    ·simp only[Qe]at h3;exact h3.2.2.symm
  exact⟨e,by omega,by omega⟩
def gz(c:ga)(v:Int):Bool:= !c.1&&(decide (-2147483648<=v)&&decide (v<=2147483647))&&(if c.2.1=0 then decide (v=c.2.2)else decide (v%c.2.1=c.2.2))
theorem Xd{a m:Int}:zb a m=0↔m ∣ a:=⟨λh=>Int.dvd_of_tmod_eq_zero h,λh=>Int.tmod_eq_zero_of_dvd h⟩
theorem T9{v m r:Int}(hm:m≠0)(h0:0<=r)(h1:r<m):zb (v-r) m=0↔v%m=r:=by
 rw[Xd];have hr:r%m=r:=fj h0 h1;constructor
 ·intro h;have:=Wl v (Wh m);have e:(v-r)%m=0:=Bn h;have e2:=fl.2 e;rw[e2,hr]
 ·intro h;refine Cn ?_;exact fl.1 (by rw[h,hr])
theorem Zh{n:Nat}(hn:n<=9223372036854775807){p:Nat->Bool}{step:Int->Option (Int ⊕ (Unit ⊕ Unit))}(hs:∀i:Nat,i<n->step (i:Int)=some (cond (p i) (.inl (Ka ((i:Int)+1))) (.inr (.inl ()))))
  (he:step (n:Int)=some (.inr (.inr ()))):Ua step 0=some (cond ((mb n).all p) (.inr ()) (.inl ())):=by
 obtain⟨e,h1,h2⟩:=Jh (n:=n) (step:=step) hn (λk=>∀j,j<k->p j=true) (λe=>(e= .inl ()/\(mb n).all p=false)\/(e= .inr ()/\(mb n).all p=true)) (λj h=>absurd h (Td _)) (λi hi hI=>by
  rw[hs i hi]
  cases hp:p i
  · refine uj (.inl ⟨rfl,?_⟩)
    rw[List.all_eq_false]
    exact⟨i,jg.2 hi,by rw[hp];simp⟩
  · exact Sw λj hj=>by
     by_cases e:j=i
     · subst e;exact hp
     · exact hI j (by omega)) (λhI=>⟨_,he,.inr ⟨rfl,ec.2 λj hj=>hI j (jg.1 hj)⟩⟩)
 rw[h1]
 rcases h2 with⟨rfl,h3⟩|⟨rfl,h3⟩<;>rw[h3]<;>rfl
theorem BL{T E:Type}{step:T->Option (T ⊕ E)}{n:Nat}(s:Nat->T)(x:E)(hn:n<18446744073709551616)(μ:T->Nat)(hμ:∀i,i<=n->μ (s i)=n-i)(hs:∀i,i<n->step (s i)=some (.inl (s (i+1))))(he:step (s n)=some (.inr x)):Ua step (s 0)=some x:=by
 obtain⟨e,h1,h2⟩:=Gc (λt=>∃i,i<=n/\t=s i) μ (λe=>e=x) ⟨0,Ac _,rfl⟩ (by rw[hμ 0 (Ac _)];omega) (λt⟨i,hi,ht⟩=>by
  subst ht;by_cases h:i<n
  ·exact .inl ⟨_,hs i h,⟨i+1,h,rfl⟩,by rw[hμ _ h,hμ _ hi];omega⟩
  ·have:i=n:=by omega
   subst this;exact .inr ⟨_,he,rfl⟩)
 rw[h1,h2]
end Go.U
end
