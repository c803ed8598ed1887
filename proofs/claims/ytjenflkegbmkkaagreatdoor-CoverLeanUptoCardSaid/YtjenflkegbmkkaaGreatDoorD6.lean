/- What these Lean functions compute: plain arithmetic of congruences, the checks of a graph, the values of its registers. -/
import Derived.Test.YtjenflkegbmkkaaGreatDoorD5
set_option linter.unusedVariables false
set_option linter.unusedSimpArgs false
set_option linter.unusedSectionVars false
open Bool renaming and_eq_true→Na,not_true→nh,not_false→we
open Int renaming le_refl→xh,eq_ofNat_of_zero_le→Kf,toNat_natCast→Ca,lt_irrefl→Pb,toNat→fa,reduceEq→Cg
open List renaming getD_eq_getElem?_getD→Ka,getElem?_set→Ob,getElem?_eq_none→Ab,foldl_cons→Og,replicate→Ba,getElem?_map→Wb,getElem?_eq_getElem→Aa,append_assoc→td,length_append→qd,length_replicate→Jf,take_length→Hf,length→da,length_singleton→Ve,length_map→Oc,length_take→Nb,zipWith→Ny,mem_of_getElem?→Db,length_drop→Tt,take_of_length_le→Zc,append_nil→zi,foldl_append→eA
open Nat renaming mul_le_mul_right→Zb,add_mul→Ke,le_refl→va,le_of_lt→Rt,le_trans→Gb,not_lt_zero→xj,le_of_eq→Ph
open Option renaming bind_some→ga
open Option.some renaming inj→Sj
section
set_option maxRecDepth 20000
namespace Go.U
open Go
structure Kp(sc:List Int)(x:Wa)(m m':M):Prop where
 rg:m'.rg.length=m.rg.length
 al:m'.ar.length=m.ar.length
 az:∀i,(gx m'.ar i []).length=(gx m.ar i []).length
 ma:m'.ma.length<=64
 re:0<=m'.re/\m'.re<=sc.length
 fu:0<=m'.fu/\m'.fu<=m.fu
 sp:(x.1=17\/x.1=20)->m'.en=0->m'.fu<m.fu
 pl:m'.en=0->m'.at_=m.at_\/(x.1=15/\m'.at_=x.2.2.2.2.2.2.2)
 no:x.1=21->m'.en≠0
 er:m'.en=1->m'.si=x.2.2.2.2.2.1/\1<=m'.ki/\m'.ki<=5
theorem Qb{α:Type}{P:α->Prop}{c:Prop}[Decidable c]{a b:α}(ha:c->P a)(hb:¬c->P b):P (if c then a else b):=by by_cases h:c<;>simp only[h,if_true,if_false]<;>first|exact ha h|exact hb h
section
variable {g:Ga}{sc:List Int}{x:Wa}{m:M}(h1:m.ma.length<=64)(h2:0<=m.re/\m.re<=sc.length)(h3:0<=m.fu)(h4:m.en=0)
include h1 h2 h3 h4
theorem jF{i v:Int}(hs:¬(x.1=17\/x.1=20))(hn:x.1≠21):Kp sc x m (m.wr i v):=⟨by simp[M.wr],rfl,fun _=>rfl,h1,h2,⟨h3,xh _⟩,fun h=>absurd h hs,fun _=> .inl rfl,fun h=>absurd h hn,fun h=>by simp[M.wr,h4]at h⟩
theorem vk{v:Int}(hv:1<=v/\v<=5):Kp sc x m (m.fail x.2.2.2.2.2.1 v):=⟨rfl,rfl,fun _=>rfl,h1,h2,⟨h3,xh _⟩,fun _ h=>by simp[M.fail]at h,fun _=> .inl rfl,fun _=>by simp[M.fail],fun _=>⟨rfl,hv⟩⟩
theorem Cu{v:Int}{c:Bool}(hs:¬(x.1=17\/x.1=20))(hn:x.1≠21):Kp sc x m (m.KL x v c):=by
 unfold M.KL;cases(c&& !(lq v 3))
 ·exact jF h1 h2 h3 h4 hs hn
 ·exact vk h1 h2 h3 h4 (by decide)
theorem lA{e:Int}(he:e≠0/\e≠1):Kp sc x m { m with en:=e }:=⟨rfl,rfl,fun _=>rfl,h1,h2,⟨h3,xh _⟩,fun _ h=>absurd h he.1,fun _=> .inl rfl,fun _=>he.1,fun h=>absurd h he.2⟩
theorem SO(hs:¬(x.1=17\/x.1=20))(hn:x.1≠21):Kp sc x m m:=⟨rfl,rfl,fun _=>rfl,h1,h2,⟨h3,xh _⟩,fun h=>absurd h hs,fun _=> .inl rfl,fun h=>absurd h hn,fun h=>by rw[h4]at h;cases h⟩
theorem fJ(MB:1<=x.1/\x.1<=21):Kp sc x m (yn g sc x m):=by
 unfold yn
 dsimp only
 refine Qb (fun e1=>jF h1 h2 h3 h4 (by omega) (by omega)) fun e1=> ?_
 refine Qb (fun e2=>Cu h1 h2 h3 h4 (by omega) (by omega)) fun e2=> ?_
 refine Qb (fun e3=>Cu h1 h2 h3 h4 (by omega) (by omega)) fun e3=> ?_
 refine Qb (fun e4=>Cu h1 h2 h3 h4 (by omega) (by omega)) fun e4=> ?_
 refine Qb (fun e5=>Cu h1 h2 h3 h4 (by omega) (by omega)) fun e5=> ?_
 refine Qb (fun e6=>Cu h1 h2 h3 h4 (by omega) (by omega)) fun e6=> ?_
 refine Qb (fun e7=>Qb (fun _=>vk h1 h2 h3 h4 (by decide)) fun _=>Qb (fun _=>vk h1 h2 h3 h4 (by decide)) fun _=>jF h1 h2 h3 h4 (by omega) (by omega)) fun e7=> ?_
 refine Qb (fun e8=>Qb (fun _=>vk h1 h2 h3 h4 (by decide)) fun _=>jF h1 h2 h3 h4 (by omega) (by omega)) fun e8=> ?_
 refine Qb (fun e9=>Cu h1 h2 h3 h4 (by omega) (by omega)) fun e9=> ?_
 refine Qb (fun IC=>Cu h1 h2 h3 h4 (by omega) (by omega)) fun IC=> ?_
 refine Qb (fun YQ=>Qb (fun _=>vk h1 h2 h3 h4 (by decide)) fun _=>jF h1 h2 h3 h4 (by omega) (by omega)) fun YQ=> ?_
 refine Qb (fun qV=>Qb (fun _=>lA h1 h2 h3 h4 (by decide)) fun Sc=>Qb (fun _=>
  ⟨rfl,rfl,fun _=>rfl,h1,⟨by simp only;omega,by simp only;omega⟩,⟨h3,xh _⟩,fun _ h=>by simp at h,fun _=> .inl rfl,fun _=>by simp,fun h=>by simp at h⟩) fun _=>
  ⟨by simp,rfl,fun _=>rfl,h1,⟨by simp only;omega,by simp only;omega⟩,⟨h3,xh _⟩,fun h=>by omega,fun _=> .inl rfl,fun h=>by omega,fun h=>by rw[h4]at h;cases h⟩) fun qV=> ?_
 refine Qb (fun JL=>Qb (fun _=>jF h1 h2 h3 h4 (by omega) (by omega)) fun _=>vk h1 h2 h3 h4 (by decide)) fun JL=> ?_
 refine Qb (fun IL=>Qb (fun _=>vk h1 h2 h3 h4 (by decide)) fun _=>Qb (fun _=>
  ⟨rfl,by simp,fun i=>by
   simp only[gx,Ka,Ob];split
   ·split
    ·rename_i e _;subst e;simp
    ·rename_i e k;subst e;rw[Ab (by omega)]
   ·rfl,h1,h2,⟨h3,xh _⟩,fun h=>by omega,fun _=> .inl rfl,fun h=>by omega,fun h=>by rw[h4]at h;cases h⟩) fun _=>vk h1 h2 h3 h4 (by decide)) fun IL=> ?_
 refine Qb (fun W_=>Qb (fun _=>SO h1 h2 h3 h4 (by omega) (by omega)) fun _=>⟨rfl,rfl,fun _=>rfl,h1,h2,⟨h3,xh _⟩,fun h=>by omega,fun _=> .inr ⟨W_,rfl⟩,fun h=>by omega,fun h=>by rw[h4]at h;cases h⟩) fun W_=> ?_
 refine Qb (fun e17=>Qb (fun _=>lA h1 h2 h3 h4 (by decide)) fun _=>Qb (fun _=>lA h1 h2 h3 h4 (by decide)) fun hz=>Qb (fun hm=>
  ⟨rfl,rfl,fun _=>rfl,by simp;omega,h2,⟨by simp only;omega,by simp only;omega⟩,fun _ _=>by simp only;omega,fun _=> .inl rfl,fun h=>by omega,fun h=>by rw[h4]at h;cases h⟩) fun _=>
  ⟨rfl,rfl,fun _=>rfl,h1,h2,⟨by simp only;omega,by simp only;omega⟩,fun _ _=>by simp only;omega,fun _=> .inl rfl,fun h=>by omega,fun h=>by rw[h4]at h;cases h⟩) fun e17=> ?_
 refine Qb (fun e18=>⟨rfl,rfl,fun _=>rfl,h1,h2,⟨h3,xh _⟩,fun h=>by omega,fun _=> .inl rfl,fun h=>by omega,fun h=>by rw[h4]at h;cases h⟩) fun e18=> ?_
 refine Qb (fun e20=>Qb (fun _=>lA h1 h2 h3 h4 (by decide)) fun hz=>⟨rfl,rfl,fun _=>rfl,h1,h2,⟨by simp only;omega,by simp only;omega⟩,fun _ _=>by simp only;omega,fun _=> .inl rfl,fun h=>by omega,fun h=>by rw[h4]at h;cases h⟩) fun e20=> ?_
 exact Qb (fun _=>vk h1 h2 h3 h4 (by decide)) fun e21=>SO h1 h2 h3 h4 (by omega) (by omega)
end
def mu(g:Ga)(rk:Nat->Nat)(m:M):Nat:=if m.en=0 then m.fu.toNat * (g.1.length+1)+rk m.at_.toNat+1 else 0
section
variable {g:Ga}{D:List Int}{sc:List Int}{m:M}
theorem Inv.Yr(hF:Gf g D)(hI:Inv g sc m)(he:m.en=0):Inv g sc (step g sc m)/\∀rk,Pu g rk->mu g rk (step g sc m)<mu g rk m:=by
 obtain⟨h0,M9⟩:=hI.at0 he;obtain⟨j,hj⟩:=Kf h0;have bu:j<g.1.length:=by omega
 have hG:=hF.JD j bu;have dc:step g sc m=yn g sc (at' g j) (m.to (kA (at' g j))):=by unfold Go.U.step;rw[hj];rfl
 have k:=fJ (g:=g) (sc:=sc) (x:=at' g j) (m:=m.to (kA (at' g j))) hI.ma hI.re hI.fu.1 he hG.op;rw[<- dc]at k;have ED:(Go.U.step g sc m).en=0->0<=(Go.U.step g sc m).at_/\(Go.U.step g sc m).at_<(g.1.length:Int)/\((Go.U.step g sc m).at_=(at' g j).2.2.2.2.2.2.1\/(Go.U.step g sc m).at_=(at' g j).2.2.2.2.2.2.2):=fun SI=>by
  obtain⟨n1,n2,n3⟩:=hG.Yr;rcases k.pl SI with h|⟨Q4,h⟩
  ·have h:(Go.U.step g sc m).at_=(at' g j).2.2.2.2.2.2.1:=h;by_cases Q4:(at' g j).1=15
   ·have:=n1 Q4;exact⟨by omega,by omega,.inl h⟩
   ·by_cases h21:(at' g j).1=21
    ·exact absurd SI (k.no h21)
    ·have:=n3 Q4 h21;exact⟨by omega,by omega,.inl h⟩
  ·have:=n1 Q4;exact⟨by omega,by omega,.inr h⟩
 refine⟨⟨fun SI=>⟨(ED SI).1,(ED SI).2.1⟩,by rw[k.rg];exact hI.rg,by rw[k.al];exact hI.al,fun i hi=>by rw[k.az];exact hI.az i hi,k.ma,k.re,⟨k.fu.1,Int.le_trans k.fu.2 hI.fu.2⟩,fun SI=>⟨j,bu,k.er SI⟩⟩,fun rk hr=> ?_⟩;have hm:mu g rk m=m.fu.toNat * (g.1.length+1)+rk j+1:=by unfold mu;rw[if_pos he,hj];rfl
 rw[hm];unfold mu;split
 ·rename_i SI;obtain⟨p1,p2,p3⟩:=ED SI;obtain⟨i,hi⟩:=Kf p1;rw[hi,Ca];have bH:i<g.1.length:=by omega
  have vi:(Go.U.step g sc m).fu<=m.fu:=k.fu.2;obtain⟨r1,r2⟩:=hr j bu;rcases r2 with r2|r2|r2
  ·have tc:(Go.U.step g sc m).fu<m.fu:=k.sp (.inl r2) SI;have:=(hr i bH).1;have h3:(Go.U.step g sc m).fu.toNat+1<=m.fu.toNat:=by have:=k.fu.1;omega
   have:=Zb (g.1.length+1) h3;rw[Ke]at this;omega
  ·have tc:(Go.U.step g sc m).fu<m.fu:=k.sp (.inr r2) SI;have:=(hr i bH).1;have h3:(Go.U.step g sc m).fu.toNat+1<=m.fu.toNat:=by have:=k.fu.1;omega
   have:=Zb (g.1.length+1) h3;rw[Ke]at this;omega
  ·have hd:rk i<rk j:=by
    rcases r2 _ p3 with h|h
    ·omega
    ·rw[hi,Ca]at h;exact h
   have h3:(Go.U.step g sc m).fu.toNat<=m.fu.toNat:=by omega
   have:=Zb (g.1.length+1) h3;omega
 ·omega
def trace(g:Ga)(sc:List Int):Nat->M->List M
 |0,_=>[]
 |n+1,m=>if m.en=0 then m::trace g sc n (Go.U.step g sc m)else[]
def last(g:Ga)(sc:List Int):Nat->M->M
 |0,m=>m
 |n+1,m=>if m.en=0 then last g sc n (Go.U.step g sc m)else m
theorem zJ(hF:Gf g D)(hI:Inv g sc m){rk:Nat->Nat}(hr:Pu g rk):mu g rk m<10000000000:=by
 unfold mu;split
 ·rename_i he;obtain⟨h0,M9⟩:=hI.at0 he;have h1:=(hr m.at_.toNat (by omega)).1;have h2:=hF.N;have h3:=hI.fu;have h4:m.fu.toNat<=1000000:=by omega
  have:=Nat.mul_le_mul h4 (show g.1.length+1<=4097 by omega);omega
 ·omega
theorem P8{T O E:Type}{S:T->Option (T ⊕ E)}(enc:O->M->T)(ex:O->M->E)(f:O->M->O)(J:O->Prop)(hF:Gf g D)
  (hJ:∀o m,J o->0<=m.at_/\m.at_<(g.1.length:Int)->J (f o m))
  (P:M->Prop) (hP:∀m,Inv g sc m->m.en=0->P m->P (Go.U.step g sc m)) (hS:∀o m,Inv g sc m->P m->J o->S (enc o m)=if m.en=0 then some (.inl (enc (f o m) (Go.U.step g sc m)))else some (.inr (ex o m)))
  {rk:Nat->Nat} (hr:Pu g rk) {o:O} {m:M} (hI:Inv g sc m) (hPm:P m) (hO:J o) {n:Nat} (hn:mu g rk m<=n):Ia S (enc o m)=some (ex ((trace g sc n m).foldl f o) (last g sc n m))/\(last g sc n m).en≠0/\Inv g sc (last g sc n m)/\J ((trace g sc n m).foldl f o):=by
 have key:∀(n:Nat)(o:O)(m:M),Inv g sc m->P m->J o->mu g rk m<=n->∀k,mu g rk m<k->Ip S k (enc o m)=some (ex ((trace g sc n m).foldl f o) (last g sc n m))/\(last g sc n m).en≠0/\Inv g sc (last g sc n m)/\J ((trace g sc n m).foldl f o):=by
  intro n;induction n with
  |zero=>
   intro o m hI hp hO hn k hk;have he:m.en≠0:=fun he=>by unfold mu at hn;rw[if_pos he]at hn;omega
   cases k with
   |zero=>omega
   |succ k=>
    refine⟨?_,he,hI,hO⟩;simp only[Ip,hS o m hI hp hO,if_neg he,ga,trace,last,List.foldl_nil]
  |succ n ih=>
   intro o m hI hp hO hn k hk;cases k with
   |zero=>omega
   |succ k=>
    by_cases he:m.en=0
    ·obtain⟨i1,i2⟩:=hI.Yr hF he;have i3:=i2 rk hr;obtain⟨q1,q2,q3,q4⟩:=ih (f o m) (Go.U.step g sc m) i1 (hP m hI he hp) (hJ o m hO (hI.at0 he)) (by omega) k (by omega);simp only[Ip,hS o m hI hp hO,if_pos he,ga,trace,last,Og];exact⟨q1,q2,q3,q4⟩
    ·refine⟨?_,by simpa only[last,if_neg he]using he,by simpa only[last,if_neg he]using hI,by simp only[trace,if_neg he,List.foldl_nil];exact hO⟩;simp only[Ip,hS o m hI hp hO,if_neg he,ga,trace,last,List.foldl_nil]
 exact key n o m hI hPm hO hn 18446744073709551616 (Nat.lt_trans (zJ hF hI hr) (by decide))
theorem walk{T O E:Type}{S:T->Option (T ⊕ E)}(enc:O->M->T)(ex:O->M->E)(f:O->M->O)(J:O->Prop)(hF:Gf g D)
  (hJ:∀o m,J o->0<=m.at_/\m.at_<(g.1.length:Int)->J (f o m))
  (hS:∀o m,Inv g sc m->J o->S (enc o m)=if m.en=0 then some (.inl (enc (f o m) (Go.U.step g sc m)))else some (.inr (ex o m)))
  {rk:Nat->Nat} (hr:Pu g rk) {o:O} {m:M} (hI:Inv g sc m) (hO:J o) {n:Nat} (hn:mu g rk m<=n):Ia S (enc o m)=some (ex ((trace g sc n m).foldl f o) (last g sc n m))/\(last g sc n m).en≠0/\Inv g sc (last g sc n m)/\J ((trace g sc n m).foldl f o):=
 P8 enc ex f J hF hJ (fun _=>True) (fun _ _ _ _=>trivial) (fun o m hI _ hO=>hS o m hI hO) hr hI trivial hO hn
end
end Go.U
end
section
set_option maxRecDepth 20000
namespace Go.U
open Go
def uq(g:Ga):List Int:=(Mf g).map (fun s=>s.2.2)++Ba (g.2.2.1.toNat-(Mf g).length) 0
def Up(g:Ga):List (List Int):=(be g).map fun a=>Ba a.2.2.1.toNat a.2.2.2
def m0(g:Ga)(fu:Int):M:=⟨max fu 0,0,0,0,0,0,0,uq g,Up g,[]⟩
theorem iX{α β:Type}{l:List α}{f:α->β}{i:Nat}{d:α}{d':β}(h:i<l.length):gx (l.map f) i d'=f (gx l i d):=by
 simp only[gx,Ka,Wb];rw[Aa h];rfl
theorem DG{α:Type}{l r:List α}{x:α}{i:Nat}(h:i=l.length):(l++r).set i x=l++r.set 0 x:=by
 subst h;rw[List.set_append_right _ _ (va _),Nat.sub_self]
theorem Rn{α:Type}{l:List α}{x y:α}{n i:Nat}(hl:l.length=i)(hi:i<n):(l++Ba (n-i) x).set i y=l++[y]++Ba (n-(i+1)) x:=by
 rw[DG hl.symm,show n-i=(n-(i+1))+1 by omega,List.replicate_succ,List.set_cons_zero,td];rfl
section
variable {g:Ga}{D:List Int}
theorem Gf.nJ(hF:Gf g D):∃R:Nat,g.2.2.1=(R:Int)/\(Mf g).length<=R/\R<=4160:=by
 have h1:=hF.defs.wD;have h2:=hF.defs.len;have h3:=hF.S;exact⟨_,h1,by omega,by omega⟩
theorem HZ(hF:Gf g D)(q):Ia (Rq.m ((Mf g),nt (Mf g).length,q)) (0,Ba g.2.2.1.toNat 0)=some (uq g):=by
 obtain⟨R,hR,hS,TI⟩:=hF.nJ;have h4:=hF.S;unfold uq;rw[hR,Ca];have:=Bc (step:=Rq.m ((Mf g),nt (Mf g).length,q)) (n:=(Mf g).length) (fun i=>((i:Int),((Mf g).take i).map (fun s=>s.2.2)++Ba (R-i) 0)) ((Mf g).map (fun s=>s.2.2)++Ba (R-(Mf g).length) 0) (by omega) (fun t=>(Mf g).length-t.1.toNat) (fun i _=>by simp) (fun i hi=>by
  have h':(i:Int)<((Mf g).length:Int):=by omega
  have w:Ea ((i:Int)+1)=((i+1:Nat):Int):=by rw[Lb (by omega) (by omega)];rfl
  have hl:(((Mf g).take i).map (fun s=>s.2.2)).length=i:=by simp;omega
  have tc:i<(((Mf g).take i).map (fun s=>s.2.2)++Ba (R-i) (0:Int)).length:=by rw[qd,hl,Jf];omega
  simp only[LD.m,Rq,nt,h',decide_true,cond_true,ag hi,Ma,Ca,w,ag tc];rw[Rn hl (by omega),Je uc hi,List.map_append];rfl) (by
  simp only[LD.m,Rq,nt,Pb,decide_false,cond_false,Hf])
 simpa using this
theorem rT(l:List Bb)(z1 z2:Int)(x:Bb)(q r)(n:Nat)(hn:n<=256):Ia (vm.m (l,z1,z2,(nt n),x,q,r)) (0,Ba n 0)=some (Ba n x.2.2.2):=by
 have:=Bc (step:=vm.m (l,z1,z2,(nt n),x,q,r)) (n:=n) (fun i=>((i:Int),Ba i x.2.2.2++Ba (n-i) 0)) (Ba n x.2.2.2) (by omega) (fun t=>n-t.1.toNat) (fun i _=>by simp) (fun i hi=>by
  have h':(i:Int)<(n:Int):=by omega
  have w:Ea ((i:Int)+1)=((i+1:Nat):Int):=by rw[Lb (by omega) (by omega)];rfl
  have tc:i<(Ba i x.2.2.2++Ba (n-i) (0:Int)).length:=by simp;omega
  simp only[LD.m,vm,nt,h',decide_true,cond_true,Ma,Ca,w,ag tc];rw[Rn (by simp) (by omega),<- List.replicate_succ']) (by
  simp only[LD.m,vm,nt,Pb,decide_false,cond_false];simp)
 simpa using this
theorem GZ(hF:Gf g D)(q):Ia (Qq.m ((be g),nt (be g).length,q)) (0,[])=some (Up g):=by
 have hA:=hF.A;have:=Bc (step:=Qq.m ((be g),nt (be g).length,q)) (n:=(be g).length) (fun i=>((i:Int),((be g).take i).map fun a=>Ba a.2.2.1.toNat a.2.2.2)) (Up g) (by omega) (fun t=>(be g).length-t.1.toNat) (fun i _=>by simp) (fun i hi=>by
  have h':(i:Int)<((be g).length:Int):=by omega
  have w:Ea ((i:Int)+1)=((i+1:Nat):Int):=by rw[Lb (by omega) (by omega)];rfl
  obtain⟨_,_,s1,s2⟩:=hF.I.a i hi;have hl:(((be g).take i).map fun a=>Ba a.2.2.1.toNat a.2.2.2).length<=16:=by simp;omega
  have e:=Je fb hi;simp only[LD.m,Qq,nt,h',decide_true,cond_true,ag hi,Ma,Ca,w];obtain⟨y,hy⟩:∃y,gx (be g) i fb=y:=⟨_,rfl⟩;rw[hy]at s1 s2;refine(Sd (b:=decide (0<=(gx (be g) i fb).2.2.1)&&decide ((gx (be g) i fb).2.2.1<=(gx (be g) i fb).2.2.1)&&decide (8 * (gx (be g) i fb).2.2.1<=70368744177664)&&decide ((gx (be g) i fb).2.2.1<9223372036854775808)) (by rw[hy];simp;omega)).trans ?_;have e2:=rT (be g) ((be g).length:Int) (i:Int) (gx (be g) i fb) q (((be g).take i).map fun a=>Ba a.2.2.1.toNat a.2.2.2) (gx (be g) i fb).2.2.1.toNat (by rw[hy];omega);simp only[nt]at e2;rw[Jf,e2,ga];refine(Sd (b:=decide ((((((be g).take i).map fun a=>Ba a.2.2.1.toNat a.2.2.2).length+da ([Ba (gx (be g) i fb).2.2.1.toNat (gx (be g) i fb).2.2.2]:List (List Int))) * 24<=70368744177664))&&decide ((((be g).take i).map fun a=>Ba a.2.2.1.toNat a.2.2.2).length+da ([Ba (gx (be g) i fb).2.2.1.toNat (gx (be g) i fb).2.2.2]:List (List Int))<9223372036854775808)) (by simp only[Na,decide_eq_true_eq,Ve];omega)).trans ?_;rw[e,List.map_append];rfl) (by
  simp only[LD.m,Qq,nt,Pb,decide_false,cond_false,Hf];rfl)
 exact this
theorem max_eq(fu:Int):(if 0>fu then 0 else fu)=max fu 0:=by
 rw[Int.max_def];split<;>split<;>omega
theorem Zac(hF:Gf g D)(sc:List Int)(fu:Int):FF (g,sc,fu)=some (max fu 0,uq g,Up g):=by
 obtain⟨R,hR,hS,TI⟩:=hF.nJ;unfold FF kQ;have b:(decide (0<=g.2.2.1)&&decide (g.2.2.1<=g.2.2.1)&&decide (8 * g.2.2.1<=70368744177664)&&decide (g.2.2.1<9223372036854775808))=true:=by
  rw[hR];simp;omega
 refine(Sd b).trans ?_;rw[HZ hF,ga,GZ hF,ga,max_eq]
theorem Kaa(hF:Gf g D)(sc:List Int){fu:Int}(vi:fu<=1000000):Inv g sc (m0 g fu):=by
 obtain⟨R,hR,hS,TI⟩:=hF.nJ;refine⟨fun _=>⟨xh _,by have:=hF.N1;simp only[m0];omega⟩,?_,by simp[m0,Up],fun i hi=> ?_,by simp[m0],⟨xh _,by simp only[m0];omega⟩,⟨by simp only[m0];omega,by simp only[m0];omega⟩,fun h=>by simp[m0]at h⟩
 ·simp only[m0,uq,qd,Oc,Jf,hR,Ca];omega
 ·have:=(hF.I.a i hi).2.2.1;simp only[m0,Up,iX (d:=fb) hi,Jf];omega
end
def big:Nat:=10000000000
def tr(g:Ga)(sc:List Int)(fu:Int):List M:=trace g sc big (m0 g fu)
def ls(g:Ga)(sc:List Int)(fu:Int):M:=last g sc big (m0 g fu)
section
variable {g:Ga}{D:List Int}{sc:List Int}
theorem lM(hF:Gf g D){fu:Int}(vi:fu<=1000000):∃rk,Pu g rk/\Inv g sc (m0 g fu)/\mu g rk (m0 g fu)<=big:=by
 obtain⟨rk,hr⟩:=hF.Jaj;have hI:=Kaa hF sc vi;exact⟨rk,hr,hI,Rt (zJ hF hI hr)⟩
theorem AZ(q1 q2 q3 q4 q5 q6 q7 q8:Int)(rg:List Int)(ar ma)(h:(Mf g).length<=rg.length)(hr:rg.length<=10000):qt (g,sc,q1,q2,q3,q4,q5,q6,q7,rg,ar,ma)=some (rg.take (Mf g).length):=by
 simp only[qt,FA,nt];have e:fa ((Mf g).length:Int)-0=(Mf g).length:=by omega
 have hl:(Fk 0 (fa ((Mf g).length:Int)-0) rg).length<=10000:=by rw[e,Dy,Nb];omega
 refine(Sd (b:=decide (0<=(0:Int))&&decide ((0:Int)<=((Mf g).length:Int))&&decide (((Mf g).length:Int)<=(rg.length:Int))) (by simp only[Na,decide_eq_true_eq];omega)).trans ?_;refine(Sd (b:=decide ((Fk 0 (fa ((Mf g).length:Int)-0) rg).length * 8<=70368744177664)&&decide ((Fk 0 (fa ((Mf g).length:Int)-0) rg).length<9223372036854775808)) (by simp only[Na,decide_eq_true_eq];omega)).trans ?_;show some (Fk 0 (fa ((Mf g).length:Int)-0) rg)=_;rw[e];rfl
theorem Qad(hF:Gf g D)(hs:sc.length<=9223372036854775807){fu:Int}(vi:fu<=1000000)(o:LL)(hO:J1 g o)(er:List za):
  mC (g,sc,fu,o.1,o.2.1,o.2.2.1,er,o.2.2.2,g)=some ((ls g sc fu).en,(ls g sc fu).si,(ls g sc fu).ki,(ls g sc fu).ti,(ls g sc fu).re,(ls g sc fu).rg.take (Mf g).length,((tr g sc fu).foldl (Cj g) o).1,((tr g sc fu).foldl (Cj g) o).2.1,((tr g sc fu).foldl (Cj g) o).2.2.1,((tr g sc fu).foldl (Cj g) o).2.2.2,(ls g sc fu).ar,(ls g sc fu).ma):=by
 obtain⟨rk,hr,hI,hm⟩:=lM (sc:=sc) hF vi;have hw:=walk (S:=bn.m (vJ g er sc)) HC HC (Cj g) (J1 g) hF (fun o m h ha=>h.next ha.2) (fun o m hI hJ=>QO hF hs hI hJ er) hr hI hO hm;obtain⟨w1,w2,w3,w4⟩:=hw;unfold mC GQ;rw[Zac hF,ga];have w1':Ia (bn.m (g,0,0,0,0,0,er,g,g,sc,true,true,true,true,true,false,false)) (o.1,o.2.1,o.2.2.1,o.2.2.2,max fu 0,0,0,0,0,0,0,uq g,Up g,[])=some (HC ((tr g sc fu).foldl (Cj g) o) (ls g sc fu)):=w1;rw[w1',ga];simp only[HC,M.t];have hR:=w3.wD hF;have e:=AZ (g:=g) (sc:=sc) (ls g sc fu).fu (ls g sc fu).at_ (ls g sc fu).en (ls g sc fu).si (ls g sc fu).ki (ls g sc fu).ti (ls g sc fu).re 0 (ls g sc fu).rg (ls g sc fu).ar (ls g sc fu).ma hR.2 (by have:=hR.1;exact Gb this (by decide));rw[e,ga]
def Z8(g:Ga):LL:=(-1,Ba g.1.length false,Ba g.1.length (false,false),0)
theorem iW(hF:Gf g D):J1 g (Z8 g):=⟨by simp[Z8],by simp[Z8],by have:=hF.N1;simp only[Z8];omega,.inl rfl⟩
def C4(g:Ga)(sc:List Int)(fu:Int):LL:=(tr g sc fu).foldl (Cj g) (Z8 g)
def MC(g:Ga)(sc:List Int)(fu:Int):Pa:=((C4 g sc fu).2.1,(C4 g sc fu).2.2.1,if(ls g sc fu).en=1 then[((ls g sc fu).si,(ls g sc fu).ki)]else[])
def oe(g:Ga):Pa:=(Ba g.1.length false,Ba g.1.length (false,false),[])
theorem jI(hF:Gf g D):Gw g=some (oe g):=by
 have hN:=hF.N;unfold Gw SQ oe;simp only[nt];refine(Sd (b:=decide (0<=(g.1.length:Int))&&decide ((g.1.length:Int)<=(g.1.length:Int))&&decide (1 * (g.1.length:Int)<=70368744177664)&&decide ((g.1.length:Int)<9223372036854775808)) (by simp;omega)).trans ?_;refine(Sd (b:=decide (0<=(g.1.length:Int))&&decide ((g.1.length:Int)<=(g.1.length:Int))&&decide (2 * (g.1.length:Int)<=70368744177664)&&decide ((g.1.length:Int)<9223372036854775808)) (by simp;omega)).trans ?_;rw[Ca]
def Eaa(g:Ga)(sc:List Int)(fu:Int):Ir:=((ls g sc fu).en,(ls g sc fu).si,(ls g sc fu).ki,(ls g sc fu).ti,(ls g sc fu).re,(ls g sc fu).rg.take (Mf g).length,(ls g sc fu).ar,(ls g sc fu).ma)
theorem lad(hF:Gf g D)(hs:sc.length<=9223372036854775807){fu:Int}(vi:fu<=1000000):jC (g,sc,fu)=some (MC g sc fu,Eaa g sc fu,(C4 g sc fu).1):=by
 unfold jC tQ;rw[jI hF,ga];have e:=Qad hF hs vi (Z8 g) (iW hF) [];have e':mC (g,sc,fu,(-1),(oe g).1,(oe g).2.1,(oe g).2.2,0,g)=_:=e;rw[e',ga];by_cases h:(ls g sc fu).en=1
 ·simp only[h,decide_true,cond_true,MC,Eaa,C4,if_true]
 ·simp only[h,decide_false,cond_false,MC,Eaa,C4,if_false];rfl
end
end Go.U
end
section
set_option maxRecDepth 20000
namespace Go.U
open Go
def Yl(l:List za)(e:za):List za:=if e∈l then l else l++[e]
def Xp(a b:List Bool):List Bool:=Ny (· || ·) a b
def sn(a b:List (Bool×Bool)):List (Bool×Bool):=Ny (fun x y=>(x.1||y.1,x.2||y.2)) a b
def vf(a b:Pa):Pa:=(Xp a.1 b.1,sn a.2.1 b.2.1,qh (b.2.2.foldl Yl a.2.2))
structure fk(N:Nat)(c:Pa):Prop where
 p:c.1.length=N
 w:c.2.1.length=N
 e:c.2.2.length<=1000000
theorem P3(l:List za)(e:za):(Yl l e).length<=l.length+1:=by unfold Yl;split<;>simp
theorem dy:∀(es l:List za),(es.foldl Yl l).length<=l.length+es.length
 |[],l=>by simp
 |e::es,l=>by
  have h1:=dy es (Yl l e);have h2:=P3 l e;rw[Og,List.length_cons];omega
theorem yai(a b:za):((decide (a.1=b.1))&&((decide (a.2=b.2))&&true))=decide (a=b):=by
 obtain⟨a1,a2⟩:=a;obtain⟨b1,b2⟩:=b;by_cases h1:a1=b1<;>by_cases h2:a2=b2<;>simp[h1,h2]
theorem W7(x:za)(l:List za)(hl:l.length<=9223372036854775807):∃r,By (x,l)=some r/\(0<=r↔x∈l):=by
 unfold By nI;obtain⟨e,h1,h2⟩:=di (n:=l.length) (step:=kp.m ((nt (da l)),(x,l))) hl (fun k=>∀j,j<k->x≠gx l j vb) (fun e=>(∃i:Int,e= .inl i/\0<=i/\x∈l)\/(∃u,e= .inr u/\x∉l)) (fun j h=>absurd h (xj _)) (fun i hi hI=>by
  have h':(i:Int)<(l.length:Int):=by omega
  simp only[LD.m,kp,nt,h',decide_true,cond_true,ag hi,Ma,Ca,yai];refine Gh (fun h=>Hj (.inl ⟨_,rfl,by omega,?_⟩)) fun h=>lz fun j hj=> ?_
  ·rw[of_decide_eq_true h];exact Db (Li (d:=vb) hi)
  ·by_cases e:j=i
   ·subst e;exact of_decide_eq_false h
   ·exact hI j (by omega)) (fun hI=>by
  simp only[LD.m,kp,nt,Pb,decide_false,cond_false];refine⟨_,rfl,.inr ⟨(),rfl,fun hx=> ?_⟩⟩;obtain⟨j,hj⟩:=List.mem_iff_getElem?.1 hx;exact hI j (Xa hj) (Vv hj).symm)
 rw[h1,ga];rcases h2 with⟨i,rfl,h0,hx⟩|⟨u,rfl,hx⟩
 ·exact⟨i,rfl,⟨fun _=>hx,fun _=>h0⟩⟩
 ·exact⟨-1,rfl,⟨fun h=>absurd h (by decide),fun h=>absurd h hx⟩⟩
theorem Bac(x:za)(l:List za)(hl:l.length<=9223372036854775807):fC (x,l)=some (decide (x∈l)):=by
 obtain⟨r,h1,h2⟩:=W7 x l hl;unfold fC NP;simp only;rw[h1,ga];congr 1;exact decide_eq_decide.2 h2
theorem XH(e:za)(z:Int)(P:List Bool)(W:List (Bool×Bool))(l:List za)(hl:l.length<=9223372036854775807):Zg ((3,(z,e)),P,W,l)=some (decide (e∈l)):=by
 have h:Zg ((3,(z,e)),P,W,l)=(fC (e,l)).bind fun r=>some r:=rfl
 rw[h,Bac e l hl];rfl
theorem mQ(i:Nat)(e:za)(P:List Bool)(W:List (Bool×Bool))(l:List za)(hi:i<P.length):Zg ((0,((i:Int),e)),P,W,l)=some (gx P i false):=by
 have h':(i:Int)<(P.length:Int):=by omega
 simp only[Zg,HF,nt,decide_true,cond_true,h',ag hi,Ma,Ca]
theorem lQ(i:Nat)(e:za)(P:List Bool)(W:List (Bool×Bool))(l:List za)(hi:i<W.length):Zg ((1,((i:Int),e)),P,W,l)=some (gx W i (false,false)).1/\Zg ((2,((i:Int),e)),P,W,l)=some (gx W i (false,false)).2:=by
 have h':(i:Int)<(W.length:Int):=by omega
 have w1:Ea (1-1)=0:=by decide
 have w2:Ea (2-1)=1:=by decide
 constructor
 ·simp only[Zg,HF,nt,Cg,decide_true,decide_false,cond_true,cond_false,h',ag hi,Ma,Ca,w1]
 ·simp only[Zg,HF,nt,Cg,decide_true,decide_false,cond_true,cond_false,h',ag hi,Ma,Ca,w2]
section
variable (P:List Bool)(W:List (Bool×Bool))(E:List za)
theorem Caj{i:Nat}(z1 z2:Int)(hi:i<P.length):Qd (0,(i:Int),z1,z2,P,W,E)=some (.inl (P.set i true,W)):=by
 simp only[Qd,ij,decide_true,cond_true,ag hi,Ma,Ca]
theorem oaf{i:Nat}(z1 z2:Int)(hi:i<W.length):Qd (1,(i:Int),z1,z2,P,W,E)=some (.inl (P,W.set i (true,(gx W i (false,false)).2))):=by
 have w1:Ea (1-1)=0:=by decide
 have d:(1:Int)<3:=by decide
 simp only[Qd,ij,Cg,d,decide_true,decide_false,cond_true,cond_false,ag hi,Ma,Ca,w1]
theorem naf{i:Nat}(z1 z2:Int)(hi:i<W.length):Qd (2,(i:Int),z1,z2,P,W,E)=some (.inl (P,W.set i ((gx W i (false,false)).1,true))):=by
 have w1:Ea (2-1)=1:=by decide
 have d:(2:Int)<3:=by decide
 simp only[Qd,ij,Cg,d,decide_true,decide_false,cond_true,cond_false,ag hi,Ma,Ca,w1]
theorem Daj(z:Int)(e:za)(hE:E.length<=3000000):Qd (3,z,e.1,e.2,P,W,E)=some (if e∈E then .inl (P,W)else .inr (E++[e])):=by
 have d:¬(3:Int)<3:=by decide
 have h3:Zg ((3,(z,(e.1,e.2))),P,W,E)=some (decide (e∈E)):=XH e z P W E (by omega);have b:(decide ((E.length+da ([(e.1,e.2)]:List za)) * 16<=70368744177664)&&decide (E.length+da ([(e.1,e.2)]:List za)<9223372036854775808))=true:=by
  simp only[Na,decide_eq_true_eq,Ve];omega
 simp only[Qd,ij,Cg,d,decide_true,decide_false,cond_true,cond_false,h3,ga];by_cases h:e∈E
 ·simp only[h,decide_true,nh,cond_false,if_true]
 ·simp only[h,decide_false,we,cond_true,if_false];exact Sd b
end
theorem cW{P Q:List Bool}{i:Nat}(hl:P.length=Q.length)(hi:i<Q.length):(Xp (P.take i) (Q.take i)++P.drop i).set i (gx P i false||gx Q i false)=Xp (P.take (i+1)) (Q.take (i+1))++P.drop (i+1):=by
 have e1:(Xp (P.take i) (Q.take i)).length=i:=by simp[Xp];omega
 have e2:P.drop i=gx P i false::P.drop (i+1):=by
  rw[List.drop_eq_getElem_cons (by omega)];congr 1;have:=Li (d:=false) (show i<P.length by omega);rw[Aa (by omega)]at this;exact Sj this
 rw[DG e1.symm,e2,List.set_cons_zero,Je false (show i<P.length by omega),Je false hi];unfold Xp;rw[List.zipWith_append (by rw[Nb,Nb];omega),td];rfl
theorem sP{α:Type}{l r:List α}{d x:α}{i:Nat}(h:l.length=i):gx (l++x::r) i d=x:=by
 subst h;simp[gx]
theorem lJ{α:Type}{l:List α}{i:Nat}{d:α}(h:i<l.length):l.set i (gx l i d)=l:=by
 apply List.ext_getElem?;intro j;rw[Ob];split
 ·rename_i e;subst e;exact(Li (d:=d) h).symm
 ·rfl
theorem sI{α:Type}{l:List α}{i:Nat}(d:α)(h:i<l.length):l.drop i=gx l i d::l.drop (i+1):=by
 rw[List.drop_eq_getElem_cons h];congr 1;have:=Li (d:=d) h;rw[Aa h]at this;exact Sj this
theorem aW{P Q:List (Bool×Bool)}{i:Nat}(hl:P.length=Q.length)(hi:i<Q.length):(sn (P.take i) (Q.take i)++P.drop i).set i ((gx P i (false,false)).1||(gx Q i (false,false)).1,(gx P i (false,false)).2||(gx Q i (false,false)).2)=sn (P.take (i+1)) (Q.take (i+1))++P.drop (i+1):=by
 have e1:(sn (P.take i) (Q.take i)).length=i:=by simp[sn];omega
 rw[DG e1.symm,sI (false,false) (show i<P.length by omega),List.set_cons_zero,Je (false,false) (show i<P.length by omega),Je (false,false) hi];unfold sn;rw[List.zipWith_append (by rw[Nb,Nb];omega),td];rfl
section
variable (P:List Bool)(W:List (Bool×Bool))(E:List za)(c:Pa)
theorem qZ(Q:List Bool)(hP:P.length=Q.length)(hQ:Q.length<=9223372036854775807):Ia (Oq.m (Q,nt Q.length,c)) (0,P,W,E)=some (Xp P Q,W,E):=by
 have:=Bc (step:=Oq.m (Q,nt Q.length,c)) (n:=Q.length) (fun i=>((i:Int),Xp (P.take i) (Q.take i)++P.drop i,W,E)) (Xp P Q,W,E) (by omega) (fun t=>Q.length-t.1.toNat) (fun i _=>by simp) (fun i hi=>by
  have h':(i:Int)<(Q.length:Int):=by omega
  have w:Ea ((i:Int)+1)=((i+1:Nat):Int):=by rw[Lb (by omega) (by omega)];rfl
  have e1:(Xp (P.take i) (Q.take i)).length=i:=by simp[Xp];omega
  have tc:i<(Xp (P.take i) (Q.take i)++P.drop i).length:=by rw[qd,e1,Tt];omega
  have hg:gx (Xp (P.take i) (Q.take i)++P.drop i) i false=gx P i false:=by rw[sI false (show i<P.length by omega)];exact sP e1
  have ht:=cW hP hi;simp only[LD.m,Oq,nt,h',decide_true,cond_true,ag hi,Ma,Ca,w];cases hq:gx Q i false
  ·rw[hq,Bool.or_false,<- hg,lJ tc]at ht;simp only[cond_false,ht]
  ·rw[hq,Bool.or_true]at ht;simp only[cond_true,Caj _ _ _ _ _ tc,ga,Sum.elim_inl,ht]) (by
  simp only[LD.m,Oq,nt,Pb,decide_false,cond_false];rw[Zc (Ph hP),Hf,List.drop_of_length_le (Ph hP),zi])
 simpa[Xp]using this
theorem oZ(i:Nat)(z1:List (Bool×Bool))(z2 z3:Int)(w:Bool×Bool)(hi:i<W.length):Ia (Xj.m ((i:Int),z1,z2,z3,w,c)) (0,P,W,E)=some (P,W.set i ((gx W i (false,false)).1||w.1,(gx W i (false,false)).2||w.2),E):=by
 obtain⟨W1,J9⟩:∃W1,(if w.1=true then W.set i (true,(gx W i (false,false)).2)else W)=W1:=⟨_,rfl⟩;have EL:i<W1.length:=by rw[<- J9];split<;>simpa using hi
 obtain⟨W2,hW2⟩:∃W2,(if w.2=true then W1.set i ((gx W1 i (false,false)).1,true)else W1)=W2:=⟨_,rfl⟩;have w0:Ea ((0:Int)+1)=1:=by decide
 have w1:Ea ((1:Int)+1)=2:=by decide
 have w2:Ea ((1:Int)+0)=1:=by decide
 have d0:(0:Int)<2:=by decide
 have d1:(1:Int)<2:=by decide
 have d2:¬(1:Int)=0:=by decide
 have s0:Xj.m ((i:Int),z1,z2,z3,w,c) (0,P,W,E)=some (.inl (1,P,W1,E)):=by
  simp only[LD.m,Xj,d0,decide_true,cond_true,w0,w2];cases h:w.1
  ·rw[h]at J9;simp at J9;subst J9;rfl
  ·rw[h]at J9;simp at J9;subst J9;simp only[cond_true,oaf _ _ _ _ _ hi,ga,Sum.elim_inl]
 have s1:Xj.m ((i:Int),z1,z2,z3,w,c) (1,P,W1,E)=some (.inl (2,P,W2,E)):=by
  simp only[LD.m,Xj,d1,d2,decide_true,decide_false,cond_true,cond_false,w1];cases h:w.2
  ·rw[h]at hW2;simp at hW2;subst hW2;rfl
  ·rw[h]at hW2;simp at hW2;subst hW2;simp only[cond_true,naf _ _ _ _ _ EL,ga,Sum.elim_inl]
 have s2:Xj.m ((i:Int),z1,z2,z3,w,c) (2,P,W2,E)=some (.inr (P,W2,E)):=by
  simp only[LD.m,Xj,Pb,decide_false,cond_false]
 have hf:W2=W.set i ((gx W i (false,false)).1||w.1,(gx W i (false,false)).2||w.2):=by
  rw[<- hW2,<- J9];have hs:=lJ (d:=(false,false)) hi;have hgs:∀x:Bool×Bool,gx (W.set i x) i (false,false)=x:=fun x=>by rw[Ym hi,if_pos rfl]
  cases h1:w.1<;>cases h2:w.2<;>simp[hs,hgs]
 have:=Bc (step:=Xj.m ((i:Int),z1,z2,z3,w,c)) (n:=2) (fun k=>if k=0 then(0,P,W,E)else if k=1 then(1,P,W1,E)else(2,P,W2,E)) (P,W2,E) (by decide) (fun t=>2-t.1.toNat) (fun k hk=>by
  obtain rfl|rfl|rfl:k=0\/k=1\/k=2:=by omega
  ·rfl
  ·rfl
  ·rfl) (fun k hk=>by
  obtain rfl|rfl:k=0\/k=1:=by omega
  ·exact s0
  ·exact s1) s2
 rw[<- hf];exact this
theorem pZ(Q:List (Bool×Bool))(hP:W.length=Q.length)(hQ:Q.length<=9223372036854775807):Ia (Nq.m (Q,nt Q.length,c)) (0,P,W,E)=some (P,sn W Q,E):=by
 have:=Bc (step:=Nq.m (Q,nt Q.length,c)) (n:=Q.length) (fun i=>((i:Int),P,sn (W.take i) (Q.take i)++W.drop i,E)) (P,sn W Q,E) (by omega) (fun t=>Q.length-t.1.toNat) (fun i _=>by simp) (fun i hi=>by
  have h':(i:Int)<(Q.length:Int):=by omega
  have w:Ea ((i:Int)+1)=((i+1:Nat):Int):=by rw[Lb (by omega) (by omega)];rfl
  have e1:(sn (W.take i) (Q.take i)).length=i:=by simp[sn];omega
  have tc:i<(sn (W.take i) (Q.take i)++W.drop i).length:=by rw[qd,e1,Tt];omega
  have hg:gx (sn (W.take i) (Q.take i)++W.drop i) i (false,false)=gx W i (false,false):=by rw[sI (false,false) (show i<W.length by omega)];exact sP e1
  have ht:=aW hP hi;have h9:=oZ P (sn (W.take i) (Q.take i)++W.drop i) E c i Q (nt Q.length) (i:Int) (gx Q i (false,false)) tc;rw[hg,ht]at h9;simp only[nt]at h9;simp only[LD.m,Nq,nt,h',decide_true,cond_true,ag hi,Ma,Ca,w];rw[h9,ga]) (by
  simp only[LD.m,Nq,nt,Pb,decide_false,cond_false];rw[Zc (Ph hP),Hf,List.drop_of_length_le (Ph hP),zi])
 simpa[sn]using this
theorem lT(Q:List za)(hE:E.length<=1000000)(hQ:Q.length<=1000000):Ia (qm.m (Q,nt Q.length,c)) (0,P,W,E)=some (P,W,Q.foldl Yl E):=by
 have:=Bc (step:=qm.m (Q,nt Q.length,c)) (n:=Q.length) (fun i=>((i:Int),P,W,(Q.take i).foldl Yl E)) (P,W,Q.foldl Yl E) (by omega) (fun t=>Q.length-t.1.toNat) (fun i _=>by simp) (fun i hi=>by
  have h':(i:Int)<(Q.length:Int):=by omega
  have w:Ea ((i:Int)+1)=((i+1:Nat):Int):=by rw[Lb (by omega) (by omega)];rfl
  have hl:((Q.take i).foldl Yl E).length<=3000000:=by
   have:=dy (Q.take i) E;rw[Nb]at this;omega
  simp only[LD.m,qm,nt,h',decide_true,cond_true,ag hi,Ma,Ca,w];rw[Daj _ _ _ _ _ hl,ga,Je vb hi,eA,Og,List.foldl_nil];unfold Yl;split<;>rfl) (by
  simp only[LD.m,qm,nt,Pb,decide_false,cond_false,Hf])
 exact this
end
theorem NC{α:Type}{n:Nat}{l:List α}(h:l.length<=3000000)(hn:n<=16):clone n l=some l:=by
 unfold clone;have:l.length * n<=3000000 * 16:=Nat.mul_le_mul h hn;exact Sd (by simp only[Na,decide_eq_true_eq];omega)
theorem R0{N:Nat}(hN:N<=4096){a b:Pa}(ha:fk N a)(hb:fk N b):Fw (b,a.1,a.2.1,a.2.2)=some (vf a b):=by
 have hp:b.1.length<=4096:=by rw[hb.p];exact hN
 have c1:pQ a.1=some a.1:=NC (by rw[ha.p];omega) (by decide);have c2:oQ a.2.1=some a.2.1:=NC (by rw[ha.w];omega) (by decide);have c3:nQ a.2.2=some a.2.2:=NC (by have:=ha.e;omega) (by decide);unfold Fw JQ;simp only[c1,c2,c3,ga,PD.m,pC];have h69:BF (b,a.1,a.2.1,a.2.2)=some (Xp a.1 b.1,sn a.2.1 b.2.1,b.2.2.foldl Yl a.2.2):=by
  unfold BF VP;simp only;rw[qZ a.1 a.2.1 a.2.2 b b.1 (by rw[ha.p,hb.p]) (by omega),ga];simp only;rw[pZ (Xp a.1 b.1) a.2.1 a.2.2 b b.2.1 (by rw[ha.w,hb.w]) (by rw[hb.w];omega),ga];simp only;rw[lT (Xp a.1 b.1) (sn a.2.1 b.2.1) a.2.2 b b.2.2 ha.e hb.e,ga]
 rw[h69,ga];simp only[ga];have hl:=dy b.2.2 a.2.2;have h51:GF (b.2.2.foldl Yl a.2.2)=some (qh (b.2.2.foldl Yl a.2.2)):=Sd (by simp only[decide_eq_true_eq];have:=ha.e;have:=hb.e;omega);rw[h51,ga];rfl
end Go.U
end
