/- What these Lean functions compute: plain arithmetic of congruences, the checks of a graph, the values of its registers. -/
import Derived.Test.YtjenflkegbmkkaaGreatDoorD5
set_option linter.unusedVariables false
set_option linter.unusedSimpArgs false
set_option linter.unusedSectionVars false
open Bool renaming and_eq_true→Va,not_true→Zf,not_false→gf
open Int renaming le_refl→qh,eq_ofNat_of_zero_le→Pf,toNat_natCast→La,lt_irrefl→Xb,toNat→fa,reduceEq→Qi
open List renaming getD_eq_getElem?_getD→Ia,getElem?_set→Ob,getElem?_eq_none→Ab,foldl_nil→Tw,foldl_cons→Ve,replicate→Ca,getElem?_map→Tb,getElem?_eq_getElem→Ba,append_assoc→xd,length_append→qd,length_replicate→Of,take_length→Af,length→da,length_singleton→Tj,length_map→Qc,length_take→ic,length_cons→Jb,mem_of_getElem?→Nb,length_drop→qt,take_of_length_le→od,append_nil→Nn,foldl_append→Qz
open Nat renaming mul_le_mul_right→ec,add_mul→Me,le_refl→va,le_of_lt→ot,le_trans→Ib,not_lt_zero→mj,le_of_eq→Kh
open Option renaming bind_some→ga
open Option.some renaming inj→Ek
section
set_option maxRecDepth 20000
namespace Go.U
open Go
structure Kp(sc:List Int)(x:Wa)(m m':M):Prop where
 rg:m'.rg.length=m.rg.length
 al:m'.ar.length=m.ar.length
 az:∀i,(gx m'.ar i []).length=(gx m.ar i []).length
 ma:m'.ma.length<=64
 re:0<=m'.re/\m'.re<=sc.length
 fu:0<=m'.fu/\m'.fu<=m.fu
 sp:(x.1=17\/x.1=20)->m'.en=0->m'.fu<m.fu
 pl:m'.en=0->m'.at_=m.at_\/(x.1=15/\m'.at_=x.2.2.2.2.2.2.2)
 no:x.1=21->m'.en≠0
 er:m'.en=1->m'.si=x.2.2.2.2.2.1/\1<=m'.ki/\m'.ki<=5
theorem Pb{α:Type}{P:α->Prop}{c:Prop}[Decidable c]{a b:α}(ha:c->P a)(hb:¬c->P b):P (if c then a else b):=by by_cases h:c<;>simp only[h,if_true,if_false]<;>first|exact ha h|exact hb h
section
variable {g:Ga}{sc:List Int}{x:Wa}{m:M}(h1:m.ma.length<=64)(h2:0<=m.re/\m.re<=sc.length)(h3:0<=m.fu)(h4:m.en=0)
include h1 h2 h3 h4
theorem KE{i v:Int}(hs:¬(x.1=17\/x.1=20))(hn:x.1≠21):Kp sc x m (m.wr i v):=⟨by simp[M.wr],rfl,fun _=>rfl,h1,h2,⟨h3,qh _⟩,fun h=>absurd h hs,fun _=> .inl rfl,fun h=>absurd h hn,fun h=>by simp[M.wr,h4]at h⟩
theorem ak{v:Int}(hv:1<=v/\v<=5):Kp sc x m (m.fail x.2.2.2.2.2.1 v):=⟨rfl,rfl,fun _=>rfl,h1,h2,⟨h3,qh _⟩,fun _ h=>by simp[M.fail]at h,fun _=> .inl rfl,fun _=>by simp[M.fail],fun _=>⟨rfl,hv⟩⟩
theorem lu{v:Int}{c:Bool}(hs:¬(x.1=17\/x.1=20))(hn:x.1≠21):Kp sc x m (m.TK x v c):=by
 unfold M.TK;cases(c&& !(Qp v 3))
 ·exact KE h1 h2 h3 h4 hs hn
 ·exact ak h1 h2 h3 h4 (by decide)
theorem Xz{e:Int}(he:e≠0/\e≠1):Kp sc x m { m with en:=e }:=⟨rfl,rfl,fun _=>rfl,h1,h2,⟨h3,qh _⟩,fun _ h=>absurd h he.1,fun _=> .inl rfl,fun _=>he.1,fun h=>absurd h he.2⟩
theorem bO(hs:¬(x.1=17\/x.1=20))(hn:x.1≠21):Kp sc x m m:=⟨rfl,rfl,fun _=>rfl,h1,h2,⟨h3,qh _⟩,fun h=>absurd h hs,fun _=> .inl rfl,fun h=>absurd h hn,fun h=>by rw[h4]at h;cases h⟩
theorem yI(CB:1<=x.1/\x.1<=21):Kp sc x m (Sm g sc x m):=by
 unfold Sm
 dsimp only
 refine Pb (fun e1=>KE h1 h2 h3 h4 (by omega) (by omega)) fun e1=> ?_
 refine Pb (fun e2=>lu h1 h2 h3 h4 (by omega) (by omega)) fun e2=> ?_
 refine Pb (fun e3=>lu h1 h2 h3 h4 (by omega) (by omega)) fun e3=> ?_
 refine Pb (fun e4=>lu h1 h2 h3 h4 (by omega) (by omega)) fun e4=> ?_
 refine Pb (fun e5=>lu h1 h2 h3 h4 (by omega) (by omega)) fun e5=> ?_
 refine Pb (fun e6=>lu h1 h2 h3 h4 (by omega) (by omega)) fun e6=> ?_
 refine Pb (fun e7=>Pb (fun _=>ak h1 h2 h3 h4 (by decide)) fun _=>Pb (fun _=>ak h1 h2 h3 h4 (by decide)) fun _=>KE h1 h2 h3 h4 (by omega) (by omega)) fun e7=> ?_
 refine Pb (fun e8=>Pb (fun _=>ak h1 h2 h3 h4 (by decide)) fun _=>KE h1 h2 h3 h4 (by omega) (by omega)) fun e8=> ?_
 refine Pb (fun e9=>lu h1 h2 h3 h4 (by omega) (by omega)) fun e9=> ?_
 refine Pb (fun KD=>lu h1 h2 h3 h4 (by omega) (by omega)) fun KD=> ?_
 refine Pb (fun SK=>Pb (fun _=>ak h1 h2 h3 h4 (by decide)) fun _=>KE h1 h2 h3 h4 (by omega) (by omega)) fun SK=> ?_
 refine Pb (fun oQ=>Pb (fun _=>Xz h1 h2 h3 h4 (by decide)) fun Uc=>Pb (fun _=>
  ⟨rfl,rfl,fun _=>rfl,h1,⟨by simp only;omega,by simp only;omega⟩,⟨h3,qh _⟩,fun _ h=>by simp at h,fun _=> .inl rfl,fun _=>by simp,fun h=>by simp at h⟩) fun _=>
  ⟨by simp,rfl,fun _=>rfl,h1,⟨by simp only;omega,by simp only;omega⟩,⟨h3,qh _⟩,fun h=>by omega,fun _=> .inl rfl,fun h=>by omega,fun h=>by rw[h4]at h;cases h⟩) fun oQ=> ?_
 refine Pb (fun nQ=>Pb (fun _=>KE h1 h2 h3 h4 (by omega) (by omega)) fun _=>ak h1 h2 h3 h4 (by decide)) fun nQ=> ?_
 refine Pb (fun tK=>Pb (fun _=>ak h1 h2 h3 h4 (by decide)) fun _=>Pb (fun _=>
  ⟨rfl,by simp,fun i=>by
   simp only[gx,Ia,Ob];split
   ·split
    ·rename_i e _;subst e;simp
    ·rename_i e k;subst e;rw[Ab (by omega)]
   ·rfl,h1,h2,⟨h3,qh _⟩,fun h=>by omega,fun _=> .inl rfl,fun h=>by omega,fun h=>by rw[h4]at h;cases h⟩) fun _=>ak h1 h2 h3 h4 (by decide)) fun tK=> ?_
 refine Pb (fun i_=>Pb (fun _=>bO h1 h2 h3 h4 (by omega) (by omega)) fun _=>⟨rfl,rfl,fun _=>rfl,h1,h2,⟨h3,qh _⟩,fun h=>by omega,fun _=> .inr ⟨i_,rfl⟩,fun h=>by omega,fun h=>by rw[h4]at h;cases h⟩) fun i_=> ?_
 refine Pb (fun e17=>Pb (fun _=>Xz h1 h2 h3 h4 (by decide)) fun _=>Pb (fun _=>Xz h1 h2 h3 h4 (by decide)) fun hz=>Pb (fun hm=>
  ⟨rfl,rfl,fun _=>rfl,by simp;omega,h2,⟨by simp only;omega,by simp only;omega⟩,fun _ _=>by simp only;omega,fun _=> .inl rfl,fun h=>by omega,fun h=>by rw[h4]at h;cases h⟩) fun _=>
  ⟨rfl,rfl,fun _=>rfl,h1,h2,⟨by simp only;omega,by simp only;omega⟩,fun _ _=>by simp only;omega,fun _=> .inl rfl,fun h=>by omega,fun h=>by rw[h4]at h;cases h⟩) fun e17=> ?_
 refine Pb (fun e18=>⟨rfl,rfl,fun _=>rfl,h1,h2,⟨h3,qh _⟩,fun h=>by omega,fun _=> .inl rfl,fun h=>by omega,fun h=>by rw[h4]at h;cases h⟩) fun e18=> ?_
 refine Pb (fun e20=>Pb (fun _=>Xz h1 h2 h3 h4 (by decide)) fun hz=>⟨rfl,rfl,fun _=>rfl,h1,h2,⟨by simp only;omega,by simp only;omega⟩,fun _ _=>by simp only;omega,fun _=> .inl rfl,fun h=>by omega,fun h=>by rw[h4]at h;cases h⟩) fun e20=> ?_
 exact Pb (fun _=>ak h1 h2 h3 h4 (by decide)) fun e21=>bO h1 h2 h3 h4 (by omega) (by omega)
end
def mu(g:Ga)(rk:Nat->Nat)(m:M):Nat:=if m.en=0 then m.fu.toNat * (g.1.length+1)+rk m.at_.toNat+1 else 0
section
variable {g:Ga}{D:List Int}{sc:List Int}{m:M}
theorem Inv.nxt(hF:Mf g D)(hI:Inv g sc m)(he:m.en=0):Inv g sc (step g sc m)/\∀rk,Cu g rk->mu g rk (step g sc m)<mu g rk m:=by
 obtain⟨h0,G8⟩:=hI.at0 he;obtain⟨j,hj⟩:=Pf h0;have It:j<g.1.length:=by omega
 have hG:=hF.oD j It;have jc:step g sc m=Sm g sc (at' g j) (m.to (Wz (at' g j))):=by unfold Go.U.step;rw[hj];rfl
 have k:=yI (g:=g) (sc:=sc) (x:=at' g j) (m:=m.to (Wz (at' g j))) hI.ma hI.re hI.fu.1 he hG.op;rw[<- jc]at k;have kD:(Go.U.step g sc m).en=0->0<=(Go.U.step g sc m).at_/\(Go.U.step g sc m).at_<(g.1.length:Int)/\((Go.U.step g sc m).at_=(at' g j).2.2.2.2.2.2.1\/(Go.U.step g sc m).at_=(at' g j).2.2.2.2.2.2.2):=fun lI=>by
  obtain⟨n1,n2,n3⟩:=hG.nxt;rcases k.pl lI with h|⟨Zz,h⟩
  ·have h:(Go.U.step g sc m).at_=(at' g j).2.2.2.2.2.2.1:=h;by_cases Zz:(at' g j).1=15
   ·have:=n1 Zz;exact⟨by omega,by omega,.inl h⟩
   ·by_cases CO:(at' g j).1=21
    ·exact absurd lI (k.no CO)
    ·have:=n3 Zz CO;exact⟨by omega,by omega,.inl h⟩
  ·have:=n1 Zz;exact⟨by omega,by omega,.inr h⟩
 refine⟨⟨fun lI=>⟨(kD lI).1,(kD lI).2.1⟩,by rw[k.rg];exact hI.rg,by rw[k.al];exact hI.al,fun i hi=>by rw[k.az];exact hI.az i hi,k.ma,k.re,⟨k.fu.1,Int.le_trans k.fu.2 hI.fu.2⟩,fun lI=>⟨j,It,k.er lI⟩⟩,fun rk hr=> ?_⟩;have hm:mu g rk m=m.fu.toNat * (g.1.length+1)+rk j+1:=by unfold mu;rw[if_pos he,hj];rfl
 rw[hm];unfold mu;split
 ·rename_i lI;obtain⟨p1,p2,p3⟩:=kD lI;obtain⟨i,hi⟩:=Pf p1;rw[hi,La];have zG:i<g.1.length:=by omega
  have Ll:(Go.U.step g sc m).fu<=m.fu:=k.fu.2;obtain⟨r1,r2⟩:=hr j It;rcases r2 with r2|r2|r2
  ·have Ac:(Go.U.step g sc m).fu<m.fu:=k.sp (.inl r2) lI;have:=(hr i zG).1;have h3:(Go.U.step g sc m).fu.toNat+1<=m.fu.toNat:=by have:=k.fu.1;omega
   have:=ec (g.1.length+1) h3;rw[Me]at this;omega
  ·have Ac:(Go.U.step g sc m).fu<m.fu:=k.sp (.inr r2) lI;have:=(hr i zG).1;have h3:(Go.U.step g sc m).fu.toNat+1<=m.fu.toNat:=by have:=k.fu.1;omega
   have:=ec (g.1.length+1) h3;rw[Me]at this;omega
  ·have hd:rk i<rk j:=by
    rcases r2 _ p3 with h|h
    ·omega
    ·rw[hi,La]at h;exact h
   have h3:(Go.U.step g sc m).fu.toNat<=m.fu.toNat:=by omega
   have:=ec (g.1.length+1) h3;omega
 ·omega
def trace(g:Ga)(sc:List Int):Nat->M->List M
 |0,_=>[]
 |n+1,m=>if m.en=0 then m::trace g sc n (Go.U.step g sc m)else[]
def last(g:Ga)(sc:List Int):Nat->M->M
 |0,m=>m
 |n+1,m=>if m.en=0 then last g sc n (Go.U.step g sc m)else m
theorem RI(hF:Mf g D)(hI:Inv g sc m){rk:Nat->Nat}(hr:Cu g rk):mu g rk m<10000000000:=by
 unfold mu;split
 ·rename_i he;obtain⟨h0,G8⟩:=hI.at0 he;have h1:=(hr m.at_.toNat (by omega)).1;have h2:=hF.N;have h3:=hI.fu;have h4:m.fu.toNat<=1000000:=by omega
  have:=Nat.mul_le_mul h4 (show g.1.length+1<=4097 by omega);omega
 ·omega
theorem F7{T O E:Type}{S:T->Option (T ⊕ E)}(enc:O->M->T)(ex:O->M->E)(f:O->M->O)(J:O->Prop)(hF:Mf g D)
  (hJ:∀o m,J o->0<=m.at_/\m.at_<(g.1.length:Int)->J (f o m))
  (P:M->Prop) (hP:∀m,Inv g sc m->m.en=0->P m->P (Go.U.step g sc m)) (hS:∀o m,Inv g sc m->P m->J o->S (enc o m)=if m.en=0 then some (.inl (enc (f o m) (Go.U.step g sc m)))else some (.inr (ex o m)))
  {rk:Nat->Nat} (hr:Cu g rk) {o:O} {m:M} (hI:Inv g sc m) (hPm:P m) (hO:J o) {n:Nat} (hn:mu g rk m<=n):Ma S (enc o m)=some (ex ((trace g sc n m).foldl f o) (last g sc n m))/\(last g sc n m).en≠0/\Inv g sc (last g sc n m)/\J ((trace g sc n m).foldl f o):=by
 have key:∀(n:Nat)(o:O)(m:M),Inv g sc m->P m->J o->mu g rk m<=n->∀k,mu g rk m<k->Pk S k (enc o m)=some (ex ((trace g sc n m).foldl f o) (last g sc n m))/\(last g sc n m).en≠0/\Inv g sc (last g sc n m)/\J ((trace g sc n m).foldl f o):=by
  intro n;induction n with
  |zero=>
   intro o m hI hp hO hn k hk;have he:m.en≠0:=fun he=>by unfold mu at hn;rw[if_pos he]at hn;omega
   cases k with
   |zero=>omega
   |succ k=>
    refine⟨?_,he,hI,hO⟩;simp only[Pk,hS o m hI hp hO,if_neg he,ga,trace,last,Tw]
  |succ n ih=>
   intro o m hI hp hO hn k hk;cases k with
   |zero=>omega
   |succ k=>
    by_cases he:m.en=0
    ·obtain⟨i1,i2⟩:=hI.nxt hF he;have i3:=i2 rk hr;obtain⟨q1,q2,q3,q4⟩:=ih (f o m) (Go.U.step g sc m) i1 (hP m hI he hp) (hJ o m hO (hI.at0 he)) (by omega) k (by omega);simp only[Pk,hS o m hI hp hO,if_pos he,ga,trace,last,Ve];exact⟨q1,q2,q3,q4⟩
    ·refine⟨?_,by simpa only[last,if_neg he]using he,by simpa only[last,if_neg he]using hI,by simp only[trace,if_neg he,Tw];exact hO⟩;simp only[Pk,hS o m hI hp hO,if_neg he,ga,trace,last,Tw]
 exact key n o m hI hPm hO hn 18446744073709551616 (Nat.lt_trans (RI hF hI hr) (by decide))
theorem walk{T O E:Type}{S:T->Option (T ⊕ E)}(enc:O->M->T)(ex:O->M->E)(f:O->M->O)(J:O->Prop)(hF:Mf g D)
  (hJ:∀o m,J o->0<=m.at_/\m.at_<(g.1.length:Int)->J (f o m))
  (hS:∀o m,Inv g sc m->J o->S (enc o m)=if m.en=0 then some (.inl (enc (f o m) (Go.U.step g sc m)))else some (.inr (ex o m)))
  {rk:Nat->Nat} (hr:Cu g rk) {o:O} {m:M} (hI:Inv g sc m) (hO:J o) {n:Nat} (hn:mu g rk m<=n):Ma S (enc o m)=some (ex ((trace g sc n m).foldl f o) (last g sc n m))/\(last g sc n m).en≠0/\Inv g sc (last g sc n m)/\J ((trace g sc n m).foldl f o):=
 F7 enc ex f J hF hJ (fun _=>True) (fun _ _ _ _=>trivial) (fun o m hI _ hO=>hS o m hI hO) hr hI trivial hO hn
end
end Go.U
end
section
set_option maxRecDepth 20000
namespace Go.U
open Go
def cq(g:Ga):List Int:=(Nf g).map (fun s=>s.2.2)++Ca (g.2.2.1.toNat-(Nf g).length) 0
def Ap(g:Ga):List (List Int):=(de g).map fun a=>Ca a.2.2.1.toNat a.2.2.2
def m0(g:Ga)(fu:Int):M:=⟨max fu 0,0,0,0,0,0,0,cq g,Ap g,[]⟩
theorem fab{α β:Type}{l:List α}{f:α->β}{i:Nat}{d:α}{d':β}(h:i<l.length):gx (l.map f) i d'=f (gx l i d):=by
 simp only[gx,Ia,Tb];rw[Ba h];rfl
theorem cG{α:Type}{l r:List α}{x:α}{i:Nat}(h:i=l.length):(l++r).set i x=l++r.set 0 x:=by
 subst h;rw[List.set_append_right _ _ (va _),Nat.sub_self]
theorem sn{α:Type}{l:List α}{x y:α}{n i:Nat}(hl:l.length=i)(hi:i<n):(l++Ca (n-i) x).set i y=l++[y]++Ca (n-(i+1)) x:=by
 rw[cG hl.symm,show n-i=(n-(i+1))+1 by omega,List.replicate_succ,List.set_cons_zero,xd];rfl
section
variable {g:Ga}{D:List Int}
theorem Mf.FI(hF:Mf g D):∃R:Nat,g.2.2.1=(R:Int)/\(Nf g).length<=R/\R<=4160:=by
 have h1:=hF.defs.aD;have h2:=hF.defs.len;have h3:=hF.S;exact⟨_,h1,by omega,by omega⟩
theorem LY(hF:Mf g D)(q):Ma (Bq.m ((Nf g),nt (Nf g).length,q)) (0,Ca g.2.2.1.toNat 0)=some (cq g):=by
 obtain⟨R,hR,hS,mI⟩:=hF.FI;have h4:=hF.S;unfold cq;rw[hR,La];have:=Xc (step:=Bq.m ((Nf g),nt (Nf g).length,q)) (n:=(Nf g).length) (fun i=>((i:Int),((Nf g).take i).map (fun s=>s.2.2)++Ca (R-i) 0)) ((Nf g).map (fun s=>s.2.2)++Ca (R-(Nf g).length) 0) (by omega) (fun t=>(Nf g).length-t.1.toNat) (fun i _=>by simp) (fun i hi=>by
  have h':(i:Int)<((Nf g).length:Int):=by omega
  have w:Ea ((i:Int)+1)=((i+1:Nat):Int):=by rw[Qb (by omega) (by omega)];rfl
  have hl:(((Nf g).take i).map (fun s=>s.2.2)).length=i:=by simp;omega
  have Ac:i<(((Nf g).take i).map (fun s=>s.2.2)++Ca (R-i) (0:Int)).length:=by rw[qd,hl,Of];omega
  simp only[LD.m,Bq,nt,h',decide_true,cond_true,fg hi,Oa,La,w,fg Ac];rw[sn hl (by omega),If Bc hi,List.map_append];rfl) (by
  simp only[LD.m,Bq,nt,Xb,decide_false,cond_false,Af])
 simpa using this
theorem BS(l:List Cb)(z1 z2:Int)(x:Cb)(q r)(n:Nat)(hn:n<=256):Ma (Yl.m (l,z1,z2,(nt n),x,q,r)) (0,Ca n 0)=some (Ca n x.2.2.2):=by
 have:=Xc (step:=Yl.m (l,z1,z2,(nt n),x,q,r)) (n:=n) (fun i=>((i:Int),Ca i x.2.2.2++Ca (n-i) 0)) (Ca n x.2.2.2) (by omega) (fun t=>n-t.1.toNat) (fun i _=>by simp) (fun i hi=>by
  have h':(i:Int)<(n:Int):=by omega
  have w:Ea ((i:Int)+1)=((i+1:Nat):Int):=by rw[Qb (by omega) (by omega)];rfl
  have Ac:i<(Ca i x.2.2.2++Ca (n-i) (0:Int)).length:=by simp;omega
  simp only[LD.m,Yl,nt,h',decide_true,cond_true,Oa,La,w,fg Ac];rw[sn (by simp) (by omega),<- List.replicate_succ']) (by
  simp only[LD.m,Yl,nt,Xb,decide_false,cond_false];simp)
 simpa using this
theorem KY(hF:Mf g D)(q):Ma (Aq.m ((de g),nt (de g).length,q)) (0,[])=some (Ap g):=by
 have hA:=hF.A;have:=Xc (step:=Aq.m ((de g),nt (de g).length,q)) (n:=(de g).length) (fun i=>((i:Int),((de g).take i).map fun a=>Ca a.2.2.1.toNat a.2.2.2)) (Ap g) (by omega) (fun t=>(de g).length-t.1.toNat) (fun i _=>by simp) (fun i hi=>by
  have h':(i:Int)<((de g).length:Int):=by omega
  have w:Ea ((i:Int)+1)=((i+1:Nat):Int):=by rw[Qb (by omega) (by omega)];rfl
  obtain⟨_,_,s1,s2⟩:=hF.I.a i hi;have hl:(((de g).take i).map fun a=>Ca a.2.2.1.toNat a.2.2.2).length<=16:=by simp;omega
  have e:=If fb hi;simp only[LD.m,Aq,nt,h',decide_true,cond_true,fg hi,Oa,La,w];obtain⟨y,hy⟩:∃y,gx (de g) i fb=y:=⟨_,rfl⟩;rw[hy]at s1 s2;refine(Ee (b:=decide (0<=(gx (de g) i fb).2.2.1)&&decide ((gx (de g) i fb).2.2.1<=(gx (de g) i fb).2.2.1)&&decide (8 * (gx (de g) i fb).2.2.1<=70368744177664)&&decide ((gx (de g) i fb).2.2.1<9223372036854775808)) (by rw[hy];simp;omega)).trans ?_;have e2:=BS (de g) ((de g).length:Int) (i:Int) (gx (de g) i fb) q (((de g).take i).map fun a=>Ca a.2.2.1.toNat a.2.2.2) (gx (de g) i fb).2.2.1.toNat (by rw[hy];omega);simp only[nt]at e2;rw[Of,e2,ga];refine(Ee (b:=decide ((((((de g).take i).map fun a=>Ca a.2.2.1.toNat a.2.2.2).length+da ([Ca (gx (de g) i fb).2.2.1.toNat (gx (de g) i fb).2.2.2]:List (List Int))) * 24<=70368744177664))&&decide ((((de g).take i).map fun a=>Ca a.2.2.1.toNat a.2.2.2).length+da ([Ca (gx (de g) i fb).2.2.1.toNat (gx (de g) i fb).2.2.2]:List (List Int))<9223372036854775808)) (by simp only[Va,decide_eq_true_eq,Tj];omega)).trans ?_;rw[e,List.map_append];rfl) (by
  simp only[LD.m,Aq,nt,Xb,decide_false,cond_false,Af];rfl)
 exact this
theorem max_eq(fu:Int):(if 0>fu then 0 else fu)=max fu 0:=by
 rw[Int.max_def];split<;>split<;>omega
theorem dac(hF:Mf g D)(sc:List Int)(fu:Int):jF (g,sc,fu)=some (max fu 0,cq g,Ap g):=by
 obtain⟨R,hR,hS,mI⟩:=hF.FI;unfold jF rP;have b:(decide (0<=g.2.2.1)&&decide (g.2.2.1<=g.2.2.1)&&decide (8 * g.2.2.1<=70368744177664)&&decide (g.2.2.1<9223372036854775808))=true:=by
  rw[hR];simp;omega
 refine(Ee b).trans ?_;rw[LY hF,ga,KY hF,ga,max_eq]
theorem U_(hF:Mf g D)(sc:List Int){fu:Int}(Ll:fu<=1000000):Inv g sc (m0 g fu):=by
 obtain⟨R,hR,hS,mI⟩:=hF.FI;refine⟨fun _=>⟨qh _,by have:=hF.N1;simp only[m0];omega⟩,?_,by simp[m0,Ap],fun i hi=> ?_,by simp[m0],⟨qh _,by simp only[m0];omega⟩,⟨by simp only[m0];omega,by simp only[m0];omega⟩,fun h=>by simp[m0]at h⟩
 ·simp only[m0,cq,qd,Qc,Of,hR,La];omega
 ·have:=(hF.I.a i hi).2.2.1;simp only[m0,Ap,fab (d:=fb) hi,Of];omega
end
def big:Nat:=10000000000
def tr(g:Ga)(sc:List Int)(fu:Int):List M:=trace g sc big (m0 g fu)
def ls(g:Ga)(sc:List Int)(fu:Int):M:=last g sc big (m0 g fu)
section
variable {g:Ga}{D:List Int}{sc:List Int}
theorem wL(hF:Mf g D){fu:Int}(Ll:fu<=1000000):∃rk,Cu g rk/\Inv g sc (m0 g fu)/\mu g rk (m0 g fu)<=big:=by
 obtain⟨rk,hr⟩:=hF.Tai;have hI:=U_ hF sc Ll;exact⟨rk,hr,hI,ot (RI hF hI hr)⟩
theorem EY(q1 q2 q3 q4 q5 q6 q7 q8:Int)(rg:List Int)(ar ma)(h:(Nf g).length<=rg.length)(hr:rg.length<=10000):Fs (g,sc,q1,q2,q3,q4,q5,q6,q7,rg,ar,ma)=some (rg.take (Nf g).length):=by
 simp only[Fs,tA,nt];have e:fa ((Nf g).length:Int)-0=(Nf g).length:=by omega
 have hl:(qk 0 (fa ((Nf g).length:Int)-0) rg).length<=10000:=by rw[e,sy,ic];omega
 refine(Ee (b:=decide (0<=(0:Int))&&decide ((0:Int)<=((Nf g).length:Int))&&decide (((Nf g).length:Int)<=(rg.length:Int))) (by simp only[Va,decide_eq_true_eq];omega)).trans ?_;refine(Ee (b:=decide ((qk 0 (fa ((Nf g).length:Int)-0) rg).length * 8<=70368744177664)&&decide ((qk 0 (fa ((Nf g).length:Int)-0) rg).length<9223372036854775808)) (by simp only[Va,decide_eq_true_eq];omega)).trans ?_;show some (qk 0 (fa ((Nf g).length:Int)-0) rg)=_;rw[e];rfl
theorem Vac(hF:Mf g D)(hs:sc.length<=9223372036854775807){fu:Int}(Ll:fu<=1000000)(o:UK)(hO:J1 g o)(er:List Aa):
  WB (g,sc,fu,o.1,o.2.1,o.2.2.1,er,o.2.2.2,g)=some ((ls g sc fu).en,(ls g sc fu).si,(ls g sc fu).ki,(ls g sc fu).ti,(ls g sc fu).re,(ls g sc fu).rg.take (Nf g).length,((tr g sc fu).foldl (sj g) o).1,((tr g sc fu).foldl (sj g) o).2.1,((tr g sc fu).foldl (sj g) o).2.2.1,((tr g sc fu).foldl (sj g) o).2.2.2,(ls g sc fu).ar,(ls g sc fu).ma):=by
 obtain⟨rk,hr,hI,hm⟩:=wL (sc:=sc) hF Ll;have hw:=walk (S:=Jm.m (NI g er sc)) qC qC (sj g) (J1 g) hF (fun o m h ha=>h.next ha.2) (fun o m hI hJ=>ZN hF hs hI hJ er) hr hI hO hm;obtain⟨w1,w2,w3,w4⟩:=hw;unfold WB OP;rw[dac hF,ga];have w1':Ma (Jm.m (g,0,0,0,0,0,er,g,g,sc,true,true,true,true,true,false,false)) (o.1,o.2.1,o.2.2.1,o.2.2.2,max fu 0,0,0,0,0,0,0,cq g,Ap g,[])=some (qC ((tr g sc fu).foldl (sj g) o) (ls g sc fu)):=w1;rw[w1',ga];simp only[qC,M.t];have hR:=w3.aD hF;have e:=EY (g:=g) (sc:=sc) (ls g sc fu).fu (ls g sc fu).at_ (ls g sc fu).en (ls g sc fu).si (ls g sc fu).ki (ls g sc fu).ti (ls g sc fu).re 0 (ls g sc fu).rg (ls g sc fu).ar (ls g sc fu).ma hR.2 (by have:=hR.1;exact Ib this (by decide));rw[e,ga]
def P7(g:Ga):UK:=(-1,Ca g.1.length false,Ca g.1.length (false,false),0)
theorem pV(hF:Mf g D):J1 g (P7 g):=⟨by simp[P7],by simp[P7],by have:=hF.N1;simp only[P7];omega,.inl rfl⟩
def B2(g:Ga)(sc:List Int)(fu:Int):UK:=(tr g sc fu).foldl (sj g) (P7 g)
def Ew(g:Ga)(sc:List Int)(fu:Int):vb:=((B2 g sc fu).2.1,(B2 g sc fu).2.2.1,if(ls g sc fu).en=1 then[((ls g sc fu).si,(ls g sc fu).ki)]else[])
def af(g:Ga):vb:=(Ca g.1.length false,Ca g.1.length (false,false),[])
theorem DH(hF:Mf g D):Nt g=some (af g):=by
 have hN:=hF.N;unfold Nt dQ af;simp only[nt];refine(Ee (b:=decide (0<=(g.1.length:Int))&&decide ((g.1.length:Int)<=(g.1.length:Int))&&decide (1 * (g.1.length:Int)<=70368744177664)&&decide ((g.1.length:Int)<9223372036854775808)) (by simp;omega)).trans ?_;refine(Ee (b:=decide (0<=(g.1.length:Int))&&decide ((g.1.length:Int)<=(g.1.length:Int))&&decide (2 * (g.1.length:Int)<=70368744177664)&&decide ((g.1.length:Int)<9223372036854775808)) (by simp;omega)).trans ?_;rw[La]
def O_(g:Ga)(sc:List Int)(fu:Int):Zq:=((ls g sc fu).en,(ls g sc fu).si,(ls g sc fu).ki,(ls g sc fu).ti,(ls g sc fu).re,(ls g sc fu).rg.take (Nf g).length,(ls g sc fu).ar,(ls g sc fu).ma)
theorem pac(hF:Mf g D)(hs:sc.length<=9223372036854775807){fu:Int}(Ll:fu<=1000000):QB (g,sc,fu)=some (Ew g sc fu,O_ g sc fu,(B2 g sc fu).1):=by
 unfold QB CP;rw[DH hF,ga];have e:=Vac hF hs Ll (P7 g) (pV hF) [];have e':WB (g,sc,fu,(-1),(af g).1,(af g).2.1,(af g).2.2,0,g)=_:=e;rw[e',ga];by_cases h:(ls g sc fu).en=1
 ·simp only[h,decide_true,cond_true,Ew,O_,B2,if_true]
 ·simp only[h,decide_false,cond_false,Ew,O_,B2,if_false];rfl
end
end Go.U
end
section
set_option maxRecDepth 20000
namespace Go.U
open Go
def Qo(l:List Aa)(e:Aa):List Aa:=if e∈l then l else l++[e]
def Dt(a b:List Bool):List Bool:=List.zipWith (· || ·) a b
def Cr(a b:List (Bool×Bool)):List (Bool×Bool):=List.zipWith (fun x y=>(x.1||y.1,x.2||y.2)) a b
def uj(a b:vb):vb:=(Dt a.1 b.1,Cr a.2.1 b.2.1,Mh (b.2.2.foldl Qo a.2.2))
structure Ti(N:Nat)(c:vb):Prop where
 p:c.1.length=N
 w:c.2.1.length=N
 e:c.2.2.length<=1000000
theorem I1(l:List Aa)(e:Aa):(Qo l e).length<=l.length+1:=by unfold Qo;split<;>simp
theorem Qx:∀(es l:List Aa),(es.foldl Qo l).length<=l.length+es.length
 |[],l=>by simp
 |e::es,l=>by
  have h1:=Qx es (Qo l e);have h2:=I1 l e;rw[Ve,Jb];omega
theorem Iah(a b:Aa):((decide (a.1=b.1))&&((decide (a.2=b.2))&&true))=decide (a=b):=by
 obtain⟨a1,a2⟩:=a;obtain⟨b1,b2⟩:=b;by_cases h1:a1=b1<;>by_cases h2:a2=b2<;>simp[h1,h2]
theorem O6(x:Aa)(l:List Aa)(hl:l.length<=9223372036854775807):∃r,qy (x,l)=some r/\(0<=r↔x∈l):=by
 unfold qy GH;obtain⟨e,h1,h2⟩:=Vh (n:=l.length) (step:=Ko.m ((nt (da l)),(x,l))) hl (fun k=>∀j,j<k->x≠gx l j Fb) (fun e=>(∃i:Int,e= .inl i/\0<=i/\x∈l)\/(∃u,e= .inr u/\x∉l)) (fun j h=>absurd h (mj _)) (fun i hi hI=>by
  have h':(i:Int)<(l.length:Int):=by omega
  simp only[LD.m,Ko,nt,h',decide_true,cond_true,fg hi,Oa,La,Iah];refine zh (fun h=>Aj (.inl ⟨_,rfl,by omega,?_⟩)) fun h=>Yy fun j hj=> ?_
  ·rw[of_decide_eq_true h];exact Nb (gp (d:=Fb) hi)
  ·by_cases e:j=i
   ·subst e;exact of_decide_eq_false h
   ·exact hI j (by omega)) (fun hI=>by
  simp only[LD.m,Ko,nt,Xb,decide_false,cond_false];refine⟨_,rfl,.inr ⟨(),rfl,fun hx=> ?_⟩⟩;obtain⟨j,hj⟩:=List.mem_iff_getElem?.1 hx;exact hI j (Za hj) (QE hj).symm)
 rw[h1,ga];rcases h2 with⟨i,rfl,h0,hx⟩|⟨u,rfl,hx⟩
 ·exact⟨i,rfl,⟨fun _=>hx,fun _=>h0⟩⟩
 ·exact⟨-1,rfl,⟨fun h=>absurd h (by decide),fun h=>absurd h hx⟩⟩
theorem Fab(x:Aa)(l:List Aa)(hl:l.length<=9223372036854775807):OB (x,l)=some (decide (x∈l)):=by
 obtain⟨r,h1,h2⟩:=O6 x l hl;unfold OB YO;simp only;rw[h1,ga];congr 1;exact decide_eq_decide.2 h2
theorem C6(e:Aa)(z:Int)(P:List Bool)(W:List (Bool×Bool))(l:List Aa)(hl:l.length<=9223372036854775807):jw ((3,(z,e)),P,W,l)=some (decide (e∈l)):=by
 have h:jw ((3,(z,e)),P,W,l)=(OB (e,l)).bind fun r=>some r:=rfl
 rw[h,Fab e l hl];rfl
section
variable (P:List Bool)(W:List (Bool×Bool))(E:List Aa)
theorem Lai{i:Nat}(z1 z2:Int)(hi:i<P.length):Vd (0,(i:Int),z1,z2,P,W,E)=some (.inl (P.set i true,W)):=by
 simp only[Vd,Vi,decide_true,cond_true,fg hi,Oa,La]
theorem xae{i:Nat}(z1 z2:Int)(hi:i<W.length):Vd (1,(i:Int),z1,z2,P,W,E)=some (.inl (P,W.set i (true,(gx W i (false,false)).2))):=by
 have w1:Ea (1-1)=0:=by decide
 have d:(1:Int)<3:=by decide
 simp only[Vd,Vi,Qi,d,decide_true,decide_false,cond_true,cond_false,fg hi,Oa,La,w1]
theorem wae{i:Nat}(z1 z2:Int)(hi:i<W.length):Vd (2,(i:Int),z1,z2,P,W,E)=some (.inl (P,W.set i ((gx W i (false,false)).1,true))):=by
 have w1:Ea (2-1)=1:=by decide
 have d:(2:Int)<3:=by decide
 simp only[Vd,Vi,Qi,d,decide_true,decide_false,cond_true,cond_false,fg hi,Oa,La,w1]
theorem Mai(z:Int)(e:Aa)(hE:E.length<=3000000):Vd (3,z,e.1,e.2,P,W,E)=some (if e∈E then .inl (P,W)else .inr (E++[e])):=by
 have d:¬(3:Int)<3:=by decide
 have h3:jw ((3,(z,(e.1,e.2))),P,W,E)=some (decide (e∈E)):=C6 e z P W E (by omega);have b:(decide ((E.length+da ([(e.1,e.2)]:List Aa)) * 16<=70368744177664)&&decide (E.length+da ([(e.1,e.2)]:List Aa)<9223372036854775808))=true:=by
  simp only[Va,decide_eq_true_eq,Tj];omega
 simp only[Vd,Vi,Qi,d,decide_true,decide_false,cond_true,cond_false,h3,ga];by_cases h:e∈E
 ·simp only[h,decide_true,Zf,cond_false,if_true]
 ·simp only[h,decide_false,gf,cond_true,if_false];exact Ee b
end
theorem lV{P Q:List Bool}{i:Nat}(hl:P.length=Q.length)(hi:i<Q.length):(Dt (P.take i) (Q.take i)++P.drop i).set i (gx P i false||gx Q i false)=Dt (P.take (i+1)) (Q.take (i+1))++P.drop (i+1):=by
 have e1:(Dt (P.take i) (Q.take i)).length=i:=by simp[Dt];omega
 have e2:P.drop i=gx P i false::P.drop (i+1):=by
  rw[List.drop_eq_getElem_cons (by omega)];congr 1;have:=gp (d:=false) (show i<P.length by omega);rw[Ba (by omega)]at this;exact Ek this
 rw[cG e1.symm,e2,List.set_cons_zero,If false (show i<P.length by omega),If false hi];unfold Dt;rw[List.zipWith_append (by rw[ic,ic];omega),xd];rfl
theorem DO{α:Type}{l r:List α}{d x:α}{i:Nat}(h:l.length=i):gx (l++x::r) i d=x:=by
 subst h;simp[gx]
theorem DI{α:Type}{l:List α}{i:Nat}{d:α}(h:i<l.length):l.set i (gx l i d)=l:=by
 apply List.ext_getElem?;intro j;rw[Ob];split
 ·rename_i e;subst e;exact(gp (d:=d) h).symm
 ·rfl
theorem LH{α:Type}{l:List α}{i:Nat}(d:α)(h:i<l.length):l.drop i=gx l i d::l.drop (i+1):=by
 rw[List.drop_eq_getElem_cons h];congr 1;have:=gp (d:=d) h;rw[Ba h]at this;exact Ek this
theorem kV{P Q:List (Bool×Bool)}{i:Nat}(hl:P.length=Q.length)(hi:i<Q.length):(Cr (P.take i) (Q.take i)++P.drop i).set i ((gx P i (false,false)).1||(gx Q i (false,false)).1,(gx P i (false,false)).2||(gx Q i (false,false)).2)=Cr (P.take (i+1)) (Q.take (i+1))++P.drop (i+1):=by
 have e1:(Cr (P.take i) (Q.take i)).length=i:=by simp[Cr];omega
 rw[cG e1.symm,LH (false,false) (show i<P.length by omega),List.set_cons_zero,If (false,false) (show i<P.length by omega),If (false,false) hi];unfold Cr;rw[List.zipWith_append (by rw[ic,ic];omega),xd];rfl
section
variable (P:List Bool)(W:List (Bool×Bool))(E:List Aa)(c:vb)
theorem vY(Q:List Bool)(hP:P.length=Q.length)(hQ:Q.length<=9223372036854775807):Ma (yq.m (Q,nt Q.length,c)) (0,P,W,E)=some (Dt P Q,W,E):=by
 have:=Xc (step:=yq.m (Q,nt Q.length,c)) (n:=Q.length) (fun i=>((i:Int),Dt (P.take i) (Q.take i)++P.drop i,W,E)) (Dt P Q,W,E) (by omega) (fun t=>Q.length-t.1.toNat) (fun i _=>by simp) (fun i hi=>by
  have h':(i:Int)<(Q.length:Int):=by omega
  have w:Ea ((i:Int)+1)=((i+1:Nat):Int):=by rw[Qb (by omega) (by omega)];rfl
  have e1:(Dt (P.take i) (Q.take i)).length=i:=by simp[Dt];omega
  have Ac:i<(Dt (P.take i) (Q.take i)++P.drop i).length:=by rw[qd,e1,qt];omega
  have hg:gx (Dt (P.take i) (Q.take i)++P.drop i) i false=gx P i false:=by rw[LH false (show i<P.length by omega)];exact DO e1
  have ht:=lV hP hi;simp only[LD.m,yq,nt,h',decide_true,cond_true,fg hi,Oa,La,w];cases hq:gx Q i false
  ·rw[hq,Bool.or_false,<- hg,DI Ac]at ht;simp only[cond_false,ht]
  ·rw[hq,Bool.or_true]at ht;simp only[cond_true,Lai _ _ _ _ _ Ac,ga,Sum.elim_inl,ht]) (by
  simp only[LD.m,yq,nt,Xb,decide_false,cond_false];rw[od (Kh hP),Af,List.drop_of_length_le (Kh hP),Nn])
 simpa[Dt]using this
theorem tY(i:Nat)(z1:List (Bool×Bool))(z2 z3:Int)(w:Bool×Bool)(hi:i<W.length):Ma (Mj.m ((i:Int),z1,z2,z3,w,c)) (0,P,W,E)=some (P,W.set i ((gx W i (false,false)).1||w.1,(gx W i (false,false)).2||w.2),E):=by
 obtain⟨W1,D8⟩:∃W1,(if w.1=true then W.set i (true,(gx W i (false,false)).2)else W)=W1:=⟨_,rfl⟩;have NK:i<W1.length:=by rw[<- D8];split<;>simpa using hi
 obtain⟨W2,hW2⟩:∃W2,(if w.2=true then W1.set i ((gx W1 i (false,false)).1,true)else W1)=W2:=⟨_,rfl⟩;have w0:Ea ((0:Int)+1)=1:=by decide
 have w1:Ea ((1:Int)+1)=2:=by decide
 have w2:Ea ((1:Int)+0)=1:=by decide
 have d0:(0:Int)<2:=by decide
 have d1:(1:Int)<2:=by decide
 have d2:¬(1:Int)=0:=by decide
 have s0:Mj.m ((i:Int),z1,z2,z3,w,c) (0,P,W,E)=some (.inl (1,P,W1,E)):=by
  simp only[LD.m,Mj,d0,decide_true,cond_true,w0,w2];cases h:w.1
  ·rw[h]at D8;simp at D8;subst D8;rfl
  ·rw[h]at D8;simp at D8;subst D8;simp only[cond_true,xae _ _ _ _ _ hi,ga,Sum.elim_inl]
 have s1:Mj.m ((i:Int),z1,z2,z3,w,c) (1,P,W1,E)=some (.inl (2,P,W2,E)):=by
  simp only[LD.m,Mj,d1,d2,decide_true,decide_false,cond_true,cond_false,w1];cases h:w.2
  ·rw[h]at hW2;simp at hW2;subst hW2;rfl
  ·rw[h]at hW2;simp at hW2;subst hW2;simp only[cond_true,wae _ _ _ _ _ NK,ga,Sum.elim_inl]
 have s2:Mj.m ((i:Int),z1,z2,z3,w,c) (2,P,W2,E)=some (.inr (P,W2,E)):=by
  simp only[LD.m,Mj,Xb,decide_false,cond_false]
 have hf:W2=W.set i ((gx W i (false,false)).1||w.1,(gx W i (false,false)).2||w.2):=by
  rw[<- hW2,<- D8];have hs:=DI (d:=(false,false)) hi;have hgs:∀x:Bool×Bool,gx (W.set i x) i (false,false)=x:=fun x=>by rw[ou hi,if_pos rfl]
  cases h1:w.1<;>cases h2:w.2<;>simp[hs,hgs]
 have:=Xc (step:=Mj.m ((i:Int),z1,z2,z3,w,c)) (n:=2) (fun k=>if k=0 then(0,P,W,E)else if k=1 then(1,P,W1,E)else(2,P,W2,E)) (P,W2,E) (by decide) (fun t=>2-t.1.toNat) (fun k hk=>by
  obtain rfl|rfl|rfl:k=0\/k=1\/k=2:=by omega
  ·rfl
  ·rfl
  ·rfl) (fun k hk=>by
  obtain rfl|rfl:k=0\/k=1:=by omega
  ·exact s0
  ·exact s1) s2
 rw[<- hf];exact this
theorem uY(Q:List (Bool×Bool))(hP:W.length=Q.length)(hQ:Q.length<=9223372036854775807):Ma (xq.m (Q,nt Q.length,c)) (0,P,W,E)=some (P,Cr W Q,E):=by
 have:=Xc (step:=xq.m (Q,nt Q.length,c)) (n:=Q.length) (fun i=>((i:Int),P,Cr (W.take i) (Q.take i)++W.drop i,E)) (P,Cr W Q,E) (by omega) (fun t=>Q.length-t.1.toNat) (fun i _=>by simp) (fun i hi=>by
  have h':(i:Int)<(Q.length:Int):=by omega
  have w:Ea ((i:Int)+1)=((i+1:Nat):Int):=by rw[Qb (by omega) (by omega)];rfl
  have e1:(Cr (W.take i) (Q.take i)).length=i:=by simp[Cr];omega
  have Ac:i<(Cr (W.take i) (Q.take i)++W.drop i).length:=by rw[qd,e1,qt];omega
  have hg:gx (Cr (W.take i) (Q.take i)++W.drop i) i (false,false)=gx W i (false,false):=by rw[LH (false,false) (show i<W.length by omega)];exact DO e1
  have ht:=kV hP hi;have h9:=tY P (Cr (W.take i) (Q.take i)++W.drop i) E c i Q (nt Q.length) (i:Int) (gx Q i (false,false)) Ac;rw[hg,ht]at h9;simp only[nt]at h9;simp only[LD.m,xq,nt,h',decide_true,cond_true,fg hi,Oa,La,w];rw[h9,ga]) (by
  simp only[LD.m,xq,nt,Xb,decide_false,cond_false];rw[od (Kh hP),Af,List.drop_of_length_le (Kh hP),Nn])
 simpa[Cr]using this
theorem vS(Q:List Aa)(hE:E.length<=1000000)(hQ:Q.length<=1000000):Ma (Wl.m (Q,nt Q.length,c)) (0,P,W,E)=some (P,W,Q.foldl Qo E):=by
 have:=Xc (step:=Wl.m (Q,nt Q.length,c)) (n:=Q.length) (fun i=>((i:Int),P,W,(Q.take i).foldl Qo E)) (P,W,Q.foldl Qo E) (by omega) (fun t=>Q.length-t.1.toNat) (fun i _=>by simp) (fun i hi=>by
  have h':(i:Int)<(Q.length:Int):=by omega
  have w:Ea ((i:Int)+1)=((i+1:Nat):Int):=by rw[Qb (by omega) (by omega)];rfl
  have hl:((Q.take i).foldl Qo E).length<=3000000:=by
   have:=Qx (Q.take i) E;rw[ic]at this;omega
  simp only[LD.m,Wl,nt,h',decide_true,cond_true,fg hi,Oa,La,w];rw[Mai _ _ _ _ _ hl,ga,If Fb hi,Qz,Ve,Tw];unfold Qo;split<;>rfl) (by
  simp only[LD.m,Wl,nt,Xb,decide_false,cond_false,Af])
 exact this
end
theorem uC{α:Type}{n:Nat}{l:List α}(h:l.length<=3000000)(hn:n<=16):clone n l=some l:=by
 unfold clone;have:l.length * n<=3000000 * 16:=Nat.mul_le_mul h hn;exact Ee (by simp only[Va,decide_eq_true_eq];omega)
theorem Yac{N:Nat}(hN:N<=4096){a b:vb}(ha:Ti N a)(hb:Ti N b):qw (b,a.1,a.2.1,a.2.2)=some (uj a b):=by
 have hp:b.1.length<=4096:=by rw[hb.p];exact hN
 have c1:uP a.1=some a.1:=uC (by rw[ha.p];omega) (by decide);have c2:tP a.2.1=some a.2.1:=uC (by rw[ha.w];omega) (by decide);have c3:sP a.2.2=some a.2.2:=uC (by have:=ha.e;omega) (by decide);unfold qw UP;simp only[c1,c2,c3,ga,PD.m,XB];have h69:eF (b,a.1,a.2.1,a.2.2)=some (Dt a.1 b.1,Cr a.2.1 b.2.1,b.2.2.foldl Qo a.2.2):=by
  unfold eF eP;simp only;rw[vY a.1 a.2.1 a.2.2 b b.1 (by rw[ha.p,hb.p]) (by omega),ga];simp only;rw[uY (Dt a.1 b.1) a.2.1 a.2.2 b b.2.1 (by rw[ha.w,hb.w]) (by rw[hb.w];omega),ga];simp only;rw[vS (Dt a.1 b.1) (Cr a.2.1 b.2.1) a.2.2 b b.2.2 ha.e hb.e,ga]
 rw[h69,ga];simp only[ga];have hl:=Qx b.2.2 a.2.2;have h51:kF (b.2.2.foldl Qo a.2.2)=some (Mh (b.2.2.foldl Qo a.2.2)):=Ee (by simp only[decide_eq_true_eq];have:=ha.e;have:=hb.e;omega);rw[h51,ga];rfl
end Go.U
end
