/- What these Lean functions compute: plain arithmetic of congruences, the checks of a graph, the values of its registers. -/
import Derived.Test.YtjenflkegbmkkaaGreatDoorD5
set_option linter.unusedVariables false
set_option linter.unusedSimpArgs false
set_option linter.unusedSectionVars false
open Bool renaming and_eq_true→Ia,not_true→Yl,not_false→Ve
open Int renaming le_refl→bh,eq_ofNat_of_zero_le→Xr,toNat_natCast→Ca,lt_irrefl→Mb,toNat→ga,reduceEq→oC
open List renaming getD_eq_getElem?_getD→Ea,getElem?_set→Kb,getElem?_eq_none→mb,foldl_cons→tB,replicate→Ja,getElem?_map→Ob,getElem?_eq_getElem→ya,append_assoc→od,length_append→Td,length_replicate→Ji,map_append→Xu,take_length→po,length→fa,length_singleton→ur,length_map→Ec,length_take→dc,zipWith→eE,mem_of_getElem?→jb,mem_iff_getElem?→FB,length_drop→Ll,take_of_length_le→Ue,append_nil→yj
open Nat renaming mul_le_mul_right→Vb,add_mul→Ce,le_refl→ua,le_of_lt→Gr,le_trans→Ib,not_lt_zero→Xi,le_of_eq→Ch
open Option renaming bind_some→da
open Option.some renaming inj→qk
section
set_option maxRecDepth 20000
namespace Go.U
open Go
structure Kp (sc:List Int) (x:Fb) (m m':M):Prop where
 rg:m'.rg.length=m.rg.length
 al:m'.ar.length=m.ar.length
 az:∀ i,(gx m'.ar i []).length=(gx m.ar i []).length
 ma:m'.ma.length<=64
 re:0<=m'.re/\m'.re<=sc.length
 fu:0<=m'.fu/\m'.fu<=m.fu
 sp:(x.1=17\/x.1=20)->m'.en=0->m'.fu<m.fu
 pl:m'.en=0->m'.at_=m.at_\/(x.1=15/\m'.at_=x.2.2.2.2.2.2.2)
 no:x.1=21->m'.en≠0
 er:m'.en=1->m'.si=x.2.2.2.2.2.1/\1<=m'.ki/\m'.ki<=5
theorem Ed {α:Type} {P:α->Prop} {c:Prop} [Decidable c] {a b:α} (ha:c->P a) (hb:¬ c->P b):P (if c then a else b):=by by_cases h:c<;>simp only [h,if_true,if_false]<;>first|exact ha h|exact hb h
section
variable {g:Ba} {sc:List Int} {x:Fb} {m:M} (h1:m.ma.length<=64) (h2:0<=m.re/\m.re<=sc.length) (h3:0<=m.fu) (h4:m.en=0)
include h1 h2 h3 h4
theorem UC {i v:Int} (hs:¬ (x.1=17\/x.1=20)) (hn:x.1≠21):Kp sc x m (m.wr i v):=⟨by simp [M.wr],rfl,fun _=>rfl,h1,h2,⟨h3,bh _⟩,fun h=>absurd h hs,fun _=> .inl rfl,fun h=>absurd h hn,fun h=>by simp [M.wr,h4] at h⟩
theorem Pj {v:Int} (hv:1<=v/\v<=5):Kp sc x m (m.fail x.2.2.2.2.2.1 v):=⟨rfl,rfl,fun _=>rfl,h1,h2,⟨h3,bh _⟩,fun _ h=>by simp [M.fail] at h,fun _=> .inl rfl,fun _=>by simp [M.fail],fun _=>⟨rfl,hv⟩⟩
theorem Ls {v:Int} {c:Bool} (hs:¬ (x.1=17\/x.1=20)) (hn:x.1≠21):Kp sc x m (m.RY x v c):=by
 unfold M.RY;cases (c&& !(HB v 3))
 · exact UC h1 h2 h3 h4 hs hn
 · exact Pj h1 h2 h3 h4 (by decide)
theorem Hy {e:Int} (he:e≠0/\e≠1):Kp sc x m { m with en:=e }:=⟨rfl,rfl,fun _=>rfl,h1,h2,⟨h3,bh _⟩,fun _ h=>absurd h he.1,fun _=> .inl rfl,fun _=>he.1,fun h=>absurd h he.2⟩
theorem xM (hs:¬ (x.1=17\/x.1=20)) (hn:x.1≠21):Kp sc x m m:=⟨rfl,rfl,fun _=>rfl,h1,h2,⟨h3,bh _⟩,fun h=>absurd h hs,fun _=> .inl rfl,fun h=>absurd h hn,fun h=>by rw [h4] at h;cases h⟩
theorem CS (pA:1<=x.1/\x.1<=21):Kp sc x m (CC g sc x m):=by
 unfold CC
 dsimp only
 refine Ed (fun e1=>UC h1 h2 h3 h4 (by omega) (by omega)) fun e1=> ?_
 refine Ed (fun e2=>Ls h1 h2 h3 h4 (by omega) (by omega)) fun e2=> ?_
 refine Ed (fun e3=>Ls h1 h2 h3 h4 (by omega) (by omega)) fun e3=> ?_
 refine Ed (fun e4=>Ls h1 h2 h3 h4 (by omega) (by omega)) fun e4=> ?_
 refine Ed (fun e5=>Ls h1 h2 h3 h4 (by omega) (by omega)) fun e5=> ?_
 refine Ed (fun e6=>Ls h1 h2 h3 h4 (by omega) (by omega)) fun e6=> ?_
 refine Ed (fun e7=>Ed (fun _=>Pj h1 h2 h3 h4 (by decide)) fun _=>Ed (fun _=>Pj h1 h2 h3 h4 (by decide)) fun _=>UC h1 h2 h3 h4 (by omega) (by omega)) fun e7=> ?_
 refine Ed (fun e8=>Ed (fun _=>Pj h1 h2 h3 h4 (by decide)) fun _=>UC h1 h2 h3 h4 (by omega) (by omega)) fun e8=> ?_
 refine Ed (fun e9=>Ls h1 h2 h3 h4 (by omega) (by omega)) fun e9=> ?_
 refine Ed (fun ZA=>Ls h1 h2 h3 h4 (by omega) (by omega)) fun ZA=> ?_
 refine Ed (fun sO=>Ed (fun _=>Pj h1 h2 h3 h4 (by decide)) fun _=>UC h1 h2 h3 h4 (by omega) (by omega)) fun sO=> ?_
 refine Ed (fun ER=>Ed (fun _=>Hy h1 h2 h3 h4 (by decide)) fun Nc=>Ed (fun _=>
  ⟨rfl,rfl,fun _=>rfl,h1,⟨by simp only;omega,by simp only;omega⟩,⟨h3,bh _⟩,fun _ h=>by simp at h,fun _=> .inl rfl,fun _=>by simp,fun h=>by simp at h⟩) fun _=>
  ⟨by simp,rfl,fun _=>rfl,h1,⟨by simp only;omega,by simp only;omega⟩,⟨h3,bh _⟩,fun h=>by omega,fun _=> .inl rfl,fun h=>by omega,fun h=>by rw [h4] at h;cases h⟩) fun ER=> ?_
 refine Ed (fun DR=>Ed (fun _=>UC h1 h2 h3 h4 (by omega) (by omega)) fun _=>Pj h1 h2 h3 h4 (by decide)) fun DR=> ?_
 refine Ed (fun mJ=>Ed (fun _=>Pj h1 h2 h3 h4 (by decide)) fun _=>Ed (fun _=>
  ⟨rfl,by simp,fun i=>by
   simp only [gx,Ea,Kb];split
   · split
     · rename_i e _;subst e;simp
     · rename_i e k;subst e;rw [mb (by omega)]
   · rfl,h1,h2,⟨h3,bh _⟩,fun h=>by omega,fun _=> .inl rfl,fun h=>by omega,fun h=>by rw [h4] at h;cases h⟩) fun _=>Pj h1 h2 h3 h4 (by decide)) fun mJ=> ?_
 refine Ed (fun I7=>Ed (fun _=>xM h1 h2 h3 h4 (by omega) (by omega)) fun _=>⟨rfl,rfl,fun _=>rfl,h1,h2,⟨h3,bh _⟩,fun h=>by omega,fun _=> .inr ⟨I7,rfl⟩,fun h=>by omega,fun h=>by rw [h4] at h;cases h⟩) fun I7=> ?_
 refine Ed (fun e17=>Ed (fun _=>Hy h1 h2 h3 h4 (by decide)) fun _=>Ed (fun _=>Hy h1 h2 h3 h4 (by decide)) fun hz=>Ed (fun hm=>
  ⟨rfl,rfl,fun _=>rfl,by simp;omega,h2,⟨by simp only;omega,by simp only;omega⟩,fun _ _=>by simp only;omega,fun _=> .inl rfl,fun h=>by omega,fun h=>by rw [h4] at h;cases h⟩) fun _=>
  ⟨rfl,rfl,fun _=>rfl,h1,h2,⟨by simp only;omega,by simp only;omega⟩,fun _ _=>by simp only;omega,fun _=> .inl rfl,fun h=>by omega,fun h=>by rw [h4] at h;cases h⟩) fun e17=> ?_
 refine Ed (fun e18=>⟨rfl,rfl,fun _=>rfl,h1,h2,⟨h3,bh _⟩,fun h=>by omega,fun _=> .inl rfl,fun h=>by omega,fun h=>by rw [h4] at h;cases h⟩) fun e18=> ?_
 refine Ed (fun e20=>Ed (fun _=>Hy h1 h2 h3 h4 (by decide)) fun hz=>⟨rfl,rfl,fun _=>rfl,h1,h2,⟨by simp only;omega,by simp only;omega⟩,fun _ _=>by simp only;omega,fun _=> .inl rfl,fun h=>by omega,fun h=>by rw [h4] at h;cases h⟩) fun e20=> ?_
 exact Ed (fun _=>Pj h1 h2 h3 h4 (by decide)) fun e21=>xM h1 h2 h3 h4 (by omega) (by omega)
end
def mu (g:Ba) (rk:Nat->Nat) (m:M):Nat:=if m.en=0 then m.fu.toNat * (g.1.length+1)+rk m.at_.toNat+1 else 0
section
variable {g:Ba} {D:List Int} {sc:List Int} {m:M}
theorem Inv.Vx (hF:Ng g D) (hI:Inv g sc m) (he:m.en=0):Inv g sc (step g sc m)/\∀ rk,Jw g rk->mu g rk (step g sc m)<mu g rk m:=by
 obtain ⟨h0,U'⟩:=hI.at0 he;obtain ⟨j,hj⟩:=Xr h0;have EG:j<g.1.length:=by omega
 have hG:=hF.vK j EG;have Wb:step g sc m=CC g sc (at' g j) (m.to (FE (at' g j))):=by unfold Go.U.step;rw [hj];rfl
 have k:=CS (g:=g) (sc:=sc) (x:=at' g j) (m:=m.to (FE (at' g j))) hI.ma hI.re hI.fu.1 he hG.op;rw [<- Wb] at k;have VB:(Go.U.step g sc m).en=0->0<=(Go.U.step g sc m).at_/\(Go.U.step g sc m).at_<(g.1.length:Int)/\((Go.U.step g sc m).at_=(at' g j).2.2.2.2.2.2.1\/(Go.U.step g sc m).at_=(at' g j).2.2.2.2.2.2.2):=fun cU=>by
   obtain ⟨n1,n2,n3⟩:=hG.Vx;rcases k.pl cU with h|⟨uZ,h⟩
   · have h:(Go.U.step g sc m).at_=(at' g j).2.2.2.2.2.2.1:=h;by_cases uZ:(at' g j).1=15
     · have:=n1 uZ;exact ⟨by omega,by omega,.inl h⟩
     · by_cases h21:(at' g j).1=21
       · exact absurd cU (k.no h21)
       · have:=n3 uZ h21;exact ⟨by omega,by omega,.inl h⟩
   · have:=n1 uZ;exact ⟨by omega,by omega,.inr h⟩
 refine ⟨⟨fun cU=>⟨(VB cU).1,(VB cU).2.1⟩,by rw [k.rg];exact hI.rg,by rw [k.al];exact hI.al,fun i hi=>by rw [k.az];exact hI.az i hi,k.ma,k.re,⟨k.fu.1,Int.le_trans k.fu.2 hI.fu.2⟩,fun cU=>⟨j,EG,k.er cU⟩⟩,fun rk hr=> ?_⟩;have hm:mu g rk m=m.fu.toNat * (g.1.length+1)+rk j+1:=by unfold mu;rw [if_pos he,hj];rfl
 rw [hm];unfold mu;split
 · rename_i cU;obtain ⟨p1,p2,p3⟩:=VB cU;obtain ⟨i,hi⟩:=Xr p1;rw [hi,Ca];have XE:i<g.1.length:=by omega
   have Ci:(Go.U.step g sc m).fu<=m.fu:=k.fu.2;obtain ⟨r1,r2⟩:=hr j EG;rcases r2 with r2|r2|r2
   · have nc:(Go.U.step g sc m).fu<m.fu:=k.sp (.inl r2) cU;have:=(hr i XE).1;have h3:(Go.U.step g sc m).fu.toNat+1<=m.fu.toNat:=by have:=k.fu.1;omega
     have:=Vb (g.1.length+1) h3;rw [Ce] at this;omega
   · have nc:(Go.U.step g sc m).fu<m.fu:=k.sp (.inr r2) cU;have:=(hr i XE).1;have h3:(Go.U.step g sc m).fu.toNat+1<=m.fu.toNat:=by have:=k.fu.1;omega
     have:=Vb (g.1.length+1) h3;rw [Ce] at this;omega
   · have hd:rk i<rk j:=by
       rcases r2 _ p3 with h|h
       · omega
       · rw [hi,Ca] at h;exact h
     have h3:(Go.U.step g sc m).fu.toNat<=m.fu.toNat:=by omega
     have:=Vb (g.1.length+1) h3;omega
 · omega
def trace (g:Ba) (sc:List Int):Nat->M->List M
 |0,_=>[]
 |n+1,m=>if m.en=0 then m::trace g sc n (Go.U.step g sc m) else []
def last (g:Ba) (sc:List Int):Nat->M->M
 |0,m=>m
 |n+1,m=>if m.en=0 then last g sc n (Go.U.step g sc m) else m
theorem eH (hF:Ng g D) (hI:Inv g sc m) {rk:Nat->Nat} (hr:Jw g rk):mu g rk m<10000000000:=by
 unfold mu;split
 · rename_i he;obtain ⟨h0,U'⟩:=hI.at0 he;have h1:=(hr m.at_.toNat (by omega)).1;have h2:=hF.N;have h3:=hI.fu;have h4:m.fu.toNat<=1000000:=by omega
   have:=Nat.mul_le_mul h4 (show g.1.length+1<=4097 by omega);omega
 · omega
theorem walk {T O:Type} {S:T->Option (T ⊕ T)} (enc:O->M->T) (dec:T->M) (C1:∀ o m,dec (enc o m)=m) (f:O->M->O) (J:O->Prop) (hF:Ng g D)
  (hJ:∀ o m,J o->0<=m.at_/\m.at_<(g.1.length:Int)->J (f o m))
  (hS:∀ o m,Inv g sc m->J o->S (enc o m)=if m.en=0 then some (.inl (enc (f o m) (Go.U.step g sc m))) else some (.inr (enc o m)))
  {rk:Nat->Nat} (hr:Jw g rk) {o:O} {m:M} (hI:Inv g sc m) (hO:J o) {n:Nat} (hn:mu g rk m<=n):Oa S (enc o m)=some (enc ((trace g sc n m).foldl f o) (last g sc n m))/\(last g sc n m).en≠0/\Inv g sc (last g sc n m)/\J ((trace g sc n m).foldl f o):=by
 have key:∀ (n:Nat) (o:O) (m:M),Inv g sc m->J o->mu g rk m<=n->∀ k,mu g rk m<k->Xn S k (enc o m)=some (enc ((trace g sc n m).foldl f o) (last g sc n m))/\(last g sc n m).en≠0/\Inv g sc (last g sc n m)/\J ((trace g sc n m).foldl f o):=by
  intro n;induction n with
  |zero=>
   intro o m hI hO hn k hk;have he:m.en≠0:=fun he=>by unfold mu at hn;rw [if_pos he] at hn;omega
   cases k with
   |zero=>omega
   |succ k=>
    refine ⟨?_,he,hI,hO⟩;simp only [Xn,hS o m hI hO,if_neg he,da,trace,last,List.foldl_nil]
  |succ n ih=>
   intro o m hI hO hn k hk;cases k with
   |zero=>omega
   |succ k=>
    by_cases he:m.en=0
    · obtain ⟨i1,i2⟩:=hI.Vx hF he;have i3:=i2 rk hr;obtain ⟨q1,q2,q3,q4⟩:=ih (f o m) (Go.U.step g sc m) i1 (hJ o m hO (hI.at0 he)) (by omega) k (by omega);simp only [Xn,hS o m hI hO,if_pos he,da,trace,last,tB];exact ⟨q1,q2,q3,q4⟩
    · refine ⟨?_,by simpa only [last,if_neg he] using he,by simpa only [last,if_neg he] using hI,by simp only [trace,if_neg he,List.foldl_nil];exact hO⟩;simp only [Xn,hS o m hI hO,if_neg he,da,trace,last,List.foldl_nil]
 exact key n o m hI hO hn 18446744073709551616 (Nat.lt_trans (eH hF hI hr) (by decide))
end
end Go.U
end
section
set_option maxRecDepth 20000
namespace Go.U
open Go
def IC (g:Ba):List Int:=(yg g).map (fun s=>s.2.2)++Ja (g.2.2.1.toNat-(yg g).length) 0
def nB (g:Ba):List (List Int):=(Xe g).map fun a=>Ja a.2.2.1.toNat a.2.2.2
def m0 (g:Ba) (fu:Int):M:=⟨max fu 0,0,0,0,0,0,0,IC g,nB g,[]⟩
theorem V' {α β:Type} {l:List α} {f:α->β} {i:Nat} {d:α} {d':β} (h:i<l.length):gx (l.map f) i d'=f (gx l i d):=by
 simp only [gx,Ea,Ob];rw [ya h];rfl
theorem tE {α:Type} {l r:List α} {x:α} {i:Nat} (h:i=l.length):(l++r).set i x=l++r.set 0 x:=by
 subst h;rw [List.set_append_right _ _ (ua _),Nat.sub_self]
theorem lD {α:Type} {l:List α} {x y:α} {n i:Nat} (hl:l.length=i) (hi:i<n):(l++Ja (n-i) x).set i y=l++[y]++Ja (n-(i+1)) x:=by
 rw [tE hl.symm,show n-i=(n-(i+1))+1 by omega,List.replicate_succ,List.set_cons_zero,od];rfl
section
variable {g:Ba} {D:List Int}
theorem Ng.NS (hF:Ng g D):∃ R:Nat,g.2.2.1=(R:Int)/\(yg g).length<=R/\R<=4160:=by
 have h1:=hF.defs.vE;have h2:=hF.defs.len;have h3:=hF.S;exact ⟨_,h1,by omega,by omega⟩
theorem RW (hF:Ng g D) (q):Oa (Dp.m ((yg g),nt (yg g).length,q)) (0,Ja g.2.2.1.toNat 0)=some (IC g):=by
 obtain ⟨R,hR,hS,lJ⟩:=hF.NS;have h4:=hF.S;unfold IC;rw [hR,Ca];have:=Md (step:=Dp.m ((yg g),nt (yg g).length,q)) (n:=(yg g).length) (fun i=>((i:Int),((yg g).take i).map (fun s=>s.2.2)++Ja (R-i) 0)) ((yg g).map (fun s=>s.2.2)++Ja (R-(yg g).length) 0) (by omega) (fun t=>(yg g).length-t.1.toNat) (fun i _=>by simp) (fun i hi=>by
  have h':(i:Int)<((yg g).length:Int):=by omega
  have w:Ga ((i:Int)+1)=((i+1:Nat):Int):=by rw [Sb (by omega) (by omega)];rfl
  have hl:(((yg g).take i).map (fun s=>s.2.2)).length=i:=by simp;omega
  have nc:i<(((yg g).take i).map (fun s=>s.2.2)++Ja (R-i) (0:Int)).length:=by rw [Td,hl,Ji];omega
  simp only [LD.m,Dp,nt,h',decide_true,cond_true,Rh hi,Xa,Ca,w,Rh nc];rw [lD hl (by omega),Qg Xc hi,Xu];rfl) (by
  simp only [LD.m,Dp,nt,Mb,decide_false,cond_false,po])
 simpa using this
theorem zQ (l:List Tc) (z1 z2:Int) (x:Tc) (q r) (n:Nat) (hn:n<=256):Oa (fl.m (l,z1,z2,(nt n),x,q,r)) (0,Ja n 0)=some (Ja n x.2.2.2):=by
 have:=Md (step:=fl.m (l,z1,z2,(nt n),x,q,r)) (n:=n) (fun i=>((i:Int),Ja i x.2.2.2++Ja (n-i) 0)) (Ja n x.2.2.2) (by omega) (fun t=>n-t.1.toNat) (fun i _=>by simp) (fun i hi=>by
  have h':(i:Int)<(n:Int):=by omega
  have w:Ga ((i:Int)+1)=((i+1:Nat):Int):=by rw [Sb (by omega) (by omega)];rfl
  have nc:i<(Ja i x.2.2.2++Ja (n-i) (0:Int)).length:=by simp;omega
  simp only [LD.m,fl,nt,h',decide_true,cond_true,Xa,Ca,w,Rh nc];rw [lD (by simp) (by omega),<- List.replicate_succ']) (by
  simp only [LD.m,fl,nt,Mb,decide_false,cond_false];simp)
 simpa using this
theorem QW (hF:Ng g D) (q):Oa (Cp.m ((Xe g),nt (Xe g).length,q)) (0,[])=some (nB g):=by
 have hA:=hF.A;have:=Md (step:=Cp.m ((Xe g),nt (Xe g).length,q)) (n:=(Xe g).length) (fun i=>((i:Int),((Xe g).take i).map fun a=>Ja a.2.2.1.toNat a.2.2.2)) (nB g) (by omega) (fun t=>(Xe g).length-t.1.toNat) (fun i _=>by simp) (fun i hi=>by
  have h':(i:Int)<((Xe g).length:Int):=by omega
  have w:Ga ((i:Int)+1)=((i+1:Nat):Int):=by rw [Sb (by omega) (by omega)];rfl
  obtain ⟨_,_,s1,s2⟩:=hF.I.a i hi;have hl:(((Xe g).take i).map fun a=>Ja a.2.2.1.toNat a.2.2.2).length<=16:=by simp;omega
  have e:=Qg Bb hi;simp only [LD.m,Cp,nt,h',decide_true,cond_true,Rh hi,Xa,Ca,w];obtain ⟨y,hy⟩:∃ y,gx (Xe g) i Bb=y:=⟨_,rfl⟩;rw [hy] at s1 s2;refine (Fe (b:=decide (0<=(gx (Xe g) i Bb).2.2.1)&&decide ((gx (Xe g) i Bb).2.2.1<=(gx (Xe g) i Bb).2.2.1)&&decide (8 * (gx (Xe g) i Bb).2.2.1<=70368744177664)&&decide ((gx (Xe g) i Bb).2.2.1<9223372036854775808)) (by rw [hy];simp;omega)).trans ?_;have e2:=zQ (Xe g) ((Xe g).length:Int) (i:Int) (gx (Xe g) i Bb) q (((Xe g).take i).map fun a=>Ja a.2.2.1.toNat a.2.2.2) (gx (Xe g) i Bb).2.2.1.toNat (by rw [hy];omega);simp only [nt] at e2;rw [Ji,e2,da];refine (Fe (b:=decide ((((((Xe g).take i).map fun a=>Ja a.2.2.1.toNat a.2.2.2).length+fa ([Ja (gx (Xe g) i Bb).2.2.1.toNat (gx (Xe g) i Bb).2.2.2]:List (List Int))) * 24<=70368744177664))&&decide ((((Xe g).take i).map fun a=>Ja a.2.2.1.toNat a.2.2.2).length+fa ([Ja (gx (Xe g) i Bb).2.2.1.toNat (gx (Xe g) i Bb).2.2.2]:List (List Int))<9223372036854775808)) (by simp only [Ia,decide_eq_true_eq,ur];omega)).trans ?_;rw [e,Xu];rfl) (by
  simp only [LD.m,Cp,nt,Mb,decide_false,cond_false,po];rfl)
 exact this
theorem max_eq (fu:Int):(if 0>fu then 0 else fu)=max fu 0:=by
 rw [Int.max_def];split<;>split<;>omega
theorem O_ (hF:Ng g D) (sc:List Int) (fu:Int):tD (g,sc,fu)=some (max fu 0,IC g,nB g):=by
 obtain ⟨R,hR,hS,lJ⟩:=hF.NS;unfold tD DN;have b:(decide (0<=g.2.2.1)&&decide (g.2.2.1<=g.2.2.1)&&decide (8 * g.2.2.1<=70368744177664)&&decide (g.2.2.1<9223372036854775808))=true:=by
  rw [hR];simp;omega
 refine (Fe b).trans ?_;rw [RW hF,da,QW hF,da,max_eq]
theorem E8 (hF:Ng g D) (sc:List Int) {fu:Int} (Ci:fu<=1000000):Inv g sc (m0 g fu):=by
 obtain ⟨R,hR,hS,lJ⟩:=hF.NS;refine ⟨fun _=>⟨bh _,by have:=hF.N1;simp only [m0];omega⟩,?_,by simp [m0,nB],fun i hi=> ?_,by simp [m0],⟨bh _,by simp only [m0];omega⟩,⟨by simp only [m0];omega,by simp only [m0];omega⟩,fun h=>by simp [m0] at h⟩
 · simp only [m0,IC,Td,Ec,Ji,hR,Ca];omega
 · have:=(hF.I.a i hi).2.2.1;simp only [m0,nB,V' (d:=Bb) hi,Ji];omega
end
def big:Nat:=10000000000
def tr (g:Ba) (sc:List Int) (fu:Int):List M:=trace g sc big (m0 g fu)
def ls (g:Ba) (sc:List Int) (fu:Int):M:=last g sc big (m0 g fu)
section
variable {g:Ba} {D:List Int} {sc:List Int}
theorem LS (hF:Ng g D) {fu:Int} (Ci:fu<=1000000):∃ rk,Jw g rk/\Inv g sc (m0 g fu)/\mu g rk (m0 g fu)<=big:=by
 obtain ⟨rk,hr⟩:=hF.Saf;have hI:=E8 hF sc Ci;exact ⟨rk,hr,hI,Gr (eH hF hI hr)⟩
theorem KW (q1 q2 q3 q4 q5 q6 q7 q8:Int) (rg:List Int) (ar ma) (h:(yg g).length<=rg.length) (hr:rg.length<=10000):Vq (g,sc,q1,q2,q3,q4,q5,q6,q7,rg,ar,ma)=some (rg.take (yg g).length):=by
 simp only [Vq,dz,nt];have e:ga ((yg g).length:Int)-0=(yg g).length:=by omega
 have hl:(Vi 0 (ga ((yg g).length:Int)-0) rg).length<=10000:=by rw [e,QD,dc];omega
 refine (Fe (b:=decide (0<=(0:Int))&&decide ((0:Int)<=((yg g).length:Int))&&decide (((yg g).length:Int)<=(rg.length:Int))) (by simp only [Ia,decide_eq_true_eq];omega)).trans ?_;refine (Fe (b:=decide ((Vi 0 (ga ((yg g).length:Int)-0) rg).length * 8<=70368744177664)&&decide ((Vi 0 (ga ((yg g).length:Int)-0) rg).length<9223372036854775808)) (by simp only [Ia,decide_eq_true_eq];omega)).trans ?_;show some (Vi 0 (ga ((yg g).length:Int)-0) rg)=_;rw [e];rfl
theorem waa (hF:Ng g D) (hs:sc.length<=9223372036854775807) {fu:Int} (Ci:fu<=1000000) (o:XR) (hO:J1 g o) (er:List Ra):
  LA (g,sc,fu,o.1,o.2.1,o.2.2.1,er,o.2.2.2,g)=some ((ls g sc fu).en,(ls g sc fu).si,(ls g sc fu).ki,(ls g sc fu).ti,(ls g sc fu).re,(ls g sc fu).rg.take (yg g).length,((tr g sc fu).foldl (Ak g) o).1,((tr g sc fu).foldl (Ak g) o).2.1,((tr g sc fu).foldl (Ak g) o).2.2.1,((tr g sc fu).foldl (Ak g) o).2.2.2,(ls g sc fu).ar,(ls g sc fu).ma):=by
 obtain ⟨rk,hr,hI,hm⟩:=LS (sc:=sc) hF Ci;have hw:=walk (S:=Sl.m (aH g er sc)) iG (fun t=>M.of t.2.2.2.2) (fun _ _=>rfl) (Ak g) (J1 g) hF (fun o m h ha=>h.next ha.2) (fun o m hI hJ=>wM hF hs hI hJ er) hr hI hO hm;obtain ⟨w1,w2,w3,w4⟩:=hw;unfold LA VN;rw [O_ hF,da];have w1':Oa (Sl.m (g,0,0,0,0,0,er,g,g,sc,true,true,true,true,true,false,false)) (o.1,o.2.1,o.2.2.1,o.2.2.2,max fu 0,0,0,0,0,0,0,IC g,nB g,[])=some (iG ((tr g sc fu).foldl (Ak g) o) (ls g sc fu)):=w1;rw [w1',da];simp only [iG,M.t];have hR:=w3.vE hF;have e:=KW (g:=g) (sc:=sc) (ls g sc fu).fu (ls g sc fu).at_ (ls g sc fu).en (ls g sc fu).si (ls g sc fu).ki (ls g sc fu).ti (ls g sc fu).re 0 (ls g sc fu).rg (ls g sc fu).ar (ls g sc fu).ma hR.2 (by have:=hR.1;exact Ib this (by decide));rw [e,da]
def ob0 (g:Ba):XR:=(-1,Ja g.1.length false,Ja g.1.length (false,false),0)
theorem V4 (hF:Ng g D):J1 g (ob0 g):=⟨by simp [ob0],by simp [ob0],by have:=hF.N1;simp only [ob0];omega,.inl rfl⟩
def ob1 (g:Ba) (sc:List Int) (fu:Int):XR:=(tr g sc fu).foldl (Ak g) (ob0 g)
def Ts (g:Ba) (sc:List Int) (fu:Int):Pa:=((ob1 g sc fu).2.1,(ob1 g sc fu).2.2.1,if (ls g sc fu).en=1 then [((ls g sc fu).si,(ls g sc fu).ki)] else [])
def Df (g:Ba):Pa:=(Ja g.1.length false,Ja g.1.length (false,false),[])
theorem aG (hF:Ng g D):Sr g=some (Df g):=by
 have hN:=hF.N;unfold Sr iO Df;simp only [nt];refine (Fe (b:=decide (0<=(g.1.length:Int))&&decide ((g.1.length:Int)<=(g.1.length:Int))&&decide (1 * (g.1.length:Int)<=70368744177664)&&decide ((g.1.length:Int)<9223372036854775808)) (by simp;omega)).trans ?_;refine (Fe (b:=decide (0<=(g.1.length:Int))&&decide ((g.1.length:Int)<=(g.1.length:Int))&&decide (2 * (g.1.length:Int)<=70368744177664)&&decide ((g.1.length:Int)<9223372036854775808)) (by simp;omega)).trans ?_;rw [Ca]
def y8 (g:Ba) (sc:List Int) (fu:Int):Su:=((ls g sc fu).en,(ls g sc fu).si,(ls g sc fu).ki,(ls g sc fu).ti,(ls g sc fu).re,(ls g sc fu).rg.take (yg g).length,(ls g sc fu).ar,(ls g sc fu).ma)
theorem sX (hF:Ng g D) (hs:sc.length<=9223372036854775807) {fu:Int} (Ci:fu<=1000000):Ix (g,sc,fu)=some (Ts g sc fu,y8 g sc fu,(ob1 g sc fu).1):=by
 unfold Ix NN;rw [aG hF,da];have e:=waa hF hs Ci (ob0 g) (V4 hF) [];have e':LA (g,sc,fu,(-1),(Df g).1,(Df g).2.1,(Df g).2.2,0,g)=_:=e;rw [e',da];by_cases h:(ls g sc fu).en=1
 · simp only [h,decide_true,cond_true,Ts,y8,ob1,if_true]
 · simp only [h,decide_false,cond_false,Ts,y8,ob1,if_false];rfl
end
end Go.U
end
section
set_option maxRecDepth 20000
namespace Go.U
open Go
def Nk (l:List Ra) (e:Ra):List Ra:=if e∈l then l else l++[e]
def Sw (a b:List Bool):List Bool:=eE (· || ·) a b
def Js (a b:List (Bool×Bool)):List (Bool×Bool):=eE (fun x y=>(x.1||y.1,x.2||y.2)) a b
def ee (a b:Pa):Pa:=(Sw a.1 b.1,Js a.2.1 b.2.1,Xg (b.2.2.foldl Nk a.2.2))
structure mo (N:Nat) (c:Pa):Prop where
 p:c.1.length=N
 w:c.2.1.length=N
 e:c.2.2.length<=1000000
theorem TY (l:List Ra) (e:Ra):(Nk l e).length<=l.length+1:=by unfold Nk;split<;>simp
theorem gw:∀ (es l:List Ra),(es.foldl Nk l).length<=l.length+es.length
 |[],l=>by simp
 |e::es,l=>by
  have h1:=gw es (Nk l e);have h2:=TY l e;rw [tB,List.length_cons];omega
theorem Eai (a b:Ra):((decide (a.1=b.1))&&((decide (a.2=b.2))&&true))=decide (a=b):=by
 obtain ⟨a1,a2⟩:=a;obtain ⟨b1,b2⟩:=b;by_cases h1:a1=b1<;>by_cases h2:a2=b2<;>simp [h1,h2]
theorem O3 (x:Ra) (l:List Ra) (hl:l.length<=9223372036854775807):∃ r,Cw (x,l)=some r/\(0<=r↔x∈l):=by
 unfold Cw dG;obtain ⟨e,h1,h2⟩:=Nh (n:=l.length) (step:=Ln.m ((nt (fa l)),(x,l))) hl (fun k=>∀ j,j<k->x≠gx l j Zb) (fun e=>(∃ i:Int,e= .inl i/\0<=i/\x∈l)\/(∃ u,e= .inr u/\x∉l)) (fun j h=>absurd h (Xi _)) (fun i hi hI=>by
   have h':(i:Int)<(l.length:Int):=by omega
   simp only [LD.m,Ln,nt,h',decide_true,cond_true,Rh hi,Xa,Ca,Eai];refine qh (fun h=>lj (.inl ⟨_,rfl,by omega,?_⟩)) fun h=>vx fun j hj=> ?_
   · rw [of_decide_eq_true h];exact jb (jh (d:=Zb) hi)
   · by_cases e:j=i
     · subst e;exact of_decide_eq_false h
     · exact hI j (by omega)) (fun hI=>by
   simp only [LD.m,Ln,nt,Mb,decide_false,cond_false];refine ⟨_,rfl,.inr ⟨(),rfl,fun hx=> ?_⟩⟩;obtain ⟨j,hj⟩:=FB.1 hx;exact hI j (Ua hj) (kp hj).symm)
 rw [h1,da];rcases h2 with ⟨i,rfl,h0,hx⟩|⟨u,rfl,hx⟩
 · exact ⟨i,rfl,⟨fun _=>hx,fun _=>h0⟩⟩
 · exact ⟨-1,rfl,⟨fun h=>absurd h (by decide),fun h=>absurd h hx⟩⟩
theorem s_ (x:Ra) (l:List Ra) (hl:l.length<=9223372036854775807):EA (x,l)=some (decide (x∈l)):=by
 obtain ⟨r,h1,h2⟩:=O3 x l hl;unfold EA pN;simp only;rw [h1,da];congr 1;exact decide_eq_decide.2 h2
theorem NF (e:Ra) (z:Int) (P:List Bool) (W:List (Bool×Bool)) (l:List Ra) (hl:l.length<=9223372036854775807):Kg ((3,(z,e)),P,W,l)=some (decide (e∈l)):=by
 have h:Kg ((3,(z,e)),P,W,l)=(EA (e,l)).bind fun r=>some r:=rfl
 rw [h,s_ e l hl];rfl
theorem FN (i:Nat) (e:Ra) (P:List Bool) (W:List (Bool×Bool)) (l:List Ra) (hi:i<P.length):Kg ((0,((i:Int),e)),P,W,l)=some (gx P i false):=by
 have h':(i:Int)<(P.length:Int):=by omega
 simp only [Kg,vD,nt,decide_true,cond_true,h',Rh hi,Xa,Ca]
theorem EN (i:Nat) (e:Ra) (P:List Bool) (W:List (Bool×Bool)) (l:List Ra) (hi:i<W.length):Kg ((1,((i:Int),e)),P,W,l)=some (gx W i (false,false)).1/\Kg ((2,((i:Int),e)),P,W,l)=some (gx W i (false,false)).2:=by
 have h':(i:Int)<(W.length:Int):=by omega
 have w1:Ga (1-1)=0:=by decide
 have w2:Ga (2-1)=1:=by decide
 constructor
 · simp only [Kg,vD,nt,oC,decide_true,decide_false,cond_true,cond_false,h',Rh hi,Xa,Ca,w1]
 · simp only [Kg,vD,nt,oC,decide_true,decide_false,cond_true,cond_false,h',Rh hi,Xa,Ca,w2]
section
variable (P:List Bool) (W:List (Bool×Bool)) (E:List Ra)
theorem Naf {i:Nat} (z1 z2:Int) (hi:i<P.length):Ld (0,(i:Int),z1,z2,P,W,E)=some (.inl (P.set i true,W)):=by
 simp only [Ld,Ki,decide_true,cond_true,Rh hi,Xa,Ca]
theorem Pab {i:Nat} (z1 z2:Int) (hi:i<W.length):Ld (1,(i:Int),z1,z2,P,W,E)=some (.inl (P,W.set i (true,(gx W i (false,false)).2))):=by
 have w1:Ga (1-1)=0:=by decide
 have d:(1:Int)<3:=by decide
 simp only [Ld,Ki,oC,d,decide_true,decide_false,cond_true,cond_false,Rh hi,Xa,Ca,w1]
theorem Oab {i:Nat} (z1 z2:Int) (hi:i<W.length):Ld (2,(i:Int),z1,z2,P,W,E)=some (.inl (P,W.set i ((gx W i (false,false)).1,true))):=by
 have w1:Ga (2-1)=1:=by decide
 have d:(2:Int)<3:=by decide
 simp only [Ld,Ki,oC,d,decide_true,decide_false,cond_true,cond_false,Rh hi,Xa,Ca,w1]
theorem Oaf (z:Int) (e:Ra) (hE:E.length<=3000000):Ld (3,z,e.1,e.2,P,W,E)=some (if e∈E then .inl (P,W) else .inr (E++[e])):=by
 have d:¬ (3:Int)<3:=by decide
 have h3:Kg ((3,(z,(e.1,e.2))),P,W,E)=some (decide (e∈E)):=NF e z P W E (by omega);have b:(decide ((E.length+fa ([(e.1,e.2)]:List Ra)) * 16<=70368744177664)&&decide (E.length+fa ([(e.1,e.2)]:List Ra)<9223372036854775808))=true:=by
   simp only [Ia,decide_eq_true_eq,ur];omega
 simp only [Ld,Ki,oC,d,decide_true,decide_false,cond_true,cond_false,h3,da];by_cases h:e∈E
 · simp only [h,decide_true,Yl,cond_false,if_true]
 · simp only [h,decide_false,Ve,cond_true,if_false];exact Fe b
end
theorem WS {P Q:List Bool} {i:Nat} (hl:P.length=Q.length) (hi:i<Q.length):(Sw (P.take i) (Q.take i)++P.drop i).set i (gx P i false||gx Q i false)=Sw (P.take (i+1)) (Q.take (i+1))++P.drop (i+1):=by
 have e1:(Sw (P.take i) (Q.take i)).length=i:=by simp [Sw];omega
 have e2:P.drop i=gx P i false::P.drop (i+1):=by
  rw [List.drop_eq_getElem_cons (by omega)];congr 1;have:=jh (d:=false) (show i<P.length by omega);rw [ya (by omega)] at this;exact qk this
 rw [tE e1.symm,e2,List.set_cons_zero,Qg false (show i<P.length by omega),Qg false hi];unfold Sw;rw [List.zipWith_append (by rw [dc,dc];omega),od];rfl
theorem UM {α:Type} {l r:List α} {d x:α} {i:Nat} (h:l.length=i):gx (l++x::r) i d=x:=by
 subst h;simp [gx]
theorem TG {α:Type} {l:List α} {i:Nat} {d:α} (h:i<l.length):l.set i (gx l i d)=l:=by
 apply List.ext_getElem?;intro j;rw [Kb];split
 · rename_i e;subst e;exact (jh (d:=d) h).symm
 · rfl
theorem jG {α:Type} {l:List α} {i:Nat} (d:α) (h:i<l.length):l.drop i=gx l i d::l.drop (i+1):=by
 rw [List.drop_eq_getElem_cons h];congr 1;have:=jh (d:=d) h;rw [ya h] at this;exact qk this
theorem TS {P Q:List (Bool×Bool)} {i:Nat} (hl:P.length=Q.length) (hi:i<Q.length):(Js (P.take i) (Q.take i)++P.drop i).set i ((gx P i (false,false)).1||(gx Q i (false,false)).1,(gx P i (false,false)).2||(gx Q i (false,false)).2)=Js (P.take (i+1)) (Q.take (i+1))++P.drop (i+1):=by
 have e1:(Js (P.take i) (Q.take i)).length=i:=by simp [Js];omega
 rw [tE e1.symm,jG (false,false) (show i<P.length by omega),List.set_cons_zero,Qg (false,false) (show i<P.length by omega),Qg (false,false) hi];unfold Js;rw [List.zipWith_append (by rw [dc,dc];omega),od];rfl
section
variable (P:List Bool) (W:List (Bool×Bool)) (E:List Ra) (c:Pa)
theorem zW (Q:List Bool) (hP:P.length=Q.length) (hQ:Q.length<=9223372036854775807):Oa (Ap.m (Q,nt Q.length,c)) (0,P,W,E)=some (Sw P Q,W,E):=by
 have:=Md (step:=Ap.m (Q,nt Q.length,c)) (n:=Q.length) (fun i=>((i:Int),Sw (P.take i) (Q.take i)++P.drop i,W,E)) (Sw P Q,W,E) (by omega) (fun t=>Q.length-t.1.toNat) (fun i _=>by simp) (fun i hi=>by
  have h':(i:Int)<(Q.length:Int):=by omega
  have w:Ga ((i:Int)+1)=((i+1:Nat):Int):=by rw [Sb (by omega) (by omega)];rfl
  have e1:(Sw (P.take i) (Q.take i)).length=i:=by simp [Sw];omega
  have nc:i<(Sw (P.take i) (Q.take i)++P.drop i).length:=by rw [Td,e1,Ll];omega
  have hg:gx (Sw (P.take i) (Q.take i)++P.drop i) i false=gx P i false:=by rw [jG false (show i<P.length by omega)];exact UM e1
  have ht:=WS hP hi;simp only [LD.m,Ap,nt,h',decide_true,cond_true,Rh hi,Xa,Ca,w];cases hq:gx Q i false
  · rw [hq,Bool.or_false,<- hg,TG nc] at ht;simp only [cond_false,ht]
  · rw [hq,Bool.or_true] at ht;simp only [cond_true,Naf _ _ _ _ _ nc,da,Sum.elim_inl,ht]) (by
  simp only [LD.m,Ap,nt,Mb,decide_false,cond_false];rw [Ue (Ch hP),po,List.drop_of_length_le (Ch hP),yj])
 simpa [Sw] using this
theorem xW (i:Nat) (z1:List (Bool×Bool)) (z2 z3:Int) (w:Bool×Bool) (hi:i<W.length):Oa (Dj.m ((i:Int),z1,z2,z3,w,c)) (0,P,W,E)=some (P,W.set i ((gx W i (false,false)).1||w.1,(gx W i (false,false)).2||w.2),E):=by
 obtain ⟨W1,P5⟩:∃ W1,(if w.1=true then W.set i (true,(gx W i (false,false)).2) else W)=W1:=⟨_,rfl⟩;have iJ:i<W1.length:=by rw [<- P5];split<;>simpa using hi
 obtain ⟨W2,G'⟩:∃ W2,(if w.2=true then W1.set i ((gx W1 i (false,false)).1,true) else W1)=W2:=⟨_,rfl⟩;have w0:Ga ((0:Int)+1)=1:=by decide
 have w1:Ga ((1:Int)+1)=2:=by decide
 have w2:Ga ((1:Int)+0)=1:=by decide
 have d0:(0:Int)<2:=by decide
 have d1:(1:Int)<2:=by decide
 have d2:¬ (1:Int)=0:=by decide
 have s0:Dj.m ((i:Int),z1,z2,z3,w,c) (0,P,W,E)=some (.inl (1,P,W1,E)):=by
  simp only [LD.m,Dj,d0,decide_true,cond_true,w0,w2];cases h:w.1
  · rw [h] at P5;simp at P5;subst P5;rfl
  · rw [h] at P5;simp at P5;subst P5;simp only [cond_true,Pab _ _ _ _ _ hi,da,Sum.elim_inl]
 have s1:Dj.m ((i:Int),z1,z2,z3,w,c) (1,P,W1,E)=some (.inl (2,P,W2,E)):=by
  simp only [LD.m,Dj,d1,d2,decide_true,decide_false,cond_true,cond_false,w1];cases h:w.2
  · rw [h] at G';simp at G';subst G';rfl
  · rw [h] at G';simp at G';subst G';simp only [cond_true,Oab _ _ _ _ _ iJ,da,Sum.elim_inl]
 have s2:Dj.m ((i:Int),z1,z2,z3,w,c) (2,P,W2,E)=some (.inr (P,W2,E)):=by
  simp only [LD.m,Dj,Mb,decide_false,cond_false]
 have hf:W2=W.set i ((gx W i (false,false)).1||w.1,(gx W i (false,false)).2||w.2):=by
  rw [<- G',<- P5];have hs:=TG (d:=(false,false)) hi;have hgs:∀ x:Bool×Bool,gx (W.set i x) i (false,false)=x:=fun x=>by rw [dw hi,if_pos rfl]
  cases h1:w.1<;>cases h2:w.2<;>simp [hs,hgs]
 have:=Md (step:=Dj.m ((i:Int),z1,z2,z3,w,c)) (n:=2) (fun k=>if k=0 then (0,P,W,E) else if k=1 then (1,P,W1,E) else (2,P,W2,E)) (P,W2,E) (by decide) (fun t=>2-t.1.toNat) (fun k hk=>by
  obtain rfl|rfl|rfl:k=0\/k=1\/k=2:=by omega
  · rfl
  · rfl
  · rfl) (fun k hk=>by
  obtain rfl|rfl:k=0\/k=1:=by omega
  · exact s0
  · exact s1) s2
 rw [<- hf];exact this
theorem yW (Q:List (Bool×Bool)) (hP:W.length=Q.length) (hQ:Q.length<=9223372036854775807):Oa (zp.m (Q,nt Q.length,c)) (0,P,W,E)=some (P,Js W Q,E):=by
 have:=Md (step:=zp.m (Q,nt Q.length,c)) (n:=Q.length) (fun i=>((i:Int),P,Js (W.take i) (Q.take i)++W.drop i,E)) (P,Js W Q,E) (by omega) (fun t=>Q.length-t.1.toNat) (fun i _=>by simp) (fun i hi=>by
  have h':(i:Int)<(Q.length:Int):=by omega
  have w:Ga ((i:Int)+1)=((i+1:Nat):Int):=by rw [Sb (by omega) (by omega)];rfl
  have e1:(Js (W.take i) (Q.take i)).length=i:=by simp [Js];omega
  have nc:i<(Js (W.take i) (Q.take i)++W.drop i).length:=by rw [Td,e1,Ll];omega
  have hg:gx (Js (W.take i) (Q.take i)++W.drop i) i (false,false)=gx W i (false,false):=by rw [jG (false,false) (show i<W.length by omega)];exact UM e1
  have ht:=TS hP hi;have h9:=xW P (Js (W.take i) (Q.take i)++W.drop i) E c i Q (nt Q.length) (i:Int) (gx Q i (false,false)) nc;rw [hg,ht] at h9;simp only [nt] at h9;simp only [LD.m,zp,nt,h',decide_true,cond_true,Rh hi,Xa,Ca,w];rw [h9,da]) (by
  simp only [LD.m,zp,nt,Mb,decide_false,cond_false];rw [Ue (Ch hP),po,List.drop_of_length_le (Ch hP),yj])
 simpa [Js] using this
theorem uQ (Q:List Ra) (hE:E.length<=1000000) (hQ:Q.length<=1000000):Oa (Yk.m (Q,nt Q.length,c)) (0,P,W,E)=some (P,W,Q.foldl Nk E):=by
 have:=Md (step:=Yk.m (Q,nt Q.length,c)) (n:=Q.length) (fun i=>((i:Int),P,W,(Q.take i).foldl Nk E)) (P,W,Q.foldl Nk E) (by omega) (fun t=>Q.length-t.1.toNat) (fun i _=>by simp) (fun i hi=>by
  have h':(i:Int)<(Q.length:Int):=by omega
  have w:Ga ((i:Int)+1)=((i+1:Nat):Int):=by rw [Sb (by omega) (by omega)];rfl
  have hl:((Q.take i).foldl Nk E).length<=3000000:=by
   have:=gw (Q.take i) E;rw [dc] at this;omega
  simp only [LD.m,Yk,nt,h',decide_true,cond_true,Rh hi,Xa,Ca,w];rw [Oaf _ _ _ _ _ hl,da,Qg Zb hi,List.foldl_append,tB,List.foldl_nil];unfold Nk;split<;>rfl) (by
  simp only [LD.m,Yk,nt,Mb,decide_false,cond_false,po])
 exact this
end
theorem dB {α:Type} {n:Nat} {l:List α} (h:l.length<=3000000) (hn:n<=16):clone n l=some l:=by
 unfold clone;have:l.length * n<=3000000 * 16:=Nat.mul_le_mul h hn;exact Fe (by simp only [Ia,decide_eq_true_eq];omega)
theorem wL {N:Nat} (hN:N<=4096) {a b:Pa} (ha:mo N a) (hb:mo N b):Rr (b,a.1,a.2.1,a.2.2)=some (ee a b):=by
 have hp:b.1.length<=4096:=by rw [hb.p];exact hN
 have c1:IN a.1=some a.1:=dB (by rw [ha.p];omega) (by decide);have c2:HN a.2.1=some a.2.1:=dB (by rw [ha.w];omega) (by decide);have c3:GN a.2.2=some a.2.2:=dB (by have:=ha.e;omega) (by decide);unfold Rr aO;simp only [c1,c2,c3,da,PD.m,OA];have h69:qD (b,a.1,a.2.1,a.2.2)=some (Sw a.1 b.1,Js a.2.1 b.2.1,b.2.2.foldl Nk a.2.2):=by
  unfold qD uN;simp only;rw [zW a.1 a.2.1 a.2.2 b b.1 (by rw [ha.p,hb.p]) (by omega),da];simp only;rw [yW (Sw a.1 b.1) a.2.1 a.2.2 b b.2.1 (by rw [ha.w,hb.w]) (by rw [hb.w];omega),da];simp only;rw [uQ (Sw a.1 b.1) (Js a.2.1 b.2.1) a.2.2 b b.2.2 ha.e hb.e,da]
 rw [h69,da];simp only [da];have hl:=gw b.2.2 a.2.2;have h51:uD (b.2.2.foldl Nk a.2.2)=some (Xg (b.2.2.foldl Nk a.2.2)):=Fe (by simp only [decide_eq_true_eq];have:=ha.e;have:=hb.e;omega);rw [h51,da];rfl
end Go.U
end
