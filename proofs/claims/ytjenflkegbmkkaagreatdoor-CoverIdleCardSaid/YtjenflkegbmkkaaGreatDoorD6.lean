/- What these Lean functions compute: plain arithmetic of congruences, the checks of a graph, the values of its registers. -/
import Derived.Test.YtjenflkegbmkkaaGreatDoorD5
set_option linter.unusedVariables false
set_option linter.unusedSimpArgs false
set_option linter.unusedSectionVars false
open Bool renaming and_eq_true→Ia,not_true→Xl,not_false→Ve
open Int renaming le_refl→bh,eq_ofNat_of_zero_le→Yr,toNat_natCast→Ca,lt_irrefl→Mb,toNat→ga,reduceEq→oC
open List renaming getD_eq_getElem?_getD→Ea,getElem?_set→Kb,getElem?_eq_none→mb,foldl_cons→vB,replicate→Ja,getElem?_map→Ob,getElem?_eq_getElem→ya,append_assoc→od,length_append→Ud,length_replicate→Ji,map_append→Zu,take_length→qo,length→fa,length_singleton→Ar,length_map→Ec,length_take→dc,zipWith→cE,mem_of_getElem?→jb,mem_iff_getElem?→GB,length_drop→Kl,take_of_length_le→Ue,append_nil→Qm
open Nat renaming mul_le_mul_right→Vb,add_mul→Ce,le_refl→oa,le_of_lt→Hr,le_trans→Ib,not_lt_zero→Xi,le_of_eq→Ch
open Option renaming bind_some→da
open Option.some renaming inj→nk
section
set_option maxRecDepth 20000
namespace Go.U
open Go
structure Kp (sc:List Int) (x:Fb) (m m':M):Prop where
 rg:m'.rg.length=m.rg.length
 al:m'.ar.length=m.ar.length
 az:∀ i,(gx m'.ar i []).length=(gx m.ar i []).length
 ma:m'.ma.length<=64
 re:0<=m'.re/\m'.re<=sc.length
 fu:0<=m'.fu/\m'.fu<=m.fu
 sp:(x.1=17\/x.1=20)->m'.en=0->m'.fu<m.fu
 pl:m'.en=0->m'.at_=m.at_\/(x.1=15/\m'.at_=x.2.2.2.2.2.2.2)
 no:x.1=21->m'.en≠0
 er:m'.en=1->m'.si=x.2.2.2.2.2.1/\1<=m'.ki/\m'.ki<=5
theorem Ed {α:Type} {P:α->Prop} {c:Prop} [Decidable c] {a b:α} (ha:c->P a) (hb:¬ c->P b):P (if c then a else b):=by by_cases h:c<;>simp only [h,if_true,if_false]<;>first|exact ha h|exact hb h
section
variable {g:Ba} {sc:List Int} {x:Fb} {m:M} (h1:m.ma.length<=64) (h2:0<=m.re/\m.re<=sc.length) (h3:0<=m.fu) (h4:m.en=0)
include h1 h2 h3 h4
theorem TC {i v:Int} (hs:¬ (x.1=17\/x.1=20)) (hn:x.1≠21):Kp sc x m (m.wr i v):=⟨by simp [M.wr],rfl,fun _=>rfl,h1,h2,⟨h3,bh _⟩,fun h=>absurd h hs,fun _=> .inl rfl,fun h=>absurd h hn,fun h=>by simp [M.wr,h4] at h⟩
theorem Oj {v:Int} (hv:1<=v/\v<=5):Kp sc x m (m.fail x.2.2.2.2.2.1 v):=⟨rfl,rfl,fun _=>rfl,h1,h2,⟨h3,bh _⟩,fun _ h=>by simp [M.fail] at h,fun _=> .inl rfl,fun _=>by simp [M.fail],fun _=>⟨rfl,hv⟩⟩
theorem Ms {v:Int} {c:Bool} (hs:¬ (x.1=17\/x.1=20)) (hn:x.1≠21):Kp sc x m (m.RY x v c):=by
 unfold M.RY;cases (c&& !(HB v 3))
 · exact TC h1 h2 h3 h4 hs hn
 · exact Oj h1 h2 h3 h4 (by decide)
theorem Iy {e:Int} (he:e≠0/\e≠1):Kp sc x m { m with en:=e }:=⟨rfl,rfl,fun _=>rfl,h1,h2,⟨h3,bh _⟩,fun _ h=>absurd h he.1,fun _=> .inl rfl,fun _=>he.1,fun h=>absurd h he.2⟩
theorem yM (hs:¬ (x.1=17\/x.1=20)) (hn:x.1≠21):Kp sc x m m:=⟨rfl,rfl,fun _=>rfl,h1,h2,⟨h3,bh _⟩,fun h=>absurd h hs,fun _=> .inl rfl,fun h=>absurd h hn,fun h=>by rw [h4] at h;cases h⟩
theorem AS (qA:1<=x.1/\x.1<=21):Kp sc x m (CC g sc x m):=by
 unfold CC
 dsimp only
 refine Ed (fun e1=>TC h1 h2 h3 h4 (by omega) (by omega)) fun e1=> ?_
 refine Ed (fun e2=>Ms h1 h2 h3 h4 (by omega) (by omega)) fun e2=> ?_
 refine Ed (fun e3=>Ms h1 h2 h3 h4 (by omega) (by omega)) fun e3=> ?_
 refine Ed (fun e4=>Ms h1 h2 h3 h4 (by omega) (by omega)) fun e4=> ?_
 refine Ed (fun e5=>Ms h1 h2 h3 h4 (by omega) (by omega)) fun e5=> ?_
 refine Ed (fun e6=>Ms h1 h2 h3 h4 (by omega) (by omega)) fun e6=> ?_
 refine Ed (fun e7=>Ed (fun _=>Oj h1 h2 h3 h4 (by decide)) fun _=>Ed (fun _=>Oj h1 h2 h3 h4 (by decide)) fun _=>TC h1 h2 h3 h4 (by omega) (by omega)) fun e7=> ?_
 refine Ed (fun e8=>Ed (fun _=>Oj h1 h2 h3 h4 (by decide)) fun _=>TC h1 h2 h3 h4 (by omega) (by omega)) fun e8=> ?_
 refine Ed (fun e9=>Ms h1 h2 h3 h4 (by omega) (by omega)) fun e9=> ?_
 refine Ed (fun aB=>Ms h1 h2 h3 h4 (by omega) (by omega)) fun aB=> ?_
 refine Ed (fun sO=>Ed (fun _=>Oj h1 h2 h3 h4 (by decide)) fun _=>TC h1 h2 h3 h4 (by omega) (by omega)) fun sO=> ?_
 refine Ed (fun DR=>Ed (fun _=>Iy h1 h2 h3 h4 (by decide)) fun Nc=>Ed (fun _=>
  ⟨rfl,rfl,fun _=>rfl,h1,⟨by simp only;omega,by simp only;omega⟩,⟨h3,bh _⟩,fun _ h=>by simp at h,fun _=> .inl rfl,fun _=>by simp,fun h=>by simp at h⟩) fun _=>
  ⟨by simp,rfl,fun _=>rfl,h1,⟨by simp only;omega,by simp only;omega⟩,⟨h3,bh _⟩,fun h=>by omega,fun _=> .inl rfl,fun h=>by omega,fun h=>by rw [h4] at h;cases h⟩) fun DR=> ?_
 refine Ed (fun CR=>Ed (fun _=>TC h1 h2 h3 h4 (by omega) (by omega)) fun _=>Oj h1 h2 h3 h4 (by decide)) fun CR=> ?_
 refine Ed (fun oJ=>Ed (fun _=>Oj h1 h2 h3 h4 (by decide)) fun _=>Ed (fun _=>
  ⟨rfl,by simp,fun i=>by
   simp only [gx,Ea,Kb];split
   · split
     · rename_i e _;subst e;simp
     · rename_i e k;subst e;rw [mb (by omega)]
   · rfl,h1,h2,⟨h3,bh _⟩,fun h=>by omega,fun _=> .inl rfl,fun h=>by omega,fun h=>by rw [h4] at h;cases h⟩) fun _=>Oj h1 h2 h3 h4 (by decide)) fun oJ=> ?_
 refine Ed (fun I7=>Ed (fun _=>yM h1 h2 h3 h4 (by omega) (by omega)) fun _=>⟨rfl,rfl,fun _=>rfl,h1,h2,⟨h3,bh _⟩,fun h=>by omega,fun _=> .inr ⟨I7,rfl⟩,fun h=>by omega,fun h=>by rw [h4] at h;cases h⟩) fun I7=> ?_
 refine Ed (fun e17=>Ed (fun _=>Iy h1 h2 h3 h4 (by decide)) fun _=>Ed (fun _=>Iy h1 h2 h3 h4 (by decide)) fun hz=>Ed (fun hm=>
  ⟨rfl,rfl,fun _=>rfl,by simp;omega,h2,⟨by simp only;omega,by simp only;omega⟩,fun _ _=>by simp only;omega,fun _=> .inl rfl,fun h=>by omega,fun h=>by rw [h4] at h;cases h⟩) fun _=>
  ⟨rfl,rfl,fun _=>rfl,h1,h2,⟨by simp only;omega,by simp only;omega⟩,fun _ _=>by simp only;omega,fun _=> .inl rfl,fun h=>by omega,fun h=>by rw [h4] at h;cases h⟩) fun e17=> ?_
 refine Ed (fun e18=>⟨rfl,rfl,fun _=>rfl,h1,h2,⟨h3,bh _⟩,fun h=>by omega,fun _=> .inl rfl,fun h=>by omega,fun h=>by rw [h4] at h;cases h⟩) fun e18=> ?_
 refine Ed (fun e20=>Ed (fun _=>Iy h1 h2 h3 h4 (by decide)) fun hz=>⟨rfl,rfl,fun _=>rfl,h1,h2,⟨by simp only;omega,by simp only;omega⟩,fun _ _=>by simp only;omega,fun _=> .inl rfl,fun h=>by omega,fun h=>by rw [h4] at h;cases h⟩) fun e20=> ?_
 exact Ed (fun _=>Oj h1 h2 h3 h4 (by decide)) fun e21=>yM h1 h2 h3 h4 (by omega) (by omega)
end
def mu (g:Ba) (rk:Nat->Nat) (m:M):Nat:=if m.en=0 then m.fu.toNat * (g.1.length+1)+rk m.at_.toNat+1 else 0
section
variable {g:Ba} {D:List Int} {sc:List Int} {m:M}
theorem Inv.Pt (hF:Ng g D) (hI:Inv g sc m) (he:m.en=0):Inv g sc (step g sc m)/\∀ rk,Mw g rk->mu g rk (step g sc m)<mu g rk m:=by
 obtain ⟨h0,U'⟩:=hI.at0 he;obtain ⟨j,hj⟩:=Yr h0;have GG:j<g.1.length:=by omega
 have hG:=hF.xK j GG;have Wb:step g sc m=CC g sc (at' g j) (m.to (EE (at' g j))):=by unfold Go.U.step;rw [hj];rfl
 have k:=AS (g:=g) (sc:=sc) (x:=at' g j) (m:=m.to (EE (at' g j))) hI.ma hI.re hI.fu.1 he hG.op;rw [<- Wb] at k;have VB:(Go.U.step g sc m).en=0->0<=(Go.U.step g sc m).at_/\(Go.U.step g sc m).at_<(g.1.length:Int)/\((Go.U.step g sc m).at_=(at' g j).2.2.2.2.2.2.1\/(Go.U.step g sc m).at_=(at' g j).2.2.2.2.2.2.2):=fun aU=>by
   obtain ⟨n1,n2,n3⟩:=hG.Pt;rcases k.pl aU with h|⟨uZ,h⟩
   · have h:(Go.U.step g sc m).at_=(at' g j).2.2.2.2.2.2.1:=h;by_cases uZ:(at' g j).1=15
     · have:=n1 uZ;exact ⟨by omega,by omega,.inl h⟩
     · by_cases h21:(at' g j).1=21
       · exact absurd aU (k.no h21)
       · have:=n3 uZ h21;exact ⟨by omega,by omega,.inl h⟩
   · have:=n1 uZ;exact ⟨by omega,by omega,.inr h⟩
 refine ⟨⟨fun aU=>⟨(VB aU).1,(VB aU).2.1⟩,by rw [k.rg];exact hI.rg,by rw [k.al];exact hI.al,fun i hi=>by rw [k.az];exact hI.az i hi,k.ma,k.re,⟨k.fu.1,Int.le_trans k.fu.2 hI.fu.2⟩,fun aU=>⟨j,GG,k.er aU⟩⟩,fun rk hr=> ?_⟩;have hm:mu g rk m=m.fu.toNat * (g.1.length+1)+rk j+1:=by unfold mu;rw [if_pos he,hj];rfl
 rw [hm];unfold mu;split
 · rename_i aU;obtain ⟨p1,p2,p3⟩:=VB aU;obtain ⟨i,hi⟩:=Yr p1;rw [hi,Ca];have XE:i<g.1.length:=by omega
   have Ci:(Go.U.step g sc m).fu<=m.fu:=k.fu.2;obtain ⟨r1,r2⟩:=hr j GG;rcases r2 with r2|r2|r2
   · have nc:(Go.U.step g sc m).fu<m.fu:=k.sp (.inl r2) aU;have:=(hr i XE).1;have h3:(Go.U.step g sc m).fu.toNat+1<=m.fu.toNat:=by have:=k.fu.1;omega
     have:=Vb (g.1.length+1) h3;rw [Ce] at this;omega
   · have nc:(Go.U.step g sc m).fu<m.fu:=k.sp (.inr r2) aU;have:=(hr i XE).1;have h3:(Go.U.step g sc m).fu.toNat+1<=m.fu.toNat:=by have:=k.fu.1;omega
     have:=Vb (g.1.length+1) h3;rw [Ce] at this;omega
   · have hd:rk i<rk j:=by
       rcases r2 _ p3 with h|h
       · omega
       · rw [hi,Ca] at h;exact h
     have h3:(Go.U.step g sc m).fu.toNat<=m.fu.toNat:=by omega
     have:=Vb (g.1.length+1) h3;omega
 · omega
def trace (g:Ba) (sc:List Int):Nat->M->List M
 |0,_=>[]
 |n+1,m=>if m.en=0 then m::trace g sc n (Go.U.step g sc m) else []
def last (g:Ba) (sc:List Int):Nat->M->M
 |0,m=>m
 |n+1,m=>if m.en=0 then last g sc n (Go.U.step g sc m) else m
theorem gH (hF:Ng g D) (hI:Inv g sc m) {rk:Nat->Nat} (hr:Mw g rk):mu g rk m<10000000000:=by
 unfold mu;split
 · rename_i he;obtain ⟨h0,U'⟩:=hI.at0 he;have h1:=(hr m.at_.toNat (by omega)).1;have h2:=hF.N;have h3:=hI.fu;have h4:m.fu.toNat<=1000000:=by omega
   have:=Nat.mul_le_mul h4 (show g.1.length+1<=4097 by omega);omega
 · omega
theorem walk {T O:Type} {S:T->Option (T ⊕ T)} (enc:O->M->T) (dec:T->M) (C1:∀ o m,dec (enc o m)=m) (f:O->M->O) (J:O->Prop) (hF:Ng g D)
  (hJ:∀ o m,J o->0<=m.at_/\m.at_<(g.1.length:Int)->J (f o m))
  (hS:∀ o m,Inv g sc m->J o->S (enc o m)=if m.en=0 then some (.inl (enc (f o m) (Go.U.step g sc m))) else some (.inr (enc o m)))
  {rk:Nat->Nat} (hr:Mw g rk) {o:O} {m:M} (hI:Inv g sc m) (hO:J o) {n:Nat} (hn:mu g rk m<=n):Oa S (enc o m)=some (enc ((trace g sc n m).foldl f o) (last g sc n m))/\(last g sc n m).en≠0/\Inv g sc (last g sc n m)/\J ((trace g sc n m).foldl f o):=by
 have key:∀ (n:Nat) (o:O) (m:M),Inv g sc m->J o->mu g rk m<=n->∀ k,mu g rk m<k->Yn S k (enc o m)=some (enc ((trace g sc n m).foldl f o) (last g sc n m))/\(last g sc n m).en≠0/\Inv g sc (last g sc n m)/\J ((trace g sc n m).foldl f o):=by
  intro n;induction n with
  |zero=>
   intro o m hI hO hn k hk;have he:m.en≠0:=fun he=>by unfold mu at hn;rw [if_pos he] at hn;omega
   cases k with
   |zero=>omega
   |succ k=>
    refine ⟨?_,he,hI,hO⟩;simp only [Yn,hS o m hI hO,if_neg he,da,trace,last,List.foldl_nil]
  |succ n ih=>
   intro o m hI hO hn k hk;cases k with
   |zero=>omega
   |succ k=>
    by_cases he:m.en=0
    · obtain ⟨i1,i2⟩:=hI.Pt hF he;have i3:=i2 rk hr;obtain ⟨q1,q2,q3,q4⟩:=ih (f o m) (Go.U.step g sc m) i1 (hJ o m hO (hI.at0 he)) (by omega) k (by omega);simp only [Yn,hS o m hI hO,if_pos he,da,trace,last,vB];exact ⟨q1,q2,q3,q4⟩
    · refine ⟨?_,by simpa only [last,if_neg he] using he,by simpa only [last,if_neg he] using hI,by simp only [trace,if_neg he,List.foldl_nil];exact hO⟩;simp only [Yn,hS o m hI hO,if_neg he,da,trace,last,List.foldl_nil]
 exact key n o m hI hO hn 18446744073709551616 (Nat.lt_trans (gH hF hI hr) (by decide))
end
end Go.U
end
section
set_option maxRecDepth 20000
namespace Go.U
open Go
def IC (g:Ba):List Int:=(yg g).map (fun s=>s.2.2)++Ja (g.2.2.1.toNat-(yg g).length) 0
def pB (g:Ba):List (List Int):=(Xe g).map fun a=>Ja a.2.2.1.toNat a.2.2.2
def m0 (g:Ba) (fu:Int):M:=⟨max fu 0,0,0,0,0,0,0,IC g,pB g,[]⟩
theorem V' {α β:Type} {l:List α} {f:α->β} {i:Nat} {d:α} {d':β} (h:i<l.length):gx (l.map f) i d'=f (gx l i d):=by
 simp only [gx,Ea,Ob];rw [ya h];rfl
theorem sE {α:Type} {l r:List α} {x:α} {i:Nat} (h:i=l.length):(l++r).set i x=l++r.set 0 x:=by
 subst h;rw [List.set_append_right _ _ (oa _),Nat.sub_self]
theorem kD {α:Type} {l:List α} {x y:α} {n i:Nat} (hl:l.length=i) (hi:i<n):(l++Ja (n-i) x).set i y=l++[y]++Ja (n-(i+1)) x:=by
 rw [sE hl.symm,show n-i=(n-(i+1))+1 by omega,List.replicate_succ,List.set_cons_zero,od];rfl
section
variable {g:Ba} {D:List Int}
theorem Ng.LS (hF:Ng g D):∃ R:Nat,g.2.2.1=(R:Int)/\(yg g).length<=R/\R<=4160:=by
 have h1:=hF.defs.uE;have h2:=hF.defs.len;have h3:=hF.S;exact ⟨_,h1,by omega,by omega⟩
theorem QW (hF:Ng g D) (q):Oa (Ep.m ((yg g),nt (yg g).length,q)) (0,Ja g.2.2.1.toNat 0)=some (IC g):=by
 obtain ⟨R,hR,hS,nJ⟩:=hF.LS;have h4:=hF.S;unfold IC;rw [hR,Ca];have:=Md (step:=Ep.m ((yg g),nt (yg g).length,q)) (n:=(yg g).length) (fun i=>((i:Int),((yg g).take i).map (fun s=>s.2.2)++Ja (R-i) 0)) ((yg g).map (fun s=>s.2.2)++Ja (R-(yg g).length) 0) (by omega) (fun t=>(yg g).length-t.1.toNat) (fun i _=>by simp) (fun i hi=>by
  have h':(i:Int)<((yg g).length:Int):=by omega
  have w:Ga ((i:Int)+1)=((i+1:Nat):Int):=by rw [Sb (by omega) (by omega)];rfl
  have hl:(((yg g).take i).map (fun s=>s.2.2)).length=i:=by simp;omega
  have nc:i<(((yg g).take i).map (fun s=>s.2.2)++Ja (R-i) (0:Int)).length:=by rw [Ud,hl,Ji];omega
  simp only [LD.m,Ep,nt,h',decide_true,cond_true,Rh hi,Xa,Ca,w,Rh nc];rw [kD hl (by omega),Qg Xc hi,Zu];rfl) (by
  simp only [LD.m,Ep,nt,Mb,decide_false,cond_false,qo])
 simpa using this
theorem yQ (l:List Tc) (z1 z2:Int) (x:Tc) (q r) (n:Nat) (hn:n<=256):Oa (Zk.m (l,z1,z2,(nt n),x,q,r)) (0,Ja n 0)=some (Ja n x.2.2.2):=by
 have:=Md (step:=Zk.m (l,z1,z2,(nt n),x,q,r)) (n:=n) (fun i=>((i:Int),Ja i x.2.2.2++Ja (n-i) 0)) (Ja n x.2.2.2) (by omega) (fun t=>n-t.1.toNat) (fun i _=>by simp) (fun i hi=>by
  have h':(i:Int)<(n:Int):=by omega
  have w:Ga ((i:Int)+1)=((i+1:Nat):Int):=by rw [Sb (by omega) (by omega)];rfl
  have nc:i<(Ja i x.2.2.2++Ja (n-i) (0:Int)).length:=by simp;omega
  simp only [LD.m,Zk,nt,h',decide_true,cond_true,Xa,Ca,w,Rh nc];rw [kD (by simp) (by omega),<- List.replicate_succ']) (by
  simp only [LD.m,Zk,nt,Mb,decide_false,cond_false];simp)
 simpa using this
theorem PW (hF:Ng g D) (q):Oa (Dp.m ((Xe g),nt (Xe g).length,q)) (0,[])=some (pB g):=by
 have hA:=hF.A;have:=Md (step:=Dp.m ((Xe g),nt (Xe g).length,q)) (n:=(Xe g).length) (fun i=>((i:Int),((Xe g).take i).map fun a=>Ja a.2.2.1.toNat a.2.2.2)) (pB g) (by omega) (fun t=>(Xe g).length-t.1.toNat) (fun i _=>by simp) (fun i hi=>by
  have h':(i:Int)<((Xe g).length:Int):=by omega
  have w:Ga ((i:Int)+1)=((i+1:Nat):Int):=by rw [Sb (by omega) (by omega)];rfl
  obtain ⟨_,_,s1,s2⟩:=hF.I.a i hi;have hl:(((Xe g).take i).map fun a=>Ja a.2.2.1.toNat a.2.2.2).length<=16:=by simp;omega
  have e:=Qg Bb hi;simp only [LD.m,Dp,nt,h',decide_true,cond_true,Rh hi,Xa,Ca,w];obtain ⟨y,hy⟩:∃ y,gx (Xe g) i Bb=y:=⟨_,rfl⟩;rw [hy] at s1 s2;refine (Fe (b:=decide (0<=(gx (Xe g) i Bb).2.2.1)&&decide ((gx (Xe g) i Bb).2.2.1<=(gx (Xe g) i Bb).2.2.1)&&decide (8 * (gx (Xe g) i Bb).2.2.1<=70368744177664)&&decide ((gx (Xe g) i Bb).2.2.1<9223372036854775808)) (by rw [hy];simp;omega)).trans ?_;have e2:=yQ (Xe g) ((Xe g).length:Int) (i:Int) (gx (Xe g) i Bb) q (((Xe g).take i).map fun a=>Ja a.2.2.1.toNat a.2.2.2) (gx (Xe g) i Bb).2.2.1.toNat (by rw [hy];omega);simp only [nt] at e2;rw [Ji,e2,da];refine (Fe (b:=decide ((((((Xe g).take i).map fun a=>Ja a.2.2.1.toNat a.2.2.2).length+fa ([Ja (gx (Xe g) i Bb).2.2.1.toNat (gx (Xe g) i Bb).2.2.2]:List (List Int))) * 24<=70368744177664))&&decide ((((Xe g).take i).map fun a=>Ja a.2.2.1.toNat a.2.2.2).length+fa ([Ja (gx (Xe g) i Bb).2.2.1.toNat (gx (Xe g) i Bb).2.2.2]:List (List Int))<9223372036854775808)) (by simp only [Ia,decide_eq_true_eq,Ar];omega)).trans ?_;rw [e,Zu];rfl) (by
  simp only [LD.m,Dp,nt,Mb,decide_false,cond_false,qo];rfl)
 exact this
theorem max_eq (fu:Int):(if 0>fu then 0 else fu)=max fu 0:=by
 rw [Int.max_def];split<;>split<;>omega
theorem O_ (hF:Ng g D) (sc:List Int) (fu:Int):sD (g,sc,fu)=some (max fu 0,IC g,pB g):=by
 obtain ⟨R,hR,hS,nJ⟩:=hF.LS;unfold sD DN;have b:(decide (0<=g.2.2.1)&&decide (g.2.2.1<=g.2.2.1)&&decide (8 * g.2.2.1<=70368744177664)&&decide (g.2.2.1<9223372036854775808))=true:=by
  rw [hR];simp;omega
 refine (Fe b).trans ?_;rw [QW hF,da,PW hF,da,max_eq]
theorem E8 (hF:Ng g D) (sc:List Int) {fu:Int} (Ci:fu<=1000000):Inv g sc (m0 g fu):=by
 obtain ⟨R,hR,hS,nJ⟩:=hF.LS;refine ⟨fun _=>⟨bh _,by have:=hF.N1;simp only [m0];omega⟩,?_,by simp [m0,pB],fun i hi=> ?_,by simp [m0],⟨bh _,by simp only [m0];omega⟩,⟨by simp only [m0];omega,by simp only [m0];omega⟩,fun h=>by simp [m0] at h⟩
 · simp only [m0,IC,Ud,Ec,Ji,hR,Ca];omega
 · have:=(hF.I.a i hi).2.2.1;simp only [m0,pB,V' (d:=Bb) hi,Ji];omega
end
def big:Nat:=10000000000
def tr (g:Ba) (sc:List Int) (fu:Int):List M:=trace g sc big (m0 g fu)
def ls (g:Ba) (sc:List Int) (fu:Int):M:=last g sc big (m0 g fu)
section
variable {g:Ba} {D:List Int} {sc:List Int}
theorem JS (hF:Ng g D) {fu:Int} (Ci:fu<=1000000):∃ rk,Mw g rk/\Inv g sc (m0 g fu)/\mu g rk (m0 g fu)<=big:=by
 obtain ⟨rk,hr⟩:=hF.Saf;have hI:=E8 hF sc Ci;exact ⟨rk,hr,hI,Hr (gH hF hI hr)⟩
theorem JW (q1 q2 q3 q4 q5 q6 q7 q8:Int) (rg:List Int) (ar ma) (h:(yg g).length<=rg.length) (hr:rg.length<=10000):Wq (g,sc,q1,q2,q3,q4,q5,q6,q7,rg,ar,ma)=some (rg.take (yg g).length):=by
 simp only [Wq,ez,nt];have e:ga ((yg g).length:Int)-0=(yg g).length:=by omega
 have hl:(Vi 0 (ga ((yg g).length:Int)-0) rg).length<=10000:=by rw [e,OD,dc];omega
 refine (Fe (b:=decide (0<=(0:Int))&&decide ((0:Int)<=((yg g).length:Int))&&decide (((yg g).length:Int)<=(rg.length:Int))) (by simp only [Ia,decide_eq_true_eq];omega)).trans ?_;refine (Fe (b:=decide ((Vi 0 (ga ((yg g).length:Int)-0) rg).length * 8<=70368744177664)&&decide ((Vi 0 (ga ((yg g).length:Int)-0) rg).length<9223372036854775808)) (by simp only [Ia,decide_eq_true_eq];omega)).trans ?_;show some (Vi 0 (ga ((yg g).length:Int)-0) rg)=_;rw [e];rfl
theorem waa (hF:Ng g D) (hs:sc.length<=9223372036854775807) {fu:Int} (Ci:fu<=1000000) (o:VR) (hO:J1 g o) (er:List Ra):
  MA (g,sc,fu,o.1,o.2.1,o.2.2.1,er,o.2.2.2,g)=some ((ls g sc fu).en,(ls g sc fu).si,(ls g sc fu).ki,(ls g sc fu).ti,(ls g sc fu).re,(ls g sc fu).rg.take (yg g).length,((tr g sc fu).foldl (zk g) o).1,((tr g sc fu).foldl (zk g) o).2.1,((tr g sc fu).foldl (zk g) o).2.2.1,((tr g sc fu).foldl (zk g) o).2.2.2,(ls g sc fu).ar,(ls g sc fu).ma):=by
 obtain ⟨rk,hr,hI,hm⟩:=JS (sc:=sc) hF Ci;have hw:=walk (S:=Rl.m (cH g er sc)) iG (fun t=>M.of t.2.2.2.2) (fun _ _=>rfl) (zk g) (J1 g) hF (fun o m h ha=>h.next ha.2) (fun o m hI hJ=>xM hF hs hI hJ er) hr hI hO hm;obtain ⟨w1,w2,w3,w4⟩:=hw;unfold MA VN;rw [O_ hF,da];have w1':Oa (Rl.m (g,0,0,0,0,0,er,g,g,sc,true,true,true,true,true,false,false)) (o.1,o.2.1,o.2.2.1,o.2.2.2,max fu 0,0,0,0,0,0,0,IC g,pB g,[])=some (iG ((tr g sc fu).foldl (zk g) o) (ls g sc fu)):=w1;rw [w1',da];simp only [iG,M.t];have hR:=w3.uE hF;have e:=JW (g:=g) (sc:=sc) (ls g sc fu).fu (ls g sc fu).at_ (ls g sc fu).en (ls g sc fu).si (ls g sc fu).ki (ls g sc fu).ti (ls g sc fu).re 0 (ls g sc fu).rg (ls g sc fu).ar (ls g sc fu).ma hR.2 (by have:=hR.1;exact Ib this (by decide));rw [e,da]
def ob0 (g:Ba):VR:=(-1,Ja g.1.length false,Ja g.1.length (false,false),0)
theorem U4 (hF:Ng g D):J1 g (ob0 g):=⟨by simp [ob0],by simp [ob0],by have:=hF.N1;simp only [ob0];omega,.inl rfl⟩
def ob1 (g:Ba) (sc:List Int) (fu:Int):VR:=(tr g sc fu).foldl (zk g) (ob0 g)
def Vs (g:Ba) (sc:List Int) (fu:Int):Pa:=((ob1 g sc fu).2.1,(ob1 g sc fu).2.2.1,if (ls g sc fu).en=1 then [((ls g sc fu).si,(ls g sc fu).ki)] else [])
def Df (g:Ba):Pa:=(Ja g.1.length false,Ja g.1.length (false,false),[])
theorem aG (hF:Ng g D):Tr g=some (Df g):=by
 have hN:=hF.N;unfold Tr iO Df;simp only [nt];refine (Fe (b:=decide (0<=(g.1.length:Int))&&decide ((g.1.length:Int)<=(g.1.length:Int))&&decide (1 * (g.1.length:Int)<=70368744177664)&&decide ((g.1.length:Int)<9223372036854775808)) (by simp;omega)).trans ?_;refine (Fe (b:=decide (0<=(g.1.length:Int))&&decide ((g.1.length:Int)<=(g.1.length:Int))&&decide (2 * (g.1.length:Int)<=70368744177664)&&decide ((g.1.length:Int)<9223372036854775808)) (by simp;omega)).trans ?_;rw [Ca]
def y8 (g:Ba) (sc:List Int) (fu:Int):Uu:=((ls g sc fu).en,(ls g sc fu).si,(ls g sc fu).ki,(ls g sc fu).ti,(ls g sc fu).re,(ls g sc fu).rg.take (yg g).length,(ls g sc fu).ar,(ls g sc fu).ma)
theorem rX (hF:Ng g D) (hs:sc.length<=9223372036854775807) {fu:Int} (Ci:fu<=1000000):Lx (g,sc,fu)=some (Vs g sc fu,y8 g sc fu,(ob1 g sc fu).1):=by
 unfold Lx NN;rw [aG hF,da];have e:=waa hF hs Ci (ob0 g) (U4 hF) [];have e':MA (g,sc,fu,(-1),(Df g).1,(Df g).2.1,(Df g).2.2,0,g)=_:=e;rw [e',da];by_cases h:(ls g sc fu).en=1
 · simp only [h,decide_true,cond_true,Vs,y8,ob1,if_true]
 · simp only [h,decide_false,cond_false,Vs,y8,ob1,if_false];rfl
end
end Go.U
end
section
set_option maxRecDepth 20000
namespace Go.U
open Go
def Mk (l:List Ra) (e:Ra):List Ra:=if e∈l then l else l++[e]
def Vw (a b:List Bool):List Bool:=cE (· || ·) a b
def Ks (a b:List (Bool×Bool)):List (Bool×Bool):=cE (fun x y=>(x.1||y.1,x.2||y.2)) a b
def ee (a b:Pa):Pa:=(Vw a.1 b.1,Ks a.2.1 b.2.1,Xg (b.2.2.foldl Mk a.2.2))
structure oo (N:Nat) (c:Pa):Prop where
 p:c.1.length=N
 w:c.2.1.length=N
 e:c.2.2.length<=1000000
theorem TY (l:List Ra) (e:Ra):(Mk l e).length<=l.length+1:=by unfold Mk;split<;>simp
theorem mw:∀ (es l:List Ra),(es.foldl Mk l).length<=l.length+es.length
 |[],l=>by simp
 |e::es,l=>by
  have h1:=mw es (Mk l e);have h2:=TY l e;rw [vB,List.length_cons];omega
theorem Eai (a b:Ra):((decide (a.1=b.1))&&((decide (a.2=b.2))&&true))=decide (a=b):=by
 obtain ⟨a1,a2⟩:=a;obtain ⟨b1,b2⟩:=b;by_cases h1:a1=b1<;>by_cases h2:a2=b2<;>simp [h1,h2]
theorem N3 (x:Ra) (l:List Ra) (hl:l.length<=9223372036854775807):∃ r,Fw (x,l)=some r/\(0<=r↔x∈l):=by
 unfold Fw dG;obtain ⟨e,h1,h2⟩:=Nh (n:=l.length) (step:=Mn.m ((nt (fa l)),(x,l))) hl (fun k=>∀ j,j<k->x≠gx l j Zb) (fun e=>(∃ i:Int,e= .inl i/\0<=i/\x∈l)\/(∃ u,e= .inr u/\x∉l)) (fun j h=>absurd h (Xi _)) (fun i hi hI=>by
   have h':(i:Int)<(l.length:Int):=by omega
   simp only [LD.m,Mn,nt,h',decide_true,cond_true,Rh hi,Xa,Ca,Eai];refine qh (fun h=>lj (.inl ⟨_,rfl,by omega,?_⟩)) fun h=>zx fun j hj=> ?_
   · rw [of_decide_eq_true h];exact jb (jh (d:=Zb) hi)
   · by_cases e:j=i
     · subst e;exact of_decide_eq_false h
     · exact hI j (by omega)) (fun hI=>by
   simp only [LD.m,Mn,nt,Mb,decide_false,cond_false];refine ⟨_,rfl,.inr ⟨(),rfl,fun hx=> ?_⟩⟩;obtain ⟨j,hj⟩:=GB.1 hx;exact hI j (Ua hj) (lp hj).symm)
 rw [h1,da];rcases h2 with ⟨i,rfl,h0,hx⟩|⟨u,rfl,hx⟩
 · exact ⟨i,rfl,⟨fun _=>hx,fun _=>h0⟩⟩
 · exact ⟨-1,rfl,⟨fun h=>absurd h (by decide),fun h=>absurd h hx⟩⟩
theorem s_ (x:Ra) (l:List Ra) (hl:l.length<=9223372036854775807):FA (x,l)=some (decide (x∈l)):=by
 obtain ⟨r,h1,h2⟩:=N3 x l hl;unfold FA pN;simp only;rw [h1,da];congr 1;exact decide_eq_decide.2 h2
theorem NF (e:Ra) (z:Int) (P:List Bool) (W:List (Bool×Bool)) (l:List Ra) (hl:l.length<=9223372036854775807):Kg ((3,(z,e)),P,W,l)=some (decide (e∈l)):=by
 have h:Kg ((3,(z,e)),P,W,l)=(FA (e,l)).bind fun r=>some r:=rfl
 rw [h,s_ e l hl];rfl
theorem FN (i:Nat) (e:Ra) (P:List Bool) (W:List (Bool×Bool)) (l:List Ra) (hi:i<P.length):Kg ((0,((i:Int),e)),P,W,l)=some (gx P i false):=by
 have h':(i:Int)<(P.length:Int):=by omega
 simp only [Kg,uD,nt,decide_true,cond_true,h',Rh hi,Xa,Ca]
theorem EN (i:Nat) (e:Ra) (P:List Bool) (W:List (Bool×Bool)) (l:List Ra) (hi:i<W.length):Kg ((1,((i:Int),e)),P,W,l)=some (gx W i (false,false)).1/\Kg ((2,((i:Int),e)),P,W,l)=some (gx W i (false,false)).2:=by
 have h':(i:Int)<(W.length:Int):=by omega
 have w1:Ga (1-1)=0:=by decide
 have w2:Ga (2-1)=1:=by decide
 constructor
 · simp only [Kg,uD,nt,oC,decide_true,decide_false,cond_true,cond_false,h',Rh hi,Xa,Ca,w1]
 · simp only [Kg,uD,nt,oC,decide_true,decide_false,cond_true,cond_false,h',Rh hi,Xa,Ca,w2]
section
variable (P:List Bool) (W:List (Bool×Bool)) (E:List Ra)
theorem Naf {i:Nat} (z1 z2:Int) (hi:i<P.length):Ld (0,(i:Int),z1,z2,P,W,E)=some (.inl (P.set i true,W)):=by
 simp only [Ld,Ki,decide_true,cond_true,Rh hi,Xa,Ca]
theorem Oab {i:Nat} (z1 z2:Int) (hi:i<W.length):Ld (1,(i:Int),z1,z2,P,W,E)=some (.inl (P,W.set i (true,(gx W i (false,false)).2))):=by
 have w1:Ga (1-1)=0:=by decide
 have d:(1:Int)<3:=by decide
 simp only [Ld,Ki,oC,d,decide_true,decide_false,cond_true,cond_false,Rh hi,Xa,Ca,w1]
theorem Nab {i:Nat} (z1 z2:Int) (hi:i<W.length):Ld (2,(i:Int),z1,z2,P,W,E)=some (.inl (P,W.set i ((gx W i (false,false)).1,true))):=by
 have w1:Ga (2-1)=1:=by decide
 have d:(2:Int)<3:=by decide
 simp only [Ld,Ki,oC,d,decide_true,decide_false,cond_true,cond_false,Rh hi,Xa,Ca,w1]
theorem Oaf (z:Int) (e:Ra) (hE:E.length<=3000000):Ld (3,z,e.1,e.2,P,W,E)=some (if e∈E then .inl (P,W) else .inr (E++[e])):=by
 have d:¬ (3:Int)<3:=by decide
 have h3:Kg ((3,(z,(e.1,e.2))),P,W,E)=some (decide (e∈E)):=NF e z P W E (by omega);have b:(decide ((E.length+fa ([(e.1,e.2)]:List Ra)) * 16<=70368744177664)&&decide (E.length+fa ([(e.1,e.2)]:List Ra)<9223372036854775808))=true:=by
   simp only [Ia,decide_eq_true_eq,Ar];omega
 simp only [Ld,Ki,oC,d,decide_true,decide_false,cond_true,cond_false,h3,da];by_cases h:e∈E
 · simp only [h,decide_true,Xl,cond_false,if_true]
 · simp only [h,decide_false,Ve,cond_true,if_false];exact Fe b
end
theorem TS {P Q:List Bool} {i:Nat} (hl:P.length=Q.length) (hi:i<Q.length):(Vw (P.take i) (Q.take i)++P.drop i).set i (gx P i false||gx Q i false)=Vw (P.take (i+1)) (Q.take (i+1))++P.drop (i+1):=by
 have e1:(Vw (P.take i) (Q.take i)).length=i:=by simp [Vw];omega
 have e2:P.drop i=gx P i false::P.drop (i+1):=by
  rw [List.drop_eq_getElem_cons (by omega)];congr 1;have:=jh (d:=false) (show i<P.length by omega);rw [ya (by omega)] at this;exact nk this
 rw [sE e1.symm,e2,List.set_cons_zero,Qg false (show i<P.length by omega),Qg false hi];unfold Vw;rw [List.zipWith_append (by rw [dc,dc];omega),od];rfl
theorem UM {α:Type} {l r:List α} {d x:α} {i:Nat} (h:l.length=i):gx (l++x::r) i d=x:=by
 subst h;simp [gx]
theorem VG {α:Type} {l:List α} {i:Nat} {d:α} (h:i<l.length):l.set i (gx l i d)=l:=by
 apply List.ext_getElem?;intro j;rw [Kb];split
 · rename_i e;subst e;exact (jh (d:=d) h).symm
 · rfl
theorem jG {α:Type} {l:List α} {i:Nat} (d:α) (h:i<l.length):l.drop i=gx l i d::l.drop (i+1):=by
 rw [List.drop_eq_getElem_cons h];congr 1;have:=jh (d:=d) h;rw [ya h] at this;exact nk this
theorem QS {P Q:List (Bool×Bool)} {i:Nat} (hl:P.length=Q.length) (hi:i<Q.length):(Ks (P.take i) (Q.take i)++P.drop i).set i ((gx P i (false,false)).1||(gx Q i (false,false)).1,(gx P i (false,false)).2||(gx Q i (false,false)).2)=Ks (P.take (i+1)) (Q.take (i+1))++P.drop (i+1):=by
 have e1:(Ks (P.take i) (Q.take i)).length=i:=by simp [Ks];omega
 rw [sE e1.symm,jG (false,false) (show i<P.length by omega),List.set_cons_zero,Qg (false,false) (show i<P.length by omega),Qg (false,false) hi];unfold Ks;rw [List.zipWith_append (by rw [dc,dc];omega),od];rfl
section
variable (P:List Bool) (W:List (Bool×Bool)) (E:List Ra) (c:Pa)
theorem yW (Q:List Bool) (hP:P.length=Q.length) (hQ:Q.length<=9223372036854775807):Oa (Bp.m (Q,nt Q.length,c)) (0,P,W,E)=some (Vw P Q,W,E):=by
 have:=Md (step:=Bp.m (Q,nt Q.length,c)) (n:=Q.length) (fun i=>((i:Int),Vw (P.take i) (Q.take i)++P.drop i,W,E)) (Vw P Q,W,E) (by omega) (fun t=>Q.length-t.1.toNat) (fun i _=>by simp) (fun i hi=>by
  have h':(i:Int)<(Q.length:Int):=by omega
  have w:Ga ((i:Int)+1)=((i+1:Nat):Int):=by rw [Sb (by omega) (by omega)];rfl
  have e1:(Vw (P.take i) (Q.take i)).length=i:=by simp [Vw];omega
  have nc:i<(Vw (P.take i) (Q.take i)++P.drop i).length:=by rw [Ud,e1,Kl];omega
  have hg:gx (Vw (P.take i) (Q.take i)++P.drop i) i false=gx P i false:=by rw [jG false (show i<P.length by omega)];exact UM e1
  have ht:=TS hP hi;simp only [LD.m,Bp,nt,h',decide_true,cond_true,Rh hi,Xa,Ca,w];cases hq:gx Q i false
  · rw [hq,Bool.or_false,<- hg,VG nc] at ht;simp only [cond_false,ht]
  · rw [hq,Bool.or_true] at ht;simp only [cond_true,Naf _ _ _ _ _ nc,da,Sum.elim_inl,ht]) (by
  simp only [LD.m,Bp,nt,Mb,decide_false,cond_false];rw [Ue (Ch hP),qo,List.drop_of_length_le (Ch hP),Qm])
 simpa [Vw] using this
theorem wW (i:Nat) (z1:List (Bool×Bool)) (z2 z3:Int) (w:Bool×Bool) (hi:i<W.length):Oa (Cj.m ((i:Int),z1,z2,z3,w,c)) (0,P,W,E)=some (P,W.set i ((gx W i (false,false)).1||w.1,(gx W i (false,false)).2||w.2),E):=by
 obtain ⟨W1,P5⟩:∃ W1,(if w.1=true then W.set i (true,(gx W i (false,false)).2) else W)=W1:=⟨_,rfl⟩;have kJ:i<W1.length:=by rw [<- P5];split<;>simpa using hi
 obtain ⟨W2,G'⟩:∃ W2,(if w.2=true then W1.set i ((gx W1 i (false,false)).1,true) else W1)=W2:=⟨_,rfl⟩;have w0:Ga ((0:Int)+1)=1:=by decide
 have w1:Ga ((1:Int)+1)=2:=by decide
 have w2:Ga ((1:Int)+0)=1:=by decide
 have d0:(0:Int)<2:=by decide
 have d1:(1:Int)<2:=by decide
 have d2:¬ (1:Int)=0:=by decide
 have s0:Cj.m ((i:Int),z1,z2,z3,w,c) (0,P,W,E)=some (.inl (1,P,W1,E)):=by
  simp only [LD.m,Cj,d0,decide_true,cond_true,w0,w2];cases h:w.1
  · rw [h] at P5;simp at P5;subst P5;rfl
  · rw [h] at P5;simp at P5;subst P5;simp only [cond_true,Oab _ _ _ _ _ hi,da,Sum.elim_inl]
 have s1:Cj.m ((i:Int),z1,z2,z3,w,c) (1,P,W1,E)=some (.inl (2,P,W2,E)):=by
  simp only [LD.m,Cj,d1,d2,decide_true,decide_false,cond_true,cond_false,w1];cases h:w.2
  · rw [h] at G';simp at G';subst G';rfl
  · rw [h] at G';simp at G';subst G';simp only [cond_true,Nab _ _ _ _ _ kJ,da,Sum.elim_inl]
 have s2:Cj.m ((i:Int),z1,z2,z3,w,c) (2,P,W2,E)=some (.inr (P,W2,E)):=by
  simp only [LD.m,Cj,Mb,decide_false,cond_false]
 have hf:W2=W.set i ((gx W i (false,false)).1||w.1,(gx W i (false,false)).2||w.2):=by
  rw [<- G',<- P5];have hs:=VG (d:=(false,false)) hi;have hgs:∀ x:Bool×Bool,gx (W.set i x) i (false,false)=x:=fun x=>by rw [iw hi,if_pos rfl]
  cases h1:w.1<;>cases h2:w.2<;>simp [hs,hgs]
 have:=Md (step:=Cj.m ((i:Int),z1,z2,z3,w,c)) (n:=2) (fun k=>if k=0 then (0,P,W,E) else if k=1 then (1,P,W1,E) else (2,P,W2,E)) (P,W2,E) (by decide) (fun t=>2-t.1.toNat) (fun k hk=>by
  obtain rfl|rfl|rfl:k=0\/k=1\/k=2:=by omega
  · rfl
  · rfl
  · rfl) (fun k hk=>by
  obtain rfl|rfl:k=0\/k=1:=by omega
  · exact s0
  · exact s1) s2
 rw [<- hf];exact this
theorem xW (Q:List (Bool×Bool)) (hP:W.length=Q.length) (hQ:Q.length<=9223372036854775807):Oa (Ap.m (Q,nt Q.length,c)) (0,P,W,E)=some (P,Ks W Q,E):=by
 have:=Md (step:=Ap.m (Q,nt Q.length,c)) (n:=Q.length) (fun i=>((i:Int),P,Ks (W.take i) (Q.take i)++W.drop i,E)) (P,Ks W Q,E) (by omega) (fun t=>Q.length-t.1.toNat) (fun i _=>by simp) (fun i hi=>by
  have h':(i:Int)<(Q.length:Int):=by omega
  have w:Ga ((i:Int)+1)=((i+1:Nat):Int):=by rw [Sb (by omega) (by omega)];rfl
  have e1:(Ks (W.take i) (Q.take i)).length=i:=by simp [Ks];omega
  have nc:i<(Ks (W.take i) (Q.take i)++W.drop i).length:=by rw [Ud,e1,Kl];omega
  have hg:gx (Ks (W.take i) (Q.take i)++W.drop i) i (false,false)=gx W i (false,false):=by rw [jG (false,false) (show i<W.length by omega)];exact UM e1
  have ht:=QS hP hi;have h9:=wW P (Ks (W.take i) (Q.take i)++W.drop i) E c i Q (nt Q.length) (i:Int) (gx Q i (false,false)) nc;rw [hg,ht] at h9;simp only [nt] at h9;simp only [LD.m,Ap,nt,h',decide_true,cond_true,Rh hi,Xa,Ca,w];rw [h9,da]) (by
  simp only [LD.m,Ap,nt,Mb,decide_false,cond_false];rw [Ue (Ch hP),qo,List.drop_of_length_le (Ch hP),Qm])
 simpa [Ks] using this
theorem tQ (Q:List Ra) (hE:E.length<=1000000) (hQ:Q.length<=1000000):Oa (Xk.m (Q,nt Q.length,c)) (0,P,W,E)=some (P,W,Q.foldl Mk E):=by
 have:=Md (step:=Xk.m (Q,nt Q.length,c)) (n:=Q.length) (fun i=>((i:Int),P,W,(Q.take i).foldl Mk E)) (P,W,Q.foldl Mk E) (by omega) (fun t=>Q.length-t.1.toNat) (fun i _=>by simp) (fun i hi=>by
  have h':(i:Int)<(Q.length:Int):=by omega
  have w:Ga ((i:Int)+1)=((i+1:Nat):Int):=by rw [Sb (by omega) (by omega)];rfl
  have hl:((Q.take i).foldl Mk E).length<=3000000:=by
   have:=mw (Q.take i) E;rw [dc] at this;omega
  simp only [LD.m,Xk,nt,h',decide_true,cond_true,Rh hi,Xa,Ca,w];rw [Oaf _ _ _ _ _ hl,da,Qg Zb hi,List.foldl_append,vB,List.foldl_nil];unfold Mk;split<;>rfl) (by
  simp only [LD.m,Xk,nt,Mb,decide_false,cond_false,qo])
 exact this
end
theorem fB {α:Type} {n:Nat} {l:List α} (h:l.length<=3000000) (hn:n<=16):clone n l=some l:=by
 unfold clone;have:l.length * n<=3000000 * 16:=Nat.mul_le_mul h hn;exact Fe (by simp only [Ia,decide_eq_true_eq];omega)
theorem yL {N:Nat} (hN:N<=4096) {a b:Pa} (ha:oo N a) (hb:oo N b):Sr (b,a.1,a.2.1,a.2.2)=some (ee a b):=by
 have hp:b.1.length<=4096:=by rw [hb.p];exact hN
 have c1:IN a.1=some a.1:=fB (by rw [ha.p];omega) (by decide);have c2:HN a.2.1=some a.2.1:=fB (by rw [ha.w];omega) (by decide);have c3:GN a.2.2=some a.2.2:=fB (by have:=ha.e;omega) (by decide);unfold Sr aO;simp only [c1,c2,c3,da,PD.m,PA];have h69:pD (b,a.1,a.2.1,a.2.2)=some (Vw a.1 b.1,Ks a.2.1 b.2.1,b.2.2.foldl Mk a.2.2):=by
  unfold pD uN;simp only;rw [yW a.1 a.2.1 a.2.2 b b.1 (by rw [ha.p,hb.p]) (by omega),da];simp only;rw [xW (Vw a.1 b.1) a.2.1 a.2.2 b b.2.1 (by rw [ha.w,hb.w]) (by rw [hb.w];omega),da];simp only;rw [tQ (Vw a.1 b.1) (Ks a.2.1 b.2.1) a.2.2 b b.2.2 ha.e hb.e,da]
 rw [h69,da];simp only [da];have hl:=mw b.2.2 a.2.2;have h51:tD (b.2.2.foldl Mk a.2.2)=some (Xg (b.2.2.foldl Mk a.2.2)):=Fe (by simp only [decide_eq_true_eq];have:=ha.e;have:=hb.e;omega);rw [h51,da];rfl
end Go.U
end
