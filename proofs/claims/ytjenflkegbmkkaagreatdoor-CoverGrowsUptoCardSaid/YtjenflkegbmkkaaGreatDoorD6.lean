/- What these Lean functions compute: plain arithmetic of congruences, the checks of a graph, the values of its registers. -/
import Derived.Test.YtjenflkegbmkkaaGreatDoorD5
set_option linter.unusedVariables false
set_option linter.unusedSimpArgs false
set_option linter.unusedSectionVars false
section
set_option maxRecDepth 20000
namespace Go.U
open Go
structure Kp (sc:List Int) (x:TInstr) (m m':M):Prop where
 rg:m'.rg.length=m.rg.length
 al:m'.ar.length=m.ar.length
 az:∀ i,(gx m'.ar i []).length=(gx m.ar i []).length
 ma:m'.ma.length<=64
 re:0<=m'.re/\m'.re<=sc.length
 fu:0<=m'.fu/\m'.fu<=m.fu
 sp:(x.1=17\/x.1=20)->m'.en=0->m'.fu<m.fu
 pl:m'.en=0->m'.at_=m.at_\/(x.1=15/\m'.at_=x.2.2.2.2.2.2.2)
 no:x.1=21->m'.en≠0
 er:m'.en=1->m'.si=x.2.2.2.2.2.1/\1<=m'.ki/\m'.ki<=5
theorem ite_of {α:Type} {P:α->Prop} {c:Prop} [Decidable c] {a b:α} (ha:c->P a) (hb:¬ c->P b):P (if c then a else b):=by by_cases h:c<;>simp only [h,if_true,if_false]<;>first|exact ha h|exact hb h
section
variable {g:TGraph} {sc:List Int} {x:TInstr} {m:M} (h1:m.ma.length<=64) (h2:0<=m.re/\m.re<=sc.length) (h3:0<=m.fu) (h4:m.en=0)
include h1 h2 h3 h4
theorem kp_wr {i v:Int} (hs:¬ (x.1=17\/x.1=20)) (hn:x.1≠21):Kp sc x m (m.wr i v):=⟨by simp [M.wr],rfl,fun _=>rfl,h1,h2,⟨h3,Int.le_refl _⟩,fun h=>absurd h hs,fun _=> .inl rfl,fun h=>absurd h hn,fun h=>by simp [M.wr,h4] at h⟩
theorem kp_fail {v:Int} (hv:1<=v/\v<=5):Kp sc x m (m.fail x.2.2.2.2.2.1 v):=⟨rfl,rfl,fun _=>rfl,h1,h2,⟨h3,Int.le_refl _⟩,fun _ h=>by simp [M.fail] at h,fun _=> .inl rfl,fun _=>by simp [M.fail],fun _=>⟨rfl,hv⟩⟩
theorem kp_ari {v:Int} {c:Bool} (hs:¬ (x.1=17\/x.1=20)) (hn:x.1≠21):Kp sc x m (m.ari x v c):=by
 unfold M.ari;cases (c&& !(wtn v 3))
 · exact kp_wr h1 h2 h3 h4 hs hn
 · exact kp_fail h1 h2 h3 h4 (by decide)
theorem kp_stop {e:Int} (he:e≠0/\e≠1):Kp sc x m { m with en:=e }:=⟨rfl,rfl,fun _=>rfl,h1,h2,⟨h3,Int.le_refl _⟩,fun _ h=>absurd h he.1,fun _=> .inl rfl,fun _=>he.1,fun h=>absurd h he.2⟩
theorem kp_same (hs:¬ (x.1=17\/x.1=20)) (hn:x.1≠21):Kp sc x m m:=⟨rfl,rfl,fun _=>rfl,h1,h2,⟨h3,Int.le_refl _⟩,fun h=>absurd h hs,fun _=> .inl rfl,fun h=>absurd h hn,fun h=>by rw [h4] at h;cases h⟩
theorem stepI_kp (hop:1<=x.1/\x.1<=21):Kp sc x m (stepI g sc x m):=by
 unfold stepI
 dsimp only
 refine ite_of (fun e1=>kp_wr h1 h2 h3 h4 (by omega) (by omega)) fun e1=> ?_
 refine ite_of (fun e2=>kp_ari h1 h2 h3 h4 (by omega) (by omega)) fun e2=> ?_
 refine ite_of (fun e3=>kp_ari h1 h2 h3 h4 (by omega) (by omega)) fun e3=> ?_
 refine ite_of (fun e4=>kp_ari h1 h2 h3 h4 (by omega) (by omega)) fun e4=> ?_
 refine ite_of (fun e5=>kp_ari h1 h2 h3 h4 (by omega) (by omega)) fun e5=> ?_
 refine ite_of (fun e6=>kp_ari h1 h2 h3 h4 (by omega) (by omega)) fun e6=> ?_
 refine ite_of (fun e7=>ite_of (fun _=>kp_fail h1 h2 h3 h4 (by decide)) fun _=>ite_of (fun _=>kp_fail h1 h2 h3 h4 (by decide)) fun _=>kp_wr h1 h2 h3 h4 (by omega) (by omega)) fun e7=> ?_
 refine ite_of (fun e8=>ite_of (fun _=>kp_fail h1 h2 h3 h4 (by decide)) fun _=>kp_wr h1 h2 h3 h4 (by omega) (by omega)) fun e8=> ?_
 refine ite_of (fun e9=>kp_ari h1 h2 h3 h4 (by omega) (by omega)) fun e9=> ?_
 refine ite_of (fun e10=>kp_ari h1 h2 h3 h4 (by omega) (by omega)) fun e10=> ?_
 refine ite_of (fun e11=>ite_of (fun _=>kp_fail h1 h2 h3 h4 (by decide)) fun _=>kp_wr h1 h2 h3 h4 (by omega) (by omega)) fun e11=> ?_
 refine ite_of (fun e12=>ite_of (fun _=>kp_stop h1 h2 h3 h4 (by decide)) fun hne=>ite_of (fun _=>
  ⟨rfl,rfl,fun _=>rfl,h1,⟨by simp only;omega,by simp only;omega⟩,⟨h3,Int.le_refl _⟩,fun _ h=>by simp at h,fun _=> .inl rfl,fun _=>by simp,fun h=>by simp at h⟩) fun _=>
  ⟨by simp,rfl,fun _=>rfl,h1,⟨by simp only;omega,by simp only;omega⟩,⟨h3,Int.le_refl _⟩,fun h=>by omega,fun _=> .inl rfl,fun h=>by omega,fun h=>by rw [h4] at h;cases h⟩) fun e12=> ?_
 refine ite_of (fun e13=>ite_of (fun _=>kp_wr h1 h2 h3 h4 (by omega) (by omega)) fun _=>kp_fail h1 h2 h3 h4 (by decide)) fun e13=> ?_
 refine ite_of (fun e14=>ite_of (fun _=>kp_fail h1 h2 h3 h4 (by decide)) fun _=>ite_of (fun _=>
  ⟨rfl,by simp,fun i=>by
   simp only [gx,List.getD_eq_getElem?_getD,List.getElem?_set];split
   · split
     · rename_i e _;subst e;simp
     · rename_i e k;subst e;rw [List.getElem?_eq_none (by omega)]
   · rfl,h1,h2,⟨h3,Int.le_refl _⟩,fun h=>by omega,fun _=> .inl rfl,fun h=>by omega,fun h=>by rw [h4] at h;cases h⟩) fun _=>kp_fail h1 h2 h3 h4 (by decide)) fun e14=> ?_
 refine ite_of (fun e15=>ite_of (fun _=>kp_same h1 h2 h3 h4 (by omega) (by omega)) fun _=>⟨rfl,rfl,fun _=>rfl,h1,h2,⟨h3,Int.le_refl _⟩,fun h=>by omega,fun _=> .inr ⟨e15,rfl⟩,fun h=>by omega,fun h=>by rw [h4] at h;cases h⟩) fun e15=> ?_
 refine ite_of (fun e17=>ite_of (fun _=>kp_stop h1 h2 h3 h4 (by decide)) fun _=>ite_of (fun _=>kp_stop h1 h2 h3 h4 (by decide)) fun hz=>ite_of (fun hm=>
  ⟨rfl,rfl,fun _=>rfl,by simp;omega,h2,⟨by simp only;omega,by simp only;omega⟩,fun _ _=>by simp only;omega,fun _=> .inl rfl,fun h=>by omega,fun h=>by rw [h4] at h;cases h⟩) fun _=>
  ⟨rfl,rfl,fun _=>rfl,h1,h2,⟨by simp only;omega,by simp only;omega⟩,fun _ _=>by simp only;omega,fun _=> .inl rfl,fun h=>by omega,fun h=>by rw [h4] at h;cases h⟩) fun e17=> ?_
 refine ite_of (fun e18=>⟨rfl,rfl,fun _=>rfl,h1,h2,⟨h3,Int.le_refl _⟩,fun h=>by omega,fun _=> .inl rfl,fun h=>by omega,fun h=>by rw [h4] at h;cases h⟩) fun e18=> ?_
 refine ite_of (fun e20=>ite_of (fun _=>kp_stop h1 h2 h3 h4 (by decide)) fun hz=>⟨rfl,rfl,fun _=>rfl,h1,h2,⟨by simp only;omega,by simp only;omega⟩,fun _ _=>by simp only;omega,fun _=> .inl rfl,fun h=>by omega,fun h=>by rw [h4] at h;cases h⟩) fun e20=> ?_
 exact ite_of (fun _=>kp_fail h1 h2 h3 h4 (by decide)) fun e21=>kp_same h1 h2 h3 h4 (by omega) (by omega)
end
def mu (g:TGraph) (rk:Nat->Nat) (m:M):Nat:=if m.en=0 then m.fu.toNat * (g.1.length+1)+rk m.at_.toNat+1 else 0
section
variable {g:TGraph} {D:List Int} {sc:List Int} {m:M}
theorem Inv.nxt (hF:FitG g D) (hI:Inv g sc m) (he:m.en=0):Inv g sc (step g sc m)/\∀ rk,Ranked g rk->mu g rk (step g sc m)<mu g rk m:=by
 obtain ⟨h0,h0'⟩:=hI.at0 he;obtain ⟨j,hj⟩:=Int.eq_ofNat_of_zero_le h0;have hjn:j<g.1.length:=by omega
 have hG:=hF.good j hjn;have hst:step g sc m=stepI g sc (at' g j) (m.to (nx0 (at' g j))):=by unfold Go.U.step;rw [hj];rfl
 have k:=stepI_kp (g:=g) (sc:=sc) (x:=at' g j) (m:=m.to (nx0 (at' g j))) hI.ma hI.re hI.fu.1 he hG.op;rw [<- hst] at k;have hpl:(Go.U.step g sc m).en=0->0<=(Go.U.step g sc m).at_/\(Go.U.step g sc m).at_<(g.1.length:Int)/\((Go.U.step g sc m).at_=(at' g j).2.2.2.2.2.2.1\/(Go.U.step g sc m).at_=(at' g j).2.2.2.2.2.2.2):=fun hen=>by
   obtain ⟨n1,n2,n3⟩:=hG.nxt;rcases k.pl hen with h|⟨h15,h⟩
   · have h:(Go.U.step g sc m).at_=(at' g j).2.2.2.2.2.2.1:=h;by_cases h15:(at' g j).1=15
     · have:=n1 h15;exact ⟨by omega,by omega,.inl h⟩
     · by_cases h21:(at' g j).1=21
       · exact absurd hen (k.no h21)
       · have:=n3 h15 h21;exact ⟨by omega,by omega,.inl h⟩
   · have:=n1 h15;exact ⟨by omega,by omega,.inr h⟩
 refine ⟨⟨fun hen=>⟨(hpl hen).1,(hpl hen).2.1⟩,by rw [k.rg];exact hI.rg,by rw [k.al];exact hI.al,fun i hi=>by rw [k.az];exact hI.az i hi,k.ma,k.re,⟨k.fu.1,Int.le_trans k.fu.2 hI.fu.2⟩,fun hen=>⟨j,hjn,k.er hen⟩⟩,fun rk hr=> ?_⟩;have hm:mu g rk m=m.fu.toNat * (g.1.length+1)+rk j+1:=by unfold mu;rw [if_pos he,hj];rfl
 rw [hm];unfold mu;split
 · rename_i hen;obtain ⟨p1,p2,p3⟩:=hpl hen;obtain ⟨i,hi⟩:=Int.eq_ofNat_of_zero_le p1;rw [hi,Int.toNat_natCast];have hin:i<g.1.length:=by omega
   have hfu:(Go.U.step g sc m).fu<=m.fu:=k.fu.2;obtain ⟨r1,r2⟩:=hr j hjn;rcases r2 with r2|r2|r2
   · have hlt:(Go.U.step g sc m).fu<m.fu:=k.sp (.inl r2) hen;have:=(hr i hin).1;have h3:(Go.U.step g sc m).fu.toNat+1<=m.fu.toNat:=by have:=k.fu.1;omega
     have:=Nat.mul_le_mul_right (g.1.length+1) h3;rw [Nat.add_mul] at this;omega
   · have hlt:(Go.U.step g sc m).fu<m.fu:=k.sp (.inr r2) hen;have:=(hr i hin).1;have h3:(Go.U.step g sc m).fu.toNat+1<=m.fu.toNat:=by have:=k.fu.1;omega
     have:=Nat.mul_le_mul_right (g.1.length+1) h3;rw [Nat.add_mul] at this;omega
   · have hd:rk i<rk j:=by
       rcases r2 _ p3 with h|h
       · omega
       · rw [hi,Int.toNat_natCast] at h;exact h
     have h3:(Go.U.step g sc m).fu.toNat<=m.fu.toNat:=by omega
     have:=Nat.mul_le_mul_right (g.1.length+1) h3;omega
 · omega
def trace (g:TGraph) (sc:List Int):Nat->M->List M
 |0,_=>[]
 |n+1,m=>if m.en=0 then m::trace g sc n (Go.U.step g sc m) else []
def last (g:TGraph) (sc:List Int):Nat->M->M
 |0,m=>m
 |n+1,m=>if m.en=0 then last g sc n (Go.U.step g sc m) else m
theorem mu_small (hF:FitG g D) (hI:Inv g sc m) {rk:Nat->Nat} (hr:Ranked g rk):mu g rk m<10000000000:=by
 unfold mu;split
 · rename_i he;obtain ⟨h0,h0'⟩:=hI.at0 he;have h1:=(hr m.at_.toNat (by omega)).1;have h2:=hF.N;have h3:=hI.fu;have h4:m.fu.toNat<=1000000:=by omega
   have:=Nat.mul_le_mul h4 (show g.1.length+1<=4097 by omega);omega
 · omega
theorem walk {T O:Type} {S:T->Option (T ⊕ T)} (enc:O->M->T) (dec:T->M) (hdec:∀ o m,dec (enc o m)=m) (f:O->M->O) (J:O->Prop) (hF:FitG g D)
  (hJ:∀ o m,J o->0<=m.at_/\m.at_<(g.1.length:Int)->J (f o m))
  (hS:∀ o m,Inv g sc m->J o->S (enc o m)=if m.en=0 then some (.inl (enc (f o m) (Go.U.step g sc m))) else some (.inr (enc o m)))
  {rk:Nat->Nat} (hr:Ranked g rk) {o:O} {m:M} (hI:Inv g sc m) (hO:J o) {n:Nat} (hn:mu g rk m<=n):loopAll S (enc o m)=some (enc ((trace g sc n m).foldl f o) (last g sc n m))/\(last g sc n m).en≠0/\Inv g sc (last g sc n m)/\J ((trace g sc n m).foldl f o):=by
 have key:∀ (n:Nat) (o:O) (m:M),Inv g sc m->J o->mu g rk m<=n->∀ k,mu g rk m<k->loopM S k (enc o m)=some (enc ((trace g sc n m).foldl f o) (last g sc n m))/\(last g sc n m).en≠0/\Inv g sc (last g sc n m)/\J ((trace g sc n m).foldl f o):=by
  intro n;induction n with
  |zero=>
   intro o m hI hO hn k hk;have he:m.en≠0:=fun he=>by unfold mu at hn;rw [if_pos he] at hn;omega
   cases k with
   |zero=>omega
   |succ k=>
    refine ⟨?_,he,hI,hO⟩;simp only [loopM,hS o m hI hO,if_neg he,Option.bind_some,trace,last,List.foldl_nil]
  |succ n ih=>
   intro o m hI hO hn k hk;cases k with
   |zero=>omega
   |succ k=>
    by_cases he:m.en=0
    · obtain ⟨i1,i2⟩:=hI.nxt hF he;have i3:=i2 rk hr;obtain ⟨q1,q2,q3,q4⟩:=ih (f o m) (Go.U.step g sc m) i1 (hJ o m hO (hI.at0 he)) (by omega) k (by omega);simp only [loopM,hS o m hI hO,if_pos he,Option.bind_some,trace,last,List.foldl_cons];exact ⟨q1,q2,q3,q4⟩
    · refine ⟨?_,by simpa only [last,if_neg he] using he,by simpa only [last,if_neg he] using hI,by simp only [trace,if_neg he,List.foldl_nil];exact hO⟩;simp only [loopM,hS o m hI hO,if_neg he,Option.bind_some,trace,last,List.foldl_nil]
 exact key n o m hI hO hn 18446744073709551616 (Nat.lt_trans (mu_small hF hI hr) (by decide))
end
end Go.U
end
section
set_option maxRecDepth 20000
namespace Go.U
open Go
def regs0 (g:TGraph):List Int:=(scs g).map (fun s=>s.2.2)++List.replicate (g.2.2.1.toNat-(scs g).length) 0
def arrs0 (g:TGraph):List (List Int):=(inps g).map fun a=>List.replicate a.2.2.1.toNat a.2.2.2
def m0 (g:TGraph) (fu:Int):M:=⟨max fu 0,0,0,0,0,0,0,regs0 g,arrs0 g,[]⟩
theorem gx_map {α β:Type} {l:List α} {f:α->β} {i:Nat} {d:α} {d':β} (h:i<l.length):gx (l.map f) i d'=f (gx l i d):=by
 simp only [gx,List.getD_eq_getElem?_getD,List.getElem?_map];rw [List.getElem?_eq_getElem h];rfl
theorem set_app {α:Type} {l r:List α} {x:α} {i:Nat} (h:i=l.length):(l++r).set i x=l++r.set 0 x:=by
 subst h;rw [List.set_append_right _ _ (Nat.le_refl _),Nat.sub_self]
theorem fill_step {α:Type} {l:List α} {x y:α} {n i:Nat} (hl:l.length=i) (hi:i<n):(l++List.replicate (n-i) x).set i y=l++[y]++List.replicate (n-(i+1)) x:=by
 rw [set_app hl.symm,show n-i=(n-(i+1))+1 by omega,List.replicate_succ,List.set_cons_zero,List.append_assoc];rfl
section
variable {g:TGraph} {D:List Int}
theorem FitG.regsN (hF:FitG g D):∃ R:Nat,g.2.2.1=(R:Int)/\(scs g).length<=R/\R<=4160:=by
 have h1:=hF.defs.regs;have h2:=hF.defs.len;have h3:=hF.S;exact ⟨_,h1,by omega,by omega⟩
theorem f55l3_eq (hF:FitG g D) (q):loopAll (f55_l3.m ((scs g),nt (scs g).length,q)) (0,List.replicate g.2.2.1.toNat 0)=some (regs0 g):=by
 obtain ⟨R,hR,hS,hR2⟩:=hF.regsN;have h4:=hF.S;unfold regs0;rw [hR,Int.toNat_natCast];have:=loop_run (step:=f55_l3.m ((scs g),nt (scs g).length,q)) (n:=(scs g).length) (fun i=>((i:Int),((scs g).take i).map (fun s=>s.2.2)++List.replicate (R-i) 0)) ((scs g).map (fun s=>s.2.2)++List.replicate (R-(scs g).length) 0) (by omega) (fun t=>(scs g).length-t.1.toNat) (fun i _=>by simp) (fun i hi=>by
  have h':(i:Int)<((scs g).length:Int):=by omega
  have w:wi64 ((i:Int)+1)=((i+1:Nat):Int):=by rw [wi64_of (by omega) (by omega)];rfl
  have hl:(((scs g).take i).map (fun s=>s.2.2)).length=i:=by simp;omega
  have hlt:i<(((scs g).take i).map (fun s=>s.2.2)++List.replicate (R-i) (0:Int)).length:=by rw [List.length_append,hl,List.length_replicate];omega
  simp only [LD.m,f55_l3,nt,h',decide_true,cond_true,inR hi,ask_true,Int.toNat_natCast,w,inR hlt];rw [fill_step hl (by omega),take_gx dScalar hi,List.map_append];rfl) (by
  simp only [LD.m,f55_l3,nt,Int.lt_irrefl,decide_false,cond_false,List.take_length])
 simpa using this
theorem f55l12_eq (l:List TInput) (z1 z2:Int) (x:TInput) (q r) (n:Nat) (hn:n<=256):loopAll (f55_l12.m (l,z1,z2,(nt n),x,q,r)) (0,List.replicate n 0)=some (List.replicate n x.2.2.2):=by
 have:=loop_run (step:=f55_l12.m (l,z1,z2,(nt n),x,q,r)) (n:=n) (fun i=>((i:Int),List.replicate i x.2.2.2++List.replicate (n-i) 0)) (List.replicate n x.2.2.2) (by omega) (fun t=>n-t.1.toNat) (fun i _=>by simp) (fun i hi=>by
  have h':(i:Int)<(n:Int):=by omega
  have w:wi64 ((i:Int)+1)=((i+1:Nat):Int):=by rw [wi64_of (by omega) (by omega)];rfl
  have hlt:i<(List.replicate i x.2.2.2++List.replicate (n-i) (0:Int)).length:=by simp;omega
  simp only [LD.m,f55_l12,nt,h',decide_true,cond_true,ask_true,Int.toNat_natCast,w,inR hlt];rw [fill_step (by simp) (by omega),<- List.replicate_succ']) (by
  simp only [LD.m,f55_l12,nt,Int.lt_irrefl,decide_false,cond_false];simp)
 simpa using this
theorem f55l8_eq (hF:FitG g D) (q):loopAll (f55_l8.m ((inps g),nt (inps g).length,q)) (0,[])=some (arrs0 g):=by
 have hA:=hF.A;have:=loop_run (step:=f55_l8.m ((inps g),nt (inps g).length,q)) (n:=(inps g).length) (fun i=>((i:Int),((inps g).take i).map fun a=>List.replicate a.2.2.1.toNat a.2.2.2)) (arrs0 g) (by omega) (fun t=>(inps g).length-t.1.toNat) (fun i _=>by simp) (fun i hi=>by
  have h':(i:Int)<((inps g).length:Int):=by omega
  have w:wi64 ((i:Int)+1)=((i+1:Nat):Int):=by rw [wi64_of (by omega) (by omega)];rfl
  obtain ⟨_,_,s1,s2⟩:=hF.I.a i hi;have hl:(((inps g).take i).map fun a=>List.replicate a.2.2.1.toNat a.2.2.2).length<=16:=by simp;omega
  have e:=take_gx dInput hi;simp only [LD.m,f55_l8,nt,h',decide_true,cond_true,inR hi,ask_true,Int.toNat_natCast,w];obtain ⟨y,hy⟩:∃ y,gx (inps g) i dInput=y:=⟨_,rfl⟩;rw [hy] at s1 s2;refine (ask_eq (b:=decide (0<=(gx (inps g) i dInput).2.2.1)&&decide ((gx (inps g) i dInput).2.2.1<=(gx (inps g) i dInput).2.2.1)&&decide (8 * (gx (inps g) i dInput).2.2.1<=70368744177664)&&decide ((gx (inps g) i dInput).2.2.1<9223372036854775808)) (by rw [hy];simp;omega)).trans ?_;have e2:=f55l12_eq (inps g) ((inps g).length:Int) (i:Int) (gx (inps g) i dInput) q (((inps g).take i).map fun a=>List.replicate a.2.2.1.toNat a.2.2.2) (gx (inps g) i dInput).2.2.1.toNat (by rw [hy];omega);simp only [nt] at e2;rw [List.length_replicate,e2,Option.bind_some];refine (ask_eq (b:=decide ((((((inps g).take i).map fun a=>List.replicate a.2.2.1.toNat a.2.2.2).length+List.length ([List.replicate (gx (inps g) i dInput).2.2.1.toNat (gx (inps g) i dInput).2.2.2]:List (List Int))) * 24<=70368744177664))&&decide ((((inps g).take i).map fun a=>List.replicate a.2.2.1.toNat a.2.2.2).length+List.length ([List.replicate (gx (inps g) i dInput).2.2.1.toNat (gx (inps g) i dInput).2.2.2]:List (List Int))<9223372036854775808)) (by simp only [Bool.and_eq_true,decide_eq_true_eq,List.length_singleton];omega)).trans ?_;rw [e,List.map_append];rfl) (by
  simp only [LD.m,f55_l8,nt,Int.lt_irrefl,decide_false,cond_false,List.take_length];rfl)
 exact this
theorem max_eq (fu:Int):(if 0>fu then 0 else fu)=max fu 0:=by
 rw [Int.max_def];split<;>split<;>omega
theorem f55_eq (hF:FitG g D) (sc:List Int) (fu:Int):f55_m (g,sc,fu)=some (max fu 0,regs0 g,arrs0 g):=by
 obtain ⟨R,hR,hS,hR2⟩:=hF.regsN;unfold f55_m f55_c;have b:(decide (0<=g.2.2.1)&&decide (g.2.2.1<=g.2.2.1)&&decide (8 * g.2.2.1<=70368744177664)&&decide (g.2.2.1<9223372036854775808))=true:=by
  rw [hR];simp;omega
 refine (ask_eq b).trans ?_;rw [f55l3_eq hF,Option.bind_some,f55l8_eq hF,Option.bind_some,max_eq]
theorem m0_inv (hF:FitG g D) (sc:List Int) {fu:Int} (hfu:fu<=1000000):Inv g sc (m0 g fu):=by
 obtain ⟨R,hR,hS,hR2⟩:=hF.regsN;refine ⟨fun _=>⟨Int.le_refl _,by have:=hF.N1;simp only [m0];omega⟩,?_,by simp [m0,arrs0],fun i hi=> ?_,by simp [m0],⟨Int.le_refl _,by simp only [m0];omega⟩,⟨by simp only [m0];omega,by simp only [m0];omega⟩,fun h=>by simp [m0] at h⟩
 · simp only [m0,regs0,List.length_append,List.length_map,List.length_replicate,hR,Int.toNat_natCast];omega
 · have:=(hF.I.a i hi).2.2.1;simp only [m0,arrs0,gx_map (d:=dInput) hi,List.length_replicate];omega
end
def big:Nat:=10000000000
def tr (g:TGraph) (sc:List Int) (fu:Int):List M:=trace g sc big (m0 g fu)
def ls (g:TGraph) (sc:List Int) (fu:Int):M:=last g sc big (m0 g fu)
section
variable {g:TGraph} {D:List Int} {sc:List Int}
theorem run_ok (hF:FitG g D) {fu:Int} (hfu:fu<=1000000):∃ rk,Ranked g rk/\Inv g sc (m0 g fu)/\mu g rk (m0 g fu)<=big:=by
 obtain ⟨rk,hr⟩:=hF.rank;have hI:=m0_inv hF sc hfu;exact ⟨rk,hr,hI,Nat.le_of_lt (mu_small hF hI hr)⟩
theorem f57v2_eq (q1 q2 q3 q4 q5 q6 q7 q8:Int) (rg:List Int) (ar ma) (h:(scs g).length<=rg.length) (hr:rg.length<=10000):f57v2_m (g,sc,q1,q2,q3,q4,q5,q6,q7,rg,ar,ma)=some (rg.take (scs g).length):=by
 simp only [f57v2_m,f57v2_c,nt];have e:Int.toNat ((scs g).length:Int)-0=(scs g).length:=by omega
 have hl:(cutL 0 (Int.toNat ((scs g).length:Int)-0) rg).length<=10000:=by rw [e,cutL_take,List.length_take];omega
 refine (ask_eq (b:=decide (0<=(0:Int))&&decide ((0:Int)<=((scs g).length:Int))&&decide (((scs g).length:Int)<=(rg.length:Int))) (by simp only [Bool.and_eq_true,decide_eq_true_eq];omega)).trans ?_;refine (ask_eq (b:=decide ((cutL 0 (Int.toNat ((scs g).length:Int)-0) rg).length * 8<=70368744177664)&&decide ((cutL 0 (Int.toNat ((scs g).length:Int)-0) rg).length<9223372036854775808)) (by simp only [Bool.and_eq_true,decide_eq_true_eq];omega)).trans ?_;show some (cutL 0 (Int.toNat ((scs g).length:Int)-0) rg)=_;rw [e];rfl
theorem f25_eq (hF:FitG g D) (hs:sc.length<=9223372036854775807) {fu:Int} (hfu:fu<=1000000) (o:Ob1) (hO:J1 g o) (er:List TAlarm):
  f25_m (g,sc,fu,o.1,o.2.1,o.2.2.1,er,o.2.2.2,g)=some ((ls g sc fu).en,(ls g sc fu).si,(ls g sc fu).ki,(ls g sc fu).ti,(ls g sc fu).re,(ls g sc fu).rg.take (scs g).length,((tr g sc fu).foldl (obs1 g) o).1,((tr g sc fu).foldl (obs1 g) o).2.1,((tr g sc fu).foldl (obs1 g) o).2.2.1,((tr g sc fu).foldl (obs1 g) o).2.2.2,(ls g sc fu).ar,(ls g sc fu).ma):=by
 obtain ⟨rk,hr,hI,hm⟩:=run_ok (sc:=sc) hF hfu;have hw:=walk (S:=f25_l3.m (par1w g er sc)) enc1 (fun t=>M.of t.2.2.2.2) (fun _ _=>rfl) (obs1 g) (J1 g) hF (fun o m h ha=>h.next ha.2) (fun o m hI hJ=>l3_step hF hs hI hJ er) hr hI hO hm;obtain ⟨w1,w2,w3,w4⟩:=hw;unfold f25_m f25_c;rw [f55_eq hF,Option.bind_some];have w1':loopAll (f25_l3.m (g,0,0,0,0,0,er,g,g,sc,true,true,true,true,true,false,false)) (o.1,o.2.1,o.2.2.1,o.2.2.2,max fu 0,0,0,0,0,0,0,regs0 g,arrs0 g,[])=some (enc1 ((tr g sc fu).foldl (obs1 g) o) (ls g sc fu)):=w1;rw [w1',Option.bind_some];simp only [enc1,M.t];have hR:=w3.regs hF;have e:=f57v2_eq (g:=g) (sc:=sc) (ls g sc fu).fu (ls g sc fu).at_ (ls g sc fu).en (ls g sc fu).si (ls g sc fu).ki (ls g sc fu).ti (ls g sc fu).re 0 (ls g sc fu).rg (ls g sc fu).ar (ls g sc fu).ma hR.2 (by have:=hR.1;exact Nat.le_trans this (by decide));rw [e,Option.bind_some]
def ob0 (g:TGraph):Ob1:=(-1,List.replicate g.1.length false,List.replicate g.1.length (false,false),0)
theorem ob0_j (hF:FitG g D):J1 g (ob0 g):=⟨by simp [ob0],by simp [ob0],by have:=hF.N1;simp only [ob0];omega,.inl rfl⟩
def ob1 (g:TGraph) (sc:List Int) (fu:Int):Ob1:=(tr g sc fu).foldl (obs1 g) (ob0 g)
def cov1 (g:TGraph) (sc:List Int) (fu:Int):TCover:=((ob1 g sc fu).2.1,(ob1 g sc fu).2.2.1,if (ls g sc fu).en=1 then [((ls g sc fu).si,(ls g sc fu).ki)] else [])
def none0 (g:TGraph):TCover:=(List.replicate g.1.length false,List.replicate g.1.length (false,false),[])
theorem f14_eq (hF:FitG g D):f14_m g=some (none0 g):=by
 have hN:=hF.N;unfold f14_m f14_c none0;simp only [nt];refine (ask_eq (b:=decide (0<=(g.1.length:Int))&&decide ((g.1.length:Int)<=(g.1.length:Int))&&decide (1 * (g.1.length:Int)<=70368744177664)&&decide ((g.1.length:Int)<9223372036854775808)) (by simp;omega)).trans ?_;refine (ask_eq (b:=decide (0<=(g.1.length:Int))&&decide ((g.1.length:Int)<=(g.1.length:Int))&&decide (2 * (g.1.length:Int)<=70368744177664)&&decide ((g.1.length:Int)<9223372036854775808)) (by simp;omega)).trans ?_;rw [Int.toNat_natCast]
def out1 (g:TGraph) (sc:List Int) (fu:Int):TOutcome:=((ls g sc fu).en,(ls g sc fu).si,(ls g sc fu).ki,(ls g sc fu).ti,(ls g sc fu).re,(ls g sc fu).rg.take (scs g).length,(ls g sc fu).ar,(ls g sc fu).ma)
theorem f37_eq (hF:FitG g D) (hs:sc.length<=9223372036854775807) {fu:Int} (hfu:fu<=1000000):f37_m (g,sc,fu)=some (cov1 g sc fu,out1 g sc fu,(ob1 g sc fu).1):=by
 unfold f37_m f37_c;rw [f14_eq hF,Option.bind_some];have e:=f25_eq hF hs hfu (ob0 g) (ob0_j hF) [];have e':f25_m (g,sc,fu,(-1),(none0 g).1,(none0 g).2.1,(none0 g).2.2,0,g)=_:=e;rw [e',Option.bind_some];by_cases h:(ls g sc fu).en=1
 · simp only [h,decide_true,cond_true,cov1,out1,ob1,if_true]
 · simp only [h,decide_false,cond_false,cov1,out1,ob1,if_false];rfl
end
end Go.U
end
section
set_option maxRecDepth 20000
namespace Go.U
open Go
def addE (l:List TAlarm) (e:TAlarm):List TAlarm:=if e∈l then l else l++[e]
def orB (a b:List Bool):List Bool:=List.zipWith (· || ·) a b
def orW (a b:List (Bool×Bool)):List (Bool×Bool):=List.zipWith (fun x y=>(x.1||y.1,x.2||y.2)) a b
def joinC (a b:TCover):TCover:=(orB a.1 b.1,orW a.2.1 b.2.1,sortA (b.2.2.foldl addE a.2.2))
structure CovOK (N:Nat) (c:TCover):Prop where
 p:c.1.length=N
 w:c.2.1.length=N
 e:c.2.2.length<=1000000
theorem addE_len (l:List TAlarm) (e:TAlarm):(addE l e).length<=l.length+1:=by unfold addE;split<;>simp
theorem foldE_len:∀ (es l:List TAlarm),(es.foldl addE l).length<=l.length+es.length
 |[],l=>by simp
 |e::es,l=>by
  have h1:=foldE_len es (addE l e);have h2:=addE_len l e;rw [List.foldl_cons,List.length_cons];omega
theorem beqA (a b:TAlarm):((decide (a.1=b.1))&&((decide (a.2=b.2))&&true))=decide (a=b):=by
 obtain ⟨a1,a2⟩:=a;obtain ⟨b1,b2⟩:=b;by_cases h1:a1=b1<;>by_cases h2:a2=b2<;>simp [h1,h2]
theorem f115_eq (x:TAlarm) (l:List TAlarm) (hl:l.length<=9223372036854775807):∃ r,f115_m (x,l)=some r/\(0<=r↔x∈l):=by
 unfold f115_m f115_c;obtain ⟨e,h1,h2⟩:=each_tot2 (n:=l.length) (step:=f115_l2.m ((nt (List.length l)),(x,l))) hl (fun k=>∀ j,j<k->x≠gx l j dAlarm) (fun e=>(∃ i:Int,e= .inl i/\0<=i/\x∈l)\/(∃ u,e= .inr u/\x∉l)) (fun j h=>absurd h (Nat.not_lt_zero _)) (fun i hi hI=>by
   have h':(i:Int)<(l.length:Int):=by omega
   simp only [LD.m,f115_l2,nt,h',decide_true,cond_true,inR hi,ask_true,Int.toNat_natCast,beqA];refine gd_cond (fun h=>gd_ke (.inl ⟨_,rfl,by omega,?_⟩)) fun h=>gd_ki fun j hj=> ?_
   · rw [of_decide_eq_true h];exact List.mem_of_getElem? (gx_lt (d:=dAlarm) hi)
   · by_cases e:j=i
     · subst e;exact of_decide_eq_false h
     · exact hI j (by omega)) (fun hI=>by
   simp only [LD.m,f115_l2,nt,Int.lt_irrefl,decide_false,cond_false];refine ⟨_,rfl,.inr ⟨(),rfl,fun hx=> ?_⟩⟩;obtain ⟨j,hj⟩:=List.mem_iff_getElem?.1 hx;exact hI j (getElem?_lt hj) (gx_of hj).symm)
 rw [h1,Option.bind_some];rcases h2 with ⟨i,rfl,h0,hx⟩|⟨u,rfl,hx⟩
 · exact ⟨i,rfl,⟨fun _=>hx,fun _=>h0⟩⟩
 · exact ⟨-1,rfl,⟨fun h=>absurd h (by decide),fun h=>absurd h hx⟩⟩
theorem f72_eq (x:TAlarm) (l:List TAlarm) (hl:l.length<=9223372036854775807):f72_m (x,l)=some (decide (x∈l)):=by
 obtain ⟨r,h1,h2⟩:=f115_eq x l hl;unfold f72_m f72_c;simp only;rw [h1,Option.bind_some];congr 1;exact decide_eq_decide.2 h2
theorem f50_eq3 (e:TAlarm) (z:Int) (P:List Bool) (W:List (Bool×Bool)) (l:List TAlarm) (hl:l.length<=9223372036854775807):f50_m ((3,(z,e)),P,W,l)=some (decide (e∈l)):=by
 have h:f50_m ((3,(z,e)),P,W,l)=(f72_m (e,l)).bind fun r=>some r:=rfl
 rw [h,f72_eq e l hl];rfl
theorem f50_eq0 (i:Nat) (e:TAlarm) (P:List Bool) (W:List (Bool×Bool)) (l:List TAlarm) (hi:i<P.length):f50_m ((0,((i:Int),e)),P,W,l)=some (gx P i false):=by
 have h':(i:Int)<(P.length:Int):=by omega
 simp only [f50_m,f50_c,nt,decide_true,cond_true,h',inR hi,ask_true,Int.toNat_natCast]
theorem f50_eqw (i:Nat) (e:TAlarm) (P:List Bool) (W:List (Bool×Bool)) (l:List TAlarm) (hi:i<W.length):f50_m ((1,((i:Int),e)),P,W,l)=some (gx W i (false,false)).1/\f50_m ((2,((i:Int),e)),P,W,l)=some (gx W i (false,false)).2:=by
 have h':(i:Int)<(W.length:Int):=by omega
 have w1:wi64 (1-1)=0:=by decide
 have w2:wi64 (2-1)=1:=by decide
 constructor
 · simp only [f50_m,f50_c,nt,Int.reduceEq,decide_true,decide_false,cond_true,cond_false,h',inR hi,ask_true,Int.toNat_natCast,w1]
 · simp only [f50_m,f50_c,nt,Int.reduceEq,decide_true,decide_false,cond_true,cond_false,h',inR hi,ask_true,Int.toNat_natCast,w2]
section
variable (P:List Bool) (W:List (Bool×Bool)) (E:List TAlarm)
theorem y3_p {i:Nat} (z1 z2:Int) (hi:i<P.length):y230003_m (0,(i:Int),z1,z2,P,W,E)=some (.inl (P.set i true,W)):=by
 simp only [y230003_m,y230003_c,decide_true,cond_true,inR hi,ask_true,Int.toNat_natCast]
theorem y3_w1 {i:Nat} (z1 z2:Int) (hi:i<W.length):y230003_m (1,(i:Int),z1,z2,P,W,E)=some (.inl (P,W.set i (true,(gx W i (false,false)).2))):=by
 have w1:wi64 (1-1)=0:=by decide
 have d:(1:Int)<3:=by decide
 simp only [y230003_m,y230003_c,Int.reduceEq,d,decide_true,decide_false,cond_true,cond_false,inR hi,ask_true,Int.toNat_natCast,w1]
theorem y3_w2 {i:Nat} (z1 z2:Int) (hi:i<W.length):y230003_m (2,(i:Int),z1,z2,P,W,E)=some (.inl (P,W.set i ((gx W i (false,false)).1,true))):=by
 have w1:wi64 (2-1)=1:=by decide
 have d:(2:Int)<3:=by decide
 simp only [y230003_m,y230003_c,Int.reduceEq,d,decide_true,decide_false,cond_true,cond_false,inR hi,ask_true,Int.toNat_natCast,w1]
theorem y3_e (z:Int) (e:TAlarm) (hE:E.length<=3000000):y230003_m (3,z,e.1,e.2,P,W,E)=some (if e∈E then .inl (P,W) else .inr (E++[e])):=by
 have d:¬ (3:Int)<3:=by decide
 have h3:f50_m ((3,(z,(e.1,e.2))),P,W,E)=some (decide (e∈E)):=f50_eq3 e z P W E (by omega);have b:(decide ((E.length+List.length ([(e.1,e.2)]:List TAlarm)) * 16<=70368744177664)&&decide (E.length+List.length ([(e.1,e.2)]:List TAlarm)<9223372036854775808))=true:=by
   simp only [Bool.and_eq_true,decide_eq_true_eq,List.length_singleton];omega
 simp only [y230003_m,y230003_c,Int.reduceEq,d,decide_true,decide_false,cond_true,cond_false,h3,Option.bind_some];by_cases h:e∈E
 · simp only [h,decide_true,Bool.not_true,cond_false,if_true]
 · simp only [h,decide_false,Bool.not_false,cond_true,if_false];exact ask_eq b
end
theorem orB_take {P Q:List Bool} {i:Nat} (hl:P.length=Q.length) (hi:i<Q.length):(orB (P.take i) (Q.take i)++P.drop i).set i (gx P i false||gx Q i false)=orB (P.take (i+1)) (Q.take (i+1))++P.drop (i+1):=by
 have e1:(orB (P.take i) (Q.take i)).length=i:=by simp [orB];omega
 have e2:P.drop i=gx P i false::P.drop (i+1):=by
  rw [List.drop_eq_getElem_cons (by omega)];congr 1;have:=gx_lt (d:=false) (show i<P.length by omega);rw [List.getElem?_eq_getElem (by omega)] at this;exact Option.some.inj this
 rw [set_app e1.symm,e2,List.set_cons_zero,take_gx false (show i<P.length by omega),take_gx false hi];unfold orB;rw [List.zipWith_append (by rw [List.length_take,List.length_take];omega),List.append_assoc];rfl
theorem gx_app2 {α:Type} {l r:List α} {d x:α} {i:Nat} (h:l.length=i):gx (l++x::r) i d=x:=by
 subst h;simp [gx]
theorem set_same {α:Type} {l:List α} {i:Nat} {d:α} (h:i<l.length):l.set i (gx l i d)=l:=by
 apply List.ext_getElem?;intro j;rw [List.getElem?_set];split
 · rename_i e;subst e;exact (gx_lt (d:=d) h).symm
 · rfl
theorem drop_gx {α:Type} {l:List α} {i:Nat} (d:α) (h:i<l.length):l.drop i=gx l i d::l.drop (i+1):=by
 rw [List.drop_eq_getElem_cons h];congr 1;have:=gx_lt (d:=d) h;rw [List.getElem?_eq_getElem h] at this;exact Option.some.inj this
theorem orW_take {P Q:List (Bool×Bool)} {i:Nat} (hl:P.length=Q.length) (hi:i<Q.length):(orW (P.take i) (Q.take i)++P.drop i).set i ((gx P i (false,false)).1||(gx Q i (false,false)).1,(gx P i (false,false)).2||(gx Q i (false,false)).2)=orW (P.take (i+1)) (Q.take (i+1))++P.drop (i+1):=by
 have e1:(orW (P.take i) (Q.take i)).length=i:=by simp [orW];omega
 rw [set_app e1.symm,drop_gx (false,false) (show i<P.length by omega),List.set_cons_zero,take_gx (false,false) (show i<P.length by omega),take_gx (false,false) hi];unfold orW;rw [List.zipWith_append (by rw [List.length_take,List.length_take];omega),List.append_assoc];rfl
section
variable (P:List Bool) (W:List (Bool×Bool)) (E:List TAlarm) (c:TCover)
theorem f69l1_eq (Q:List Bool) (hP:P.length=Q.length) (hQ:Q.length<=9223372036854775807):loopAll (f69_l1.m (Q,nt Q.length,c)) (0,P,W,E)=some (orB P Q,W,E):=by
 have:=loop_run (step:=f69_l1.m (Q,nt Q.length,c)) (n:=Q.length) (fun i=>((i:Int),orB (P.take i) (Q.take i)++P.drop i,W,E)) (orB P Q,W,E) (by omega) (fun t=>Q.length-t.1.toNat) (fun i _=>by simp) (fun i hi=>by
  have h':(i:Int)<(Q.length:Int):=by omega
  have w:wi64 ((i:Int)+1)=((i+1:Nat):Int):=by rw [wi64_of (by omega) (by omega)];rfl
  have e1:(orB (P.take i) (Q.take i)).length=i:=by simp [orB];omega
  have hlt:i<(orB (P.take i) (Q.take i)++P.drop i).length:=by rw [List.length_append,e1,List.length_drop];omega
  have hg:gx (orB (P.take i) (Q.take i)++P.drop i) i false=gx P i false:=by rw [drop_gx false (show i<P.length by omega)];exact gx_app2 e1
  have ht:=orB_take hP hi;simp only [LD.m,f69_l1,nt,h',decide_true,cond_true,inR hi,ask_true,Int.toNat_natCast,w];cases hq:gx Q i false
  · rw [hq,Bool.or_false,<- hg,set_same hlt] at ht;simp only [cond_false,ht]
  · rw [hq,Bool.or_true] at ht;simp only [cond_true,y3_p _ _ _ _ _ hlt,Option.bind_some,Sum.elim_inl,ht]) (by
  simp only [LD.m,f69_l1,nt,Int.lt_irrefl,decide_false,cond_false];rw [List.take_of_length_le (Nat.le_of_eq hP),List.take_length,List.drop_of_length_le (Nat.le_of_eq hP),List.append_nil])
 simpa [orB] using this
theorem f69l9_eq (i:Nat) (z1:List (Bool×Bool)) (z2 z3:Int) (w:Bool×Bool) (hi:i<W.length):loopAll (f69_l9.m ((i:Int),z1,z2,z3,w,c)) (0,P,W,E)=some (P,W.set i ((gx W i (false,false)).1||w.1,(gx W i (false,false)).2||w.2),E):=by
 obtain ⟨W1,hW1⟩:∃ W1,(if w.1=true then W.set i (true,(gx W i (false,false)).2) else W)=W1:=⟨_,rfl⟩;have hl1:i<W1.length:=by rw [<- hW1];split<;>simpa using hi
 obtain ⟨W2,hW2⟩:∃ W2,(if w.2=true then W1.set i ((gx W1 i (false,false)).1,true) else W1)=W2:=⟨_,rfl⟩;have w0:wi64 ((0:Int)+1)=1:=by decide
 have w1:wi64 ((1:Int)+1)=2:=by decide
 have w2:wi64 ((1:Int)+0)=1:=by decide
 have d0:(0:Int)<2:=by decide
 have d1:(1:Int)<2:=by decide
 have d2:¬ (1:Int)=0:=by decide
 have s0:f69_l9.m ((i:Int),z1,z2,z3,w,c) (0,P,W,E)=some (.inl (1,P,W1,E)):=by
  simp only [LD.m,f69_l9,d0,decide_true,cond_true,w0,w2];cases h:w.1
  · rw [h] at hW1;simp at hW1;subst hW1;rfl
  · rw [h] at hW1;simp at hW1;subst hW1;simp only [cond_true,y3_w1 _ _ _ _ _ hi,Option.bind_some,Sum.elim_inl]
 have s1:f69_l9.m ((i:Int),z1,z2,z3,w,c) (1,P,W1,E)=some (.inl (2,P,W2,E)):=by
  simp only [LD.m,f69_l9,d1,d2,decide_true,decide_false,cond_true,cond_false,w1];cases h:w.2
  · rw [h] at hW2;simp at hW2;subst hW2;rfl
  · rw [h] at hW2;simp at hW2;subst hW2;simp only [cond_true,y3_w2 _ _ _ _ _ hl1,Option.bind_some,Sum.elim_inl]
 have s2:f69_l9.m ((i:Int),z1,z2,z3,w,c) (2,P,W2,E)=some (.inr (P,W2,E)):=by
  simp only [LD.m,f69_l9,Int.lt_irrefl,decide_false,cond_false]
 have hf:W2=W.set i ((gx W i (false,false)).1||w.1,(gx W i (false,false)).2||w.2):=by
  rw [<- hW2,<- hW1];have hs:=set_same (d:=(false,false)) hi;have hgs:∀ x:Bool×Bool,gx (W.set i x) i (false,false)=x:=fun x=>by rw [gx_set hi,if_pos rfl]
  cases h1:w.1<;>cases h2:w.2<;>simp [hs,hgs]
 have:=loop_run (step:=f69_l9.m ((i:Int),z1,z2,z3,w,c)) (n:=2) (fun k=>if k=0 then (0,P,W,E) else if k=1 then (1,P,W1,E) else (2,P,W2,E)) (P,W2,E) (by decide) (fun t=>2-t.1.toNat) (fun k hk=>by
  obtain rfl|rfl|rfl:k=0\/k=1\/k=2:=by omega
  · rfl
  · rfl
  · rfl) (fun k hk=>by
  obtain rfl|rfl:k=0\/k=1:=by omega
  · exact s0
  · exact s1) s2
 rw [<- hf];exact this
theorem f69l6_eq (Q:List (Bool×Bool)) (hP:W.length=Q.length) (hQ:Q.length<=9223372036854775807):loopAll (f69_l6.m (Q,nt Q.length,c)) (0,P,W,E)=some (P,orW W Q,E):=by
 have:=loop_run (step:=f69_l6.m (Q,nt Q.length,c)) (n:=Q.length) (fun i=>((i:Int),P,orW (W.take i) (Q.take i)++W.drop i,E)) (P,orW W Q,E) (by omega) (fun t=>Q.length-t.1.toNat) (fun i _=>by simp) (fun i hi=>by
  have h':(i:Int)<(Q.length:Int):=by omega
  have w:wi64 ((i:Int)+1)=((i+1:Nat):Int):=by rw [wi64_of (by omega) (by omega)];rfl
  have e1:(orW (W.take i) (Q.take i)).length=i:=by simp [orW];omega
  have hlt:i<(orW (W.take i) (Q.take i)++W.drop i).length:=by rw [List.length_append,e1,List.length_drop];omega
  have hg:gx (orW (W.take i) (Q.take i)++W.drop i) i (false,false)=gx W i (false,false):=by rw [drop_gx (false,false) (show i<W.length by omega)];exact gx_app2 e1
  have ht:=orW_take hP hi;have h9:=f69l9_eq P (orW (W.take i) (Q.take i)++W.drop i) E c i Q (nt Q.length) (i:Int) (gx Q i (false,false)) hlt;rw [hg,ht] at h9;simp only [nt] at h9;simp only [LD.m,f69_l6,nt,h',decide_true,cond_true,inR hi,ask_true,Int.toNat_natCast,w];rw [h9,Option.bind_some]) (by
  simp only [LD.m,f69_l6,nt,Int.lt_irrefl,decide_false,cond_false];rw [List.take_of_length_le (Nat.le_of_eq hP),List.take_length,List.drop_of_length_le (Nat.le_of_eq hP),List.append_nil])
 simpa [orW] using this
theorem f69l15_eq (Q:List TAlarm) (hE:E.length<=1000000) (hQ:Q.length<=1000000):loopAll (f69_l15.m (Q,nt Q.length,c)) (0,P,W,E)=some (P,W,Q.foldl addE E):=by
 have:=loop_run (step:=f69_l15.m (Q,nt Q.length,c)) (n:=Q.length) (fun i=>((i:Int),P,W,(Q.take i).foldl addE E)) (P,W,Q.foldl addE E) (by omega) (fun t=>Q.length-t.1.toNat) (fun i _=>by simp) (fun i hi=>by
  have h':(i:Int)<(Q.length:Int):=by omega
  have w:wi64 ((i:Int)+1)=((i+1:Nat):Int):=by rw [wi64_of (by omega) (by omega)];rfl
  have hl:((Q.take i).foldl addE E).length<=3000000:=by
   have:=foldE_len (Q.take i) E;rw [List.length_take] at this;omega
  simp only [LD.m,f69_l15,nt,h',decide_true,cond_true,inR hi,ask_true,Int.toNat_natCast,w];rw [y3_e _ _ _ _ _ hl,Option.bind_some,take_gx dAlarm hi,List.foldl_append,List.foldl_cons,List.foldl_nil];unfold addE;split<;>rfl) (by
  simp only [LD.m,f69_l15,nt,Int.lt_irrefl,decide_false,cond_false,List.take_length])
 exact this
end
theorem clone_eq {α:Type} {n:Nat} {l:List α} (h:l.length<=3000000) (hn:n<=16):clone n l=some l:=by
 unfold clone;have:l.length * n<=3000000 * 16:=Nat.mul_le_mul h hn;exact ask_eq (by simp only [Bool.and_eq_true,decide_eq_true_eq];omega)
theorem f23_eq {N:Nat} (hN:N<=4096) {a b:TCover} (ha:CovOK N a) (hb:CovOK N b):f23_m (b,a.1,a.2.1,a.2.2)=some (joinC a b):=by
 have hp:b.1.length<=4096:=by rw [hb.p];exact hN
 have c1:f47_m a.1=some a.1:=clone_eq (by rw [ha.p];omega) (by decide);have c2:f48_m a.2.1=some a.2.1:=clone_eq (by rw [ha.w];omega) (by decide);have c3:f49_m a.2.2=some a.2.2:=clone_eq (by have:=ha.e;omega) (by decide);unfold f23_m f23_c;simp only [c1,c2,c3,Option.bind_some,PD.m,f23_q3];have h69:f69_m (b,a.1,a.2.1,a.2.2)=some (orB a.1 b.1,orW a.2.1 b.2.1,b.2.2.foldl addE a.2.2):=by
  unfold f69_m f69_c;simp only;rw [f69l1_eq a.1 a.2.1 a.2.2 b b.1 (by rw [ha.p,hb.p]) (by omega),Option.bind_some];simp only;rw [f69l6_eq (orB a.1 b.1) a.2.1 a.2.2 b b.2.1 (by rw [ha.w,hb.w]) (by rw [hb.w];omega),Option.bind_some];simp only;rw [f69l15_eq (orB a.1 b.1) (orW a.2.1 b.2.1) a.2.2 b b.2.2 ha.e hb.e,Option.bind_some]
 rw [h69,Option.bind_some];simp only [Option.bind_some];have hl:=foldE_len b.2.2 a.2.2;have h51:f51_m (b.2.2.foldl addE a.2.2)=some (sortA (b.2.2.foldl addE a.2.2)):=ask_eq (by simp only [decide_eq_true_eq];have:=ha.e;have:=hb.e;omega);rw [h51,Option.bind_some];rfl
end Go.U
end
