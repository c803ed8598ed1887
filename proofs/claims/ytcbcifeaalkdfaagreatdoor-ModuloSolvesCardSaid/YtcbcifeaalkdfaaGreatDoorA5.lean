/- An evaluator of the translated code and that it is right: each of its answers is an answer of the model. -/
import Derived.Test.YtcbcifeaalkdfaaGreatDoorA4
import Derived.Orders
set_option linter.unusedVariables false
set_option linter.unusedSimpArgs false
set_option linter.unusedSectionVars false
open Array renaming getD→Cs
open Bool renaming and_eq_true→Ab,not_true→Ub
open List renaming mem_cons_of_mem→Rb,length_nil→Om,getD_eq_getElem?_getD→Fb,getElem?_append_left→Ja,getElem?_eq_none→Nb,getElem?_set→Cc,getElem?_eq_getElem→Da,getElem?_of_mem→Ve,map_cons→He,mem_cons→me,getElem?_append_right→Oa,replicate→fb,getElem?_replicate→Gi,mem_append_left→we,mem_append_right→Bq,length_eq_zero_iff→Gb,range→mb,all_eq_true→ec,mem_of_getElem?→Eb,countP_cons→KF,countP_le_length→Rd
open Nat renaming zero_add→Qf,lt_or_gt_of_ne→By,lt_or_ge→dc,le_refl→ya,le_trans→Db,lt_of_lt_of_le→Sa,zero_le→Ac,le_of_lt→js
open Option renaming map_eq_some_iff→ja,bind_eq_some_iff→aa,bind_some→da
namespace Go.V
open Go
theorem force_eq{α:Type}(n:Nat)(k:Nat->α):force n k=k n:=by cases n<;>rfl
theorem Rr(acc:List Nat)(i:Nat):∀es:List Edge,(bitsOf acc es).testBit i=true->∃e∈es,Region.binds .any e=true/\(e.on=i\/(acc.getD e.on 0).testBit i=true)
 |[],h=>by simp[bitsOf]at h
 |e::es,h=>by
  simp only[bitsOf]at h;split at h
  ·rename_i hb;simp only[Nat.testBit_or,Bool.or_eq_true,Nat.testBit_two_pow,decide_eq_true_eq]at h;rcases h with(h|h)|h
   ·exact⟨e,by simp,hb,.inl h⟩
   ·exact⟨e,by simp,hb,.inr h⟩
   ·obtain⟨x,h1,h2⟩:=Rr acc i es h;exact⟨x,Rb _ h1,h2⟩
  ·obtain⟨x,h1,h2⟩:=Rr acc i es h;exact⟨x,Rb _ h1,h2⟩
theorem Ur:∀(os:List Oper)(acc:List Nat),acc <+: Tl os acc
 |[],acc=>List.prefix_refl _
 |o::os,acc=>by
  simp only[Tl,force_eq];exact(List.prefix_append _ _).trans (Ur os _)
theorem SH:∀(os:List Oper)(acc:List Nat)(k:Nat)(o:Oper),os[k]?=some o->
  ∃G8,G8 <+: Tl os acc/\G8.length=acc.length+k/\(Tl os acc)[acc.length+k]?=some (bitsOf G8 o.after.toList)
 |[],acc,k,o,h=>by simp at h
 |o'::os,acc,0,o,h=>by
  simp at h;subst h;refine⟨acc,Ur _ _,rfl,?_⟩;simp only[Tl,force_eq];obtain⟨t,ht⟩:=Ur os (acc++[bitsOf acc o'.after.toList]);rw[<- ht]
  simp
 |o'::os,acc,k+1,o,h=>by
  obtain⟨G8,h1,h2,h3⟩:=SH os (acc++[bitsOf acc o'.after.toList]) k o (by simpa using h);simp only[Tl,force_eq];refine⟨G8,h1,by simp at h2;omega,?_⟩;rw[<- h3];congr 1;simp;omega
theorem SY{os:Array Oper}{i j:Nat}{o:Oper}(ho:os[j]?=some o)(h:ord (Tl os.toList []) i j=true):
  ∃e∈o.after,Region.binds .any e=true/\(e.on=i\/ord (Tl os.toList []) i e.on=true):=by
 obtain⟨acc,h1,h2,h3⟩:=SH os.toList [] j o (by simpa using ho);simp only[Om,Qf]at h2 h3;unfold ord at h;rw[Fb,h3]at h;obtain⟨e,he,hb,h⟩:=Rr acc i _ h;refine⟨e,by simpa using he,hb,h.imp id λh=> ?_⟩;unfold ord;rw[Fb]at h ⊢;by_cases Mc:e.on<acc.length
 ·obtain⟨t,ht⟩:=h1;rw[<- ht,Ja Mc];exact h
 ·rw[Nb (by omega)]at h;simp at h
def Down(os:Array Oper)(L:Nat->Prop):Prop:=∀i j,j<os.size->L j->ord (Tl os.toList []) i j=true->L i
def yn(os:Array Oper)(L:Nat->Prop)(j:Nat):Prop:=j<os.size/\¬L j/\∀i,ord (Tl os.toList []) i j=true->L i
theorem Down.add{os:Array Oper}{L:Nat->Prop}{j:Nat}(h:Down os L)(hj:yn os L j):Down os λi=>L i\/i=j:=λi k hk hL ho=>by
 rcases hL with hL|rfl
 ·exact .inl (h i k hk hL ho)
 ·exact .inl (hj.2.2 i ho)
inductive w9 where
 |slot (t:Nat)
 |heap
 |box (b:Nat)
structure Trace(A:Oi)(call:Callee)(Ca:List Nat)(n:Nat)(os:Array Oper)(σ:Nat->S)(τ:Nat->Yf):Prop where
 step:∀i o,os[i]?=some o->
  (∃q v s',Bf os (σ i) o=some true/\LR A call Ca (τ i) (σ i) o=some (v,s')/\τ i=Ud A Ca (σ i) o q/\put s' n o.dst v=some (σ (i+1)))\/
  (Bf os (σ i) o=some false/\put (σ i) n o.dst (.v (.Re []))=some (σ (i+1))/\τ i= .no)\/
  (∃v,Bf os (σ i) o=some true/\Xf A (σ i) o=true/\Ms (σ i).H.bl.length v=true/\put (σ i) n o.dst v=some (σ (i+1))/\τ i= .no/\(∀j,j<i->τ j= .heap true->ord (Tl os.toList []) j i=true)/\
   ∀k,i<=k->k<=os.size->∃s',op A call Ca { σ k with e:=(σ i).e } o=some (v,s'))
 uR:∀i j oi oj,os[i]?=some oi->os[j]?=some oj->i<j->ord (Tl os.toList []) i j=true\/oi.apart os oj=true
 bI:∀i j,i<os.size->j<os.size->i≠j->(τ j).writes=true->(i<j/\ord (Tl os.toList []) i j=true)\/(j<i/\ord (Tl os.toList []) j i=true)\/conflict (τ i) (τ j)=false
def Wr(os:Array Oper)(τ:Nat->Yf)(j:Nat):w9->Prop
 | .slot t=>∃o,os[j]?=some o/\o.dst=some t
 | .heap=>τ j= .heap true
 | .box b=>τ j= .box b true
def Us(os:Array Oper)(τ:Nat->Yf)(j:Nat):w9->Prop
 | .slot t=>∃o,os[j]?=some o/\(o.dst=some t\/t∈o.looksAt os)
 | .heap=>(τ j).Yc=true
 | .box b=>∃w,τ j= .box b w
section
variable {A:Oi}{call:Callee}{Ca:List Nat}{n:Nat}{os:Array Oper}{σ:Nat->S}{τ:Nat->Yf}{L:Nat->Prop}
theorem Wr.us{j:Nat}{c:w9}(h:Wr os τ j c):Us os τ j c:=by
 cases c with
 |slot t=>obtain⟨o,h1,h2⟩:=h;exact⟨o,h1,.inl h2⟩
 |heap=>simp only[Wr]at h;simp only[Us,h,Yf.Yc]
 |box b=>exact⟨true,h⟩
theorem Trace.order(T:Trace A call Ca n os σ τ){i j:Nat}{c:w9}(hi:i<os.size)(hj:j<os.size)(td:i≠j)(hw:Wr os τ j c)(hu:Us os τ i c):
  (i<j/\ord (Tl os.toList []) i j=true)\/(j<i/\ord (Tl os.toList []) j i=true):=by
 cases c with
 |slot t=>
  obtain⟨oj,hoj,hd⟩:=hw;obtain⟨oi,hoi,hu⟩:=hu;rcases By td with h|h
  ·rcases T.uR i j oi oj hoi hoj h with h1|h1
   ·exact .inl ⟨h,h1⟩
   ·exfalso;obtain⟨k1,k2,k3⟩:=Oper.apart_spec h1;rcases hu with hu|hu
    ·exact k2 t hu hd
    ·exact k3 t hd hu
  ·rcases T.uR j i oj oi hoj hoi h with h1|h1
   ·exact .inr ⟨h,h1⟩
   ·exfalso;obtain⟨k1,k2,k3⟩:=Oper.apart_spec h1;rcases hu with hu|hu
    ·exact k2 t hd hu
    ·exact k1 t hd hu
 |heap=>
  simp only[Wr]at hw;rcases T.bI i j hi hj td (by rw[hw];rfl)with h|h|h
  ·exact .inl h
  ·exact .inr h
  ·exfalso;simp only[Us]at hu;rw[hw]at h;cases hτ:τ i with
   |heap w=>rw[hτ]at h;simp[conflict]at h
   |no=>rw[hτ]at hu;simp[Yf.Yc]at hu
   |box b w=>rw[hτ]at hu;simp[Yf.Yc]at hu
 |box b=>
  simp only[Wr]at hw;rcases T.bI i j hi hj td (by rw[hw];rfl)with h|h|h
  ·exact .inl h
  ·exact .inr h
  ·exfalso;obtain⟨w,hu⟩:=hu;rw[hw,hu]at h;simp[conflict]at h
def eu(os:Array Oper)(τ:Nat->Yf)(L:Nat->Prop)(p:Nat)(c:w9):Prop:=
 (∀j,j<os.size->j<p->¬L j->¬Wr os τ j c)/\(∀j,j<os.size->p<=j->L j->¬Wr os τ j c)
theorem Trace.Fs(T:Trace A call Ca n os σ τ)(hD:Down os L){i:Nat}(hi:yn os L i){c:w9}(hu:Us os τ i c):eu os τ L i c:=by
 refine⟨λj hj Mc Vk hw=> ?_,λj hj hle hl hw=> ?_⟩
 ·rcases T.order hi.1 hj (by omega) hw hu with h|h
  ·omega
  ·exact Vk (hi.2.2 j h.2)
 ·have td:i≠j:=λe=>hi.2.1 (e ▸ hl)
  rcases T.order hi.1 hj td hw hu with h|h
  ·exact hi.2.1 (hD i j hj hl h.2)
  ·omega
theorem eu.before{i p:Nat}{c:w9}(h:eu os τ (λj=>L j\/j=i) p c)(hn:¬Wr os τ i c):eu os τ L p c:=by
 refine⟨λj hj Mc Vk hw=> ?_,λj hj hle hl=>h.2 j hj hle (.inl hl)⟩;by_cases e:j=i
 ·exact hn (e ▸ hw)
 ·exact h.1 j hj Mc (λh=>h.elim Vk e) hw
theorem eu.after{i p:Nat}{c:w9}(hi:i<os.size)(h:eu os τ (λj=>L j\/j=i) p c)(hw:Wr os τ i c):i<p:=by
 rcases dc i p with h1|h1
 ·exact h1
 ·exact absurd hw (h.2 i hi h1 (.inr rfl))
theorem Trace.Bp(T:Trace A call Ca n os σ τ)(hD:Down os L){i p:Nat}(hi:yn os L i){c:w9}(hu:Us os τ i c)(h:eu os τ (λj=>L j\/j=i) p c)(j:Nat)(hj:j<os.size)(h1:i<j)(h2:j<p):¬Wr os τ j c:=λhw=>by
 by_cases hl:L j
 ·rcases T.order hi.1 hj (by omega) hw hu with h|h
  ·exact hi.2.1 (hD i j hj hl h.2)
  ·omega
 ·exact h.1 j hj h2 (λh=>h.elim hl (by omega)) hw
structure Left(os:Array Oper)(σ:Nat->S)(τ:Nat->Yf)(i:Nat):Prop where
 e:∀t,¬Wr os τ i (.slot t)->get (σ (i+1)).e t=get (σ i).e t
 wm:(σ (i+1)).H.wm=(σ i).H.wm
 len:(σ i).H.bl.length<=(σ (i+1)).H.bl.length
 H:(τ i).Yc=false->(σ (i+1)).H=(σ i).H
 bl:τ i≠ .heap true->∀b,b<(σ i).H.bl.length->(σ (i+1)).H.bl[b]?=(σ i).H.bl[b]?
 low:∀b,b<(σ i).H.wm->b<(σ i).H.bl.length->(σ (i+1)).H.bl[b]?=(σ i).H.bl[b]?
 Uj:(σ i).F.length<=(σ (i+1)).F.length
 F:∀b,b<(σ i).F.length->τ i≠ .box b true->(σ (i+1)).F[b]?=(σ i).F[b]?
 row:∀(b:Nat)(r r':List AV),(σ i).F[b]?=some r->(σ (i+1)).F[b]?=some r'->r'.length=r.length
theorem qw{s s':S}{n:Nat}{dst:Option Nat}{v:SV}(h:put s n dst v=some s'):(∀t,dst≠some t->get s'.e t=get s.e t)/\s'.H=s.H/\s'.F=s.F/\∀d,dst=some d->d<n/\get s'.e d=v:=by
 unfold put at h;split at h
 ·simp at h;subst h;exact⟨λ_ _=>rfl,rfl,rfl,λd hd=>by simp at hd⟩
 ·rename_i d;split at h
  ·rename_i hd;simp at h;subst h;refine⟨λt ht=> ?_,rfl,rfl,λd' gY=> ?_⟩
   ·simp only[get];rw[if_neg (λe=>ht (by rw[e]))]
   ·simp at gY;subst gY;exact⟨hd,by simp[get]⟩
  ·simp at h
def GF(t:Yf)(s:S):S:=
 match t with
 | .heap true=>s
 |_=>{ s with H:={ s.H with wm:=s.H.bl.length } }
theorem XY{t:Yf}{s s':S}{o:Oper}{v:SV}(h:LR A call Ca t s o=some (v,s')):
  ∃s1,op A call Ca (GF t s) o=some (v,s1)/\s'.e=s1.e/\s'.F=s1.F/\s'.H.bl=s1.H.bl/\(t= .heap true->s'=s1)/\(t≠ .heap true->s'.H.wm=s.H.wm):=by
 have hm:(op A call Ca { s with H:={ s.H with wm:=s.H.bl.length } } o).map (λ(v,s')=>(v,{ s' with H:={ s'.H with wm:=s.H.wm } }))=some (v,s')->
   ∃s1,op A call Ca { s with H:={ s.H with wm:=s.H.bl.length } } o=some (v,s1)/\s'.e=s1.e/\s'.F=s1.F/\s'.H.bl=s1.H.bl/\s'.H.wm=s.H.wm:=λh=>by
  simp only[ja]at h;obtain⟨⟨u,s1⟩,h1,h⟩:=h;simp at h;obtain⟨rfl,rfl⟩:=h;exact⟨s1,h1,rfl,rfl,rfl,rfl⟩
 unfold LR at h;split at h
 ·exact⟨s',h,rfl,rfl,rfl,λ_=>rfl,λh=>absurd rfl h⟩
 ·rename_i td;obtain⟨s1,h1,h2,h3,h4,h5⟩:=hm h;refine⟨s1,?_,h2,h3,h4,λh=>absurd h td,λ_=>h5⟩;unfold GF;split
  ·exact absurd rfl td
  ·exact h1
theorem KU(t:Yf)(s:S):(GF t s).e=s.e:=by unfold GF;split<;>rfl
theorem LU(t:Yf)(s:S):(GF t s).F=s.F:=by unfold GF;split<;>rfl
theorem Sr(t:Yf)(s:S):(GF t s).H.bl=s.H.bl:=by unfold GF;split<;>rfl
theorem nF{t:Yf}{s:S}(h:t≠ .heap true):(GF t s).H.wm=s.H.bl.length:=by unfold GF;split;exact absurd rfl h;rfl
theorem OH(t:Yf)(s:S)(o:Oper)(q:Bool):Ud A Ca (GF t s) o q=Ud A Ca s o q:=by unfold Ud;simp only[KU]
theorem Trace.left(T:Trace A call Ca n os σ τ)(hq:Nd call){i:Nat}(hi:i<os.size):Left os σ τ i:=by
 have ho:os[i]?=some os[i]:=by simp[hi]
 generalize os[i]=o at ho;have y_:∀t,¬Wr os τ i (.slot t)->o.dst≠some t:=λt hn hd=>hn ⟨o,ho,hd⟩
 have k_:∀{v:SV},put (σ i) n o.dst v=some (σ (i+1))->τ i= .no->Left os σ τ i:=λ{v}Dh ht=>by
  obtain⟨p1,p2,p3,p4⟩:=qw Dh;refine⟨λt hn=>p1 t (y_ t hn),by rw[p2],by rw[p2];exact ya _,λ_=>p2,λ_ b _=>by rw[p2],λb _ _=>by rw[p2],by rw[p3];exact ya _,λb _ _=>by rw[p3],λb r r' hr bj=> ?_⟩;rw[p3,hr]at bj;simp at bj;rw[bj]
 rcases T.step i o ho with⟨q,v,s',hg,WG,ht,Dh⟩|⟨hg,Dh,ht⟩|⟨v,_,_,_,Dh,ht,_⟩
 ·obtain⟨p1,p2,p3,p4⟩:=qw Dh;obtain⟨s1,h1,h2,h3,h4,h5,h6⟩:=XY WG;obtain⟨t',_,st⟩:=qI (q:=q) (t:=GF (τ i) (σ i)) hq h1 (λ_ _=>rfl) (λ_=>rfl) rfl (λ_ _ _=>rfl);rw[OH,<- ht]at st;obtain⟨q1,q2,q3⟩:=st.q;rw[Sr]at q2 q3;have Tv:(σ (i+1)).H.bl=s1.H.bl:=by rw[p2,h4]
  have Th:(σ (i+1)).H.wm=(σ i).H.wm:=by
   rw[p2];by_cases hw:τ i= .heap true
   ·rw[h5 hw,q1,hw];rfl
   ·exact h6 hw
  have vZ:(σ i).H.wm<=(GF (τ i) (σ i)).H.wm\/True:= .inr trivial;have Raf:∀b,b<(GF (τ i) (σ i)).H.wm->b<(σ i).H.bl.length->(σ (i+1)).H.bl[b]?=(σ i).H.bl[b]?:=λb hb hl=>by rw[Tv];exact q3 b hb hl
  have hF:=st.f;rw[LU]at hF;have hF1:(σ (i+1)).F=s1.F:=by rw[p3,h3]
  rw[<- hF1]at hF;refine⟨λt hn=> ?_,Th,by rw[Tv];exact q2,λhh=> ?_,λtd b hb=>Raf b (by rw[nF td];exact hb) hb,λb hb hl=> ?_,?_,λb hb td=> ?_,λb r r' hr bj=> ?_⟩
  ·rw[p1 t (y_ t hn),h2,st.e1,KU]
  ·have:=(st.h.2 hh).2;have td:τ i≠ .heap true:=λe=>by rw[e]at hh;simp[Yf.Yc]at hh
   have e1:(σ (i+1)).H.bl=(σ i).H.bl:=by rw[Tv,this,Sr]
   cases hx:(σ (i+1)).H with
   |mk bl wm=>
    cases hy:(σ i).H with
    |mk bl' wm'=>
     rw[hx,hy]at e1 Th;simp at e1 Th;rw[e1,Th]
  ·by_cases hw:τ i= .heap true
   ·exact Raf b (by rw[hw];exact hb) hl
   ·exact Raf b (by rw[nF hw];exact hl) hl
  ·rcases hF with⟨e,_⟩|⟨row,e,_⟩|⟨k,row,_,e,_⟩<;>rw[e]<;>simp
  ·rcases hF with⟨e,_⟩|⟨row,e,_⟩|⟨k,row,hk,e,_⟩
   ·rw[e]
   ·rw[e,Ja hb]
   ·rw[e,List.getElem?_set_ne (λe'=>td (by rw[<- e'];exact hk))]
  ·have iM:b<(σ i).F.length:=by rcases dc b (σ i).F.length with h|h;exact h;simp[Nb h]at hr
   rcases hF with⟨e,_⟩|⟨row,e,_⟩|⟨k,row,hk,e,_,aD⟩
   ·rw[e,hr]at bj;simp at bj;rw[bj]
   ·rw[e,Ja iM,hr]at bj;simp at bj;rw[bj]
   ·rw[e,Cc]at bj;split at bj
    ·rename_i e';subst e';rw[if_pos iM]at bj;simp at bj;subst bj;exact aD r hr
    ·rw[hr]at bj;simp at bj;rw[bj]
 ·exact k_ Dh ht
 ·exact k_ Dh ht
structure Span(os:Array Oper)(σ:Nat->S)(τ:Nat->Yf)(p q:Nat):Prop where
 wm:(σ q).H.wm=(σ p).H.wm
 len:(σ p).H.bl.length<=(σ q).H.bl.length
 Uj:(σ p).F.length<=(σ q).F.length
 slot:∀t,(∀j,p<=j->j<q->¬Wr os τ j (.slot t))->get (σ q).e t=get (σ p).e t
 heap:(∀j,p<=j->j<q->¬Wr os τ j .heap)->∀b,b<(σ p).H.bl.length->(σ q).H.bl[b]?=(σ p).H.bl[b]?
 low:∀b,b<(σ p).H.wm->b<(σ p).H.bl.length->(σ q).H.bl[b]?=(σ p).H.bl[b]?
 box:∀b,b<(σ p).F.length->(∀j,p<=j->j<q->¬Wr os τ j (.box b))->(σ q).F[b]?=(σ p).F[b]?
 row:∀(b:Nat)(r r':List AV),(σ p).F[b]?=some r->(σ q).F[b]?=some r'->r'.length=r.length
 cac:∀b,(σ p).H.bl.length<=b->b<(σ q).H.bl.length->∃j,p<=j/\j<q/\(σ j).H.bl.length<=b/\b<(σ (j+1)).H.bl.length
theorem Trace.span(T:Trace A call Ca n os σ τ)(hq:Nd call){p:Nat}:∀q,p<=q->q<=os.size->Span os σ τ p q
 |0,h,_=>by
  obtain rfl:p=0:=by omega
  exact⟨rfl,ya _,ya _,λ_ _=>rfl,λ_ _ _=>rfl,λ_ _ _=>rfl,λ_ _ _=>rfl,λb r r' h h'=>by rw[h]at h';simp at h';rw[h'],λb h h'=>by omega⟩
 |q+1,h,hs=>by
  by_cases e:p=q+1
  ·subst e;exact⟨rfl,ya _,ya _,λ_ _=>rfl,λ_ _ _=>rfl,λ_ _ _=>rfl,λ_ _ _=>rfl,λb r r' h h'=>by rw[h]at h';simp at h';rw[h'],λb h h'=>by omega⟩
  ·have ih:=T.span hq (p:=p) q (by omega) (by omega);have l:=T.left hq (i:=q) (by omega);refine⟨l.wm.trans ih.wm,Db ih.len l.len,Db ih.Uj l.Uj,λt ht=> ?_,λhh b hb=> ?_,λb hb hl=> ?_,λb hb hh=> ?_,λb r r' hr bj=> ?_,λb h1 h2=> ?_⟩
   ·exact(l.e t (ht q (by omega) (by omega))).trans (ih.slot t λj h1 h2=>ht j h1 (by omega))
   ·exact(l.bl (hh q (by omega) (by omega)) b (Sa hb ih.len)).trans (ih.heap (λj h1 h2=>hh j h1 (by omega)) b hb)
   ·exact(l.low b (by rw[ih.wm];exact hb) (Sa hl ih.len)).trans (ih.low b hb hl)
   ·exact(l.F b (Sa hb ih.Uj) (hh q (by omega) (by omega))).trans (ih.box b hb λj h1 h2=>hh j h1 (by omega))
   ·have hb:b<(σ p).F.length:=by rcases dc b (σ p).F.length with h|h;exact h;simp[Nb h]at hr
    have Dy:b<(σ q).F.length:=Sa hb ih.Uj;have hm:(σ q).F[b]?=some (σ q).F[b]:=Da Dy;exact(l.row b _ r' hm bj).trans (ih.row b r _ hr hm)
   ·by_cases h3:b<(σ q).H.bl.length
    ·obtain⟨j,k1,k2,k3⟩:=ih.cac b h1 h3;exact⟨j,k1,by omega,k3⟩
    ·exact⟨q,by omega,by omega,by omega,h2⟩
end
end Go.V
namespace Go.V
open Go
variable [Inhabited Rn]
def Gx.vh(g:Gx)(m:Nat):Gx:={ g with D:=λb=>g.D b/\b<m }
def Fx.vh(f:Fx)(m:Nat)(W:Nat->Prop):Fx:={ E:=λb=>f.E b/\b<m,φ:=f.φ,W:=W }
theorem xI{g:Gx}{H H':AH}{b:Nat}(h:live g H b)(e:H'.bl=H.bl):live g H' b:=⟨h.1,by rw[e];exact h.2⟩
theorem N8{g:Gx}{H H':AH}{R:Nat}(h:Fp g H R)(e:H'.bl=H.bl):Fp g H' R:=let⟨b,h1,h2⟩:=h;⟨b,xI h1 e,h2⟩
theorem Jc.wm{G:Nat->Option (List AV)}{g:Gx}{w:World}{H H':AH}(h:Jc G g w H)(e:H'.bl=H.bl):Jc G g w H':=
 ⟨h.Na,λb hb=>by rw[e];exact h.Ff b hb,λb x hd hx=>h.Kf b x hd (by rw[<- e];exact hx),λb b' hb Wd=>h.inj b b' (xI hb e.symm) (xI Wd e.symm),h.yF⟩
theorem Jc.carry{G:Nat->Option (List AV)}{g g':Gx}{w w':World}{H:AH}(h:Jc G g w H)(hle:g.Le w g' w')(hD:∀b,g'.D b->g.D b)
  (Ec:∀b,live g H b->w'.heap[(g.ρ b).R]?=w.heap[(g.ρ b).R]?) (hZ:∀b,live g H b->¬g'.Z (g.ρ b).R) (hz:∀R,g'.Z R->q9 w' R):Jc G g' w' H:=by
 have rZ:∀b,g'.D b->g'.ρ b=g.ρ b:=λb hb=>(hle.D b (hD b hb)).2
 have hl:∀b,live g' H b->live g H b:=λb hb=>⟨hD b hb.1,hb.2⟩
 refine⟨λi row hg=>(h.Na i row hg).mono hle,λb hb=>h.Ff b (hD b hb),λb x hd hx=> ?_,λb b' hb Wd td=> ?_,hz⟩
 ·rw[rZ b hd];exact(h.Kf b x (hD b hd) hx).le hle (λhv=>Ec b ⟨hD b hd,x,hx,hv⟩) (λhv=>hZ b ⟨hD b hd,x,hx,hv⟩)
 ·rw[rZ b hb.1,rZ b' Wd.1];exact h.inj b b' (hl b hb) (hl b' Wd) td
structure Inv(G:Nat->Option (List AV))(os:Array Oper)(σ:Nat->S)(τ:Nat->Yf)(n:Nat)(g0:Gx)(f0:Fx)(w0:World)(ds:List Deferred)(L:Nat->Prop)(g:Gx)(f:Fx)(a:Act)(w:World):Prop where
 n:a.tmps.size=n
 ds:a.defers=ds
 slot:∀p,p<=os.size->∀t,eu os τ L p (.slot t)->qf (g.vh (σ p).H.bl.length) (f.vh (σ p).F.length λ_=>True) w (get (σ p).e t) (a.tmps.getD t undef)
 heap:∀p,p<=os.size->eu os τ L p .heap->Jc G (g.vh (σ p).H.bl.length) w (σ p).H
 Na:∀i row,G i=some row->tg (g.vh (σ 0).H.bl.length) w i row
 yF:∀R,g.Z R->q9 w R
 box:∀b,f.E b->∃cs,Row g w (f.φ b) cs.size cs/\(∀v∈cs.toList,v.oneCell'=true)/\∀p,p<=os.size->∀row,(σ p).F[b]?=some row->cs.size=row.length/\(eu os τ L p (.box b)->Lf (g.vh (σ p).H.bl.length) w cs 0 row)
 Nab:∀b b',f.E b->f.E b'->b≠b'->f.φ b≠f.φ b'
 apart:∀b,f.E b->∀p,p<=os.size->eu os τ L p .heap->¬Fp (g.vh (σ p).H.bl.length) (σ p).H (f.φ b)
 PI:∀j,j<os.size->¬L j->∀b,(σ j).H.bl.length<=b->b<(σ (j+1)).H.bl.length->¬g.D b
 bP:∀j,j<os.size->¬L j->∀b,(σ j).F.length<=b->b<(σ (j+1)).F.length->¬f.E b
 Wao:∀b,g.D b->b<(σ os.size).H.bl.length
 Vao:∀b,f.E b->b<(σ os.size).F.length
 wr:∀j,j<os.size->L j->∀b,τ j= .box b true->f.E b
 fD:∀b,g0.D b->g.D b/\g.ρ b=g0.ρ b
 W0:∀b,g.D b->g0.D b\/(σ 0).H.bl.length<=b
 fZ:∀R,g0.Z R->g.Z R
 Nac:∀R,g.Z R->g0.Z R\/Fp g0 (σ 0).H R\/w0.heap.size<=R
 fFp:∀p,p<=os.size->eu os τ L p .heap->∀R,Fp (g.vh (σ p).H.bl.length) (σ p).H R->Fp g0 (σ 0).H R\/w0.heap.size<=R
 fE:∀b,f0.E b->f.E b/\f.φ b=f0.φ b
 V0:∀b,f.E b->f0.E b\/(σ 0).F.length<=b
 fφ:∀b,f.E b->¬f0.E b->w0.heap.size<=f.φ b
 Al:∀R,R<w0.heap.size->¬Fp g0 (σ 0).H R->(∀b,f0.E b->f0.φ b≠R)->w.heap[R]?=w0.heap[R]?
 size:w0.heap.size<=w.heap.size
 still:∀b,b<(σ 0).H.wm->live g0 (σ 0).H b->w.heap[(g0.ρ b).R]?=w0.heap[(g0.ρ b).R]?/\∀b',f.E b'->f.φ b'≠(g0.ρ b).R
 io:w.os=w0.os/\w.output=w0.output
section
variable {A:Oi}{call:Callee}{Ca:List Nat}{n:Nat}{os:Array Oper}{σ:Nat->S}{τ:Nat->Yf}{L:Nat->Prop}{g0 g:Gx}{f0 f:Fx}{w0 w:World}{ds:List Deferred}{a:Act}
theorem Inv.y9(inv:Inv A.Na os σ τ n g0 f0 w0 ds L g f a w){b:Nat}(hb:f.E b):f.φ b<w.heap.size:=by
 obtain⟨cs,⟨T,fz,hR,_⟩,_⟩:=inv.box b hb;exact Za hR
theorem Inv.Nae(inv:Inv A.Na os σ τ n g0 f0 w0 ds L g f a w){b:Nat}(hb:f.E b):¬g.Z (f.φ b):=by
 obtain⟨cs,⟨T,fz,hR,_,_,hz⟩,_⟩:=inv.box b hb;exact hz
theorem Inv.start(T:Trace A call Ca n os σ τ)(hq:Nd call)(Ec:St A.Na g0 f0 (σ 0) n a w0):Inv A.Na os σ τ n g0 f0 w0 a.defers (λ_=>False) g0 f0 a w0:=by
 have qg:∀p,p<=os.size->Span os σ τ 0 p:=λp hp=>T.span hq p (Ac _) hp
 have k_:∀{p:Nat}{c:w9},p<=os.size->eu os τ (λ_=>False) p c->∀j,0<=j->j<p->¬Wr os τ j c:=λhp hv j _ hj=>hv.1 j (by omega) hj (λh=>h)
 have p_:∀p,p<=os.size->g0.Le w0 (g0.vh (σ p).H.bl.length) w0:=λp hp=>⟨λb hb=>⟨⟨hb,Sa (Ec.hw.Ff b hb) (qg p hp).len⟩,rfl⟩,λR hR=>⟨hR,rfl⟩⟩
 have Tv:∀p,p<=os.size->eu os τ (λ_=>False) p .heap->∀b,g0.D b->(σ p).H.bl[b]?=(σ 0).H.bl[b]?:=λp hp hv b hb=>(qg p hp).heap (k_ hp hv) b (Ec.hw.Ff b hb)
 have DF:∀p,p<=os.size->eu os τ (λ_=>False) p .heap->∀R,Fp (g0.vh (σ p).H.bl.length) (σ p).H R->Fp g0 (σ 0).H R:=λp hp hv R⟨b,hl,e⟩=>
  ⟨b,⟨hl.1.1,by rw[<- Tv p hp hv b hl.1.1];exact hl.2⟩,e⟩
 refine⟨Ec.hn,rfl,λp hp t hv=> ?_,λp hp hv=> ?_,λi row hg=> ?_,Ec.hw.yF,λb hb=> ?_,Ec.hf.inj,λb hb p hp hv h=>Ec.hf.apart b hb (DF p hp hv _ h),λj hj _ b h1 _ hb=> ?_,λj hj _ b h1 _ hb=> ?_,
  λb hb=>Sa (Ec.hw.Ff b hb) (qg _ (ya _)).len,λb hb=>Sa (Ec.hf.Ff b hb) (qg _ (ya _)).Uj,λ_ _ h=>h.elim,λ_ h=>⟨h,rfl⟩,λ_ h=> .inl h,λ_ h=>h,λ_ h=> .inl h,
  λp hp hv R h=> .inl (DF p hp hv R h),λ_ h=>⟨h,rfl⟩,λ_ h=> .inl h,λ_ h h'=>absurd h h',λ_ _ _ _=>rfl,ya _,λb _ hl=>⟨rfl,λb' Wd e=>Ec.hf.apart b' Wd ⟨b,hl,e.symm⟩⟩,⟨rfl,rfl⟩⟩
 ·rw[(qg p hp).slot t (k_ hp hv)];exact qf.mono (f':=f0.vh (σ p).F.length λ_=>True) (p_ p hp) (λi hi=>⟨⟨hi,Sa (Ec.hf.Ff i hi) (qg p hp).Uj⟩,rfl⟩) (Ec.he t)
 ·have h1:=Ec.hw.carry (g':=g0.vh (σ p).H.bl.length) (p_ p hp) (λb hb=>hb.1) (λ_ _=>rfl) (λb hb=>Ec.hw.Dn hb) Ec.hw.yF;refine⟨h1.Na,λb hb=>hb.2,λb x hd hx=>h1.Kf b x hd (by rw[<- Tv p hp hv b hd.1];exact hx),λb b' hb Wd=>h1.inj b b' ⟨hb.1,by rw[<- Tv p hp hv b hb.1.1];exact hb.2⟩ ⟨Wd.1,by rw[<- Tv p hp hv b' Wd.1.1];exact Wd.2⟩,h1.yF⟩
 ·exact(Ec.hw.Na i row hg).mono (p_ 0 (Ac _))
 ·have Mc:=Ec.hf.Ff b hb;have hr:=Da Mc;obtain⟨cs,⟨T',fz,hR,hs,hz⟩,Gl⟩:=Ec.hf.Kf b _ hb hr;refine⟨cs,⟨T',fz,hR,rfl,by rw[hs];exact hz⟩,λv hv=> ?_,λp hp row De=> ?_⟩
  ·obtain⟨c,hc⟩:=Ve hv;have Gn:c<((σ 0).F[b]).length:=by rw[<- hs];have:=Za (a:=cs) (i:=c) (x:=v) (by simpa using hc);exact this
   obtain⟨u,h1,h2,_⟩:=Gl c _ (Da Gn);rw[Qf]at h1;have:cs.toList[c]?=cs[c]?:=by simp
   rw[this,h1]at hc;simp at hc;subst hc;exact h2
  ·refine⟨?_,λhv=> ?_⟩
   ·rw[hs];exact((qg p hp).row b _ _ hr De).symm
   ·rw[(qg p hp).box b Mc (k_ hp hv),hr]at De;simp at De;subst De;exact Gl.mono (p_ p hp)
 ·have:=Ec.hw.Ff b hb;have:=(qg j (by omega)).len;omega
 ·have:=Ec.hf.Ff b hb;have:=(qg j (by omega)).Uj;omega
end
end Go.V
namespace Go.V
open Go
variable [Inhabited Rn]
theorem ur(e:List (Nat×SV)):∀(l:List Nat)(t:Nat),t∈l->get (l.map λi=>(i,get e i)) t=get e t
 |[],t,h=>by simp at h
 |i::l,t,h=>by
  simp only[He,get];split
  ·rename_i e0;rw[e0]
  ·rename_i e0;exact ur e l t ((me.1 h).resolve_left e0)
theorem IA(e:List (Nat×SV)):∀(l:List Nat)(t:Nat),t∉l->get (l.map λi=>(i,get e i)) t= .v .Dc
 |[],t,h=>rfl
 |i::l,t,h=>by
  simp only[He,get];rw[if_neg (λe0=>h (by simp[e0]))];exact IA e l t (λh'=>h (Rb _ h'))
theorem dB{α:Type}(Q:Nat->α->Prop):∀m:Nat,(∀k,k<m->∃x,Q k x)->∃l:List α,l.length=m/\∀k x,l[k]?=some x->Q k x
 |0,_=>⟨[],rfl,λk x h=>by simp at h⟩
 |m+1,h=>by
  obtain⟨l,h1,h2⟩:=dB Q m λk hk=>h k (by omega)
  obtain⟨x,hx⟩:=h m (by omega);refine⟨l++[x],by simp[h1],λk y hk=> ?_⟩;rcases Nat.lt_trichotomy k m with Mc|rfl|hgt
  ·rw[Ja (by omega)]at hk;exact h2 k y hk
  ·rw[Oa (by omega)]at hk;simp[h1]at hk;subst hk;exact hx
  ·rw[Nb (by simp;omega)]at hk;simp at hk
structure K8(G:Nat->Option (List AV))(os:Array Oper)(σ:Nat->S)(τ:Nat->Yf)(L:Nat->Prop)(g:Gx)(f:Fx)(a:Act)(w:World)(i:Nat)(o:Oper)(M:S):Prop where
 wm:M.H.wm=(GF (τ i) (σ i)).H.wm
 len:M.H.bl.length=(σ i).H.bl.length
 H1:(τ i).Yc=true->M.H=(GF (τ i) (σ i)).H
 H0:(τ i).Yc=false->∀(b:Nat)(x:AB),M.H.bl[b]?=some x->x=AB.dead
 Uj:M.F.length=(σ i).F.length
 F:∀b,eu os τ L i (.box b)->M.F[b]?=(σ i).F[b]?
 row:∀(b:Nat)(r r':List AV),M.F[b]?=some r->(σ i).F[b]?=some r'->r.length=r'.length
 e:∀t,t∈o.looksAt os->get M.e t=get (σ i).e t
 hw:Jc G (g.vh (σ i).H.bl.length) w M.H
 hf:ze (g.vh (σ i).H.bl.length) (f.vh (σ i).F.length λb=>τ i= .box b true) w M.H M.F
 he:Mf (g.vh (σ i).H.bl.length) (f.vh (σ i).F.length λb=>τ i= .box b true) w M.e a.tmps
section
variable {A:Oi}{call:Callee}{Ca:List Nat}{n:Nat}{os:Array Oper}{σ:Nat->S}{τ:Nat->Yf}{L:Nat->Prop}{g0 g:Gx}{f0 f:Fx}{w0 w:World}{ds:List Deferred}{a:Act}{i:Nat}{o:Oper}
theorem Inv.masked(T:Trace A call Ca n os σ τ)(hq:Nd call)(inv:Inv A.Na os σ τ n g0 f0 w0 ds L g f a w)(hD:Down os L)(hi:yn os L i)(ho:os[i]?=some o):∃M,K8 A.Na os σ τ L g f a w i o M:=by
 have hN:i<=os.size:=js hi.1;obtain⟨F,hFl,hF⟩:=dB (λb(row:List AV)=>∀r,(σ i).F[b]?=some r->row.length=r.length/\(eu os τ L i (.box b)->row=r)/\(¬eu os τ L i (.box b)->∀c x,row[c]?=some x->x=AV.Dc)) (σ i).F.length (λb hb=>by
  by_cases hv:eu os τ L i (.box b)
  ·refine⟨(σ i).F[b],λr hr=> ?_⟩;rw[Da hb]at hr;simp at hr;subst hr;exact⟨rfl,λ_=>rfl,λh=>absurd hv h⟩
  ·refine⟨fb ((σ i).F[b]).length AV.Dc,λr hr=> ?_⟩;rw[Da hb]at hr;simp at hr;subst hr;exact⟨by simp,λh=>absurd h hv,λ_ c x hx=>by rw[Gi]at hx;split at hx<;>simp at hx;exact hx.symm⟩)
 have de:∀b row,F[b]?=some row->∃r,(σ i).F[b]?=some r/\row.length=r.length/\(eu os τ L i (.box b)->row=r)/\(¬eu os τ L i (.box b)->∀c x,row[c]?=some x->x=AV.Dc):=λb row hr=>by
  have hb:b<(σ i).F.length:=by rw[<- hFl];exact getElem?_lt' hr
  exact⟨_,Da hb,hF b row hr _ (Da hb)⟩
 obtain⟨H,hH1,hH0,hHl,hHw,hw,hap⟩:∃H:AH,((τ i).Yc=true->H=(GF (τ i) (σ i)).H)/\((τ i).Yc=false->∀(b:Nat)(x:AB),H.bl[b]?=some x->x=AB.dead)/\H.bl.length=(σ i).H.bl.length/\H.wm=(GF (τ i) (σ i)).H.wm/\
   Jc A.Na (g.vh (σ i).H.bl.length) w H/\∀b,f.E b->¬Fp (g.vh (σ i).H.bl.length) H (f.φ b):=by
  cases hh:(τ i).Yc with
  |true=>
   have hv:=T.Fs hD hi (c:= .heap) hh;exact⟨(GF (τ i) (σ i)).H,λ_=>rfl,λh=>by simp at h,by rw[Sr],rfl,(inv.heap i hN hv).wm (Sr _ _),λb hb h=>inv.apart b hb i hN hv (N8 h (Sr _ _).symm)⟩
  |false=>
   have sS:∀b x,(fb (σ i).H.bl.length AB.dead)[b]?=some x->x=AB.dead:=λb x hx=>by rw[Gi]at hx;split at hx<;>simp at hx;exact hx.symm
   refine⟨⟨fb (σ i).H.bl.length .dead,(GF (τ i) (σ i)).H.wm⟩,λh=>by simp at h,λ_=>sS,by simp,rfl,⟨λk row hg=>(inv.Na k row hg).mono (g:=g.vh (σ 0).H.bl.length) (g':=g.vh (σ i).H.bl.length) ⟨λb hb=>⟨⟨hb.1,Sa hb.2 (T.span hq i (Ac _) hN).len⟩,rfl⟩,λR hR=>⟨hR,rfl⟩⟩,λb hb=>by simp;exact hb.2,λb x _ hx=>by rw[sS b x hx];trivial,λb b' hb=> ?_,inv.yF⟩,λb hb=> ?_⟩
   ·obtain⟨_,x,hx,hl⟩:=hb;rw[sS b x hx]at hl;simp[Me]at hl
   ·rintro⟨b',⟨_,x,hx,hl⟩,_⟩;rw[sS b' x hx]at hl;simp[Me]at hl
 refine⟨⟨(o.looksAt os).map λt=>(t,get (σ i).e t),F,H⟩,hHw,hHl,hH1,hH0,hFl,λb hv=> ?_,λb r r' hr bj=> ?_,λt ht=>ur _ _ t ht,hw,⟨λb hb=>by rw[hFl];exact hb.2,λb row hb hr=> ?_,λb b' hb Wd=>inv.Nab b b' hb.1 Wd.1,λb hb=>hap b hb.1⟩,λt=> ?_⟩
 ·rcases dc b (σ i).F.length with hb|hb
  ·have Wd:b<F.length:=by omega
   obtain⟨r,h1,_,h3,_⟩:=de b _ (Da Wd);show F[b]?=_;rw[Da Wd,h1,h3 hv]
  ·show F[b]?=_;rw[Nb (by omega),Nb hb]
 ·obtain⟨r0,h1,h2,_⟩:=de b r hr;rw[h1]at bj;simp at bj;subst bj;exact h2
 ·obtain⟨r,h1,h2,h3,h4⟩:=de b row hr;obtain⟨cs,C0,cz,hp⟩:=inv.box b hb.1;obtain⟨k1,k2⟩:=hp i hN r h1;refine⟨cs,by rw[h2,<- k1];exact C0,?_⟩;by_cases hv:eu os τ L i (.box b)
  ·rw[h3 hv];exact k2 hv
  ·intro c x hx;rw[h4 hv c x hx];have hc:c<cs.size:=by rw[k1,<- h2];exact getElem?_lt' hx
   exact⟨cs[c],by simp[hc],cz _ (by simp),.Dc _⟩
 ·by_cases ht:t∈o.looksAt os
  ·show qf _ _ _ (get ((o.looksAt os).map λt=>(t,get (σ i).e t)) t) _;rw[ur _ _ t ht];have:=inv.slot i hN t (T.Fs hD hi ⟨o,ho,.inr ht⟩)
   revert this
   cases get (σ i).e t with
   |v x=>exact id
   |loc k c=>exact id
  ·show qf _ _ _ (get ((o.looksAt os).map λt=>(t,get (σ i).e t)) t) _;rw[IA _ _ t ht];exact .Dc _
end
end Go.V
namespace Go.V
open Go
variable [Inhabited Rn]
section
variable {A:Oi}{call:Callee}{Ca:List Nat}{n:Nat}{os:Array Oper}{σ:Nat->S}{τ:Nat->Yf}{L:Nat->Prop}{g0 g g':Gx}{f0 f f':Fx}{w0 w w':World}{ds:List Deferred}{a:Act}{i:Nat}{o:Oper}{M M':S}
open Classical in
noncomputable def Gx.join(g g':Gx):Gx:={ D:=λb=>g.D b\/g'.D b,ρ:=λb=>if g.D b then g.ρ b else g'.ρ b,Z:=g'.Z,sub:=g'.sub }
open Classical in
noncomputable def Fx.join(f f':Fx):Fx:={ E:=λb=>f.E b\/f'.E b,φ:=λb=>if f.E b then f.φ b else f'.φ b,W:=λ_=>True }
theorem Inv.step(T:Trace A call Ca n os σ τ)(hq:Nd call)(inv:Inv A.Na os σ τ n g0 f0 w0 ds L g f a w)(jS:Jc A.Na g0 w0 (σ 0).H)(hD:Down os L)(hi:yn os L i)(ho:os[i]?=some o)
  (hM:K8 A.Na os σ τ L g f a w i o M) (hx:Wg (g.vh (σ i).H.bl.length) (f.vh (σ i).F.length λb=>τ i= .box b true) w M.H M.F g' f' w' M'.H M'.F)
  (JI:Jc A.Na g' w' M'.H) (QO:ze g' f' w' M'.H M'.F) {v:SV} {rv:Value} (hv:qf g' f' w' v rv)
  (zam:∀d,o.dst=some d->d<n/\get (σ (i+1)).e d=v)
  (hH1:(τ i).Yc=true->M'.H.bl=(σ (i+1)).H.bl) (hH0:(τ i).Yc=false->M'.H=M.H)
  (hF:(M'.F=M.F/\(σ (i+1)).F=(σ i).F/\∀b,τ i≠ .box b true)\/(∃row,M'.F=M.F++[row]/\(σ (i+1)).F=(σ i).F++[row]/\∀b,τ i≠ .box b true)\/
   ∃k row,τ i= .box k true/\M'.F=M.F.set k row/\(σ (i+1)).F=(σ i).F.set k row/\f.E k/\k<(σ i).F.length):
  Inv A.Na os σ τ n g0 f0 w0 ds (λj=>L j\/j=i) (g.join g') (f.join f') (a.put o.dst rv) w':=by
 have hN:i<=os.size:=js hi.1;have gW:i+1<=os.size:=hi.1;have qg:∀{p q:Nat},p<=q->q<=os.size->Span os σ τ p q:=λh1 h2=>T.span hq _ h1 h2
 have left:=T.left hq hi.1;have Uaf:M'.H.bl.length=(σ (i+1)).H.bl.length:=by
  cases hh:(τ i).Yc with
  |true=>rw[hH1 hh]
  |false=>rw[hH0 hh,hM.len,left.H hh]
 have rS:M'.F.length=(σ (i+1)).F.length:=by
  rcases hF with⟨e1,e2,_⟩|⟨row,e1,e2,_⟩|⟨k,row,_,e1,e2,_⟩<;>rw[e1,e2]<;>simp[hM.Uj]
 have J0:∀b,g'.D b->(g.D b/\b<(σ i).H.bl.length)\/(σ i).H.bl.length<=b:=λb hb=>(hx.KB b hb).imp id λh=>by rw[hM.len]at h;exact h
 have iW:∀b,g'.D b->b<(σ (i+1)).H.bl.length:=λb hb=>by rw[<- Uaf];exact JI.Ff b hb
 have Lac:∀b,g.D b->b<(σ (i+1)).H.bl.length->b<(σ i).H.bl.length:=λb hb hl=>by
  rcases dc b (σ i).H.bl.length with h|h
  ·exact h
  ·exact absurd hb (inv.PI i hi.1 hi.2.1 b h hl)
 have yaf:∀b,g'.D b->(g.join g').ρ b=g'.ρ b:=λb hb=>by
  simp only[Gx.join];split
  ·rename_i hg;have:=Lac b hg (iW b hb);exact((hx.D b ⟨hg,this⟩).2).symm
  ·rfl
 have rZ:∀b,g.D b->(g.join g').ρ b=g.ρ b:=λb hb=>by simp only[Gx.join];rw[if_pos hb]
 have SX:∀b,f.E b->(f.join f').φ b=f.φ b:=λb hb=>by simp only[Fx.join];rw[if_pos hb]
 have E0:∀b,f'.E b->(f.E b/\b<(σ i).F.length)\/(σ i).F.length<=b:=λb hb=>(hx.Zab b hb).imp id λh=>by rw[hM.Uj]at h;exact h
 have G0:∀b,f'.E b->b<(σ (i+1)).F.length:=λb hb=>by rw[<- rS];exact QO.Ff b hb
 have Oan:∀b,f.E b->b<(σ (i+1)).F.length->b<(σ i).F.length:=λb hb hl=>by
  rcases dc b (σ i).F.length with h|h
  ·exact h
  ·exact absurd hb (inv.bP i hi.1 hi.2.1 b h hl)
 have XC:∀b,f'.E b->(f.join f').φ b=f'.φ b:=λb hb=>by
  simp only[Fx.join];split
  ·rename_i hg;have:=Oan b hg (G0 b hb);exact((hx.E b ⟨hg,this⟩).2).symm
  ·rfl
 have Yy:∀b,f'.E b->¬f.E b->w.heap.size<=f'.φ b:=λb hb hn=>hx.UK b hb (λh=>hn h.1)
 have uag:∀b,f.E b->¬Fp (g.vh (σ i).H.bl.length) M.H (f.φ b):=λb hb h=>by
  cases hh:(τ i).Yc with
  |true=>
   have Cf:=T.Fs hD hi (c:= .heap) hh;exact inv.apart b hb i hN Cf (N8 h (by rw[hM.H1 hh,Sr]))
  |false=>
   obtain⟨b',⟨_,x,Eg,hl⟩,_⟩:=h;rw[hM.H0 hh b' x Eg]at hl;simp[Me]at hl
 have QL:∀R,R<w.heap.size->¬Fp (g.vh (σ i).H.bl.length) M.H R->(∀b,f.E b->τ i= .box b true->f.φ b≠R)->w'.heap[R]?=w.heap[R]?:=λR hR hn hb=>by
  by_cases hE:∃b,(f.E b/\b<(σ i).F.length)/\f.φ b=R
  ·obtain⟨b,nr,rfl⟩:=hE;exact hx.own b nr (λh=>hb b nr.1 h rfl)
  ·exact hx.Al R hR hn λb nr e=>hE ⟨b,nr,e⟩
 have GZ:τ i≠ .heap true->∀R,R<w.heap.size->(∀b,f.E b->τ i= .box b true->f.φ b≠R)->w'.heap[R]?=w.heap[R]?:=λtd R hR hb=>by
  by_cases DF:Fp (g.vh (σ i).H.bl.length) M.H R
  ·obtain⟨b,hl,rfl⟩:=DF;have Mc:b<M.H.wm:=by
    rw[hM.wm,nF td,<- hM.len];obtain⟨_,x,Eg,_⟩:=hl;exact getElem?_lt' Eg
   exact hx.still b Mc hl
  ·exact QL R hR DF hb
 have hZ:∀R,g.Z R->g'.Z R/\w'.heap[R]?=w.heap[R]?:=λR hR=>⟨hx.Z R hR,QL R (inv.yF R hR).1 (λ⟨b,hl,e⟩=>hM.hw.Dn hl (e ▸ hR)) (λb hb _ e=>inv.Nae hb (e ▸ hR))⟩
 have ZC:τ i≠ .heap true->∀b,b<(σ i).H.bl.length->M'.H.bl[b]?=M.H.bl[b]?:=λtd b hb=>by
  refine hx.quiet b ?_ (by rw[hM.len];exact hb);rw[hM.wm,nF td];exact hb
 have Hac:τ i≠ .heap true->∀R,g'.Z R->g.Z R\/w.heap.size<=R:=λtd R hR=>by
  rcases hx.Xr R hR with h|⟨b,hl,e⟩|h
  ·exact .inl h
  ·exfalso;have hb:b<M.H.bl.length:=by obtain⟨_,x,Eg,_⟩:=hl;exact getElem?_lt' Eg
   have Fg:live g' M'.H b:=⟨(hx.D b hl.1).1,by rw[ZC td b (by rw[<- hM.len];exact hb)];exact hl.2⟩;refine JI.Dn Fg ?_;rw[(hx.D b hl.1).2,e];exact hR
  ·exact .inr h
 have hle:∀p,(g.vh (σ p).H.bl.length).Le w ((g.join g').vh (σ p).H.bl.length) w':=λp=>⟨λb hb=>⟨⟨.inl hb.1,hb.2⟩,rZ b hb.1⟩,hZ⟩
 have QZ:∀p,i+1<=p->p<=os.size->g'.Le w' ((g.join g').vh (σ p).H.bl.length) w':=λp h1 h2=>⟨λb hb=>⟨⟨.inr hb,Sa (iW b hb) (qg h1 h2).len⟩,yaf b hb⟩,λR hR=>⟨hR,rfl⟩⟩
 have Qar:∀p b,(f.vh (σ p).F.length λ_=>True).E b->((f.join f').vh (σ p).F.length λ_=>True).E b/\((f.join f').vh (σ p).F.length λ_=>True).φ b=(f.vh (σ p).F.length λ_=>True).φ b:=λp b hb=>⟨⟨.inl hb.1,hb.2⟩,SX b hb.1⟩
 have qan:∀p,i+1<=p->p<=os.size->∀b,f'.E b->((f.join f').vh (σ p).F.length λ_=>True).E b/\((f.join f').vh (σ p).F.length λ_=>True).φ b=f'.φ b:=λp h1 h2 b hb=>⟨⟨.inr hb,Sa (G0 b hb) (qg h1 h2).Uj⟩,XC b hb⟩
 have I0:∀p,p<=i\/(τ i).Yc=false->p<=os.size->∀b,((g.join g').vh (σ p).H.bl.length).D b->(g.vh (σ p).H.bl.length).D b:=λp hp Zo b hb=>by
  refine⟨?_,hb.2⟩;rcases hb.1 with h|h
  ·exact h
  ·rcases J0 b h with h1|h1
   ·exact h1.1
   ·exfalso;rcases hp with hp|hp
    ·have:=(qg hp hN).len;have:=hb.2;omega
    ·have h2:=iW b h;rw[left.H hp]at h2;omega
 have Zaf:∀p,p<=os.size->eu os τ L p .heap->p<=i\/(τ i).Yc=false->τ i≠ .heap true->Jc A.Na ((g.join g').vh (σ p).H.bl.length) w' (σ p).H:=λp Zo Cf hp td=>by
  have hold:=inv.heap p Zo Cf;refine hold.carry (hle p) (I0 p hp Zo) (λb hl=>GZ td _ (hold.lt hl) λb' Wd _ e=>inv.apart b' Wd p Zo Cf ⟨b,hl,e.symm⟩) (λb hl hz=> ?_) JI.yF;rcases Hac td _ hz with h|h
  ·exact hold.Dn hl h
  ·have:=hold.lt hl;exact absurd this (Nat.not_lt.2 h)
 have AA:∀p,p<=os.size->(τ i).Yc=true->eu os τ (λj=>L j\/j=i) p .heap->i<p->∀b,b<(σ (i+1)).H.bl.length->(σ p).H.bl[b]?=M'.H.bl[b]?:=λp Zo hh Cf Mc b hb=>by
  rw[hH1 hh];exact(qg (p:=i+1) (q:=p) Mc Zo).heap (λj h1 h2=>T.Bp hD hi (c:= .heap) hh Cf j (by omega) (by omega) h2) b hb
 have RZ:∀p,p<=os.size->(τ i).Yc=true->eu os τ (λj=>L j\/j=i) p .heap->i<p->∀b,((g.join g').vh (σ p).H.bl.length).D b->¬b<(σ (i+1)).H.bl.length->(g.vh (σ p).H.bl.length).D b/\τ i≠ .heap true:=λp Zo hh Cf Mc b hb vu=>by
  have hgD:g.D b:=by
   rcases hb.1 with h|h
   ·exact h
   ·exact absurd (iW b h) vu
  refine⟨⟨hgD,hb.2⟩,λe=> ?_⟩;obtain⟨j,j1,j2,j3,j4⟩:=(qg (p:=i+1) (q:=p) Mc Zo).cac b (by omega) hb.2;have bW:j<os.size:=by omega
  have hLj:L j:=by
   by_cases h:L j
   ·exact h
   ·exact absurd hgD (inv.PI j bW h b j3 j4)
  have hjh:(τ j).Yc=true:=by
   cases hjh:(τ j).Yc with
   |true=>rfl
   |false=>rw[(T.left hq bW).H hjh]at j4;omega
  rcases T.order bW hi.1 (by omega) (c:= .heap) e hjh with h|h
  ·omega
  ·exact hi.2.1 (hD i j bW hLj h.2)
 have s_:∀p,i<p->p<=os.size->∀b,((g.join g').vh (σ p).H.bl.length).D b->b<(σ (i+1)).H.bl.length->g'.D b:=λp _ _ b hb Mc=>by
  rcases hb.1 with h|h
  ·exact(hx.D b ⟨h,Lac b h Mc⟩).1
  ·exact h
 have D_:∀p,p<=os.size->(τ i).Yc=true->eu os τ (λj=>L j\/j=i) p .heap->i<p->∀b,live ((g.join g').vh (σ p).H.bl.length) (σ p).H b->
   (live g' M'.H b/\((g.join g').vh (σ p).H.bl.length).ρ b=g'.ρ b)\/(τ i≠ .heap true/\eu os τ L p .heap/\live (g.vh (σ p).H.bl.length) (σ p).H b/\((g.join g').vh (σ p).H.bl.length).ρ b=g.ρ b/\¬b<(σ (i+1)).H.bl.length):=λp Zo hh Cf Mc b hl=>by
  by_cases hb:b<(σ (i+1)).H.bl.length
  ·left;have:=s_ p Mc Zo b hl.1 hb;exact⟨⟨this,by rw[<- AA p Zo hh Cf Mc b hb];exact hl.2⟩,yaf b this⟩
  ·right;obtain⟨h1,h2⟩:=RZ p Zo hh Cf Mc b hl.1 hb;exact⟨h2,Cf.before h2,⟨h1,hl.2⟩,rZ b h1.1,hb⟩
 have Yaf:∀p,p<=os.size->(τ i).Yc=true->eu os τ (λj=>L j\/j=i) p .heap->i<p->Jc A.Na ((g.join g').vh (σ p).H.bl.length) w' (σ p).H:=λp Zo hh Cf Mc=>by
  have Wam:∀b1 b2,(live g' M'.H b1/\((g.join g').vh (σ p).H.bl.length).ρ b1=g'.ρ b1)->(τ i≠ .heap true/\eu os τ L p .heap/\live (g.vh (σ p).H.bl.length) (σ p).H b2/\((g.join g').vh (σ p).H.bl.length).ρ b2=g.ρ b2/\¬b2<(σ (i+1)).H.bl.length)->
    (((g.join g').vh (σ p).H.bl.length).ρ b1).R≠(((g.join g').vh (σ p).H.bl.length).ρ b2).R:=λb1 b2⟨k1,k2⟩⟨m1,m2,m3,m4,m5⟩e=>by
   rw[k2,m4]at e;have hold:=inv.heap p Zo m2;have LK:=hold.lt m3;rcases hx.fp _ ⟨b1,k1,e⟩with⟨b',Fg,e'⟩|h
   ·have Wd:b'<(σ i).H.bl.length:=Fg.1.2;have XL:live (g.vh (σ p).H.bl.length) (σ p).H b':=by
     refine⟨⟨Fg.1.1,Sa Wd (qg (by omega) Zo).len⟩,?_⟩;rw[AA p Zo hh Cf Mc b' (Sa Wd left.len),ZC m1 b' Wd];exact Fg.2
    have:=left.len;exact hold.inj b' b2 XL m3 (by omega) e'
   ·exact absurd LK (Nat.not_lt.2 h)
  refine⟨λk row hg=>(JI.Na k row hg).mono (QZ p Mc Zo),λb hb=>hb.2,λb x hd uB=> ?_,λb1 b2 h1 h2 td=> ?_,JI.yF⟩
  ·by_cases hb:b<(σ (i+1)).H.bl.length
   ·have gY:=s_ p Mc Zo b hd hb;rw[show((g.join g').vh (σ p).H.bl.length).ρ b=g'.ρ b from yaf b gY];rw[AA p Zo hh Cf Mc b hb]at uB;exact(JI.Kf b x gY uB).le (QZ p Mc Zo) (λ_=>rfl) (λhl=>JI.Dn ⟨gY,x,uB,hl⟩)
   ·obtain⟨h1,h2⟩:=RZ p Zo hh Cf Mc b hd hb;have rac:=Cf.before h2;have hold:=inv.heap p Zo rac;rw[show((g.join g').vh (σ p).H.bl.length).ρ b=g.ρ b from rZ b h1.1];refine(hold.Kf b x h1 uB).le (hle p) (λhl=>GZ h2 _ (hold.lt ⟨h1,x,uB,hl⟩) λb' Wd _ e=>inv.apart b' Wd p Zo rac ⟨b,⟨h1,x,uB,hl⟩,e.symm⟩) (λhl hz=> ?_);rcases Hac h2 _ hz with h|h
    ·exact hold.Dn ⟨h1,x,uB,hl⟩ h
    ·exact absurd (hold.lt ⟨h1,x,uB,hl⟩) (Nat.not_lt.2 h)
  ·rcases D_ p Zo hh Cf Mc b1 h1 with k1|k1<;>rcases D_ p Zo hh Cf Mc b2 h2 with k2|k2
   ·rw[k1.2,k2.2];exact JI.inj b1 b2 k1.1 k2.1 td
   ·exact Wam b1 b2 k1 k2
   ·exact(Wam b2 b1 k2 k1).symm
   ·rw[k1.2.2.2.1,k2.2.2.2.1];exact(inv.heap p Zo k1.2.1).inj b1 b2 k1.2.2.1 k2.2.2.1 td
 have Daf:∀p,p<=os.size->eu os τ (λj=>L j\/j=i) p .heap->((p<=i\/(τ i).Yc=false)/\τ i≠ .heap true/\eu os τ L p .heap)\/((τ i).Yc=true/\i<p):=λp Zo Cf=>by
  cases hh:(τ i).Yc with
  |false=>
   have td:τ i≠ .heap true:=λe=>by rw[e]at hh;simp[Yf.Yc]at hh
   exact .inl ⟨.inr rfl,td,Cf.before td⟩
  |true=>
   rcases dc i p with Mc|vu
   ·exact .inr ⟨rfl,Mc⟩
   ·have td:τ i≠ .heap true:=Cf.2 i hi.1 vu (.inr rfl);exact .inl ⟨.inl vu,td,Cf.before td⟩
 have Nan:∀p,p<=os.size->(p<=i\/(τ i).Yc=false)->∀R,Fp ((g.join g').vh (σ p).H.bl.length) (σ p).H R->Fp (g.vh (σ p).H.bl.length) (σ p).H R:=λp Zo hp R⟨b,hl,e⟩=>by
  have:=I0 p hp Zo b hl.1;refine⟨b,⟨this,hl.2⟩,?_⟩;rw[<- e];show(g.ρ b).R=((g.join g').ρ b).R;rw[rZ b this.1]
 have eag:∀R,Fp (g.vh (σ i).H.bl.length) M.H R->Fp g0 (σ 0).H R\/w0.heap.size<=R:=λR h=>by
  cases hh:(τ i).Yc with
  |true=>exact inv.fFp i hN (T.Fs hD hi (c:= .heap) hh) R (N8 h (by rw[hM.H1 hh,Sr]))
  |false=>
   obtain⟨b',⟨_,x,Eg,hl⟩,_⟩:=h;rw[hM.H0 hh b' x Eg]at hl;simp[Me]at hl
 refine⟨?_,?_,λp hp t Cf=> ?_,λp hp Cf=> ?_,λk row hg=> ?_,JI.yF,λb hb=> ?_,λb b' hb Wd td=> ?_,λb hb p hp Cf DF=> ?_,λj hj hnL b h1 h2 hb=> ?_,λj hj hnL b h1 h2 hb=> ?_,λb hb=> ?_,λb hb=> ?_,λj hj hL b ht=> ?_,
  λb hb=>⟨.inl (inv.fD b hb).1,(rZ b (inv.fD b hb).1).trans (inv.fD b hb).2⟩,λb hb=> ?_,λR hR=>hx.Z R (inv.fZ R hR),λR hR=> ?_,λp hp Cf R DF=> ?_,λb hb=>⟨.inl (inv.fE b hb).1,(SX b (inv.fE b hb).1).trans (inv.fE b hb).2⟩,λb hb=> ?_,λb hb hn=> ?_,λR hR hn hb=> ?_,Db inv.size hx.size,λb hb hl=> ?_,⟨hx.io.1.trans inv.io.1,hx.io.2.trans inv.io.2⟩⟩
 ·
  rw[<- inv.n];unfold Act.put;split<;>simp
 ·rw[<- inv.ds];unfold Act.put;split<;>rfl
 ·
  by_cases hd:o.dst=some t
  ·have hW:Wr os τ i (.slot t):=⟨o,ho,hd⟩;have Mc:=Cf.after hi.1 hW;obtain⟨h1,h2⟩:=zam t hd;have yq:get (σ p).e t=v:=by
    rw[(qg (p:=i+1) (q:=p) Mc hp).slot t (λj j1 j2=>T.Bp hD hi hW.us Cf j (by omega) (by omega) j2),h2]
   rw[yq];have htm:(a.put o.dst rv).tmps.getD t undef=rv:=by
    rw[hd];simp only[Act.put];rw[Rw t (by rw[inv.n];exact h1),if_pos rfl]
   rw[htm];exact qf.mono (f':=(f.join f').vh (σ p).F.length λ_=>True) (QZ p Mc hp) (qan p Mc hp) hv
  ·have hW:¬Wr os τ i (.slot t):=λ⟨o',Z8,gY⟩=>hd (by rw[ho]at Z8;simp at Z8;rw[Z8];exact gY)
   have htm:(a.put o.dst rv).tmps.getD t undef=a.tmps.getD t undef:=by
    cases y_:o.dst with
    |none=>rfl
    |some d=>
     simp only[Act.put];rcases dc d a.tmps.size with Mc|vu
     ·rw[Rw t Mc,if_neg (λe=>hd (by rw[y_,e]))]
     ·rw[Array.setIfInBounds_eq_of_size_le vu]
   rw[htm];exact qf.mono (f':=(f.join f').vh (σ p).F.length λ_=>True) (hle p) (Qar p) (inv.slot p hp t (Cf.before hW))
 ·
  rcases Daf p hp Cf with⟨h1,h2,h3⟩|⟨h1,h2⟩
  ·exact Zaf p hp h3 h1 h2
  ·exact Yaf p hp h1 Cf h2
 ·exact(inv.Na k row hg).mono (hle 0)
 ·
  by_cases hold:f.E b
  ·rw[SX b hold];obtain⟨cs,⟨T',fz,hR,hs,Tn,hz⟩,cz,de⟩:=inv.box b hold;have Mc:=inv.y9 hold;have ZF:¬g'.Z (f.φ b):=λh=>by
    rcases hx.Xr _ h with h1|h1|h1
    ·exact hz h1
    ·exact uag b hold h1
    ·exact absurd Mc (Nat.not_lt.2 h1)
   by_cases S8:τ i= .box b true
   ·
    obtain⟨k,row,hk,e1,e2,hEk,hlk⟩:∃k row,τ i= .box k true/\M'.F=M.F.set k row/\(σ (i+1)).F=(σ i).F.set k row/\f.E k/\k<(σ i).F.length:=by
     rcases hF with⟨_,_,h⟩|⟨_,_,_,h⟩|h
     ·exact absurd S8 (h b)
     ·exact absurd S8 (h b)
     ·exact h
    obtain rfl:k=b:=by rw[S8]at hk;injection hk with h _;exact h.symm
    have hE':=hx.E k ⟨hEk,hlk⟩;have lS:M'.F[k]?=some row:=by rw[e1,List.getElem?_set_self (by rw[hM.Uj];exact hlk)]
    have Uu:(σ (i+1)).F[k]?=some row:=by rw[e2,List.getElem?_set_self hlk]
    obtain⟨Ei,⟨T2,fz2,LK,ZX,cag,zO⟩,Gl⟩:=QO.Kf k row hE'.1 lS;have Iaq:f'.φ k=f.φ k:=hE'.2;rw[Iaq]at LK zO;refine⟨Ei,⟨T2,fz2,LK,rfl,by rw[ZX];exact cag,zO⟩,λu hu=> ?_,λp hp r hr=> ?_⟩
    ·obtain⟨c,hc⟩:=Ve hu;have Gn:c<row.length:=by rw[<- ZX];exact Za (a:=Ei) (i:=c) (x:=u) (by simpa using hc)
     obtain⟨u',h1,h2,_⟩:=Gl c _ (Da Gn);rw[Qf]at h1;have:Ei.toList[c]?=Ei[c]?:=by simp
     rw[this,h1]at hc;simp at hc;subst hc;exact h2
    ·refine⟨?_,λCf=> ?_⟩
     ·rw[ZX];rcases dc i p with eY|eY
      ·exact((qg (p:=i+1) (q:=p) eY hp).row k _ _ Uu hr).symm
      ·exact(qg (p:=p) (q:=i+1) (by omega) gW).row k _ _ hr Uu
     ·have hW:Wr os τ i (.box k):=S8;have eY:=Cf.after hi.1 hW;have:(σ p).F[k]?=some row:=by
       rw[(qg (p:=i+1) (q:=p) eY hp).box k (by rw[e2];simp;exact hlk) (λj j1 j2=>T.Bp hD hi hW.us Cf j (by omega) (by omega) j2)];exact Uu
      rw[this]at hr;simp at hr;subst hr;exact Gl.mono (QZ p eY hp)
   ·have hun:w'.heap[f.φ b]?=w.heap[f.φ b]?:=QL _ Mc (uag b hold) λb' Wd ht' e=>by
     by_cases e':b'=b
     ·subst e';exact S8 ht'
     ·exact inv.Nab b' b Wd hold e' e
    refine⟨cs,⟨T',fz,by rw[hun];exact hR,hs,Tn,ZF⟩,cz,λp hp r hr=>⟨(de p hp r hr).1,λCf=> ?_⟩⟩;exact((de p hp r hr).2 (Cf.before S8)).mono (hle p)
  ·
   have Wd:f'.E b:=hb.resolve_left hold;have vu:(σ i).F.length<=b:=(E0 b Wd).resolve_left λh=>hold h.1
   have Mc:=G0 b Wd;have lS:=Da (l:=M'.F) (i:=b) (by rw[rS];exact Mc);obtain⟨Ei,⟨T2,fz2,LK,ZX,cag,zO⟩,Gl⟩:=QO.Kf b _ Wd lS;rw[XC b Wd];have Uu:(σ (i+1)).F[b]?=M'.F[b]?:=by
    rcases hF with⟨e1,e2,_⟩|⟨row,e1,e2,_⟩|⟨k,row,_,e1,e2,_,hlk⟩
    ·rw[e2]at Mc;omega
    ·rw[e1,e2];have:b=(σ i).F.length:=by rw[e2]at Mc;simp at Mc;omega
     subst this;simp[hM.Uj]
    ·rw[e2]at Mc;simp at Mc;omega
   refine⟨Ei,⟨T2,fz2,LK,rfl,by rw[ZX];exact cag,zO⟩,λu hu=> ?_,λp hp r hr=> ?_⟩
   ·obtain⟨c,hc⟩:=Ve hu;have Gn:c<(M'.F[b]).length:=by rw[<- ZX];exact Za (a:=Ei) (i:=c) (x:=u) (by simpa using hc)
    obtain⟨u',h1,h2,_⟩:=Gl c _ (Da Gn);rw[Qf]at h1;have:Ei.toList[c]?=Ei[c]?:=by simp
    rw[this,h1]at hc;simp at hc;subst hc;exact h2
   ·have eY:i<p:=by
     rcases dc i p with h|h
     ·exact h
     ·exfalso;have:=(qg h hN).Uj;rw[Nb (by omega)]at hr;simp at hr
    rw[lS]at Uu;refine⟨?_,λCf=> ?_⟩
    ·rw[ZX];exact((qg (p:=i+1) (q:=p) eY hp).row b _ _ Uu hr).symm
    ·have:(σ p).F[b]?=some M'.F[b]:=by
      rw[(qg (p:=i+1) (q:=p) eY hp).box b Mc (λj j1 j2 hW=> ?_)]
      ·exact Uu
      ·by_cases hLj:L j
       ·exact hold (inv.wr j (by omega) hLj b hW)
       ·exact Cf.1 j (by omega) j2 (λh=>h.elim hLj (by omega)) hW
     rw[this]at hr;simp at hr;subst hr;exact Gl.mono (QZ p eY hp)
 ·
  by_cases h1:f.E b<;>by_cases h2:f.E b'
  ·rw[SX b h1,SX b' h2];exact inv.Nab b b' h1 h2 td
  ·have jY:=Wd.resolve_left h2;rw[SX b h1,XC b' jY];have:=inv.y9 h1;have:=Yy b' jY h2;omega
  ·have dG:=hb.resolve_left h1;rw[XC b dG,SX b' h2];have:=inv.y9 h2;have:=Yy b dG h1;omega
  ·have dG:=hb.resolve_left h1;have jY:=Wd.resolve_left h2;rw[XC b dG,XC b' jY];exact QO.inj b b' dG jY td
 ·
  rcases Daf p hp Cf with⟨h1,h2,h3⟩|⟨h1,h2⟩
  ·have u_:=Nan p hp h1 _ DF;by_cases hold:f.E b
   ·rw[SX b hold]at u_;exact inv.apart b hold p hp h3 u_
   ·have Wd:=hb.resolve_left hold;rw[XC b Wd]at u_;obtain⟨b',hl,e⟩:=u_;have:=(inv.heap p hp h3).lt hl;have:=Yy b Wd hold;omega
  ·obtain⟨b',hl,e⟩:=DF;rcases D_ p hp h1 Cf h2 b' hl with⟨k1,k2⟩|⟨m1,m2,m3,m4,m5⟩
   ·rw[k2]at e;by_cases hold:f.E b
    ·rw[SX b hold]at e;rcases hx.fp _ ⟨b',k1,e⟩with h|h
     ·exact uag b hold h
     ·have:=inv.y9 hold;omega
    ·have Wd:=hb.resolve_left hold;rw[XC b Wd]at e;exact QO.apart b Wd ⟨b',k1,e⟩
   ·rw[m4]at e;by_cases hold:f.E b
    ·rw[SX b hold]at e;exact inv.apart b hold p hp m2 ⟨b',m3,e⟩
    ·have Wd:=hb.resolve_left hold;rw[XC b Wd]at e;have:=(inv.heap p hp m2).lt m3;have e':(g.ρ b').R=f'.φ b:=e;have:=Yy b Wd hold;have h5:((g.vh (σ p).H.bl.length).ρ b').R=(g.ρ b').R:=rfl;omega
 ·
  have LZ:¬L j:=λh=>hnL (.inl h)
  have hji:j≠i:=λh=>hnL (.inr h)
  rcases hb with hb|hb
  ·exact inv.PI j hj LZ b h1 h2 hb
  ·rcases J0 b hb with h|h
   ·exact inv.PI j hj LZ b h1 h2 h.1
   ·have h3:=iW b hb;rcases By hji with Mc|Mc
    ·have:=(qg (p:=j+1) (q:=i) Mc hN).len;omega
    ·have:=(qg (p:=i+1) (q:=j) Mc (by omega)).len;omega
 ·have LZ:¬L j:=λh=>hnL (.inl h)
  have hji:j≠i:=λh=>hnL (.inr h)
  rcases hb with hb|hb
  ·exact inv.bP j hj LZ b h1 h2 hb
  ·rcases E0 b hb with h|h
   ·exact inv.bP j hj LZ b h1 h2 h.1
   ·have h3:=G0 b hb;rcases By hji with Mc|Mc
    ·have:=(qg (p:=j+1) (q:=i) Mc hN).Uj;omega
    ·have:=(qg (p:=i+1) (q:=j) Mc (by omega)).Uj;omega
 ·rcases hb with hb|hb
  ·exact inv.Wao b hb
  ·exact Sa (iW b hb) (qg gW (ya _)).len
 ·rcases hb with hb|hb
  ·exact inv.Vao b hb
  ·exact Sa (G0 b hb) (qg gW (ya _)).Uj
 ·rcases hL with hL|rfl
  ·exact .inl (inv.wr j hj hL b ht)
  ·rcases hF with⟨_,_,h⟩|⟨_,_,_,h⟩|⟨k,row,hk,_,_,hEk,_⟩
   ·exact absurd ht (h b)
   ·exact absurd ht (h b)
   ·rw[ht]at hk;injection hk with h _;rw[h];exact .inl hEk
 ·rcases hb with hb|hb
  ·exact inv.W0 b hb
  ·rcases J0 b hb with h|h
   ·exact inv.W0 b h.1
   ·exact .inr (Db (qg (Ac _) hN).len h)
 ·rcases hx.Xr R hR with h|h|h
  ·exact inv.Nac R h
  ·exact .inr (eag R h)
  ·exact .inr (.inr (Db inv.size h))
 ·rcases Daf p hp Cf with⟨h1,h2,h3⟩|⟨h1,h2⟩
  ·exact inv.fFp p hp h3 R (Nan p hp h1 R DF)
  ·obtain⟨b',hl,e⟩:=DF;rcases D_ p hp h1 Cf h2 b' hl with⟨k1,k2⟩|⟨m1,m2,m3,m4,m5⟩
   ·rw[k2]at e;rcases hx.fp _ ⟨b',k1,e⟩with h|h
    ·exact eag R h
    ·exact .inr (Db inv.size h)
   ·rw[m4]at e;exact inv.fFp p hp m2 R ⟨b',m3,e⟩
 ·rcases hb with hb|hb
  ·exact inv.V0 b hb
  ·rcases E0 b hb with h|h
   ·exact inv.V0 b h.1
   ·exact .inr (Db (qg (Ac _) hN).Uj h)
 ·by_cases hold:f.E b
  ·rw[SX b hold];exact inv.fφ b hold hn
  ·have Wd:=hb.resolve_left hold;rw[XC b Wd];exact Db inv.size (Yy b Wd hold)
 ·refine(QL R (Sa hR inv.size) (λh=> ?_) (λb hbE _ e=> ?_)).trans (inv.Al R hR hn hb)
  ·rcases eag R h with h1|h1
   ·exact hn h1
   ·omega
  ·by_cases h0:f0.E b
   ·exact hb b h0 ((inv.fE b h0).2 ▸ e)
   ·have:=inv.fφ b hbE h0;omega
 ·obtain⟨s1,s2⟩:=inv.still b hb hl;have hR0:=jS.lt hl;have Mc:(g0.ρ b).R<w.heap.size:=Sa hR0 inv.size;refine⟨Eq.trans ?_ s1,λb' Wd=> ?_⟩
  ·cases hh:(τ i).Yc with
   |false=>
    refine QL _ Mc (λh=> ?_) (λb' Wd _=>s2 b' Wd);obtain⟨b',⟨_,x,Eg,Fg⟩,_⟩:=h;rw[hM.H0 hh b' x Eg]at Fg;simp[Me]at Fg
   |true=>
    have EB:b<(σ 0).H.bl.length:=by obtain⟨_,x,Eg,_⟩:=hl;exact getElem?_lt' Eg
    have g_:=qg (Ac i) hN;have hg:=inv.fD b hl.1;have hli:live (g.vh (σ i).H.bl.length) M.H b:=by
     refine⟨⟨hg.1,Sa EB g_.len⟩,?_⟩;rw[hM.H1 hh,Sr,g_.low b hb EB];exact hl.2
    have Th:b<M.H.wm:=by
     rw[hM.wm];by_cases hw:τ i= .heap true
     ·rw[hw];show b<(σ i).H.wm;rw[g_.wm];exact hb
     ·rw[nF hw];exact Sa EB g_.len
    have:=hx.still b Th hli;have e:((g.vh (σ i).H.bl.length).ρ b)=g0.ρ b:=hg.2;rw[e]at this;exact this
  ·by_cases hold:f.E b'
   ·rw[SX b' hold];exact s2 b' hold
   ·have Ban:=Wd.resolve_left hold;rw[XC b' Ban];have:=Yy b' Ban hold;omega
end
end Go.V
namespace Go.V
open Go
variable [Inhabited Rn]
section
variable {A:Oi}{call:Callee}{Ca:List Nat}{n:Nat}{os:Array Oper}{σ:Nat->S}{τ:Nat->Yf}{L:Nat->Prop}{g0 g:Gx}{f0 f:Fx}{w0 w:World}{ds:List Deferred}{a:Act}
theorem Inv.finish(T:Trace A call Ca n os σ τ)(hq:Nd call)(Ec:St A.Na g0 f0 (σ 0) n a w0){a':Act}(inv:Inv A.Na os σ τ n g0 f0 w0 a.defers L g f a' w)(hL:∀j,j<os.size->L j):
  ∃f',St A.Na g f' (σ os.size) n a' w/\Wg g0 f0 w0 (σ 0).H (σ 0).F g f' w (σ os.size).H (σ os.size).F:=by
 have Cf:∀c,eu os τ L os.size c:=λc=>⟨λj hj _ h=>absurd (hL j hj) h,λj hj h=>by omega⟩
 have qg:=T.span hq os.size (Ac _) (ya _);have c9:g.vh (σ os.size).H.bl.length=g:=by
  have:(λb=>g.D b/\b<(σ os.size).H.bl.length)=g.D:=by
   funext b;exact propext ⟨λh=>h.1,λh=>⟨h,inv.Wao b h⟩⟩
  cases g;simp only[Gx.vh]at *;rw[this]
 have hw:=inv.heap _ (ya _) (Cf _);rw[c9]at hw;have hx:Wg g0 f0 w0 (σ 0).H (σ 0).F g { f with W:=λ_=>True } w (σ os.size).H (σ os.size).F:=by
  refine⟨inv.fD,inv.W0,inv.fZ,inv.Nac,λR h=> ?_,inv.fE,inv.V0,inv.fφ,inv.Al,inv.size,qg.len,qg.Uj,qg.wm,qg.low,λb hb hl=>(inv.still b hb hl).1,λi hi=>⟨λ_=>Ec.hW i hi,λ_=>trivial⟩,λ_ _ _=>trivial,λi hi hn=>absurd (Ec.hW i hi) hn,inv.io⟩;have:=inv.fFp _ (ya _) (Cf _) R;rw[c9]at this;exact this h
 refine⟨{ f with W:=λ_=>True },⟨hw,⟨inv.Vao,λb row hb hr=> ?_,inv.Nab,λb hb h=> ?_⟩,λt=> ?_,inv.n,?_,λ_ _=>trivial⟩,hx⟩
 ·obtain⟨cs,C0,_,de⟩:=inv.box b hb;obtain⟨h1,h2⟩:=de _ (ya _) row hr;have h3:=h2 (Cf _);rw[c9]at h3;exact⟨cs,by rw[<- h1];exact C0,h3⟩
 ·have:=inv.apart b hb _ (ya _) (Cf _);rw[c9]at this;exact this h
 ·have:=inv.slot _ (ya _) t (Cf _);rw[c9]at this
  revert this
  cases get (σ os.size).e t with
  |v x=>exact id
  |loc k c=>exact λh=>⟨h.1.1,h.2⟩
 ·rw[inv.ds];exact Ec.hm.step Ec.hw Ec.hf hx
theorem WU{s:S}{o:Oper}{q w:Bool}{k:Nat}(h:Ud A Ca s o q= .box k w):∃t,t∈o.looksAt os/\∃c,get s.e t= .loc k c:=by
 have key:∀{wr:Bool}{x:Operand},Vf wr (operand A s.e x)= .box k w->x∈o.op.operands->∃t,t∈o.looksAt os/\∃c,get s.e t= .loc k c:=λ{wr x}h hx=>by
  cases ho:operand A s.e x with
  |none=>rw[ho]at h;simp[Vf]at h
  |some sv=>
   rw[ho]at h;cases sv with
   |v y=>cases y<;>simp[Vf]at h;cases wr<;>simp at h
   |loc i c=>
    simp[Vf]at h;obtain⟨rfl,_⟩:=h;cases x with
    |tmp t=>
     simp[operand]at ho;exact⟨t,we _ (List.mem_filterMap.2 ⟨.tmp t,by simpa using hx,rfl⟩),c,ho⟩
    |const v=>simp[operand]at ho
    |global gv=>simp[operand]at ho
    |func fv=>simp[operand]at ho
 unfold Ud at h;split at h
 ·rename_i ho;exact key h (by rw[ho];simp[Op.operands])
 ·unfold Hs at h;split at h<;>simp at h
 ·rename_i ho;exact key h (by rw[ho];simp[Op.operands])
 all_goals first
  |(split at h<;>simp at h;done)
  |(simp at h;done)
  |(unfold Hs at h;split at h<;>simp at h;done)
  |(unfold Xh at h;split at h<;>simp at h;done)
theorem ZO{s M:S}{o:Oper}{b:Bool}(h:Bf os s o=some b)(he:∀t,t∈o.looksAt os->get M.e t=get s.e t):Bf os M o=some b:=by
 unfold Bf at h ⊢;split at h
 ·rename_i hg;exact h
 ·rename_i j want hg;split at h
  ·rename_i d hd;have:d∈o.looksAt os:=by
    refine Bq _ ?_;rw[hg];simp[hd]
   simp only[hg,hd,he d this];exact h
  ·simp at h
theorem Trace.upto(T:Trace A call Ca n os σ τ)(hD:Down os L){i:Nat}(hi:yn os L i)(Maf:∀j,j<i->τ j= .heap true->ord (Tl os.toList []) j i=true):
  ∃p,i<=p/\p<=os.size/\eu os τ L p .heap:=by
 have key:∀k,i<=k->k<=os.size->∃p,i<=p/\p<=os.size/\(∀j,j<os.size->p<=j->j<k->L j->τ j≠ .heap true)/\(p=i\/∃j0,p=j0+1/\j0<os.size/\L j0/\τ j0= .heap true):=by
  intro k;induction k with
  |zero=>intro h1 h2;exact⟨i,ya _,js hi.1,λj _ _ h=>by omega,.inl rfl⟩
  |succ k ih=>
   intro h1 h2;by_cases SZ:i<=k
   ·obtain⟨p,a1,a2,a3,a4⟩:=ih SZ (by omega);by_cases hw:L k/\τ k= .heap true
    ·exact⟨k+1,by omega,h2,λj _ h3 h4=>by omega,.inr ⟨k,rfl,by omega,hw.1,hw.2⟩⟩
    ·refine⟨p,a1,a2,λj hj h3 h4 hL he=> ?_,a4⟩;by_cases e:j=k
     ·subst e;exact hw ⟨hL,he⟩
     ·exact a3 j hj h3 (by omega) hL he
   ·exact⟨i,ya _,js hi.1,λj _ h3 h4=>by omega,.inl rfl⟩
 obtain⟨p,a1,a2,a3,a4⟩:=key os.size (js hi.1) (ya _);refine⟨p,a1,a2,λj hj Mc Vk hw=> ?_,λj hj hle hl hw=>a3 j hj hle hj hl hw⟩;have JI:τ j= .heap true:=hw;rcases dc j i with h|h
 ·exact Vk (hi.2.2 j (Maf j h JI))
 ·rcases a4 with rfl|⟨j0,rfl,h0,hL0,jS⟩
  ·omega
  ·have td:j≠j0:=λe=>Vk (e ▸ hL0)
   rcases T.bI j j0 hj h0 td (by rw[jS];rfl)with h1|h1|h1
   ·exact Vk (hD j j0 h0 hL0 h1.2)
   ·omega
   ·rw[JI,jS]at h1;simp[conflict]at h1
theorem mL{g g':Gx}{w:World}{m:Nat}{v:SV}{f f':Fx}{rv:Value}(hp:Ms m v=true)(hD:∀b,g.D b->b<m->g'.D b)(rZ:∀b,g'.ρ b=g.ρ b)(h:qf g f w v rv):qf g' f' w v rv:=by
 unfold Ms at hp;split at hp
 ·rename_i b;have hb:b<m:=by simpa using hp
  have h':Cb g w (.mp b) rv:=h;cases h' with
  |mp _ hd=>have:=Cb.mp (g:=g') (w:=w) b (hD b hd hb);rw[rZ]at this;exact this
 ·have h':Cb g w (.fn _ []) rv:=h;cases h' with
  |fn _ _ vs hl hr=>
   have:vs=[]:=Gb.1 hl;subst this;exact Cb.fn _ [] [] rfl λi x v h=>by simp at h
 ·have h':Cb g w .ig rv:=h;cases h';exact Cb.ig
 ·have h':Cb g w .og rv:=h;cases h';exact Cb.og
 ·simp at hp
theorem aL{s s':S}{o:Oper}{v:SV}{F:Fence}{m:Nat}{next:Act->World->Prop}{Q:Exit->Act->World->Prop}(Ec:Bl A o=true)(h:op A call Ca s o=some (v,s'))(hw:Jc A.Na g w s.H)(hf:ze g f w s.H s.F)(he:Mf g f w s.e a.tmps)(hF:sy F)
  (hk:∀rv,qf g f w v rv->next (a.put o.dst rv) w):o.wpIn F m A.P a w next Q:=by
 refine⟨λf _=>hF.fn f,?_⟩;have hnd:∀c,o.op≠ .defer c:=λc e=>by unfold op at h;rw[e]at h;simp at h
 rw[Oper.semAt_eq F.round a.eval o hnd];have fin:∀{rv:Value}{x:AV},v= .v x->(execOp a.eval o).run A.P w= .ok (.value rv) w->Cb g w x rv->Oper.uponIn F m A.P o a next Q ((execOp a.eval o).run A.P w):=λ{rv x}hv hr hx=>by
  rw[hr];exact hk rv (by rw[hv];exact hx)
 unfold Bl at Ec;split at Ec
 ·rename_i t x ho;unfold op at h;rw[ho]at h;simp only[aa]at h;obtain⟨p,hp,h⟩:=h;obtain⟨_,x,hx,rfl⟩:=Tq h;obtain⟨rv,h1,h2⟩:=RC hx hw hf (ef hp hw he);exact fin rfl (by unfold execOp;rw[ho];simp[h1]) h2
 ·rename_i t x i ho;unfold op at h;rw[ho]at h;simp only[aa]at h;obtain⟨mv,hm,k,YL,h⟩:=h;obtain⟨_,x,hx,rfl⟩:=Tq h;obtain⟨rv,h1,h2⟩:=Dw hx hw (Fc hm hw he) (Fc YL hw he);exact fin rfl (by unfold execOp;rw[ho];simp[h1]) h2
 ·simp at Ec
theorem Eab{F:Fence}{m:Nat}{Q:Exit->Act->World->Prop}(hC:Ik A call)(hF:sy F)(T:Trace A call Ca n os σ τ)(hq:Nd call)(jS:Jc A.Na g0 w0 (σ 0).H)(inv:Inv A.Na os σ τ n g0 f0 w0 ds L g f a w)(hD:Down os L){i:Nat}(hi:yn os L i)
  {K:Act->World->Prop} (hK:∀g' f' a' w',Inv A.Na os σ τ n g0 f0 w0 ds (λj=>L j\/j=i) g' f' a' w'->K a' w'):wpOpIn F m A.P os Q i K a w:=by
 have hi1:=hi.1;have ho:os[i]?=some os[i]:=by simp[hi1]
 generalize os[i]=o at ho;obtain⟨M,hM⟩:=inv.masked T hq hD hi ho;unfold wpOpIn;simp only[ho];have PO:∀b,Bf os (σ i) o=some b->Region.wanted o (yielded os a.tmps)=b:=λb hb=>HA (ZO hb hM.e) hM.he
 rcases T.step i o ho with⟨q,v,s',hg,WG,ht,Dh⟩|⟨hg,Dh,ht⟩|⟨v,hg,Ji,TL,Dh,ht,Maf,WG⟩
 ·rw[PO true hg,if_pos rfl];obtain⟨p1,p2,p3,p4⟩:=qw Dh;obtain⟨s1,h1,h2,h3,h4,h5,h6⟩:=XY WG;have Faf:Ud A Ca (GF (τ i) (σ i)) o q=τ i:=by rw[OH,<- ht]
  have o_:∀x∈o.op.operands,operand A M.e x=operand A (GF (τ i) (σ i)).e x:=λx hx=>by
   rw[KU];cases x with
   |tmp t=>simp only[operand];rw[hM.e t (we _ (List.mem_filterMap.2 ⟨.tmp t,by simpa using hx,rfl⟩))]
   |const v=>rfl
   |global gv=>rfl
   |func fv=>rfl
  obtain⟨M',lar,st⟩:=qI (q:=q) (t:=M) hq h1 o_ (λhh=>hM.H1 (by rw[Faf]at hh;exact hh)) (by rw[LU];exact hM.Uj) (λb wr hb=>by
   rw[Faf]at hb;rw[LU];exact hM.F b (T.Fs hD hi ⟨wr,hb⟩))
  rw[Faf]at st;have stF:=st.f;rw[LU]at stF;have hE:∀k wr,τ i= .box k wr->f.E k/\k<(σ i).F.length:=λk wr hk=>by
   rw[ht]at hk;obtain⟨t,ht',c,hc⟩:=WU (os:=os) hk;have:=hM.he t;rw[hM.e t ht',hc]at this;exact this.1
  refine rL hC lar hM.hw hM.hf hM.he hF (λty x y Mam k c hx=> ?_) λhse g' f' w' rv JI QO hx hv=> ?_
  ·have h0:operand A (σ i).e x=some (.loc k c):=by
    have:=o_ x (by rw[Mam];simp[Op.operands]);rw[hx,KU]at this;exact this.symm
   have:τ i= .box k true:=by rw[ht];unfold Ud;rw[Mam];simp only[h0];rfl
   exact this
  ·obtain h:=inv.step T hq jS hD hi ho hM hx JI QO hv (λd hd=>p4 d hd) (λhh=>by rw[p2,h4,(st.h.1 hh)]) (λhh=>(st.h.2 hh).1) (by
    have hFs:(σ (i+1)).F=s1.F:=by rw[p3,h3]
    rcases stF with⟨e1,e2⟩|⟨row,e1,e2,htn⟩|⟨k,row,hk,e1,e2,_⟩
    ·by_cases hb:∃b,τ i= .box b true
     ·obtain⟨b,hb⟩:=hb;obtain⟨hEb,aW⟩:=hE b true hb;have hMb:M.F[b]?=(σ i).F[b]?:=hM.F b (T.Fs hD hi ⟨true,hb⟩);have hr:=Da aW;refine .inr (.inr ⟨b,(σ i).F[b],hb,?_,?_,hEb,aW⟩)
      ·rw[e2];refine List.ext_getElem? λk=> ?_
       rw[Cc];split
       ·rename_i e;subst e;rw[if_pos (by rw[hM.Uj];exact aW),hMb,hr]
       ·rfl
      ·rw[hFs,e1];refine List.ext_getElem? λk=> ?_
       rw[Cc];split
       ·rename_i e;subst e;first|(rw[hr];simp;done)|(rw[hr];done)|(simp[aW,hr];done)|simp
       ·rfl
     ·exact .inl ⟨e2,by rw[hFs,e1],λb Wd=>hb ⟨b,Wd⟩⟩
    ·refine .inr (.inl ⟨row,e2,by rw[hFs,e1],λb hb=> ?_⟩);rw[htn]at hb;simp at hb
    ·exact .inr (.inr ⟨k,row,hk,e2,by rw[hFs,e1],hE k true hk⟩))
   exact hK _ _ _ _ h
 ·rw[PO false hg,if_neg (by simp)];refine⟨λf _=>hF.fn f,?_⟩;obtain⟨p1,p2,p3,p4⟩:=qw Dh;exact hK _ _ _ _ (inv.step T hq jS hD hi ho hM (v:= .v (.Re [])) (rv:=undef) (.refl _ _ _ _ _) hM.hw hM.hf (AG _ _) (λd hd=>p4 d hd) (λhh=>by rw[ht]at hh;simp[Yf.Yc]at hh) (λ_=>rfl) (.inl ⟨rfl,p3,λb hb=>by rw[ht]at hb;simp at hb⟩))
 ·rw[PO true hg,if_pos rfl];obtain⟨p1,p2,p3,p4⟩:=qw Dh;obtain⟨p,eY,Zo,Cf⟩:=T.upto hD hi Maf;obtain⟨s2,yB⟩:=WG p eY Zo;have hlen:(σ i).H.bl.length<=(σ p).H.bl.length:=(T.span hq p eY Zo).len;have hle:(g.vh (σ i).H.bl.length).Le w (g.vh (σ p).H.bl.length) w:=⟨λb hb=>⟨⟨hb.1,Sa hb.2 hlen⟩,rfl⟩,λR hR=>⟨hR,rfl⟩⟩;have hwp:=inv.heap p Zo Cf;have Oaf:∀x∈o.op.operands,operand A M.e x=operand A (σ i).e x:=λx hx=>by
   cases x with
   |tmp t=>simp only[operand];rw[hM.e t (we _ (List.mem_filterMap.2 ⟨.tmp t,by simpa using hx,rfl⟩))]
   |const v=>rfl
   |global gv=>rfl
   |func fv=>rfl
  have xB:Bl A o=true:=by unfold Xf at Ji;simp only[Ab]at Ji;exact Ji.1
  have Naf:∃s3,op A call Ca ⟨M.e,M.F,(σ p).H⟩ o=some (v,s3):=by
   unfold Xf at Ji;simp only[Ab]at Ji;unfold Bl at xB;split at xB
   ·rename_i t x Z8;unfold op at yB ⊢;rw[Z8]at yB Ji ⊢;simp only[aa]at yB;obtain⟨q,hq1,yB⟩:=yB;have hq2:operand A (σ i).e (.tmp x)=some q:=hq1;have hme:=Oaf (.tmp x) (by rw[Z8];simp[Op.operands]);simp only[hq2]at Ji;simp only[hme,hq2,da];obtain⟨_,y,hy,rfl⟩:=Tq yB;refine⟨_,show kj _ _=some (.v y,⟨M.e,M.F,(σ p).H⟩)from ?_⟩;have hl:load A ⟨M.e,M.F,(σ p).H⟩ t q=some y:=by
     revert hy
     cases q with
     |loc k c=>simp at Ji
     |v a=>cases a<;>simp at Ji;exact id
    rw[hl];rfl
   ·rename_i t x k Z8;unfold op at yB ⊢;rw[Z8]at yB ⊢;simp only[aa]at yB;obtain⟨mv,hm,kv,YL,yB⟩:=yB;have e1:=Oaf x (by rw[Z8];simp[Op.operands]);have e2:=Oaf k (by rw[Z8];simp[Op.operands]);have dz:val A M.e x=some mv:=by rw[<- hm];simp only[val,e1]
    have q_:val A M.e k=some kv:=by rw[<- YL];simp only[val,e2]
    simp only[dz,q_,da];obtain⟨_,y,hy,rfl⟩:=Tq yB;have Ze:lookup A (σ p).H t mv kv false=some y:=hy;exact⟨_,show kj _ _=some (.v y,⟨M.e,M.F,(σ p).H⟩)by rw[Ze];rfl⟩
   ·simp at xB
  obtain⟨s3,Naf⟩:=Naf;have DF:ze (g.vh (σ p).H.bl.length) (f.vh (σ i).F.length λb=>τ i= .box b true) w (σ p).H M.F:=by
   refine⟨hM.hf.Ff,λk row hk hr=> ?_,hM.hf.inj,λk hk=>inv.apart k hk.1 p Zo Cf⟩;obtain⟨cs,h1,h2⟩:=hM.hf.Kf k row hk hr;exact⟨cs,h1,h2.mono hle⟩
  have hep:Mf (g.vh (σ p).H.bl.length) (f.vh (σ i).F.length λb=>τ i= .box b true) w M.e a.tmps:=λt=>(hM.he t).mono hle λi hi=>⟨hi,rfl⟩
  refine aL xB Naf hwp DF hep hF λrv hv=> ?_
  have ot:qf (g.vh (σ i).H.bl.length) (f.vh (σ i).F.length λb=>τ i= .box b true) w v rv:=mL (g:=g.vh (σ p).H.bl.length) TL (λb hb Mc=>⟨hb.1,Mc⟩) (λ_=>rfl) hv;exact hK _ _ _ _ (inv.step T hq jS hD hi ho hM (v:=v) (rv:=rv) (.refl _ _ _ _ _) hM.hw hM.hf ot (λd hd=>p4 d hd) (λhh=>by rw[ht]at hh;simp[Yf.Yc]at hh) (λ_=>rfl) (.inl ⟨rfl,p3,λb hb=>by rw[ht]at hb;simp at hb⟩))
def kR(A:Oi)(call:Callee)(Ca:List Nat)(n:Nat)(os:Array Oper)(b:List Nat)(i:Nat)(x:List Yf)(s s1:S)(t:Yf)(o:Oper)(later:SV->Prop):Prop:=
 (∃q v s',Bf os s o=some true/\LR A call Ca t s o=some (v,s')/\t=Ud A Ca s o q/\put s' n o.dst v=some s1)\/
 (Bf os s o=some false/\put s n o.dst (.v (.Re []))=some s1/\t= .no)\/
 (∃v,Bf os s o=some true/\Xf A s o=true/\Ms s.H.bl.length v=true/\put s n o.dst v=some s1/\t= .no/\wV b i x=true/\later v)
theorem JC{b:List Nat}:∀(l:List Oper)(i:Nat)(s:S)(x:List Yf)(rs:List (Oper×List (Nat×SV)×SV))(s':S)(y:List Yf),Gh A call Ca rs s->Dl A call Ca n os b l i s x rs=some (s',y)->
  ∃(σ:Nat->S)(τ:Nat->Yf),σ 0=s/\σ l.length=s'/\y=x++(mb l.length).map τ/\(∀k,k<=l.length->Gh A call Ca rs (σ k))/\∀k o,l[k]?=some o->
   kR A call Ca n os b (i+k) (x++(mb k).map τ) (σ k) (σ (k+1)) (τ k) o λv=>∀k',k<=k'->k'<=l.length->∃s',op A call Ca { σ k' with e:=(σ k).e } o=some (v,s')
 |[],i,s,x,rs,s',y,SL,h=>by
  simp[Dl]at h;obtain⟨rfl,rfl⟩:=h;exact⟨λ_=>s,λ_=> .no,rfl,rfl,by simp,λ_ _=>SL,λk o h=>by simp at h⟩
 |o::l,i,s,x,rs,s',y,SL,h=>by
  simp only[Dl,aa]at h;obtain⟨g,hg,h⟩:=h;have fin:∀(s1:S)(t:Yf)(rs':List (Oper×List (Nat×SV)×SV)),Gh A call Ca rs' s1->(∀r∈rs,r∈rs')->Dl A call Ca n os b l (i+1) s1 (x++[t]) rs'=some (s',y)->
    (∀(later:SV->Prop),(∀v s0,op A call Ca s o=some (v,s0)->(o,s.e,v)∈rs'->later v)->kR A call Ca n os b i x s s1 t o later)->
    ∃(σ:Nat->S)(τ:Nat->Yf),σ 0=s/\σ (o::l).length=s'/\y=x++(mb (o::l).length).map τ/\(∀k,k<=(o::l).length->Gh A call Ca rs (σ k))/\∀k o',(o::l)[k]?=some o'->
     kR A call Ca n os b (i+k) (x++(mb k).map τ) (σ k) (σ (k+1)) (τ k) o' λv=>∀k',k<=k'->k'<=(o::l).length->∃s',op A call Ca { σ k' with e:=(σ k).e } o'=some (v,s'):=λs1 t rs' Zaq Waq h1 h2=>by
   obtain⟨σ,τ,e0,e1,e2,e4,e3⟩:=JC l (i+1) s1 _ rs' s' y Zaq h1;refine⟨λk=>match k with|0=>s|k+1=>σ k,λk=>match k with|0=>t|k+1=>τ k,rfl,by simpa using e1,?_,λk hk=> ?_,λk o' hk=> ?_⟩
   ·rw[e2,List.length_cons,List.range_succ_eq_map]
    simp
   ·cases k with
    |zero=>exact SL
    |succ k=>exact λr hr=>e4 k (by simpa using hk) r (Waq r hr)
   ·cases k with
    |zero=>
     simp at hk;subst hk;have:=h2 (λv=>∀k',0<=k'->k'<=(o::l).length->∃s',op A call Ca { (match k' with|0=>s|k+1=>σ k:S)with e:=s.e } o=some (v,s')) λv s0 hv hm k' _ YL=>by
      cases k' with
      |zero=>exact⟨s0,hv⟩
      |succ k'=>exact e4 k' (by simpa using YL) _ hm
     simpa[e0]using this
    |succ k=>
     have:=e3 k o' (by simpa using hk);have e5:i+1+k=i+(k+1):=by omega
     have e6:x++[t]++(mb k).map τ=x++(mb (k+1)).map (λk=>match k with|0=>t|k+1=>τ k):=by
      rw[List.range_succ_eq_map];simp
     rw[e5,e6]at this;rcases this with h|h|⟨v,a1,a2,a3,a4,a5,a6,a7⟩
     ·exact .inl h
     ·exact .inr (.inl h)
     ·refine .inr (.inr ⟨v,a1,a2,a3,a4,a5,a6,λk' h1 h2=> ?_⟩);cases k' with
      |zero=>omega
      |succ k'=>exact a7 k' (by omega) (by simpa using h2)
  cases g with
  |true=>
   simp only at h;split at h
   ·rename_i Ji;simp only[aa]at h;obtain⟨⟨v,s1⟩,WG,h⟩:=h;simp only at h;split at h
    case isFalse=>simp at h
    rename_i TL;simp only[Ab]at TL;simp only[aa]at h;obtain⟨s2,Dh,h⟩:=h;split at h
    case isFalse=>simp at h
    rename_i qj;exact fin s2 .no _ qj (λr hr=>we _ hr) h λlater hl=> .inr (.inr ⟨v,hg,Ji,TL.1,Dh,rfl,TL.2,hl v s1 WG (by simp)⟩)
   ·simp only[aa]at h;obtain⟨⟨v,s1⟩,WG,s2,Dh,h⟩:=h;split at h
    case isFalse=>simp at h
    rename_i qj;exact fin s2 _ _ qj (λr hr=>hr) h λlater hl=> .inl ⟨_,v,s1,hg,WG,rfl,Dh⟩
  |false=>
   simp only[aa]at h;obtain⟨s1,Dh,h⟩:=h;split at h
   case isFalse=>simp at h
   rename_i qj;exact fin s1 _ _ qj (λr hr=>hr) h λlater hl=> .inr (.inl ⟨hg,Dh,rfl⟩)
theorem Yg{α:Type}{l:List α}{i:Nat}{x:α}(h:l[i]?=some x):(x,i)∈l.zipIdx:=by
 rw[List.mem_iff_getElem?];exact⟨i,by simp[h]⟩
theorem iI{s s':S}(h:region A call Ca n os true s=some s'):∃(σ:Nat->S)(τ:Nat->Yf),σ 0=s/\σ os.size=s'/\Trace A call Ca n os σ τ/\∀j o,os[j]?=some o->∀e∈o.after,Region.binds .any e=true->e.on<j:=by
 simp only[region,if_true]at h;split at h
 case isFalse=>simp at h
 rename_i zZ;simp only[aa]at h;obtain⟨⟨s1,y⟩,IZ,h⟩:=h;split at h
 case isFalse=>simp at h
 rename_i VG;simp at h;subst h;obtain⟨σ,τ,e0,e1,e2,_,e3⟩:=JC os.toList 0 s [] [] s1 y (λr hr=>by simp at hr) IZ;have hy:∀k,k<os.size->y[k]?=some (τ k):=λk hk=>by rw[e2];simp[hk]
 simp only[eI,Ab]at zZ;obtain⟨AZ,ZX⟩:=zZ;refine⟨σ,τ,e0,by simpa using e1,⟨λi o ho=> ?_,λi j oi oj hoi hoj Mc=> ?_,λi j hi hj td hw=> ?_⟩,λj o ho e he hb=> ?_⟩
 ·rcases e3 i o (by simpa using ho)with h|h|⟨v,a1,a2,a3,a4,a5,a6,a7⟩
  ·exact .inl h
  ·exact .inr (.inl h)
  ·refine .inr (.inr ⟨v,a1,a2,a3,a4,a5,λj hj hw=> ?_,λk h1 h2=>a7 k h1 (by simpa using h2)⟩);have hm:(τ j,j)∈([]++(mb i).map τ).zipIdx:=Yg (by simp[hj]);have:=ec.1 a6 _ hm
   simpa[hw,Yf.Yc,Yf.writes]using this
 ·have h1:=ec.1 ZX _ (Yg (l:=os.toList) (i:=j) (x:=oj) (by simpa using hoj));have h2:=ec.1 h1 _ (Yg (l:=os.toList) (i:=i) (x:=oi) (by simpa using hoi))
  simpa[Mc]using h2
 ·have h1:=ec.1 VG _ (Yg (hy j hj));simp only[hw,Ub,Bool.false_or]at h1;have h2:=ec.1 h1 _ (Yg (hy i hi));simp only[Bool.or_eq_true,Ab,decide_eq_true_eq,beq_iff_eq,Bool.not_eq_true']at h2;rcases h2 with((h2|h2)|h2)|h2
  ·exact absurd h2 td
  ·exact .inl h2
  ·exact .inr (.inl h2)
  ·exact .inr (.inr h2)
 ·have h1:=ec.1 AZ _ (Yg (l:=os.toList) (i:=j) (x:=o) (by simpa using ho));have h2:=ec.1 h1 e (by simpa using he)
  simpa[hb]using h2
def JV(listed:Array Bool)(j:Nat):Prop:=listed.getD j false=true
theorem fG{l:List Bool}{i:Nat}(h:l[i]?=some false):0<l.countP (!·):=by
 rw[List.countP_pos_iff];exact⟨false,Eb h,rfl⟩
theorem IB{l:List Bool}:∀{i:Nat},l[i]?=some false->(l.set i true).countP (!·)+1=l.countP (!·):=by
 induction l with
 |nil=>intro i h;simp at h
 |cons x l ih=>
  intro i h;cases i with
  |zero=>simp at h;subst h;simp
  |succ i=>
   have:=ih (i:=i) (by simpa using h);simp only[List.set_cons_succ,KF];omega
theorem S7{F:Fence}{m:Nat}{Q:Exit->Act->World->Prop}(hC:Ik A call)(hF:sy F)(T:Trace A call Ca n os σ τ)(hq:Nd call)(jS:Jc A.Na g0 w0 (σ 0).H)
  (gM:∀j o,os[j]?=some o->∀e∈o.after,Region.binds .any e=true->e.on<j)
  (CB:∀g' f' a' w' L,Inv A.Na os σ τ n g0 f0 w0 ds L g' f' a' w'->(∀j,j<os.size->L j)->Q .normal a' w'):
  ∀(fuel:Nat)(listed:Array Bool)(g:Gx)(f:Fx)(a:Act)(w:World),listed.size=os.size->listed.toList.countP (!·)<=fuel->Down os (JV listed)->Inv A.Na os σ τ n g0 f0 w0 ds (JV listed) g f a w->wpAnyIn F m A.P .any os Q fuel listed a w:=by
 have qj:∀(listed:Array Bool),listed.size=os.size->Region.ready .any os listed=[]->∀j,j<os.size->JV listed j:=by
  intro listed hs hr j;induction j using Nat.strongRecOn with
  |ind j ih=>
   intro hj;unfold JV;cases hl:listed.getD j false with
   |true=>rfl
   |false=>
    exfalso;have:j∈Region.ready .any os listed:=mem_ready.2 ⟨by simp[Cs,hs,hj]at hl ⊢;exact hl,os[j],by simp[hj],λe he hb=>ih e.on (gM j _ (by simp[hj]) e he hb) (by have:=gM j os[j] (by simp[hj]) e he hb;omega)⟩;rw[hr]at this;simp at this
 intro fuel;induction fuel with
 |zero=>
  intro listed g f a w hs hc hD inv;have hr:Region.ready .any os listed=[]:=by
   cases hr:Region.ready .any os listed with
   |nil=>rfl
   |cons i l=>
    exfalso;have hi:i∈Region.ready .any os listed:=by rw[hr];simp
    obtain⟨h1,o,ho,_⟩:=mem_ready.1 hi;have Mc:=Za ho;have:listed.toList[i]?=some false:=by simp[Cs,hs,Mc]at h1;simp[hs,Mc,h1]
    have:=fG this;omega
  exact⟨hr,CB g f a w _ inv (qj listed hs hr)⟩
 |succ fuel ih=>
  intro listed g f a w hs hc hD inv;refine⟨λhr=>CB g f a w _ inv (qj listed hs hr),λi hi=> ?_⟩;obtain⟨h1,o,ho,vag⟩:=mem_ready.1 hi;have Mc:=Za ho;have gag:listed.toList[i]?=some false:=by simp[Cs,hs,Mc]at h1;simp[hs,Mc,h1]
  have dD:¬JV listed i:=by unfold JV;simp[Cs,hs,Mc]at h1 ⊢;exact h1
  have EZ:yn os (JV listed) i:=⟨Mc,dD,λk hk=>by
   obtain⟨e,he,hb,h⟩:=SY ho hk;have hL:=vag e he hb;rcases h with rfl|h
   ·exact hL
   ·exact hD k e.on (by have:=gM i o ho e he hb;omega) hL h⟩
  have Lan:(λj=>JV listed j\/j=i)=JV (listed.setIfInBounds i true):=by
   funext j;apply propext;unfold JV;by_cases e:j=i
   ·subst e;simp[Cs,hs,Mc]
   ·rw[getD_set_ne false (λh=>e h.symm)];exact⟨λh=>h.resolve_right e,.inl⟩
  refine Eab hC hF T hq jS inv hD EZ λg' f' a' w' Aaq=> ?_
  refine ih _ g' f' a' w' (by simpa using hs) ?_ ?_ ?_
  ·have:=IB gag;rw[Array.toList_setIfInBounds];omega
  ·rw[<- Lan];exact hD.add EZ
  ·rw[<- Lan];exact Aaq
theorem FX(hm:A.P.follows .mixedOrders=true):Km A:=by
 intro call Ca hC hq F m n id all g f s s' a w Q hF h Ec hk;obtain⟨σ,τ,rfl,rfl,T,gM⟩:=iI h;refine wpIn_region_any hm ?_;have hh:({ w with drawn:=w.drawn+1 }:World).heap=w.heap:=rfl;have TV:St A.Na g f (σ 0) n a { w with drawn:=w.drawn+1 }:=by
  refine⟨Ec.hw.heap hh,Ec.hf.heap hh,λt=>(Ec.he t).mono (.heap hh) λ_ h=>⟨h,rfl⟩,Ec.hn,?_,Ec.hW⟩;exact Ec.hm.step Ec.hw Ec.hf (.heap hh)
 refine S7 (g0:=g) (f0:=f) (w0:={ w with drawn:=w.drawn+1 }) (ds:=a.defers) hC hF T hq TV.hw gM (λg' f' a' w' L inv hL=> ?_) all.size _ g f a _ (by simp) ?_ ?_ ?_
 ·obtain⟨f2,h1,h2⟩:=inv.finish T hq TV hL;exact hk g' f2 a' w' h1 ((Wg.heap hh).trans h2) (by rw[inv.ds];exact .refl _ _)
 ·rw[Array.toList_replicate];exact Db Rd (by simp)
 ·intro i j hj hL;unfold JV at hL;simp[Cs]at hL
 ·have:JV (Array.replicate all.size false)=λ_=>False:=by
   funext j;apply propext;unfold JV;simp[Cs]
  rw[this];exact Inv.start T hq TV
end
end Go.V
