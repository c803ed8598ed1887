/- An evaluator of the translated code and that it is right: each of its answers is an answer of the model. -/
import Derived.Test.YtjenflkegbmkkaaGreatDoorA4
import Derived.Orders
set_option linter.unusedVariables false
set_option linter.unusedSimpArgs false
set_option linter.unusedSectionVars false
open Array renaming getD→Lr
open Bool renaming or_eq_true→Pf,and_eq_true→Na,not_true→nh
open List renaming mem_cons_of_mem→Ib,length_nil→Ng,getD_eq_getElem?_getD→Ka,getElem?_append_left→La,getElem?_eq_none→Ab,getElem?_set→Ob,getElem?_eq_getElem→Aa,getElem?_of_mem→je,map_cons→Ld,mem_cons→Vb,getElem?_append_right→Qa,replicate→Ba,getElem?_replicate→Wi,mem_append_left→If,length_eq_zero_iff→Ja,range→ua,all_eq_true→ic,mem_of_getElem?→Db
open Nat renaming zero_add→Qe,lt_or_gt_of_ne→Yw,lt_or_ge→Ub,le_refl→va,le_trans→Gb,lt_of_lt_of_le→yb,zero_le→fe,le_of_lt→Rt
open Option renaming map_eq_some_iff→ia,bind_eq_some_iff→aa,bind_some→ga
namespace Go.V
open Go
theorem force_eq{α:Type}(n:Nat)(k:Nat->α):force n k=k n:=by cases n<;>rfl
theorem Br(acc:List Nat)(i:Nat):∀es:List Edge,(bitsOf acc es).testBit i=true->∃e∈es,Region.binds .any e=true/\(e.on=i\/(acc.getD e.on 0).testBit i=true)
 |[],h=>by simp[bitsOf]at h
 |e::es,h=>by
  simp only[bitsOf]at h;split at h
  ·rename_i hb;simp only[Nat.testBit_or,Pf,Nat.testBit_two_pow,decide_eq_true_eq]at h;rcases h with(h|h)|h
   ·exact⟨e,by simp,hb,.inl h⟩
   ·exact⟨e,by simp,hb,.inr h⟩
   ·obtain⟨x,h1,h2⟩:=Br acc i es h;exact⟨x,Ib _ h1,h2⟩
  ·obtain⟨x,h1,h2⟩:=Br acc i es h;exact⟨x,Ib _ h1,h2⟩
theorem Dr:∀(os:List Oper)(acc:List Nat),acc <+: Ik os acc
 |[],acc=>List.prefix_refl _
 |o::os,acc=>by
  simp only[Ik,force_eq];exact(List.prefix_append _ _).trans (Dr os _)
theorem oG:∀(os:List Oper)(acc:List Nat)(k:Nat)(o:Oper),os[k]?=some o->
  ∃Q3,Q3 <+: Ik os acc/\Q3.length=acc.length+k/\(Ik os acc)[acc.length+k]?=some (bitsOf Q3 o.after.toList)
 |[],acc,k,o,h=>by simp at h
 |o'::os,acc,0,o,h=>by
  simp at h;subst h;refine⟨acc,Dr _ _,rfl,?_⟩;simp only[Ik,force_eq];obtain⟨t,ht⟩:=Dr os (acc++[bitsOf acc o'.after.toList]);rw[<- ht]
  simp
 |o'::os,acc,k+1,o,h=>by
  obtain⟨Q3,h1,h2,h3⟩:=oG os (acc++[bitsOf acc o'.after.toList]) k o (by simpa using h);simp only[Ik,force_eq];refine⟨Q3,h1,by simp at h2;omega,?_⟩;rw[<- h3];congr 1;simp;omega
theorem YV{os:Array Oper}{i j:Nat}{o:Oper}(ho:os[j]?=some o)(h:ord (Ik os.toList []) i j=true):
  ∃e∈o.after,Region.binds .any e=true/\(e.on=i\/ord (Ik os.toList []) i e.on=true):=by
 obtain⟨acc,h1,h2,h3⟩:=oG os.toList [] j o (by simpa using ho);simp only[Ng,Qe]at h2 h3;unfold ord at h;rw[Ka,h3]at h;obtain⟨e,he,hb,h⟩:=Br acc i _ h;refine⟨e,by simpa using he,hb,h.imp id fun h=> ?_⟩;unfold ord;rw[Ka]at h ⊢;by_cases tc:e.on<acc.length
 ·obtain⟨t,ht⟩:=h1;rw[<- ht,La tc];exact h
 ·rw[Ab (by omega)]at h;simp at h
def Down(os:Array Oper)(L:Nat->Prop):Prop:=∀i j,j<os.size->L j->ord (Ik os.toList []) i j=true->L i
def Pm(os:Array Oper)(L:Nat->Prop)(j:Nat):Prop:=j<os.size/\¬L j/\∀i,ord (Ik os.toList []) i j=true->L i
theorem Down.add{os:Array Oper}{L:Nat->Prop}{j:Nat}(h:Down os L)(hj:Pm os L j):Down os fun i=>L i\/i=j:=fun i k hk hL ho=>by
 rcases hL with hL|rfl
 ·exact .inl (h i k hk hL ho)
 ·exact .inl (hj.2.2 i ho)
inductive V4 where
 |slot (t:Nat)
 |heap
 |box (b:Nat)
structure Trace(A:Eh)(call:Callee)(Fa:List Nat)(n:Nat)(os:Array Oper)(σ:Nat->S)(τ:Nat->kf):Prop where
 step:∀i o,os[i]?=some o->
  (∃q v s',Vc os (σ i) o=some true/\LO A call Fa (τ i) (σ i) o=some (v,s')/\τ i=Wc A Fa (σ i) o q/\put s' n o.dst v=some (σ (i+1)))\/
  (Vc os (σ i) o=some false/\put (σ i) n o.dst (.v (.Qc []))=some (σ (i+1))/\τ i= .no)\/
  (∃v,Vc os (σ i) o=some true/\tf A (σ i) o=true/\Vr (σ i).H.bl.length v=true/\put (σ i) n o.dst v=some (σ (i+1))/\τ i= .no/\(∀j,j<i->τ j= .heap true->ord (Ik os.toList []) j i=true)/\
   ∀k,i<=k->k<=os.size->∃s',op A call Fa { σ k with e:=(σ i).e } o=some (v,s'))
 FO:∀i j oi oj,os[i]?=some oi->os[j]?=some oj->i<j->ord (Ik os.toList []) i j=true\/oi.apart os oj=true
 xG:∀i j,i<os.size->j<os.size->i≠j->(τ j).writes=true->(i<j/\ord (Ik os.toList []) i j=true)\/(j<i/\ord (Ik os.toList []) j i=true)\/conflict (τ i) (τ j)=false
def Wr(os:Array Oper)(τ:Nat->kf)(j:Nat):V4->Prop
 | .slot t=>∃o,os[j]?=some o/\o.dst=some t
 | .heap=>τ j= .heap true
 | .box b=>τ j= .box b true
def Us(os:Array Oper)(τ:Nat->kf)(j:Nat):V4->Prop
 | .slot t=>∃o,os[j]?=some o/\(o.dst=some t\/t∈o.looksAt os)
 | .heap=>(τ j).Cc=true
 | .box b=>∃w,τ j= .box b w
section
variable {A:Eh}{call:Callee}{Fa:List Nat}{n:Nat}{os:Array Oper}{σ:Nat->S}{τ:Nat->kf}{L:Nat->Prop}
theorem Wr.us{j:Nat}{c:V4}(h:Wr os τ j c):Us os τ j c:=by
 cases c with
 |slot t=>obtain⟨o,h1,h2⟩:=h;exact⟨o,h1,.inl h2⟩
 |heap=>simp only[Wr]at h;simp only[Us,h,kf.Cc]
 |box b=>exact⟨true,h⟩
theorem Trace.order(T:Trace A call Fa n os σ τ){i j:Nat}{c:V4}(hi:i<os.size)(hj:j<os.size)(Sc:i≠j)(hw:Wr os τ j c)(hu:Us os τ i c):
  (i<j/\ord (Ik os.toList []) i j=true)\/(j<i/\ord (Ik os.toList []) j i=true):=by
 cases c with
 |slot t=>
  obtain⟨oj,hoj,hd⟩:=hw;obtain⟨oi,hoi,hu⟩:=hu;rcases Yw Sc with h|h
  ·rcases T.FO i j oi oj hoi hoj h with h1|h1
   ·exact .inl ⟨h,h1⟩
   ·exfalso;obtain⟨k1,k2,k3⟩:=Oper.apart_spec h1;rcases hu with hu|hu
    ·exact k2 t hu hd
    ·exact k3 t hd hu
  ·rcases T.FO j i oj oi hoj hoi h with h1|h1
   ·exact .inr ⟨h,h1⟩
   ·exfalso;obtain⟨k1,k2,k3⟩:=Oper.apart_spec h1;rcases hu with hu|hu
    ·exact k2 t hd hu
    ·exact k1 t hd hu
 |heap=>
  simp only[Wr]at hw;rcases T.xG i j hi hj Sc (by rw[hw];rfl)with h|h|h
  ·exact .inl h
  ·exact .inr h
  ·exfalso;simp only[Us]at hu;rw[hw]at h;cases hτ:τ i with
   |heap w=>rw[hτ]at h;simp[conflict]at h
   |no=>rw[hτ]at hu;simp[kf.Cc]at hu
   |box b w=>rw[hτ]at hu;simp[kf.Cc]at hu
 |box b=>
  simp only[Wr]at hw;rcases T.xG i j hi hj Sc (by rw[hw];rfl)with h|h|h
  ·exact .inl h
  ·exact .inr h
  ·exfalso;obtain⟨w,hu⟩:=hu;rw[hw,hu]at h;simp[conflict]at h
def Pt(os:Array Oper)(τ:Nat->kf)(L:Nat->Prop)(p:Nat)(c:V4):Prop:=
 (∀j,j<os.size->j<p->¬L j->¬Wr os τ j c)/\(∀j,j<os.size->p<=j->L j->¬Wr os τ j c)
theorem Trace.Mr(T:Trace A call Fa n os σ τ)(hD:Down os L){i:Nat}(hi:Pm os L i){c:V4}(hu:Us os τ i c):Pt os τ L i c:=by
 refine⟨fun j hj tc Wj hw=> ?_,fun j hj hle hl hw=> ?_⟩
 ·rcases T.order hi.1 hj (by omega) hw hu with h|h
  ·omega
  ·exact Wj (hi.2.2 j h.2)
 ·have Sc:i≠j:=fun e=>hi.2.1 (e ▸ hl)
  rcases T.order hi.1 hj Sc hw hu with h|h
  ·exact hi.2.1 (hD i j hj hl h.2)
  ·omega
theorem Pt.before{i p:Nat}{c:V4}(h:Pt os τ (fun j=>L j\/j=i) p c)(hn:¬Wr os τ i c):Pt os τ L p c:=by
 refine⟨fun j hj tc Wj hw=> ?_,fun j hj hle hl=>h.2 j hj hle (.inl hl)⟩;by_cases e:j=i
 ·exact hn (e ▸ hw)
 ·exact h.1 j hj tc (fun h=>h.elim Wj e) hw
theorem Pt.after{i p:Nat}{c:V4}(hi:i<os.size)(h:Pt os τ (fun j=>L j\/j=i) p c)(hw:Wr os τ i c):i<p:=by
 rcases Ub i p with h1|h1
 ·exact h1
 ·exact absurd hw (h.2 i hi h1 (.inr rfl))
theorem Trace.Io(T:Trace A call Fa n os σ τ)(hD:Down os L){i p:Nat}(hi:Pm os L i){c:V4}(hu:Us os τ i c)(h:Pt os τ (fun j=>L j\/j=i) p c)(j:Nat)(hj:j<os.size)(h1:i<j)(h2:j<p):¬Wr os τ j c:=fun hw=>by
 by_cases hl:L j
 ·rcases T.order hi.1 hj (by omega) hw hu with h|h
  ·exact hi.2.1 (hD i j hj hl h.2)
  ·omega
 ·exact h.1 j hj h2 (fun h=>h.elim hl (by omega)) hw
structure Left(os:Array Oper)(σ:Nat->S)(τ:Nat->kf)(i:Nat):Prop where
 e:∀t,¬Wr os τ i (.slot t)->get (σ (i+1)).e t=get (σ i).e t
 wm:(σ (i+1)).H.wm=(σ i).H.wm
 len:(σ i).H.bl.length<=(σ (i+1)).H.bl.length
 H:(τ i).Cc=false->(σ (i+1)).H=(σ i).H
 bl:τ i≠ .heap true->∀b,b<(σ i).H.bl.length->(σ (i+1)).H.bl[b]?=(σ i).H.bl[b]?
 low:∀b,b<(σ i).H.wm->b<(σ i).H.bl.length->(σ (i+1)).H.bl[b]?=(σ i).H.bl[b]?
 nj:(σ i).F.length<=(σ (i+1)).F.length
 F:∀b,b<(σ i).F.length->τ i≠ .box b true->(σ (i+1)).F[b]?=(σ i).F[b]?
 row:∀(b:Nat)(r r':List AV),(σ i).F[b]?=some r->(σ (i+1)).F[b]?=some r'->r'.length=r.length
theorem ov{s s':S}{n:Nat}{dst:Option Nat}{v:SV}(h:put s n dst v=some s'):(∀t,dst≠some t->get s'.e t=get s.e t)/\s'.H=s.H/\s'.F=s.F/\∀d,dst=some d->d<n/\get s'.e d=v:=by
 unfold put at h;split at h
 ·simp at h;subst h;exact⟨fun _ _=>rfl,rfl,rfl,fun d hd=>by simp at hd⟩
 ·rename_i d;split at h
  ·rename_i hd;simp at h;subst h;refine⟨fun t ht=> ?_,rfl,rfl,fun d' oV=> ?_⟩
   ·simp only[get];rw[if_neg (fun e=>ht (by rw[e]))]
   ·simp at oV;subst oV;exact⟨hd,by simp[get]⟩
  ·simp at h
def nD(t:kf)(s:S):S:=
 match t with
 | .heap true=>s
 |_=>{ s with H:={ s.H with wm:=s.H.bl.length } }
theorem gW{t:kf}{s s':S}{o:Oper}{v:SV}(h:LO A call Fa t s o=some (v,s')):
  ∃s1,op A call Fa (nD t s) o=some (v,s1)/\s'.e=s1.e/\s'.F=s1.F/\s'.H.bl=s1.H.bl/\(t= .heap true->s'=s1)/\(t≠ .heap true->s'.H.wm=s.H.wm):=by
 have hm:(op A call Fa { s with H:={ s.H with wm:=s.H.bl.length } } o).map (fun(v,s')=>(v,{ s' with H:={ s'.H with wm:=s.H.wm } }))=some (v,s')->
   ∃s1,op A call Fa { s with H:={ s.H with wm:=s.H.bl.length } } o=some (v,s1)/\s'.e=s1.e/\s'.F=s1.F/\s'.H.bl=s1.H.bl/\s'.H.wm=s.H.wm:=fun h=>by
  simp only[ia]at h;obtain⟨⟨u,s1⟩,h1,h⟩:=h;simp at h;obtain⟨rfl,rfl⟩:=h;exact⟨s1,h1,rfl,rfl,rfl,rfl⟩
 unfold LO at h;split at h
 ·exact⟨s',h,rfl,rfl,rfl,fun _=>rfl,fun h=>absurd rfl h⟩
 ·rename_i Sc;obtain⟨s1,h1,h2,h3,h4,h5⟩:=hm h;refine⟨s1,?_,h2,h3,h4,fun h=>absurd h Sc,fun _=>h5⟩;unfold nD;split
  ·exact absurd rfl Sc
  ·exact h1
theorem eR(t:kf)(s:S):(nD t s).e=s.e:=by unfold nD;split<;>rfl
theorem fR(t:kf)(s:S):(nD t s).F=s.F:=by unfold nD;split<;>rfl
theorem Cr(t:kf)(s:S):(nD t s).H.bl=s.H.bl:=by unfold nD;split<;>rfl
theorem VC{t:kf}{s:S}(h:t≠ .heap true):(nD t s).H.wm=s.H.bl.length:=by unfold nD;split;exact absurd rfl h;rfl
theorem mG(t:kf)(s:S)(o:Oper)(q:Bool):Wc A Fa (nD t s) o q=Wc A Fa s o q:=by unfold Wc;simp only[eR]
theorem Trace.left(T:Trace A call Fa n os σ τ)(hq:Uc call){i:Nat}(hi:i<os.size):Left os σ τ i:=by
 have ho:os[i]?=some os[i]:=by simp[hi]
 generalize os[i]=o at ho;have I6:∀t,¬Wr os τ i (.slot t)->o.dst≠some t:=fun t hn hd=>hn ⟨o,ho,hd⟩
 have vS:∀{v:SV},put (σ i) n o.dst v=some (σ (i+1))->τ i= .no->Left os σ τ i:=fun{v}Xg ht=>by
  obtain⟨p1,p2,p3,p4⟩:=ov Xg;refine⟨fun t hn=>p1 t (I6 t hn),by rw[p2],by rw[p2];exact va _,fun _=>p2,fun _ b _=>by rw[p2],fun b _ _=>by rw[p2],by rw[p3];exact va _,fun b _ _=>by rw[p3],fun b r r' hr dm=> ?_⟩;rw[p3,hr]at dm;simp at dm;rw[dm]
 rcases T.step i o ho with⟨q,v,s',hg,MB,ht,Xg⟩|⟨hg,Xg,ht⟩|⟨v,_,_,_,Xg,ht,_⟩
 ·obtain⟨p1,p2,p3,p4⟩:=ov Xg;obtain⟨s1,h1,h2,h3,h4,h5,h6⟩:=gW MB;obtain⟨t',_,st⟩:=LG (q:=q) (t:=nD (τ i) (σ i)) hq h1 (fun _ _=>rfl) (fun _=>rfl) rfl (fun _ _ _=>rfl);rw[mG,<- ht]at st;obtain⟨q1,q2,q3⟩:=st.q;rw[Cr]at q2 q3;have Su:(σ (i+1)).H.bl=s1.H.bl:=by rw[p2,h4]
  have Yf:(σ (i+1)).H.wm=(σ i).H.wm:=by
   rw[p2];by_cases hw:τ i= .heap true
   ·rw[h5 hw,q1,hw];rfl
   ·exact h6 hw
  have BW:(σ i).H.wm<=(nD (τ i) (σ i)).H.wm\/True:= .inr trivial;have uab:∀b,b<(nD (τ i) (σ i)).H.wm->b<(σ i).H.bl.length->(σ (i+1)).H.bl[b]?=(σ i).H.bl[b]?:=fun b hb hl=>by rw[Su];exact q3 b hb hl
  have hF:=st.f;rw[fR]at hF;have hF1:(σ (i+1)).F=s1.F:=by rw[p3,h3]
  rw[<- hF1]at hF;refine⟨fun t hn=> ?_,Yf,by rw[Su];exact q2,fun hh=> ?_,fun Sc b hb=>uab b (by rw[VC Sc];exact hb) hb,fun b hb hl=> ?_,?_,fun b hb Sc=> ?_,fun b r r' hr dm=> ?_⟩
  ·rw[p1 t (I6 t hn),h2,st.e1,eR]
  ·have:=(st.h.2 hh).2;have Sc:τ i≠ .heap true:=fun e=>by rw[e]at hh;simp[kf.Cc]at hh
   have e1:(σ (i+1)).H.bl=(σ i).H.bl:=by rw[Su,this,Cr]
   cases hx:(σ (i+1)).H with
   |mk bl wm=>
    cases hy:(σ i).H with
    |mk C8 wm'=>
     rw[hx,hy]at e1 Yf;simp at e1 Yf;rw[e1,Yf]
  ·by_cases hw:τ i= .heap true
   ·exact uab b (by rw[hw];exact hb) hl
   ·exact uab b (by rw[VC hw];exact hl) hl
  ·rcases hF with⟨e,_⟩|⟨row,e,_⟩|⟨k,row,_,e,_⟩<;>rw[e]<;>simp
  ·rcases hF with⟨e,_⟩|⟨row,e,_⟩|⟨k,row,hk,e,_⟩
   ·rw[e]
   ·rw[e,La hb]
   ·rw[e,List.getElem?_set_ne (fun e'=>Sc (by rw[<- e'];exact hk))]
  ·have bK:b<(σ i).F.length:=by rcases Ub b (σ i).F.length with h|h;exact h;simp[Ab h]at hr
   rcases hF with⟨e,_⟩|⟨row,e,_⟩|⟨k,row,hk,e,_,XG⟩
   ·rw[e,hr]at dm;simp at dm;rw[dm]
   ·rw[e,La bK,hr]at dm;simp at dm;rw[dm]
   ·rw[e,Ob]at dm;split at dm
    ·rename_i e';subst e';rw[if_pos bK]at dm;simp at dm;subst dm;exact XG r hr
    ·rw[hr]at dm;simp at dm;rw[dm]
 ·exact vS Xg ht
 ·exact vS Xg ht
structure Span(os:Array Oper)(σ:Nat->S)(τ:Nat->kf)(p q:Nat):Prop where
 wm:(σ q).H.wm=(σ p).H.wm
 len:(σ p).H.bl.length<=(σ q).H.bl.length
 nj:(σ p).F.length<=(σ q).F.length
 slot:∀t,(∀j,p<=j->j<q->¬Wr os τ j (.slot t))->get (σ q).e t=get (σ p).e t
 heap:(∀j,p<=j->j<q->¬Wr os τ j .heap)->∀b,b<(σ p).H.bl.length->(σ q).H.bl[b]?=(σ p).H.bl[b]?
 low:∀b,b<(σ p).H.wm->b<(σ p).H.bl.length->(σ q).H.bl[b]?=(σ p).H.bl[b]?
 box:∀b,b<(σ p).F.length->(∀j,p<=j->j<q->¬Wr os τ j (.box b))->(σ q).F[b]?=(σ p).F[b]?
 row:∀(b:Nat)(r r':List AV),(σ p).F[b]?=some r->(σ q).F[b]?=some r'->r'.length=r.length
 O8:∀b,(σ p).H.bl.length<=b->b<(σ q).H.bl.length->∃j,p<=j/\j<q/\(σ j).H.bl.length<=b/\b<(σ (j+1)).H.bl.length
theorem Trace.span(T:Trace A call Fa n os σ τ)(hq:Uc call){p:Nat}:∀q,p<=q->q<=os.size->Span os σ τ p q
 |0,h,_=>by
  obtain rfl:p=0:=by omega
  exact⟨rfl,va _,va _,fun _ _=>rfl,fun _ _ _=>rfl,fun _ _ _=>rfl,fun _ _ _=>rfl,fun b r r' h h'=>by rw[h]at h';simp at h';rw[h'],fun b h h'=>by omega⟩
 |q+1,h,hs=>by
  by_cases e:p=q+1
  ·subst e;exact⟨rfl,va _,va _,fun _ _=>rfl,fun _ _ _=>rfl,fun _ _ _=>rfl,fun _ _ _=>rfl,fun b r r' h h'=>by rw[h]at h';simp at h';rw[h'],fun b h h'=>by omega⟩
  ·have ih:=T.span hq (p:=p) q (by omega) (by omega);have l:=T.left hq (i:=q) (by omega);refine⟨l.wm.trans ih.wm,Gb ih.len l.len,Gb ih.nj l.nj,fun t ht=> ?_,fun hh b hb=> ?_,fun b hb hl=> ?_,fun b hb hh=> ?_,fun b r r' hr dm=> ?_,fun b h1 h2=> ?_⟩
   ·exact(l.e t (ht q (by omega) (by omega))).trans (ih.slot t fun j h1 h2=>ht j h1 (by omega))
   ·exact(l.bl (hh q (by omega) (by omega)) b (yb hb ih.len)).trans (ih.heap (fun j h1 h2=>hh j h1 (by omega)) b hb)
   ·exact(l.low b (by rw[ih.wm];exact hb) (yb hl ih.len)).trans (ih.low b hb hl)
   ·exact(l.F b (yb hb ih.nj) (hh q (by omega) (by omega))).trans (ih.box b hb fun j h1 h2=>hh j h1 (by omega))
   ·have hb:b<(σ p).F.length:=by rcases Ub b (σ p).F.length with h|h;exact h;simp[Ab h]at hr
    have HD:b<(σ q).F.length:=yb hb ih.nj;have hm:(σ q).F[b]?=some (σ q).F[b]:=Aa HD;exact(l.row b _ r' hm dm).trans (ih.row b r _ hr hm)
   ·by_cases h3:b<(σ q).H.bl.length
    ·obtain⟨j,k1,k2,k3⟩:=ih.O8 b h1 h3;exact⟨j,k1,by omega,k3⟩
    ·exact⟨q,by omega,by omega,by omega,h2⟩
end
end Go.V
namespace Go.V
open Go
def Gx.lim(g:Gx)(m:Nat):Gx:={ g with D:=fun b=>g.D b/\b<m }
def Fx.lim(f:Fx)(m:Nat)(W:Nat->Prop):Fx:={ E:=fun b=>f.E b/\b<m,φ:=f.φ,W:=W }
theorem RG{g:Gx}{H H':AH}{b:Nat}(h:live g H b)(e:H'.bl=H.bl):live g H' b:=⟨h.1,by rw[e];exact h.2⟩
theorem X3{g:Gx}{H H':AH}{R:Nat}(h:Fp g H R)(e:H'.bl=H.bl):Fp g H' R:=let⟨b,h1,h2⟩:=h;⟨b,RG h1 e,h2⟩
theorem Yb.wm{G:Nat->Option (List AV)}{g:Gx}{w:World}{H H':AH}(h:Yb G g w H)(e:H'.bl=H.bl):Yb G g w H':=
 ⟨h.Ra,fun b hb=>by rw[e];exact h.He b hb,fun b x hd hx=>h.Tc b x hd (by rw[<- e];exact hx),fun b b' hb ud=>h.inj b b' (RG hb e.symm) (RG ud e.symm),h.Qu⟩
theorem Yb.carry{G:Nat->Option (List AV)}{g g':Gx}{w w':World}{H:AH}(h:Yb G g w H)(hle:g.Le w g' w')(hD:∀b,g'.D b->g.D b)
  (dc:∀b,live g H b->w'.heap[(g.ρ b).R]?=w.heap[(g.ρ b).R]?) (hZ:∀b,live g H b->¬g'.Z (g.ρ b).R) (hz:∀R,g'.Z R->R<w'.heap.size):Yb G g' w' H:=by
 have zW:∀b,g'.D b->g'.ρ b=g.ρ b:=fun b hb=>(hle.D b (hD b hb)).2
 have hl:∀b,live g' H b->live g H b:=fun b hb=>⟨hD b hb.1,hb.2⟩
 refine⟨fun i row hg=>(h.Ra i row hg).mono hle,fun b hb=>h.He b (hD b hb),fun b x hd hx=> ?_,fun b b' hb ud Sc=> ?_,hz⟩
 ·rw[zW b hd];exact(h.Tc b x (hD b hd) hx).le hle (fun hv=>dc b ⟨hD b hd,x,hx,hv⟩) (fun hv=>hZ b ⟨hD b hd,x,hx,hv⟩)
 ·rw[zW b hb.1,zW b' ud.1];exact h.inj b b' (hl b hb) (hl b' ud) Sc
structure Inv(G:Nat->Option (List AV))(os:Array Oper)(σ:Nat->S)(τ:Nat->kf)(n:Nat)(g0:Gx)(f0:Fx)(w0:World)(ds:List Deferred)(L:Nat->Prop)(g:Gx)(f:Fx)(a:Act)(w:World):Prop where
 n:a.tmps.size=n
 ds:a.defers=ds
 slot:∀p,p<=os.size->∀t,Pt os τ L p (.slot t)->Ee (g.lim (σ p).H.bl.length) (f.lim (σ p).F.length fun _=>True) w (get (σ p).e t) (a.tmps.getD t undef)
 heap:∀p,p<=os.size->Pt os τ L p .heap->Yb G (g.lim (σ p).H.bl.length) w (σ p).H
 Ra:∀i row,G i=some row->yp (g.lim (σ 0).H.bl.length) w i row
 Qu:∀R,g.Z R->R<w.heap.size
 box:∀b,f.E b->∃cs,Row g w (f.φ b) cs.size cs/\(∀v∈cs.toList,v.oneCell'=true)/\∀p,p<=os.size->∀row,(σ p).F[b]?=some row->cs.size=row.length/\(Pt os τ L p (.box b)->Ye (g.lim (σ p).H.bl.length) w cs 0 row)
 D8:∀b b',f.E b->f.E b'->b≠b'->f.φ b≠f.φ b'
 apart:∀b,f.E b->∀p,p<=os.size->Pt os τ L p .heap->¬Fp (g.lim (σ p).H.bl.length) (σ p).H (f.φ b)
 gH:∀j,j<os.size->¬L j->∀b,(σ j).H.bl.length<=b->b<(σ (j+1)).H.bl.length->¬g.D b
 XM:∀j,j<os.size->¬L j->∀b,(σ j).F.length<=b->b<(σ (j+1)).F.length->¬f.E b
 qai:∀b,g.D b->b<(σ os.size).H.bl.length
 pai:∀b,f.E b->b<(σ os.size).F.length
 wr:∀j,j<os.size->L j->∀b,τ j= .box b true->f.E b
 fD:∀b,g0.D b->g.D b/\g.ρ b=g0.ρ b
 xX:∀b,g.D b->g0.D b\/(σ 0).H.bl.length<=b
 fZ:∀R,g0.Z R->g.Z R
 P9:∀R,g.Z R->g0.Z R\/Fp g0 (σ 0).H R\/w0.heap.size<=R
 fFp:∀p,p<=os.size->Pt os τ L p .heap->∀R,Fp (g.lim (σ p).H.bl.length) (σ p).H R->Fp g0 (σ 0).H R\/w0.heap.size<=R
 fE:∀b,f0.E b->f.E b/\f.φ b=f0.φ b
 wX:∀b,f.E b->f0.E b\/(σ 0).F.length<=b
 fφ:∀b,f.E b->¬f0.E b->w0.heap.size<=f.φ b
 Tk:∀R,R<w0.heap.size->¬Fp g0 (σ 0).H R->(∀b,f0.E b->f0.φ b≠R)->w.heap[R]?=w0.heap[R]?
 size:w0.heap.size<=w.heap.size
 still:∀b,b<(σ 0).H.wm->live g0 (σ 0).H b->w.heap[(g0.ρ b).R]?=w0.heap[(g0.ρ b).R]?/\∀b',f.E b'->f.φ b'≠(g0.ρ b).R
 io:w.os=w0.os/\w.output=w0.output
section
variable {A:Eh}{call:Callee}{Fa:List Nat}{n:Nat}{os:Array Oper}{σ:Nat->S}{τ:Nat->kf}{L:Nat->Prop}{g0 g:Gx}{f0 f:Fx}{w0 w:World}{ds:List Deferred}{a:Act}
theorem Inv.X4(inv:Inv A.Ra os σ τ n g0 f0 w0 ds L g f a w){b:Nat}(hb:f.E b):f.φ b<w.heap.size:=by
 obtain⟨cs,⟨T,fz,hR,_⟩,_⟩:=inv.box b hb;exact Xa hR
theorem Inv.iaa(inv:Inv A.Ra os σ τ n g0 f0 w0 ds L g f a w){b:Nat}(hb:f.E b):¬g.Z (f.φ b):=by
 obtain⟨cs,⟨T,fz,hR,_,_,hz⟩,_⟩:=inv.box b hb;exact hz
theorem Inv.start(T:Trace A call Fa n os σ τ)(hq:Uc call)(dc:St A.Ra g0 f0 (σ 0) n a w0):Inv A.Ra os σ τ n g0 f0 w0 a.defers (fun _=>False) g0 f0 a w0:=by
 have uf:∀p,p<=os.size->Span os σ τ 0 p:=fun p hp=>T.span hq p (fe _) hp
 have vS:∀{p:Nat}{c:V4},p<=os.size->Pt os τ (fun _=>False) p c->∀j,0<=j->j<p->¬Wr os τ j c:=fun hp hv j _ hj=>hv.1 j (by omega) hj (fun h=>h)
 have D6:∀p,p<=os.size->g0.Le w0 (g0.lim (σ p).H.bl.length) w0:=fun p hp=>⟨fun b hb=>⟨⟨hb,yb (dc.hw.He b hb) (uf p hp).len⟩,rfl⟩,fun R hR=>⟨hR,rfl⟩⟩
 have Su:∀p,p<=os.size->Pt os τ (fun _=>False) p .heap->∀b,g0.D b->(σ p).H.bl[b]?=(σ 0).H.bl[b]?:=fun p hp hv b hb=>(uf p hp).heap (vS hp hv) b (dc.hw.He b hb)
 have kD:∀p,p<=os.size->Pt os τ (fun _=>False) p .heap->∀R,Fp (g0.lim (σ p).H.bl.length) (σ p).H R->Fp g0 (σ 0).H R:=fun p hp hv R⟨b,hl,e⟩=>
  ⟨b,⟨hl.1.1,by rw[<- Su p hp hv b hl.1.1];exact hl.2⟩,e⟩
 refine⟨dc.hn,rfl,fun p hp t hv=> ?_,fun p hp hv=> ?_,fun i row hg=> ?_,dc.hw.Qu,fun b hb=> ?_,dc.hf.inj,fun b hb p hp hv h=>dc.hf.apart b hb (kD p hp hv _ h),fun j hj _ b h1 _ hb=> ?_,fun j hj _ b h1 _ hb=> ?_,
  fun b hb=>yb (dc.hw.He b hb) (uf _ (va _)).len,fun b hb=>yb (dc.hf.He b hb) (uf _ (va _)).nj,fun _ _ h=>h.elim,fun _ h=>⟨h,rfl⟩,fun _ h=> .inl h,fun _ h=>h,fun _ h=> .inl h,
  fun p hp hv R h=> .inl (kD p hp hv R h),fun _ h=>⟨h,rfl⟩,fun _ h=> .inl h,fun _ h h'=>absurd h h',fun _ _ _ _=>rfl,va _,fun b _ hl=>⟨rfl,fun b' ud e=>dc.hf.apart b' ud ⟨b,hl,e.symm⟩⟩,⟨rfl,rfl⟩⟩
 ·rw[(uf p hp).slot t (vS hp hv)];exact Ee.mono (f':=f0.lim (σ p).F.length fun _=>True) (D6 p hp) (fun i hi=>⟨⟨hi,yb (dc.hf.He i hi) (uf p hp).nj⟩,rfl⟩) (dc.he t)
 ·have h1:=dc.hw.carry (g':=g0.lim (σ p).H.bl.length) (D6 p hp) (fun b hb=>hb.1) (fun _ _=>rfl) (fun b hb=>dc.hw.Cn hb) dc.hw.Qu;refine⟨h1.Ra,fun b hb=>hb.2,fun b x hd hx=>h1.Tc b x hd (by rw[<- Su p hp hv b hd.1];exact hx),fun b b' hb ud=>h1.inj b b' ⟨hb.1,by rw[<- Su p hp hv b hb.1.1];exact hb.2⟩ ⟨ud.1,by rw[<- Su p hp hv b' ud.1.1];exact ud.2⟩,h1.Qu⟩
 ·exact(dc.hw.Ra i row hg).mono (D6 0 (fe _))
 ·have tc:=dc.hf.He b hb;have hr:=Aa tc;obtain⟨cs,⟨T',fz,hR,hs,hz⟩,vl⟩:=dc.hf.Tc b _ hb hr;refine⟨cs,⟨T',fz,hR,rfl,by rw[hs];exact hz⟩,fun v hv=> ?_,fun p hp row jd=> ?_⟩
  ·obtain⟨c,hc⟩:=je hv;have oo:c<((σ 0).F[b]).length:=by rw[<- hs];have:=Xa (a:=cs) (i:=c) (x:=v) (by simpa using hc);exact this
   obtain⟨u,h1,h2,_⟩:=vl c _ (Aa oo);rw[Qe]at h1;have:cs.toList[c]?=cs[c]?:=by simp
   rw[this,h1]at hc;simp at hc;subst hc;exact h2
  ·refine⟨?_,fun hv=> ?_⟩
   ·rw[hs];exact((uf p hp).row b _ _ hr jd).symm
   ·rw[(uf p hp).box b tc (vS hp hv),hr]at jd;simp at jd;subst jd;exact vl.mono (D6 p hp)
 ·have:=dc.hw.He b hb;have:=(uf j (by omega)).len;omega
 ·have:=dc.hf.He b hb;have:=(uf j (by omega)).nj;omega
end
end Go.V
namespace Go.V
open Go
theorem Hq(e:List (Nat×SV)):∀(l:List Nat)(t:Nat),t∈l->get (l.map fun i=>(i,get e i)) t=get e t
 |[],t,h=>by simp at h
 |i::l,t,h=>by
  simp only[Ld,get];split
  ·rename_i e0;rw[e0]
  ·rename_i e0;exact Hq e l t ((Vb.1 h).resolve_left e0)
theorem kz(e:List (Nat×SV)):∀(l:List Nat)(t:Nat),t∉l->get (l.map fun i=>(i,get e i)) t= .v .Sb
 |[],t,h=>rfl
 |i::l,t,h=>by
  simp only[Ld,get];rw[if_neg (fun e0=>h (by simp[e0]))];exact kz e l t (fun h'=>h (Ib _ h'))
theorem Az{α:Type}(Q:Nat->α->Prop):∀m:Nat,(∀k,k<m->∃x,Q k x)->∃l:List α,l.length=m/\∀k x,l[k]?=some x->Q k x
 |0,_=>⟨[],rfl,fun k x h=>by simp at h⟩
 |m+1,h=>by
  obtain⟨l,h1,h2⟩:=Az Q m fun k hk=>h k (by omega)
  obtain⟨x,hx⟩:=h m (by omega);refine⟨l++[x],by simp[h1],fun k y hk=> ?_⟩;rcases Nat.lt_trichotomy k m with tc|rfl|hgt
  ·rw[La (by omega)]at hk;exact h2 k y hk
  ·rw[Qa (by omega)]at hk;simp[h1]at hk;subst hk;exact hx
  ·rw[Ab (by simp;omega)]at hk;simp at hk
structure V3(G:Nat->Option (List AV))(os:Array Oper)(σ:Nat->S)(τ:Nat->kf)(L:Nat->Prop)(g:Gx)(f:Fx)(a:Act)(w:World)(i:Nat)(o:Oper)(M:S):Prop where
 wm:M.H.wm=(nD (τ i) (σ i)).H.wm
 len:M.H.bl.length=(σ i).H.bl.length
 H1:(τ i).Cc=true->M.H=(nD (τ i) (σ i)).H
 H0:(τ i).Cc=false->∀(b:Nat)(x:AB),M.H.bl[b]?=some x->x=AB.dead
 nj:M.F.length=(σ i).F.length
 F:∀b,Pt os τ L i (.box b)->M.F[b]?=(σ i).F[b]?
 row:∀(b:Nat)(r r':List AV),M.F[b]?=some r->(σ i).F[b]?=some r'->r.length=r'.length
 e:∀t,t∈o.looksAt os->get M.e t=get (σ i).e t
 hw:Yb G (g.lim (σ i).H.bl.length) w M.H
 hf:Od (g.lim (σ i).H.bl.length) (f.lim (σ i).F.length fun b=>τ i= .box b true) w M.H M.F
 he:Ze (g.lim (σ i).H.bl.length) (f.lim (σ i).F.length fun b=>τ i= .box b true) w M.e a.tmps
section
variable {A:Eh}{call:Callee}{Fa:List Nat}{n:Nat}{os:Array Oper}{σ:Nat->S}{τ:Nat->kf}{L:Nat->Prop}{g0 g:Gx}{f0 f:Fx}{w0 w:World}{ds:List Deferred}{a:Act}{i:Nat}{o:Oper}
theorem Inv.masked(T:Trace A call Fa n os σ τ)(hq:Uc call)(inv:Inv A.Ra os σ τ n g0 f0 w0 ds L g f a w)(hD:Down os L)(hi:Pm os L i)(ho:os[i]?=some o):∃M,V3 A.Ra os σ τ L g f a w i o M:=by
 have hN:i<=os.size:=Rt hi.1;obtain⟨F,hFl,hF⟩:=Az (fun b(row:List AV)=>∀r,(σ i).F[b]?=some r->row.length=r.length/\(Pt os τ L i (.box b)->row=r)/\(¬Pt os τ L i (.box b)->∀c x,row[c]?=some x->x=AV.Sb)) (σ i).F.length (fun b hb=>by
  by_cases hv:Pt os τ L i (.box b)
  ·refine⟨(σ i).F[b],fun r hr=> ?_⟩;rw[Aa hb]at hr;simp at hr;subst hr;exact⟨rfl,fun _=>rfl,fun h=>absurd hv h⟩
  ·refine⟨Ba ((σ i).F[b]).length AV.Sb,fun r hr=> ?_⟩;rw[Aa hb]at hr;simp at hr;subst hr;exact⟨by simp,fun h=>absurd h hv,fun _ c x hx=>by rw[Wi]at hx;split at hx<;>simp at hx;exact hx.symm⟩)
 have Nc:∀b row,F[b]?=some row->∃r,(σ i).F[b]?=some r/\row.length=r.length/\(Pt os τ L i (.box b)->row=r)/\(¬Pt os τ L i (.box b)->∀c x,row[c]?=some x->x=AV.Sb):=fun b row hr=>by
  have hb:b<(σ i).F.length:=by rw[<- hFl];exact getElem?_lt' hr
  exact⟨_,Aa hb,hF b row hr _ (Aa hb)⟩
 obtain⟨H,hH1,hH0,hHl,hHw,hw,hap⟩:∃H:AH,((τ i).Cc=true->H=(nD (τ i) (σ i)).H)/\((τ i).Cc=false->∀(b:Nat)(x:AB),H.bl[b]?=some x->x=AB.dead)/\H.bl.length=(σ i).H.bl.length/\H.wm=(nD (τ i) (σ i)).H.wm/\
   Yb A.Ra (g.lim (σ i).H.bl.length) w H/\∀b,f.E b->¬Fp (g.lim (σ i).H.bl.length) H (f.φ b):=by
  cases hh:(τ i).Cc with
  |true=>
   have hv:=T.Mr hD hi (c:= .heap) hh;exact⟨(nD (τ i) (σ i)).H,fun _=>rfl,fun h=>by simp at h,by rw[Cr],rfl,(inv.heap i hN hv).wm (Cr _ _),fun b hb h=>inv.apart b hb i hN hv (X3 h (Cr _ _).symm)⟩
  |false=>
   have pP:∀b x,(Ba (σ i).H.bl.length AB.dead)[b]?=some x->x=AB.dead:=fun b x hx=>by rw[Wi]at hx;split at hx<;>simp at hx;exact hx.symm
   refine⟨⟨Ba (σ i).H.bl.length .dead,(nD (τ i) (σ i)).H.wm⟩,fun h=>by simp at h,fun _=>pP,by simp,rfl,⟨fun k row hg=>(inv.Ra k row hg).mono (g:=g.lim (σ 0).H.bl.length) (g':=g.lim (σ i).H.bl.length) ⟨fun b hb=>⟨⟨hb.1,yb hb.2 (T.span hq i (fe _) hN).len⟩,rfl⟩,fun R hR=>⟨hR,rfl⟩⟩,fun b hb=>by simp;exact hb.2,fun b x _ hx=>by rw[pP b x hx];trivial,fun b b' hb=> ?_,inv.Qu⟩,fun b hb=> ?_⟩
   ·obtain⟨_,x,hx,hl⟩:=hb;rw[pP b x hx]at hl;simp[Xd]at hl
   ·rintro⟨b',⟨_,x,hx,hl⟩,_⟩;rw[pP b' x hx]at hl;simp[Xd]at hl
 refine⟨⟨(o.looksAt os).map fun t=>(t,get (σ i).e t),F,H⟩,hHw,hHl,hH1,hH0,hFl,fun b hv=> ?_,fun b r r' hr dm=> ?_,fun t ht=>Hq _ _ t ht,hw,⟨fun b hb=>by rw[hFl];exact hb.2,fun b row hb hr=> ?_,fun b b' hb ud=>inv.D8 b b' hb.1 ud.1,fun b hb=>hap b hb.1⟩,fun t=> ?_⟩
 ·rcases Ub b (σ i).F.length with hb|hb
  ·have ud:b<F.length:=by omega
   obtain⟨r,h1,_,h3,_⟩:=Nc b _ (Aa ud);show F[b]?=_;rw[Aa ud,h1,h3 hv]
  ·show F[b]?=_;rw[Ab (by omega),Ab hb]
 ·obtain⟨r0,h1,h2,_⟩:=Nc b r hr;rw[h1]at dm;simp at dm;subst dm;exact h2
 ·obtain⟨r,h1,h2,h3,h4⟩:=Nc b row hr;obtain⟨cs,aX,Uz,hp⟩:=inv.box b hb.1;obtain⟨k1,k2⟩:=hp i hN r h1;refine⟨cs,by rw[h2,<- k1];exact aX,?_⟩;by_cases hv:Pt os τ L i (.box b)
  ·rw[h3 hv];exact k2 hv
  ·intro c x hx;rw[h4 hv c x hx];have hc:c<cs.size:=by rw[k1,<- h2];exact getElem?_lt' hx
   exact⟨cs[c],by simp[hc],Uz _ (by simp),.Sb _⟩
 ·by_cases ht:t∈o.looksAt os
  ·show Ee _ _ _ (get ((o.looksAt os).map fun t=>(t,get (σ i).e t)) t) _;rw[Hq _ _ t ht];have:=inv.slot i hN t (T.Mr hD hi ⟨o,ho,.inr ht⟩)
   revert this
   cases get (σ i).e t with
   |v x=>exact id
   |loc k c=>exact id
  ·show Ee _ _ _ (get ((o.looksAt os).map fun t=>(t,get (σ i).e t)) t) _;rw[kz _ _ t ht];exact .Sb _
end
end Go.V
namespace Go.V
open Go
section
variable {A:Eh}{call:Callee}{Fa:List Nat}{n:Nat}{os:Array Oper}{σ:Nat->S}{τ:Nat->kf}{L:Nat->Prop}{g0 g g':Gx}{f0 f f':Fx}{w0 w w':World}{ds:List Deferred}{a:Act}{i:Nat}{o:Oper}{M M':S}
open Classical in
noncomputable def Gx.join(g g':Gx):Gx:={ D:=fun b=>g.D b\/g'.D b,ρ:=fun b=>if g.D b then g.ρ b else g'.ρ b,Z:=g'.Z }
open Classical in
noncomputable def Fx.join(f f':Fx):Fx:={ E:=fun b=>f.E b\/f'.E b,φ:=fun b=>if f.E b then f.φ b else f'.φ b,W:=fun _=>True }
theorem Inv.step(T:Trace A call Fa n os σ τ)(hq:Uc call)(inv:Inv A.Ra os σ τ n g0 f0 w0 ds L g f a w)(eP:Yb A.Ra g0 w0 (σ 0).H)(hD:Down os L)(hi:Pm os L i)(ho:os[i]?=some o)
  (hM:V3 A.Ra os σ τ L g f a w i o M) (hx:Ag (g.lim (σ i).H.bl.length) (f.lim (σ i).F.length fun b=>τ i= .box b true) w M.H M.F g' f' w' M'.H M'.F)
  (nF:Yb A.Ra g' w' M'.H) (PM:Od g' f' w' M'.H M'.F) {v:SV} {rv:Value} (hv:Ee g' f' w' v rv)
  (nag:∀d,o.dst=some d->d<n/\get (σ (i+1)).e d=v)
  (hH1:(τ i).Cc=true->M'.H.bl=(σ (i+1)).H.bl) (hH0:(τ i).Cc=false->M'.H=M.H)
  (hF:(M'.F=M.F/\(σ (i+1)).F=(σ i).F/\∀b,τ i≠ .box b true)\/(∃row,M'.F=M.F++[row]/\(σ (i+1)).F=(σ i).F++[row]/\∀b,τ i≠ .box b true)\/
   ∃k row,τ i= .box k true/\M'.F=M.F.set k row/\(σ (i+1)).F=(σ i).F.set k row/\f.E k/\k<(σ i).F.length):
  Inv A.Ra os σ τ n g0 f0 w0 ds (fun j=>L j\/j=i) (g.join g') (f.join f') (a.put o.dst rv) w':=by
 have hN:i<=os.size:=Rt hi.1;have hN1:i+1<=os.size:=hi.1;have uf:∀{p q:Nat},p<=q->q<=os.size->Span os σ τ p q:=fun h1 h2=>T.span hq _ h1 h2
 have left:=T.left hq hi.1;have wab:M'.H.bl.length=(σ (i+1)).H.bl.length:=by
  cases hh:(τ i).Cc with
  |true=>rw[hH1 hh]
  |false=>rw[hH0 hh,hM.len,left.H hh]
 have oP:M'.F.length=(σ (i+1)).F.length:=by
  rcases hF with⟨e1,e2,_⟩|⟨row,e1,e2,_⟩|⟨k,row,_,e1,e2,_⟩<;>rw[e1,e2]<;>simp[hM.nj]
 have gX:∀b,g'.D b->(g.D b/\b<(σ i).H.bl.length)\/(σ i).H.bl.length<=b:=fun b hb=>(hx.bA b hb).imp id fun h=>by rw[hM.len]at h;exact h
 have DS:∀b,g'.D b->b<(σ (i+1)).H.bl.length:=fun b hb=>by rw[<- wab];exact nF.He b hb
 have L9:∀b,g.D b->b<(σ (i+1)).H.bl.length->b<(σ i).H.bl.length:=fun b hb hl=>by
  rcases Ub b (σ i).H.bl.length with h|h
  ·exact h
  ·exact absurd hb (inv.gH i hi.1 hi.2.1 b h hl)
 have Vaa:∀b,g'.D b->(g.join g').ρ b=g'.ρ b:=fun b hb=>by
  simp only[Gx.join];split
  ·rename_i hg;have:=L9 b hg (DS b hb);exact((hx.D b ⟨hg,this⟩).2).symm
  ·rfl
 have zW:∀b,g.D b->(g.join g').ρ b=g.ρ b:=fun b hb=>by simp only[Gx.join];rw[if_pos hb]
 have bV:∀b,f.E b->(f.join f').φ b=f.φ b:=fun b hb=>by simp only[Fx.join];rw[if_pos hb]
 have bX:∀b,f'.E b->(f.E b/\b<(σ i).F.length)\/(σ i).F.length<=b:=fun b hb=>(hx.L8 b hb).imp id fun h=>by rw[hM.nj]at h;exact h
 have dX:∀b,f'.E b->b<(σ (i+1)).F.length:=fun b hb=>by rw[<- oP];exact PM.He b hb
 have qah:∀b,f.E b->b<(σ (i+1)).F.length->b<(σ i).F.length:=fun b hb hl=>by
  rcases Ub b (σ i).F.length with h|h
  ·exact h
  ·exact absurd hb (inv.XM i hi.1 hi.2.1 b h hl)
 have HB:∀b,f'.E b->(f.join f').φ b=f'.φ b:=fun b hb=>by
  simp only[Fx.join];split
  ·rename_i hg;have:=qah b hg (dX b hb);exact((hx.E b ⟨hg,this⟩).2).symm
  ·rfl
 have Xx:∀b,f'.E b->¬f.E b->w.heap.size<=f'.φ b:=fun b hb hn=>hx.XI b hb (fun h=>hn h.1)
 have Qab:∀b,f.E b->¬Fp (g.lim (σ i).H.bl.length) M.H (f.φ b):=fun b hb h=>by
  cases hh:(τ i).Cc with
  |true=>
   have Oe:=T.Mr hD hi (c:= .heap) hh;exact inv.apart b hb i hN Oe (X3 h (by rw[hM.H1 hh,Cr]))
  |false=>
   obtain⟨b',⟨_,x,Rk,hl⟩,_⟩:=h;rw[hM.H0 hh b' x Rk]at hl;simp[Xd]at hl
 have PJ:∀R,R<w.heap.size->¬Fp (g.lim (σ i).H.bl.length) M.H R->(∀b,f.E b->τ i= .box b true->f.φ b≠R)->w'.heap[R]?=w.heap[R]?:=fun R hR hn hb=>by
  by_cases hE:∃b,(f.E b/\b<(σ i).F.length)/\f.φ b=R
  ·obtain⟨b,Np,rfl⟩:=hE;exact hx.own b Np (fun h=>hb b Np.1 h rfl)
  ·exact hx.Tk R hR hn fun b Np e=>hE ⟨b,Np,e⟩
 have LW:τ i≠ .heap true->∀R,R<w.heap.size->(∀b,f.E b->τ i= .box b true->f.φ b≠R)->w'.heap[R]?=w.heap[R]?:=fun Sc R hR hb=>by
  by_cases kD:Fp (g.lim (σ i).H.bl.length) M.H R
  ·obtain⟨b,hl,rfl⟩:=kD;have tc:b<M.H.wm:=by
    rw[hM.wm,VC Sc,<- hM.len];obtain⟨_,x,Rk,_⟩:=hl;exact getElem?_lt' Rk
   exact hx.still b tc hl
  ·exact PJ R hR kD hb
 have hZ:∀R,g.Z R->g'.Z R/\w'.heap[R]?=w.heap[R]?:=fun R hR=>⟨hx.Z R hR,PJ R (inv.Qu R hR) (fun⟨b,hl,e⟩=>hM.hw.Cn hl (e ▸ hR)) (fun b hb _ e=>inv.iaa hb (e ▸ hR))⟩
 have JB:τ i≠ .heap true->∀b,b<(σ i).H.bl.length->M'.H.bl[b]?=M.H.bl[b]?:=fun Sc b hb=>by
  refine hx.quiet b ?_ (by rw[hM.len];exact hb);rw[hM.wm,VC Sc];exact hb
 have I9:τ i≠ .heap true->∀R,g'.Z R->g.Z R\/w.heap.size<=R:=fun Sc R hR=>by
  rcases hx.Hr R hR with h|⟨b,hl,e⟩|h
  ·exact .inl h
  ·exfalso;have hb:b<M.H.bl.length:=by obtain⟨_,x,Rk,_⟩:=hl;exact getElem?_lt' Rk
   have Zf:live g' M'.H b:=⟨(hx.D b hl.1).1,by rw[JB Sc b (by rw[<- hM.len];exact hb)];exact hl.2⟩;refine nF.Cn Zf ?_;rw[(hx.D b hl.1).2,e];exact hR
  ·exact .inr h
 have hle:∀p,(g.lim (σ p).H.bl.length).Le w ((g.join g').lim (σ p).H.bl.length) w':=fun p=>⟨fun b hb=>⟨⟨.inl hb.1,hb.2⟩,zW b hb.1⟩,hZ⟩
 have RW:∀p,i+1<=p->p<=os.size->g'.Le w' ((g.join g').lim (σ p).H.bl.length) w':=fun p h1 h2=>⟨fun b hb=>⟨⟨.inr hb,yb (DS b hb) (uf h1 h2).len⟩,Vaa b hb⟩,fun R hR=>⟨hR,rfl⟩⟩
 have pal:∀p b,(f.lim (σ p).F.length fun _=>True).E b->((f.join f').lim (σ p).F.length fun _=>True).E b/\((f.join f').lim (σ p).F.length fun _=>True).φ b=(f.lim (σ p).F.length fun _=>True).φ b:=fun p b hb=>⟨⟨.inl hb.1,hb.2⟩,bV b hb.1⟩
 have Wag:∀p,i+1<=p->p<=os.size->∀b,f'.E b->((f.join f').lim (σ p).F.length fun _=>True).E b/\((f.join f').lim (σ p).F.length fun _=>True).φ b=f'.φ b:=fun p h1 h2 b hb=>⟨⟨.inr hb,yb (dX b hb) (uf h1 h2).nj⟩,HB b hb⟩
 have eX:∀p,p<=i\/(τ i).Cc=false->p<=os.size->∀b,((g.join g').lim (σ p).H.bl.length).D b->(g.lim (σ p).H.bl.length).D b:=fun p hp Is b hb=>by
  refine⟨?_,hb.2⟩;rcases hb.1 with h|h
  ·exact h
  ·rcases gX b h with h1|h1
   ·exact h1.1
   ·exfalso;rcases hp with hp|hp
    ·have:=(uf hp hN).len;have:=hb.2;omega
    ·have h2:=DS b h;rw[left.H hp]at h2;omega
 have Aab:∀p,p<=os.size->Pt os τ L p .heap->p<=i\/(τ i).Cc=false->τ i≠ .heap true->Yb A.Ra ((g.join g').lim (σ p).H.bl.length) w' (σ p).H:=fun p Is Oe hp Sc=>by
  have hold:=inv.heap p Is Oe;refine hold.carry (hle p) (eX p hp Is) (fun b hl=>LW Sc _ (hold.lt hl) fun b' ud _ e=>inv.apart b' ud p Is Oe ⟨b,hl,e.symm⟩) (fun b hl hz=> ?_) nF.Qu;rcases I9 Sc _ hz with h|h
  ·exact hold.Cn hl h
  ·have:=hold.lt hl;exact absurd this (Nat.not_lt.2 h)
 have Fj:∀p,p<=os.size->(τ i).Cc=true->Pt os τ (fun j=>L j\/j=i) p .heap->i<p->∀b,b<(σ (i+1)).H.bl.length->(σ p).H.bl[b]?=M'.H.bl[b]?:=fun p Is hh Oe tc b hb=>by
  rw[hH1 hh];exact(uf (p:=i+1) (q:=p) tc Is).heap (fun j h1 h2=>T.Io hD hi (c:= .heap) hh Oe j (by omega) (by omega) h2) b hb
 have TW:∀p,p<=os.size->(τ i).Cc=true->Pt os τ (fun j=>L j\/j=i) p .heap->i<p->∀b,((g.join g').lim (σ p).H.bl.length).D b->¬b<(σ (i+1)).H.bl.length->(g.lim (σ p).H.bl.length).D b/\τ i≠ .heap true:=fun p Is hh Oe tc b hb eu=>by
  have hgD:g.D b:=by
   rcases hb.1 with h|h
   ·exact h
   ·exact absurd (DS b h) eu
  refine⟨⟨hgD,hb.2⟩,fun e=> ?_⟩;obtain⟨j,j1,j2,j3,j4⟩:=(uf (p:=i+1) (q:=p) tc Is).O8 b (by omega) hb.2;have hjN:j<os.size:=by omega
  have hLj:L j:=by
   by_cases h:L j
   ·exact h
   ·exact absurd hgD (inv.gH j hjN h b j3 j4)
  have hjh:(τ j).Cc=true:=by
   cases hjh:(τ j).Cc with
   |true=>rfl
   |false=>rw[(T.left hq hjN).H hjh]at j4;omega
  rcases T.order hjN hi.1 (by omega) (c:= .heap) e hjh with h|h
  ·omega
  ·exact hi.2.1 (hD i j hjN hLj h.2)
 have Pag:∀p,i<p->p<=os.size->∀b,((g.join g').lim (σ p).H.bl.length).D b->b<(σ (i+1)).H.bl.length->g'.D b:=fun p _ _ b hb tc=>by
  rcases hb.1 with h|h
  ·exact(hx.D b ⟨h,L9 b h tc⟩).1
  ·exact h
 have L6:∀p,p<=os.size->(τ i).Cc=true->Pt os τ (fun j=>L j\/j=i) p .heap->i<p->∀b,live ((g.join g').lim (σ p).H.bl.length) (σ p).H b->
   (live g' M'.H b/\((g.join g').lim (σ p).H.bl.length).ρ b=g'.ρ b)\/(τ i≠ .heap true/\Pt os τ L p .heap/\live (g.lim (σ p).H.bl.length) (σ p).H b/\((g.join g').lim (σ p).H.bl.length).ρ b=g.ρ b/\¬b<(σ (i+1)).H.bl.length):=fun p Is hh Oe tc b hl=>by
  by_cases hb:b<(σ (i+1)).H.bl.length
  ·left;have:=Pag p tc Is b hl.1 hb;exact⟨⟨this,by rw[<- Fj p Is hh Oe tc b hb];exact hl.2⟩,Vaa b this⟩
  ·right;obtain⟨h1,h2⟩:=TW p Is hh Oe tc b hl.1 hb;exact⟨h2,Oe.before h2,⟨h1,hl.2⟩,zW b h1.1,hb⟩
 have zab:∀p,p<=os.size->(τ i).Cc=true->Pt os τ (fun j=>L j\/j=i) p .heap->i<p->Yb A.Ra ((g.join g').lim (σ p).H.bl.length) w' (σ p).H:=fun p Is hh Oe tc=>by
  have Iag:∀b1 b2,(live g' M'.H b1/\((g.join g').lim (σ p).H.bl.length).ρ b1=g'.ρ b1)->(τ i≠ .heap true/\Pt os τ L p .heap/\live (g.lim (σ p).H.bl.length) (σ p).H b2/\((g.join g').lim (σ p).H.bl.length).ρ b2=g.ρ b2/\¬b2<(σ (i+1)).H.bl.length)->
    (((g.join g').lim (σ p).H.bl.length).ρ b1).R≠(((g.join g').lim (σ p).H.bl.length).ρ b2).R:=fun b1 b2⟨k1,k2⟩⟨m1,m2,m3,m4,m5⟩e=>by
   rw[k2,m4]at e;have hold:=inv.heap p Is m2;have TI:=hold.lt m3;rcases hx.fp _ ⟨b1,k1,e⟩with⟨b',Zf,e'⟩|h
   ·have ud:b'<(σ i).H.bl.length:=Zf.1.2;have TJ:live (g.lim (σ p).H.bl.length) (σ p).H b':=by
     refine⟨⟨Zf.1.1,yb ud (uf (by omega) Is).len⟩,?_⟩;rw[Fj p Is hh Oe tc b' (yb ud left.len),JB m1 b' ud];exact Zf.2
    have:=left.len;exact hold.inj b' b2 TJ m3 (by omega) e'
   ·exact absurd TI (Nat.not_lt.2 h)
  refine⟨fun k row hg=>(nF.Ra k row hg).mono (RW p tc Is),fun b hb=>hb.2,fun b x hd IB=> ?_,fun b1 b2 h1 h2 Sc=> ?_,nF.Qu⟩
  ·by_cases hb:b<(σ (i+1)).H.bl.length
   ·have oV:=Pag p tc Is b hd hb;rw[show((g.join g').lim (σ p).H.bl.length).ρ b=g'.ρ b from Vaa b oV];rw[Fj p Is hh Oe tc b hb]at IB;exact(nF.Tc b x oV IB).le (RW p tc Is) (fun _=>rfl) (fun hl=>nF.Cn ⟨oV,x,IB,hl⟩)
   ·obtain⟨h1,h2⟩:=TW p Is hh Oe tc b hd hb;have n9:=Oe.before h2;have hold:=inv.heap p Is n9;rw[show((g.join g').lim (σ p).H.bl.length).ρ b=g.ρ b from zW b h1.1];refine(hold.Tc b x h1 IB).le (hle p) (fun hl=>LW h2 _ (hold.lt ⟨h1,x,IB,hl⟩) fun b' ud _ e=>inv.apart b' ud p Is n9 ⟨b,⟨h1,x,IB,hl⟩,e.symm⟩) (fun hl hz=> ?_);rcases I9 h2 _ hz with h|h
    ·exact hold.Cn ⟨h1,x,IB,hl⟩ h
    ·exact absurd (hold.lt ⟨h1,x,IB,hl⟩) (Nat.not_lt.2 h)
  ·rcases L6 p Is hh Oe tc b1 h1 with k1|k1<;>rcases L6 p Is hh Oe tc b2 h2 with k2|k2
   ·rw[k1.2,k2.2];exact nF.inj b1 b2 k1.1 k2.1 Sc
   ·exact Iag b1 b2 k1 k2
   ·exact(Iag b2 b1 k2 k1).symm
   ·rw[k1.2.2.2.1,k2.2.2.2.1];exact(inv.heap p Is k1.2.1).inj b1 b2 k1.2.2.1 k2.2.2.1 Sc
 have Zaa:∀p,p<=os.size->Pt os τ (fun j=>L j\/j=i) p .heap->((p<=i\/(τ i).Cc=false)/\τ i≠ .heap true/\Pt os τ L p .heap)\/((τ i).Cc=true/\i<p):=fun p Is Oe=>by
  cases hh:(τ i).Cc with
  |false=>
   have Sc:τ i≠ .heap true:=fun e=>by rw[e]at hh;simp[kf.Cc]at hh
   exact .inl ⟨.inr rfl,Sc,Oe.before Sc⟩
  |true=>
   rcases Ub i p with tc|eu
   ·exact .inr ⟨rfl,tc⟩
   ·have Sc:τ i≠ .heap true:=Oe.2 i hi.1 eu (.inr rfl);exact .inl ⟨.inl eu,Sc,Oe.before Sc⟩
 have pah:∀p,p<=os.size->(p<=i\/(τ i).Cc=false)->∀R,Fp ((g.join g').lim (σ p).H.bl.length) (σ p).H R->Fp (g.lim (σ p).H.bl.length) (σ p).H R:=fun p Is hp R⟨b,hl,e⟩=>by
  have:=eX p hp Is b hl.1;refine⟨b,⟨this,hl.2⟩,?_⟩;rw[<- e];show(g.ρ b).R=((g.join g').ρ b).R;rw[zW b this.1]
 have Eab:∀R,Fp (g.lim (σ i).H.bl.length) M.H R->Fp g0 (σ 0).H R\/w0.heap.size<=R:=fun R h=>by
  cases hh:(τ i).Cc with
  |true=>exact inv.fFp i hN (T.Mr hD hi (c:= .heap) hh) R (X3 h (by rw[hM.H1 hh,Cr]))
  |false=>
   obtain⟨b',⟨_,x,Rk,hl⟩,_⟩:=h;rw[hM.H0 hh b' x Rk]at hl;simp[Xd]at hl
 refine⟨?_,?_,fun p hp t Oe=> ?_,fun p hp Oe=> ?_,fun k row hg=> ?_,nF.Qu,fun b hb=> ?_,fun b b' hb ud Sc=> ?_,fun b hb p hp Oe kD=> ?_,fun j hj hnL b h1 h2 hb=> ?_,fun j hj hnL b h1 h2 hb=> ?_,fun b hb=> ?_,fun b hb=> ?_,fun j hj hL b ht=> ?_,
  fun b hb=>⟨.inl (inv.fD b hb).1,(zW b (inv.fD b hb).1).trans (inv.fD b hb).2⟩,fun b hb=> ?_,fun R hR=>hx.Z R (inv.fZ R hR),fun R hR=> ?_,fun p hp Oe R kD=> ?_,fun b hb=>⟨.inl (inv.fE b hb).1,(bV b (inv.fE b hb).1).trans (inv.fE b hb).2⟩,fun b hb=> ?_,fun b hb hn=> ?_,fun R hR hn hb=> ?_,Gb inv.size hx.size,fun b hb hl=> ?_,⟨hx.io.1.trans inv.io.1,hx.io.2.trans inv.io.2⟩⟩
 ·
  rw[<- inv.n];unfold Act.put;split<;>simp
 ·rw[<- inv.ds];unfold Act.put;split<;>rfl
 ·
  by_cases hd:o.dst=some t
  ·have hW:Wr os τ i (.slot t):=⟨o,ho,hd⟩;have tc:=Oe.after hi.1 hW;obtain⟨h1,h2⟩:=nag t hd;have wk:get (σ p).e t=v:=by
    rw[(uf (p:=i+1) (q:=p) tc hp).slot t (fun j j1 j2=>T.Io hD hi hW.us Oe j (by omega) (by omega) j2),h2]
   rw[wk];have htm:(a.put o.dst rv).tmps.getD t undef=rv:=by
    rw[hd];simp only[Act.put];rw[Yv t (by rw[inv.n];exact h1),if_pos rfl]
   rw[htm];exact Ee.mono (f':=(f.join f').lim (σ p).F.length fun _=>True) (RW p tc hp) (Wag p tc hp) hv
  ·have hW:¬Wr os τ i (.slot t):=fun⟨o',K4,oV⟩=>hd (by rw[ho]at K4;simp at K4;rw[K4];exact oV)
   have htm:(a.put o.dst rv).tmps.getD t undef=a.tmps.getD t undef:=by
    cases I6:o.dst with
    |none=>rfl
    |some d=>
     simp only[Act.put];rcases Ub d a.tmps.size with tc|eu
     ·rw[Yv t tc,if_neg (fun e=>hd (by rw[I6,e]))]
     ·rw[Array.setIfInBounds_eq_of_size_le eu]
   rw[htm];exact Ee.mono (f':=(f.join f').lim (σ p).F.length fun _=>True) (hle p) (pal p) (inv.slot p hp t (Oe.before hW))
 ·
  rcases Zaa p hp Oe with⟨h1,h2,h3⟩|⟨h1,h2⟩
  ·exact Aab p hp h3 h1 h2
  ·exact zab p hp h1 Oe h2
 ·exact(inv.Ra k row hg).mono (hle 0)
 ·
  by_cases hold:f.E b
  ·rw[bV b hold];obtain⟨cs,⟨T',fz,hR,hs,fm,hz⟩,Uz,Nc⟩:=inv.box b hold;have tc:=inv.X4 hold;have hz':¬g'.Z (f.φ b):=fun h=>by
    rcases hx.Hr _ h with h1|h1|h1
    ·exact hz h1
    ·exact Qab b hold h1
    ·exact absurd tc (Nat.not_lt.2 h1)
   by_cases j9:τ i= .box b true
   ·
    obtain⟨k,row,hk,e1,e2,hEk,hlk⟩:∃k row,τ i= .box k true/\M'.F=M.F.set k row/\(σ (i+1)).F=(σ i).F.set k row/\f.E k/\k<(σ i).F.length:=by
     rcases hF with⟨_,_,h⟩|⟨_,_,_,h⟩|h
     ·exact absurd j9 (h b)
     ·exact absurd j9 (h b)
     ·exact h
    obtain rfl:k=b:=by rw[j9]at hk;injection hk with h _;exact h.symm
    have hE':=hx.E k ⟨hEk,hlk⟩;have gP:M'.F[k]?=some row:=by rw[e1,List.getElem?_set_self (by rw[hM.nj];exact hlk)]
    have Du:(σ (i+1)).F[k]?=some row:=by rw[e2,List.getElem?_set_self hlk]
    obtain⟨Oh,⟨T2,fz2,TI,iV,Cab,OJ⟩,vl⟩:=PM.Tc k row hE'.1 gP;have gak:f'.φ k=f.φ k:=hE'.2;rw[gak]at TI OJ;refine⟨Oh,⟨T2,fz2,TI,rfl,by rw[iV];exact Cab,OJ⟩,fun u hu=> ?_,fun p hp r hr=> ?_⟩
    ·obtain⟨c,hc⟩:=je hu;have oo:c<row.length:=by rw[<- iV];exact Xa (a:=Oh) (i:=c) (x:=u) (by simpa using hc)
     obtain⟨u',h1,h2,_⟩:=vl c _ (Aa oo);rw[Qe]at h1;have:Oh.toList[c]?=Oh[c]?:=by simp
     rw[this,h1]at hc;simp at hc;subst hc;exact h2
    ·refine⟨?_,fun Oe=> ?_⟩
     ·rw[iV];rcases Ub i p with mV|mV
      ·exact((uf (p:=i+1) (q:=p) mV hp).row k _ _ Du hr).symm
      ·exact(uf (p:=p) (q:=i+1) (by omega) hN1).row k _ _ hr Du
     ·have hW:Wr os τ i (.box k):=j9;have mV:=Oe.after hi.1 hW;have:(σ p).F[k]?=some row:=by
       rw[(uf (p:=i+1) (q:=p) mV hp).box k (by rw[e2];simp;exact hlk) (fun j j1 j2=>T.Io hD hi hW.us Oe j (by omega) (by omega) j2)];exact Du
      rw[this]at hr;simp at hr;subst hr;exact vl.mono (RW p mV hp)
   ·have hun:w'.heap[f.φ b]?=w.heap[f.φ b]?:=PJ _ tc (Qab b hold) fun b' ud ht' e=>by
     by_cases e':b'=b
     ·subst e';exact j9 ht'
     ·exact inv.D8 b' b ud hold e' e
    refine⟨cs,⟨T',fz,by rw[hun];exact hR,hs,fm,hz'⟩,Uz,fun p hp r hr=>⟨(Nc p hp r hr).1,fun Oe=> ?_⟩⟩;exact((Nc p hp r hr).2 (Oe.before j9)).mono (hle p)
  ·
   have ud:f'.E b:=hb.resolve_left hold;have eu:(σ i).F.length<=b:=(bX b ud).resolve_left fun h=>hold h.1
   have tc:=dX b ud;have gP:=Aa (l:=M'.F) (i:=b) (by rw[oP];exact tc);obtain⟨Oh,⟨T2,fz2,TI,iV,Cab,OJ⟩,vl⟩:=PM.Tc b _ ud gP;rw[HB b ud];have Du:(σ (i+1)).F[b]?=M'.F[b]?:=by
    rcases hF with⟨e1,e2,_⟩|⟨row,e1,e2,_⟩|⟨k,row,_,e1,e2,_,hlk⟩
    ·rw[e2]at tc;omega
    ·rw[e1,e2];have:b=(σ i).F.length:=by rw[e2]at tc;simp at tc;omega
     subst this;simp[hM.nj]
    ·rw[e2]at tc;simp at tc;omega
   refine⟨Oh,⟨T2,fz2,TI,rfl,by rw[iV];exact Cab,OJ⟩,fun u hu=> ?_,fun p hp r hr=> ?_⟩
   ·obtain⟨c,hc⟩:=je hu;have oo:c<(M'.F[b]).length:=by rw[<- iV];exact Xa (a:=Oh) (i:=c) (x:=u) (by simpa using hc)
    obtain⟨u',h1,h2,_⟩:=vl c _ (Aa oo);rw[Qe]at h1;have:Oh.toList[c]?=Oh[c]?:=by simp
    rw[this,h1]at hc;simp at hc;subst hc;exact h2
   ·have mV:i<p:=by
     rcases Ub i p with h|h
     ·exact h
     ·exfalso;have:=(uf h hN).nj;rw[Ab (by omega)]at hr;simp at hr
    rw[gP]at Du;refine⟨?_,fun Oe=> ?_⟩
    ·rw[iV];exact((uf (p:=i+1) (q:=p) mV hp).row b _ _ Du hr).symm
    ·have:(σ p).F[b]?=some M'.F[b]:=by
      rw[(uf (p:=i+1) (q:=p) mV hp).box b tc (fun j j1 j2 hW=> ?_)]
      ·exact Du
      ·by_cases hLj:L j
       ·exact hold (inv.wr j (by omega) hLj b hW)
       ·exact Oe.1 j (by omega) j2 (fun h=>h.elim hLj (by omega)) hW
     rw[this]at hr;simp at hr;subst hr;exact vl.mono (RW p mV hp)
 ·
  by_cases h1:f.E b<;>by_cases h2:f.E b'
  ·rw[bV b h1,bV b' h2];exact inv.D8 b b' h1 h2 Sc
  ·have P4:=ud.resolve_left h2;rw[bV b h1,HB b' P4];have:=inv.X4 h1;have:=Xx b' P4 h2;omega
  ·have ID:=hb.resolve_left h1;rw[HB b ID,bV b' h2];have:=inv.X4 h2;have:=Xx b ID h1;omega
  ·have ID:=hb.resolve_left h1;have P4:=ud.resolve_left h2;rw[HB b ID,HB b' P4];exact PM.inj b b' ID P4 Sc
 ·
  rcases Zaa p hp Oe with⟨h1,h2,h3⟩|⟨h1,h2⟩
  ·have H6:=pah p hp h1 _ kD;by_cases hold:f.E b
   ·rw[bV b hold]at H6;exact inv.apart b hold p hp h3 H6
   ·have ud:=hb.resolve_left hold;rw[HB b ud]at H6;obtain⟨b',hl,e⟩:=H6;have:=(inv.heap p hp h3).lt hl;have:=Xx b ud hold;omega
  ·obtain⟨b',hl,e⟩:=kD;rcases L6 p hp h1 Oe h2 b' hl with⟨k1,k2⟩|⟨m1,m2,m3,m4,m5⟩
   ·rw[k2]at e;by_cases hold:f.E b
    ·rw[bV b hold]at e;rcases hx.fp _ ⟨b',k1,e⟩with h|h
     ·exact Qab b hold h
     ·have:=inv.X4 hold;omega
    ·have ud:=hb.resolve_left hold;rw[HB b ud]at e;exact PM.apart b ud ⟨b',k1,e⟩
   ·rw[m4]at e;by_cases hold:f.E b
    ·rw[bV b hold]at e;exact inv.apart b hold p hp m2 ⟨b',m3,e⟩
    ·have ud:=hb.resolve_left hold;rw[HB b ud]at e;have:=(inv.heap p hp m2).lt m3;have e':(g.ρ b').R=f'.φ b:=e;have:=Xx b ud hold;have h5:((g.lim (σ p).H.bl.length).ρ b').R=(g.ρ b').R:=rfl;omega
 ·
  have OW:¬L j:=fun h=>hnL (.inl h)
  have hji:j≠i:=fun h=>hnL (.inr h)
  rcases hb with hb|hb
  ·exact inv.gH j hj OW b h1 h2 hb
  ·rcases gX b hb with h|h
   ·exact inv.gH j hj OW b h1 h2 h.1
   ·have h3:=DS b hb;rcases Yw hji with tc|tc
    ·have:=(uf (p:=j+1) (q:=i) tc hN).len;omega
    ·have:=(uf (p:=i+1) (q:=j) tc (by omega)).len;omega
 ·have OW:¬L j:=fun h=>hnL (.inl h)
  have hji:j≠i:=fun h=>hnL (.inr h)
  rcases hb with hb|hb
  ·exact inv.XM j hj OW b h1 h2 hb
  ·rcases bX b hb with h|h
   ·exact inv.XM j hj OW b h1 h2 h.1
   ·have h3:=dX b hb;rcases Yw hji with tc|tc
    ·have:=(uf (p:=j+1) (q:=i) tc hN).nj;omega
    ·have:=(uf (p:=i+1) (q:=j) tc (by omega)).nj;omega
 ·rcases hb with hb|hb
  ·exact inv.qai b hb
  ·exact yb (DS b hb) (uf hN1 (va _)).len
 ·rcases hb with hb|hb
  ·exact inv.pai b hb
  ·exact yb (dX b hb) (uf hN1 (va _)).nj
 ·rcases hL with hL|rfl
  ·exact .inl (inv.wr j hj hL b ht)
  ·rcases hF with⟨_,_,h⟩|⟨_,_,_,h⟩|⟨k,row,hk,_,_,hEk,_⟩
   ·exact absurd ht (h b)
   ·exact absurd ht (h b)
   ·rw[ht]at hk;injection hk with h _;rw[h];exact .inl hEk
 ·rcases hb with hb|hb
  ·exact inv.xX b hb
  ·rcases gX b hb with h|h
   ·exact inv.xX b h.1
   ·exact .inr (Gb (uf (fe _) hN).len h)
 ·rcases hx.Hr R hR with h|h|h
  ·exact inv.P9 R h
  ·exact .inr (Eab R h)
  ·exact .inr (.inr (Gb inv.size h))
 ·rcases Zaa p hp Oe with⟨h1,h2,h3⟩|⟨h1,h2⟩
  ·exact inv.fFp p hp h3 R (pah p hp h1 R kD)
  ·obtain⟨b',hl,e⟩:=kD;rcases L6 p hp h1 Oe h2 b' hl with⟨k1,k2⟩|⟨m1,m2,m3,m4,m5⟩
   ·rw[k2]at e;rcases hx.fp _ ⟨b',k1,e⟩with h|h
    ·exact Eab R h
    ·exact .inr (Gb inv.size h)
   ·rw[m4]at e;exact inv.fFp p hp m2 R ⟨b',m3,e⟩
 ·rcases hb with hb|hb
  ·exact inv.wX b hb
  ·rcases bX b hb with h|h
   ·exact inv.wX b h.1
   ·exact .inr (Gb (uf (fe _) hN).nj h)
 ·by_cases hold:f.E b
  ·rw[bV b hold];exact inv.fφ b hold hn
  ·have ud:=hb.resolve_left hold;rw[HB b ud];exact Gb inv.size (Xx b ud hold)
 ·refine(PJ R (yb hR inv.size) (fun h=> ?_) (fun b hbE _ e=> ?_)).trans (inv.Tk R hR hn hb)
  ·rcases Eab R h with h1|h1
   ·exact hn h1
   ·omega
  ·by_cases h0:f0.E b
   ·exact hb b h0 ((inv.fE b h0).2 ▸ e)
   ·have:=inv.fφ b hbE h0;omega
 ·obtain⟨s1,s2⟩:=inv.still b hb hl;have K9:=eP.lt hl;have tc:(g0.ρ b).R<w.heap.size:=yb K9 inv.size;refine⟨Eq.trans ?_ s1,fun b' ud=> ?_⟩
  ·cases hh:(τ i).Cc with
   |false=>
    refine PJ _ tc (fun h=> ?_) (fun b' ud _=>s2 b' ud);obtain⟨b',⟨_,x,Rk,Zf⟩,_⟩:=h;rw[hM.H0 hh b' x Rk]at Zf;simp[Xd]at Zf
   |true=>
    have PB:b<(σ 0).H.bl.length:=by obtain⟨_,x,Rk,_⟩:=hl;exact getElem?_lt' Rk
    have u6:=uf (fe i) hN;have hg:=inv.fD b hl.1;have hli:live (g.lim (σ i).H.bl.length) M.H b:=by
     refine⟨⟨hg.1,yb PB u6.len⟩,?_⟩;rw[hM.H1 hh,Cr,u6.low b hb PB];exact hl.2
    have Yf:b<M.H.wm:=by
     rw[hM.wm];by_cases hw:τ i= .heap true
     ·rw[hw];show b<(σ i).H.wm;rw[u6.wm];exact hb
     ·rw[VC hw];exact yb PB u6.len
    have:=hx.still b Yf hli;have e:((g.lim (σ i).H.bl.length).ρ b)=g0.ρ b:=hg.2;rw[e]at this;exact this
  ·by_cases hold:f.E b'
   ·rw[bV b' hold];exact s2 b' hold
   ·have jah:=ud.resolve_left hold;rw[HB b' jah];have:=Xx b' jah hold;omega
end
end Go.V
namespace Go.V
open Go
section
variable {A:Eh}{call:Callee}{Fa:List Nat}{n:Nat}{os:Array Oper}{σ:Nat->S}{τ:Nat->kf}{L:Nat->Prop}{g0 g:Gx}{f0 f:Fx}{w0 w:World}{ds:List Deferred}{a:Act}
theorem Inv.finish(T:Trace A call Fa n os σ τ)(hq:Uc call)(dc:St A.Ra g0 f0 (σ 0) n a w0){a':Act}(inv:Inv A.Ra os σ τ n g0 f0 w0 a.defers L g f a' w)(hL:∀j,j<os.size->L j):
  ∃f',St A.Ra g f' (σ os.size) n a' w/\Ag g0 f0 w0 (σ 0).H (σ 0).F g f' w (σ os.size).H (σ os.size).F:=by
 have Oe:∀c,Pt os τ L os.size c:=fun c=>⟨fun j hj _ h=>absurd (hL j hj) h,fun j hj h=>by omega⟩
 have uf:=T.span hq os.size (fe _) (va _);have E9:g.lim (σ os.size).H.bl.length=g:=by
  have:(fun b=>g.D b/\b<(σ os.size).H.bl.length)=g.D:=by
   funext b;exact propext ⟨fun h=>h.1,fun h=>⟨h,inv.qai b h⟩⟩
  cases g;simp only[Gx.lim]at *;rw[this]
 have hw:=inv.heap _ (va _) (Oe _);rw[E9]at hw;have hx:Ag g0 f0 w0 (σ 0).H (σ 0).F g { f with W:=fun _=>True } w (σ os.size).H (σ os.size).F:=by
  refine⟨inv.fD,inv.xX,inv.fZ,inv.P9,fun R h=> ?_,inv.fE,inv.wX,inv.fφ,inv.Tk,inv.size,uf.len,uf.nj,uf.wm,uf.low,fun b hb hl=>(inv.still b hb hl).1,fun i hi=>⟨fun _=>dc.hW i hi,fun _=>trivial⟩,fun _ _ _=>trivial,fun i hi hn=>absurd (dc.hW i hi) hn,inv.io⟩;have:=inv.fFp _ (va _) (Oe _) R;rw[E9]at this;exact this h
 refine⟨{ f with W:=fun _=>True },⟨hw,⟨inv.pai,fun b row hb hr=> ?_,inv.D8,fun b hb h=> ?_⟩,fun t=> ?_,inv.n,?_,fun _ _=>trivial⟩,hx⟩
 ·obtain⟨cs,aX,_,Nc⟩:=inv.box b hb;obtain⟨h1,h2⟩:=Nc _ (va _) row hr;have h3:=h2 (Oe _);rw[E9]at h3;exact⟨cs,by rw[<- h1];exact aX,h3⟩
 ·have:=inv.apart b hb _ (va _) (Oe _);rw[E9]at this;exact this h
 ·have:=inv.slot _ (va _) t (Oe _);rw[E9]at this
  revert this
  cases get (σ os.size).e t with
  |v x=>exact id
  |loc k c=>exact fun h=>⟨h.1.1,h.2⟩
 ·rw[inv.ds];exact dc.hm.step dc.hw dc.hf hx
theorem zR{s:S}{o:Oper}{q w:Bool}{k:Nat}(h:Wc A Fa s o q= .box k w):∃t,t∈o.looksAt os/\∃c,get s.e t= .loc k c:=by
 have key:∀{wr:Bool}{x:Operand},nf wr (operand A s.e x)= .box k w->x∈o.op.operands->∃t,t∈o.looksAt os/\∃c,get s.e t= .loc k c:=fun{wr x}h hx=>by
  cases ho:operand A s.e x with
  |none=>rw[ho]at h;simp[nf]at h
  |some sv=>
   rw[ho]at h;cases sv with
   |v y=>cases y<;>simp[nf]at h;cases wr<;>simp at h
   |loc i c=>
    simp[nf]at h;obtain⟨rfl,_⟩:=h;cases x with
    |tmp t=>
     simp[operand]at ho;exact⟨t,If _ (List.mem_filterMap.2 ⟨.tmp t,by simpa using hx,rfl⟩),c,ho⟩
    |const v=>simp[operand]at ho
    |global gv=>simp[operand]at ho
    |func fv=>simp[operand]at ho
 unfold Wc at h;split at h
 ·rename_i ho;exact key h (by rw[ho];simp[Op.operands])
 ·unfold Pr at h;split at h<;>simp at h
 ·rename_i ho;exact key h (by rw[ho];simp[Op.operands])
 all_goals first
  |(split at h<;>simp at h;done)
  |(simp at h;done)
  |(unfold Pr at h;split at h<;>simp at h;done)
  |(unfold yh at h;split at h<;>simp at h;done)
theorem VM{s M:S}{o:Oper}{b:Bool}(h:Vc os s o=some b)(he:∀t,t∈o.looksAt os->get M.e t=get s.e t):Vc os M o=some b:=by
 unfold Vc at h ⊢;split at h
 ·rename_i hg;exact h
 ·rename_i j want hg;split at h
  ·rename_i d hd;have:d∈o.looksAt os:=by
    refine List.mem_append_right _ ?_;rw[hg];simp[hd]
   simp only[hg,hd,he d this];exact h
  ·simp at h
theorem Trace.upto(T:Trace A call Fa n os σ τ)(hD:Down os L){i:Nat}(hi:Pm os L i)(kab:∀j,j<i->τ j= .heap true->ord (Ik os.toList []) j i=true):
  ∃p,i<=p/\p<=os.size/\Pt os τ L p .heap:=by
 have key:∀k,i<=k->k<=os.size->∃p,i<=p/\p<=os.size/\(∀j,j<os.size->p<=j->j<k->L j->τ j≠ .heap true)/\(p=i\/∃j0,p=j0+1/\j0<os.size/\L j0/\τ j0= .heap true):=by
  intro k;induction k with
  |zero=>intro h1 h2;exact⟨i,va _,Rt hi.1,fun j _ _ h=>by omega,.inl rfl⟩
  |succ k ih=>
   intro h1 h2;by_cases kP:i<=k
   ·obtain⟨p,a1,a2,a3,a4⟩:=ih kP (by omega);by_cases hw:L k/\τ k= .heap true
    ·exact⟨k+1,by omega,h2,fun j _ h3 h4=>by omega,.inr ⟨k,rfl,by omega,hw.1,hw.2⟩⟩
    ·refine⟨p,a1,a2,fun j hj h3 h4 hL he=> ?_,a4⟩;by_cases e:j=k
     ·subst e;exact hw ⟨hL,he⟩
     ·exact a3 j hj h3 (by omega) hL he
   ·exact⟨i,va _,Rt hi.1,fun j _ h3 h4=>by omega,.inl rfl⟩
 obtain⟨p,a1,a2,a3,a4⟩:=key os.size (Rt hi.1) (va _);refine⟨p,a1,a2,fun j hj tc Wj hw=> ?_,fun j hj hle hl hw=>a3 j hj hle hj hl hw⟩;have nF:τ j= .heap true:=hw;rcases Ub j i with h|h
 ·exact Wj (hi.2.2 j (kab j h nF))
 ·rcases a4 with rfl|⟨j0,rfl,h0,hL0,eP⟩
  ·omega
  ·have Sc:j≠j0:=fun e=>Wj (e ▸ hL0)
   rcases T.xG j j0 hj h0 Sc (by rw[eP];rfl)with h1|h1|h1
   ·exact Wj (hD j j0 h0 hL0 h1.2)
   ·omega
   ·rw[nF,eP]at h1;simp[conflict]at h1
theorem tJ{g g':Gx}{w:World}{m:Nat}{v:SV}{f f':Fx}{rv:Value}(hp:Vr m v=true)(hD:∀b,g.D b->b<m->g'.D b)(zW:∀b,g'.ρ b=g.ρ b)(h:Ee g f w v rv):Ee g' f' w v rv:=by
 unfold Vr at hp;split at hp
 ·rename_i b;have hb:b<m:=by simpa using hp
  have h':jb g w (.mp b) rv:=h;cases h' with
  |mp _ hd=>have:=jb.mp (g:=g') (w:=w) b (hD b hd hb);rw[zW]at this;exact this
 ·have h':jb g w (.fn _ []) rv:=h;cases h' with
  |fn _ _ vs hl hr=>
   have:vs=[]:=Ja.1 hl;subst this;exact jb.fn _ [] [] rfl fun i x v h=>by simp at h
 ·have h':jb g w .Ef rv:=h;cases h';exact jb.Ef
 ·have h':jb g w .af rv:=h;cases h';exact jb.af
 ·simp at hp
theorem eJ{s s':S}{o:Oper}{v:SV}{F:Fence}{m:Nat}{next:Act->World->Prop}{Q:Exit->Act->World->Prop}(dc:jk A o=true)(h:op A call Fa s o=some (v,s'))(hw:Yb A.Ra g w s.H)(hf:Od g f w s.H s.F)(he:Ze g f w s.e a.tmps)(hF:Uw F)
  (hk:∀rv,Ee g f w v rv->next (a.put o.dst rv) w):o.wpIn F m A.P a w next Q:=by
 refine⟨fun f _=>hF.fn f,?_⟩;have hnd:∀c,o.op≠ .defer c:=fun c e=>by unfold op at h;rw[e]at h;simp at h
 rw[Oper.semAt_eq F.round a.eval o hnd];have fin:∀{rv:Value}{x:AV},v= .v x->(execOp a.eval o).run A.P w= .ok (.value rv) w->jb g w x rv->Oper.uponIn F m A.P o a next Q ((execOp a.eval o).run A.P w):=fun{rv x}hv hr hx=>by
  rw[hr];exact hk rv (by rw[hv];exact hx)
 unfold jk at dc;split at dc
 ·rename_i t x ho;unfold op at h;rw[ho]at h;simp only[aa]at h;obtain⟨p,hp,h⟩:=h;obtain⟨_,x,hx,rfl⟩:=sq h;obtain⟨rv,h1,h2⟩:=CB hx hw hf (ye hp hw he);exact fin rfl (by unfold execOp;rw[ho];simp[h1]) h2
 ·rename_i t x i ho;unfold op at h;rw[ho]at h;simp only[aa]at h;obtain⟨mv,hm,k,C9,h⟩:=h;obtain⟨_,x,hx,rfl⟩:=sq h;obtain⟨rv,h1,h2⟩:=Ev hx hw (Tb hm hw he) (Tb C9 hw he);exact fin rfl (by unfold execOp;rw[ho];simp[h1]) h2
 ·simp at dc
theorem c8{F:Fence}{m:Nat}{Q:Exit->Act->World->Prop}(hC:Pj A call)(hF:Uw F)(T:Trace A call Fa n os σ τ)(hq:Uc call)(eP:Yb A.Ra g0 w0 (σ 0).H)(inv:Inv A.Ra os σ τ n g0 f0 w0 ds L g f a w)(hD:Down os L){i:Nat}(hi:Pm os L i)
  {K:Act->World->Prop} (hK:∀g' f' a' w',Inv A.Ra os σ τ n g0 f0 w0 ds (fun j=>L j\/j=i) g' f' a' w'->K a' w'):wpOpIn F m A.P os Q i K a w:=by
 have hi1:=hi.1;have ho:os[i]?=some os[i]:=by simp[hi1]
 generalize os[i]=o at ho;obtain⟨M,hM⟩:=inv.masked T hq hD hi ho;unfold wpOpIn;simp only[ho];have OM:∀b,Vc os (σ i) o=some b->Region.wanted o (yielded os a.tmps)=b:=fun b hb=>jz (VM hb hM.e) hM.he
 rcases T.step i o ho with⟨q,v,s',hg,MB,ht,Xg⟩|⟨hg,Xg,ht⟩|⟨v,hg,Kh,ED,Xg,ht,kab,MB⟩
 ·rw[OM true hg,if_pos rfl];obtain⟨p1,p2,p3,p4⟩:=ov Xg;obtain⟨s1,h1,h2,h3,h4,h5,h6⟩:=gW MB;have bab:Wc A Fa (nD (τ i) (σ i)) o q=τ i:=by rw[mG,<- ht]
  have aH:∀x∈o.op.operands,operand A M.e x=operand A (nD (τ i) (σ i)).e x:=fun x hx=>by
   rw[eR];cases x with
   |tmp t=>simp only[operand];rw[hM.e t (If _ (List.mem_filterMap.2 ⟨.tmp t,by simpa using hx,rfl⟩))]
   |const v=>rfl
   |global gv=>rfl
   |func fv=>rfl
  obtain⟨M',Jak,st⟩:=LG (q:=q) (t:=M) hq h1 aH (fun hh=>hM.H1 (by rw[bab]at hh;exact hh)) (by rw[fR];exact hM.nj) (fun b wr hb=>by
   rw[bab]at hb;rw[fR];exact hM.F b (T.Mr hD hi ⟨wr,hb⟩))
  rw[bab]at st;have stF:=st.f;rw[fR]at stF;have hE:∀k wr,τ i= .box k wr->f.E k/\k<(σ i).F.length:=fun k wr hk=>by
   rw[ht]at hk;obtain⟨t,ht',c,hc⟩:=zR (os:=os) hk;have:=hM.he t;rw[hM.e t ht',hc]at this;exact this.1
  refine xJ hC Jak hM.hw hM.hf hM.he hF (fun ty x y Aag k c hx=> ?_) fun hse g' f' w' rv nF PM hx hv=> ?_
  ·have h0:operand A (σ i).e x=some (.loc k c):=by
    have:=aH x (by rw[Aag];simp[Op.operands]);rw[hx,eR]at this;exact this.symm
   have:τ i= .box k true:=by rw[ht];unfold Wc;rw[Aag];simp only[h0];rfl
   exact this
  ·obtain h:=inv.step T hq eP hD hi ho hM hx nF PM hv (fun d hd=>p4 d hd) (fun hh=>by rw[p2,h4,(st.h.1 hh)]) (fun hh=>(st.h.2 hh).1) (by
    have hFs:(σ (i+1)).F=s1.F:=by rw[p3,h3]
    rcases stF with⟨e1,e2⟩|⟨row,e1,e2,htn⟩|⟨k,row,hk,e1,e2,_⟩
    ·by_cases hb:∃b,τ i= .box b true
     ·obtain⟨b,hb⟩:=hb;obtain⟨hEb,yS⟩:=hE b true hb;have hMb:M.F[b]?=(σ i).F[b]?:=hM.F b (T.Mr hD hi ⟨true,hb⟩);have hr:=Aa yS;refine .inr (.inr ⟨b,(σ i).F[b],hb,?_,?_,hEb,yS⟩)
      ·rw[e2];refine List.ext_getElem? fun k=> ?_
       rw[Ob];split
       ·rename_i e;subst e;rw[if_pos (by rw[hM.nj];exact yS),hMb,hr]
       ·rfl
      ·rw[hFs,e1];refine List.ext_getElem? fun k=> ?_
       rw[Ob];split
       ·rename_i e;subst e;first|(rw[hr];simp;done)|(rw[hr];done)|(simp[yS,hr];done)|simp
       ·rfl
     ·exact .inl ⟨e2,by rw[hFs,e1],fun b ud=>hb ⟨b,ud⟩⟩
    ·refine .inr (.inl ⟨row,e2,by rw[hFs,e1],fun b hb=> ?_⟩);rw[htn]at hb;simp at hb
    ·exact .inr (.inr ⟨k,row,hk,e2,by rw[hFs,e1],hE k true hk⟩))
   exact hK _ _ _ _ h
 ·rw[OM false hg,if_neg (by simp)];refine⟨fun f _=>hF.fn f,?_⟩;obtain⟨p1,p2,p3,p4⟩:=ov Xg;exact hK _ _ _ _ (inv.step T hq eP hD hi ho hM (v:= .v (.Qc [])) (rv:=undef) (.refl _ _ _ _ _) hM.hw hM.hf (IE _ _) (fun d hd=>p4 d hd) (fun hh=>by rw[ht]at hh;simp[kf.Cc]at hh) (fun _=>rfl) (.inl ⟨rfl,p3,fun b hb=>by rw[ht]at hb;simp at hb⟩))
 ·rw[OM true hg,if_pos rfl];obtain⟨p1,p2,p3,p4⟩:=ov Xg;obtain⟨p,mV,Is,Oe⟩:=T.upto hD hi kab;obtain⟨s2,Sv⟩:=MB p mV Is;have hlen:(σ i).H.bl.length<=(σ p).H.bl.length:=(T.span hq p mV Is).len;have hle:(g.lim (σ i).H.bl.length).Le w (g.lim (σ p).H.bl.length) w:=⟨fun b hb=>⟨⟨hb.1,yb hb.2 hlen⟩,rfl⟩,fun R hR=>⟨hR,rfl⟩⟩;have hwp:=inv.heap p Is Oe;have oab:∀x∈o.op.operands,operand A M.e x=operand A (σ i).e x:=fun x hx=>by
   cases x with
   |tmp t=>simp only[operand];rw[hM.e t (If _ (List.mem_filterMap.2 ⟨.tmp t,by simpa using hx,rfl⟩))]
   |const v=>rfl
   |global gv=>rfl
   |func fv=>rfl
  have Tz:jk A o=true:=by unfold tf at Kh;simp only[Na]at Kh;exact Kh.1
  have mab:∃s3,op A call Fa ⟨M.e,M.F,(σ p).H⟩ o=some (v,s3):=by
   unfold tf at Kh;simp only[Na]at Kh;unfold jk at Tz;split at Tz
   ·rename_i t x K4;unfold op at Sv ⊢;rw[K4]at Sv Kh ⊢;simp only[aa]at Sv;obtain⟨q,hq1,Sv⟩:=Sv;have hq2:operand A (σ i).e (.tmp x)=some q:=hq1;have hme:=oab (.tmp x) (by rw[K4];simp[Op.operands]);simp only[hq2]at Kh;simp only[hme,hq2,ga];obtain⟨_,y,hy,rfl⟩:=sq Sv;refine⟨_,show Sf _ _=some (.v y,⟨M.e,M.F,(σ p).H⟩)from ?_⟩;have hl:load A ⟨M.e,M.F,(σ p).H⟩ t q=some y:=by
     revert hy
     cases q with
     |loc k c=>simp at Kh
     |v a=>cases a<;>simp at Kh;exact id
    rw[hl];rfl
   ·rename_i t x k K4;unfold op at Sv ⊢;rw[K4]at Sv ⊢;simp only[aa]at Sv;obtain⟨mv,hm,kv,C9,Sv⟩:=Sv;have e1:=oab x (by rw[K4];simp[Op.operands]);have e2:=oab k (by rw[K4];simp[Op.operands]);have hm':val A M.e x=some mv:=by rw[<- hm];simp only[val,e1]
    have lV:val A M.e k=some kv:=by rw[<- C9];simp only[val,e2]
    simp only[hm',lV,ga];obtain⟨_,y,hy,rfl⟩:=sq Sv;have Tf:lookup A (σ p).H t mv kv false=some y:=hy;exact⟨_,show Sf _ _=some (.v y,⟨M.e,M.F,(σ p).H⟩)by rw[Tf];rfl⟩
   ·simp at Tz
  obtain⟨s3,mab⟩:=mab;have kD:Od (g.lim (σ p).H.bl.length) (f.lim (σ i).F.length fun b=>τ i= .box b true) w (σ p).H M.F:=by
   refine⟨hM.hf.He,fun k row hk hr=> ?_,hM.hf.inj,fun k hk=>inv.apart k hk.1 p Is Oe⟩;obtain⟨cs,h1,h2⟩:=hM.hf.Tc k row hk hr;exact⟨cs,h1,h2.mono hle⟩
  have hep:Ze (g.lim (σ p).H.bl.length) (f.lim (σ i).F.length fun b=>τ i= .box b true) w M.e a.tmps:=fun t=>(hM.he t).mono hle fun i hi=>⟨hi,rfl⟩
  refine eJ Tz mab hwp kD hep hF fun rv hv=> ?_
  have au:Ee (g.lim (σ i).H.bl.length) (f.lim (σ i).F.length fun b=>τ i= .box b true) w v rv:=tJ (g:=g.lim (σ p).H.bl.length) ED (fun b hb tc=>⟨hb.1,tc⟩) (fun _=>rfl) hv;exact hK _ _ _ _ (inv.step T hq eP hD hi ho hM (v:=v) (rv:=rv) (.refl _ _ _ _ _) hM.hw hM.hf au (fun d hd=>p4 d hd) (fun hh=>by rw[ht]at hh;simp[kf.Cc]at hh) (fun _=>rfl) (.inl ⟨rfl,p3,fun b hb=>by rw[ht]at hb;simp at hb⟩))
def wO(A:Eh)(call:Callee)(Fa:List Nat)(n:Nat)(os:Array Oper)(b:List Nat)(i:Nat)(x:List kf)(s s1:S)(t:kf)(o:Oper)(later:SV->Prop):Prop:=
 (∃q v s',Vc os s o=some true/\LO A call Fa t s o=some (v,s')/\t=Wc A Fa s o q/\put s' n o.dst v=some s1)\/
 (Vc os s o=some false/\put s n o.dst (.v (.Qc []))=some s1/\t= .no)\/
 (∃v,Vc os s o=some true/\tf A s o=true/\Vr s.H.bl.length v=true/\put s n o.dst v=some s1/\t= .no/\VR b i x=true/\later v)
theorem uB{b:List Nat}:∀(l:List Oper)(i:Nat)(s:S)(x:List kf)(rs:List (Oper×List (Nat×SV)×SV))(s':S)(y:List kf),bh A call Fa rs s->nk A call Fa n os b l i s x rs=some (s',y)->
  ∃(σ:Nat->S)(τ:Nat->kf),σ 0=s/\σ l.length=s'/\y=x++(ua l.length).map τ/\(∀k,k<=l.length->bh A call Fa rs (σ k))/\∀k o,l[k]?=some o->
   wO A call Fa n os b (i+k) (x++(ua k).map τ) (σ k) (σ (k+1)) (τ k) o fun v=>∀k',k<=k'->k'<=l.length->∃s',op A call Fa { σ k' with e:=(σ k).e } o=some (v,s')
 |[],i,s,x,rs,s',y,tS,h=>by
  simp[nk]at h;obtain⟨rfl,rfl⟩:=h;exact⟨fun _=>s,fun _=> .no,rfl,rfl,by simp,fun _ _=>tS,fun k o h=>by simp at h⟩
 |o::l,i,s,x,rs,s',y,tS,h=>by
  simp only[nk,aa]at h;obtain⟨g,hg,h⟩:=h;have fin:∀(s1:S)(t:kf)(rs':List (Oper×List (Nat×SV)×SV)),bh A call Fa rs' s1->(∀r∈rs,r∈rs')->nk A call Fa n os b l (i+1) s1 (x++[t]) rs'=some (s',y)->
    (∀(later:SV->Prop),(∀v s0,op A call Fa s o=some (v,s0)->(o,s.e,v)∈rs'->later v)->wO A call Fa n os b i x s s1 t o later)->
    ∃(σ:Nat->S)(τ:Nat->kf),σ 0=s/\σ (o::l).length=s'/\y=x++(ua (o::l).length).map τ/\(∀k,k<=(o::l).length->bh A call Fa rs (σ k))/\∀k o',(o::l)[k]?=some o'->
     wO A call Fa n os b (i+k) (x++(ua k).map τ) (σ k) (σ (k+1)) (τ k) o' fun v=>∀k',k<=k'->k'<=(o::l).length->∃s',op A call Fa { σ k' with e:=(σ k).e } o'=some (v,s'):=fun s1 t rs' wak EW h1 h2=>by
   obtain⟨σ,τ,e0,e1,e2,e4,e3⟩:=uB l (i+1) s1 _ rs' s' y wak h1;refine⟨fun k=>match k with|0=>s|k+1=>σ k,fun k=>match k with|0=>t|k+1=>τ k,rfl,by simpa using e1,?_,fun k hk=> ?_,fun k o' hk=> ?_⟩
   ·rw[e2,List.length_cons,List.range_succ_eq_map]
    simp
   ·cases k with
    |zero=>exact tS
    |succ k=>exact fun r hr=>e4 k (by simpa using hk) r (EW r hr)
   ·cases k with
    |zero=>
     simp at hk;subst hk;have:=h2 (fun v=>∀k',0<=k'->k'<=(o::l).length->∃s',op A call Fa { (match k' with|0=>s|k+1=>σ k:S)with e:=s.e } o=some (v,s')) fun v s0 hv hm k' _ C9=>by
      cases k' with
      |zero=>exact⟨s0,hv⟩
      |succ k'=>exact e4 k' (by simpa using C9) _ hm
     simpa[e0]using this
    |succ k=>
     have:=e3 k o' (by simpa using hk);have e5:i+1+k=i+(k+1):=by omega
     have e6:x++[t]++(ua k).map τ=x++(ua (k+1)).map (fun k=>match k with|0=>t|k+1=>τ k):=by
      rw[List.range_succ_eq_map];simp
     rw[e5,e6]at this;rcases this with h|h|⟨v,a1,a2,a3,a4,a5,a6,a7⟩
     ·exact .inl h
     ·exact .inr (.inl h)
     ·refine .inr (.inr ⟨v,a1,a2,a3,a4,a5,a6,fun k' h1 h2=> ?_⟩);cases k' with
      |zero=>omega
      |succ k'=>exact a7 k' (by omega) (by simpa using h2)
  cases g with
  |true=>
   simp only at h;split at h
   ·rename_i Kh;simp only[aa]at h;obtain⟨⟨v,s1⟩,MB,h⟩:=h;simp only at h;split at h
    case isFalse=>simp at h
    rename_i ED;simp only[Na]at ED;simp only[aa]at h;obtain⟨s2,Xg,h⟩:=h;split at h
    case isFalse=>simp at h
    rename_i gg;exact fin s2 .no _ gg (fun r hr=>If _ hr) h fun later hl=> .inr (.inr ⟨v,hg,Kh,ED.1,Xg,rfl,ED.2,hl v s1 MB (by simp)⟩)
   ·simp only[aa]at h;obtain⟨⟨v,s1⟩,MB,s2,Xg,h⟩:=h;split at h
    case isFalse=>simp at h
    rename_i gg;exact fin s2 _ _ gg (fun r hr=>hr) h fun later hl=> .inl ⟨_,v,s1,hg,MB,rfl,Xg⟩
  |false=>
   simp only[aa]at h;obtain⟨s1,Xg,h⟩:=h;split at h
   case isFalse=>simp at h
   rename_i gg;exact fin s1 _ _ gg (fun r hr=>hr) h fun later hl=> .inr (.inl ⟨hg,Xg,rfl⟩)
theorem Dg{α:Type}{l:List α}{i:Nat}{x:α}(h:l[i]?=some x):(x,i)∈l.zipIdx:=by
 rw[List.mem_iff_getElem?];exact⟨i,by simp[h]⟩
theorem FG{s s':S}(h:region A call Fa n os true s=some s'):∃(σ:Nat->S)(τ:Nat->kf),σ 0=s/\σ os.size=s'/\Trace A call Fa n os σ τ/\∀j o,os[j]?=some o->∀e∈o.after,Region.binds .any e=true->e.on<j:=by
 simp only[region,if_true]at h;split at h
 case isFalse=>simp at h
 rename_i GW;simp only[aa]at h;obtain⟨⟨s1,y⟩,Iak,h⟩:=h;split at h
 case isFalse=>simp at h
 rename_i Qv;simp at h;subst h;obtain⟨σ,τ,e0,e1,e2,_,e3⟩:=uB os.toList 0 s [] [] s1 y (fun r hr=>by simp at hr) Iak;have hy:∀k,k<os.size->y[k]?=some (τ k):=fun k hk=>by rw[e2];simp[hk]
 simp only[BG,Na]at GW;obtain⟨G4,iV⟩:=GW;refine⟨σ,τ,e0,by simpa using e1,⟨fun i o ho=> ?_,fun i j oi oj hoi hoj tc=> ?_,fun i j hi hj Sc hw=> ?_⟩,fun j o ho e he hb=> ?_⟩
 ·rcases e3 i o (by simpa using ho)with h|h|⟨v,a1,a2,a3,a4,a5,a6,a7⟩
  ·exact .inl h
  ·exact .inr (.inl h)
  ·refine .inr (.inr ⟨v,a1,a2,a3,a4,a5,fun j hj hw=> ?_,fun k h1 h2=>a7 k h1 (by simpa using h2)⟩);have hm:(τ j,j)∈([]++(ua i).map τ).zipIdx:=Dg (by simp[hj]);have:=ic.1 a6 _ hm
   simpa[hw,kf.Cc,kf.writes]using this
 ·have h1:=ic.1 iV _ (Dg (l:=os.toList) (i:=j) (x:=oj) (by simpa using hoj));have h2:=ic.1 h1 _ (Dg (l:=os.toList) (i:=i) (x:=oi) (by simpa using hoi))
  simpa[tc]using h2
 ·have h1:=ic.1 Qv _ (Dg (hy j hj));simp only[hw,nh,Bool.false_or]at h1;have h2:=ic.1 h1 _ (Dg (hy i hi));simp only[Pf,Na,decide_eq_true_eq,beq_iff_eq,Bool.not_eq_true']at h2;rcases h2 with((h2|h2)|h2)|h2
  ·exact absurd h2 Sc
  ·exact .inl h2
  ·exact .inr (.inl h2)
  ·exact .inr (.inr h2)
 ·have h1:=ic.1 G4 _ (Dg (l:=os.toList) (i:=j) (x:=o) (by simpa using ho));have h2:=ic.1 h1 e (by simpa using he)
  simpa[hb]using h2
def mS(listed:Array Bool)(j:Nat):Prop:=listed.getD j false=true
theorem mE{l:List Bool}{i:Nat}(h:l[i]?=some false):0<l.countP (!·):=by
 rw[List.countP_pos_iff];exact⟨false,Db h,rfl⟩
theorem aA{l:List Bool}:∀{i:Nat},l[i]?=some false->(l.set i true).countP (!·)+1=l.countP (!·):=by
 induction l with
 |nil=>intro i h;simp at h
 |cons x l ih=>
  intro i h;cases i with
  |zero=>simp at h;subst h;simp
  |succ i=>
   have:=ih (i:=i) (by simpa using h);simp only[List.set_cons_succ,List.countP_cons];omega
theorem Q2{F:Fence}{m:Nat}{Q:Exit->Act->World->Prop}(hC:Pj A call)(hF:Uw F)(T:Trace A call Fa n os σ τ)(hq:Uc call)(eP:Yb A.Ra g0 w0 (σ 0).H)
  (ZJ:∀j o,os[j]?=some o->∀e∈o.after,Region.binds .any e=true->e.on<j)
  (Vz:∀g' f' a' w' L,Inv A.Ra os σ τ n g0 f0 w0 ds L g' f' a' w'->(∀j,j<os.size->L j)->Q .normal a' w'):
  ∀(fuel:Nat)(listed:Array Bool)(g:Gx)(f:Fx)(a:Act)(w:World),listed.size=os.size->listed.toList.countP (!·)<=fuel->Down os (mS listed)->Inv A.Ra os σ τ n g0 f0 w0 ds (mS listed) g f a w->wpAnyIn F m A.P .any os Q fuel listed a w:=by
 have gg:∀(listed:Array Bool),listed.size=os.size->Region.ready .any os listed=[]->∀j,j<os.size->mS listed j:=by
  intro listed hs hr j;induction j using Nat.strongRecOn with
  |ind j ih=>
   intro hj;unfold mS;cases hl:listed.getD j false with
   |true=>rfl
   |false=>
    exfalso;have:j∈Region.ready .any os listed:=mem_ready.2 ⟨by simp[Lr,hs,hj]at hl ⊢;exact hl,os[j],by simp[hj],fun e he hb=>ih e.on (ZJ j _ (by simp[hj]) e he hb) (by have:=ZJ j os[j] (by simp[hj]) e he hb;omega)⟩;rw[hr]at this;simp at this
 intro fuel;induction fuel with
 |zero=>
  intro listed g f a w hs hc hD inv;have hr:Region.ready .any os listed=[]:=by
   cases hr:Region.ready .any os listed with
   |nil=>rfl
   |cons i l=>
    exfalso;have hi:i∈Region.ready .any os listed:=by rw[hr];simp
    obtain⟨h1,o,ho,_⟩:=mem_ready.1 hi;have tc:=Xa ho;have:listed.toList[i]?=some false:=by simp[Lr,hs,tc]at h1;simp[hs,tc,h1]
    have:=mE this;omega
  exact⟨hr,Vz g f a w _ inv (gg listed hs hr)⟩
 |succ fuel ih=>
  intro listed g f a w hs hc hD inv;refine⟨fun hr=>Vz g f a w _ inv (gg listed hs hr),fun i hi=> ?_⟩;obtain⟨h1,o,ho,Rab⟩:=mem_ready.1 hi;have tc:=Xa ho;have Gab:listed.toList[i]?=some false:=by simp[Lr,hs,tc]at h1;simp[hs,tc,h1]
  have HM:¬mS listed i:=by unfold mS;simp[Lr,hs,tc]at h1 ⊢;exact h1
  have JW:Pm os (mS listed) i:=⟨tc,HM,fun k hk=>by
   obtain⟨e,he,hb,h⟩:=YV ho hk;have hL:=Rab e he hb;rcases h with rfl|h
   ·exact hL
   ·exact hD k e.on (by have:=ZJ i o ho e he hb;omega) hL h⟩
  have nah:(fun j=>mS listed j\/j=i)=mS (listed.setIfInBounds i true):=by
   funext j;apply propext;unfold mS;by_cases e:j=i
   ·subst e;simp[Lr,hs,tc]
   ·rw[getD_set_ne false (fun h=>e h.symm)];exact⟨fun h=>h.resolve_right e,.inl⟩
  refine c8 hC hF T hq eP inv hD JW fun g' f' a' w' cak=> ?_
  refine ih _ g' f' a' w' (by simpa using hs) ?_ ?_ ?_
  ·have:=aA Gab;rw[Array.toList_setIfInBounds];omega
  ·rw[<- nah];exact hD.add JW
  ·rw[<- nah];exact cak
theorem LU(hm:A.P.follows .mixedOrders=true):jo A:=by
 intro call Fa hC hq F m n id all g f s s' a w Q hF h dc hk;obtain⟨σ,τ,rfl,rfl,T,ZJ⟩:=FG h;refine wpIn_region_any hm ?_;have hh:({ w with drawn:=w.drawn+1 }:World).heap=w.heap:=rfl;have dab:St A.Ra g f (σ 0) n a { w with drawn:=w.drawn+1 }:=by
  refine⟨dc.hw.heap hh,dc.hf.heap hh,fun t=>(dc.he t).mono (.heap hh) fun _ h=>⟨h,rfl⟩,dc.hn,?_,dc.hW⟩;exact dc.hm.step dc.hw dc.hf (.heap hh)
 refine Q2 (g0:=g) (f0:=f) (w0:={ w with drawn:=w.drawn+1 }) (ds:=a.defers) hC hF T hq dab.hw ZJ (fun g' f' a' w' L inv hL=> ?_) all.size _ g f a _ (by simp) ?_ ?_ ?_
 ·obtain⟨f2,h1,h2⟩:=inv.finish T hq dab hL;exact hk g' f2 a' w' h1 ((Ag.heap hh).trans h2) (by rw[inv.ds];exact .refl _ _)
 ·rw[Array.toList_replicate];exact Gb List.countP_le_length (by simp)
 ·intro i j hj hL;unfold mS at hL;simp[Lr]at hL
 ·have:mS (Array.replicate all.size false)=fun _=>False:=by
   funext j;apply propext;unfold mS;simp[Lr]
  rw[this];exact Inv.start T hq dab
end
end Go.V
