/- An evaluator of the translated code and that it is right: each of its answers is an answer of the model. -/
import Derived.Test.YtjenflkegbmkkaaGreatDoorA4
import Derived.Orders
set_option linter.unusedVariables false
set_option linter.unusedSimpArgs false
set_option linter.unusedSectionVars false
open Array renaming getD→dr
open Bool renaming or_eq_true→Yh,and_eq_true→Va,not_true→Zf
open List renaming mem_cons_of_mem→Wb,length_nil→Bb,getD_eq_getElem?_getD→Ia,getElem?_append_left→Ka,getElem?_eq_none→Ab,getElem?_set→Ob,getElem?_eq_getElem→Ba,getElem?_of_mem→me,map_cons→Pd,mem_cons→Yb,getElem?_append_right→Na,replicate→Ca,getElem?_replicate→ji,mem_append_left→Df,length_eq_zero_iff→Ja,range→ua,length_cons→Jb,all_eq_true→tc,mem_of_getElem?→Nb
open Nat renaming zero_add→Re,lt_or_gt_of_ne→Lw,lt_or_ge→Vb,le_refl→va,le_trans→Ib,lt_of_lt_of_le→zb,zero_le→je,le_of_lt→ot
open Option renaming map_eq_some_iff→ia,bind_eq_some_iff→aa,bind_some→ga
namespace Go.V
open Go
theorem force_eq{α:Type}(n:Nat)(k:Nat->α):force n k=k n:=by cases n<;>rfl
theorem Tq(acc:List Nat)(i:Nat):∀es:List Edge,(bitsOf acc es).testBit i=true->∃e∈es,Region.binds .any e=true/\(e.on=i\/(acc.getD e.on 0).testBit i=true)
 |[],h=>by simp[bitsOf]at h
 |e::es,h=>by
  simp only[bitsOf]at h;split at h
  ·rename_i hb;simp only[Nat.testBit_or,Yh,Nat.testBit_two_pow,decide_eq_true_eq]at h;rcases h with(h|h)|h
   ·exact⟨e,by simp,hb,.inl h⟩
   ·exact⟨e,by simp,hb,.inr h⟩
   ·obtain⟨x,h1,h2⟩:=Tq acc i es h;exact⟨x,Wb _ h1,h2⟩
  ·obtain⟨x,h1,h2⟩:=Tq acc i es h;exact⟨x,Wb _ h1,h2⟩
theorem Vq:∀(os:List Oper)(acc:List Nat),acc <+: vk os acc
 |[],acc=>List.prefix_refl _
 |o::os,acc=>by
  simp only[vk,force_eq];exact(List.prefix_append _ _).trans (Vq os _)
theorem LF:∀(os:List Oper)(acc:List Nat)(k:Nat)(o:Oper),os[k]?=some o->
  ∃K1,K1 <+: vk os acc/\K1.length=acc.length+k/\(vk os acc)[acc.length+k]?=some (bitsOf K1 o.after.toList)
 |[],acc,k,o,h=>by simp at h
 |o'::os,acc,0,o,h=>by
  simp at h;subst h;refine⟨acc,Vq _ _,rfl,?_⟩;simp only[vk,force_eq];obtain⟨t,ht⟩:=Vq os (acc++[bitsOf acc o'.after.toList]);rw[<- ht]
  simp
 |o'::os,acc,k+1,o,h=>by
  obtain⟨K1,h1,h2,h3⟩:=LF os (acc++[bitsOf acc o'.after.toList]) k o (by simpa using h);simp only[vk,force_eq];refine⟨K1,h1,by simp at h2;omega,?_⟩;rw[<- h3];congr 1;simp;omega
theorem iV{os:Array Oper}{i j:Nat}{o:Oper}(ho:os[j]?=some o)(h:ord (vk os.toList []) i j=true):
  ∃e∈o.after,Region.binds .any e=true/\(e.on=i\/ord (vk os.toList []) i e.on=true):=by
 obtain⟨acc,h1,h2,h3⟩:=LF os.toList [] j o (by simpa using ho);simp only[Bb,Re]at h2 h3;unfold ord at h;rw[Ia,h3]at h;obtain⟨e,he,hb,h⟩:=Tq acc i _ h;refine⟨e,by simpa using he,hb,h.imp id fun h=> ?_⟩;unfold ord;rw[Ia]at h ⊢;by_cases Ac:e.on<acc.length
 ·obtain⟨t,ht⟩:=h1;rw[<- ht,Ka Ac];exact h
 ·rw[Ab (by omega)]at h;simp at h
def Down(os:Array Oper)(L:Nat->Prop):Prop:=∀i j,j<os.size->L j->ord (vk os.toList []) i j=true->L i
def xm(os:Array Oper)(L:Nat->Prop)(j:Nat):Prop:=j<os.size/\¬L j/\∀i,ord (vk os.toList []) i j=true->L i
theorem Down.add{os:Array Oper}{L:Nat->Prop}{j:Nat}(h:Down os L)(hj:xm os L j):Down os fun i=>L i\/i=j:=fun i k hk hL ho=>by
 rcases hL with hL|rfl
 ·exact .inl (h i k hk hL ho)
 ·exact .inl (hj.2.2 i ho)
inductive Z2 where
 |slot (t:Nat)
 |heap
 |box (b:Nat)
structure Trace(A:yh)(call:Callee)(Fa:List Nat)(n:Nat)(os:Array Oper)(σ:Nat->S)(τ:Nat->qf):Prop where
 step:∀i o,os[i]?=some o->
  (∃q v s',Yc os (σ i) o=some true/\TN A call Fa (τ i) (σ i) o=some (v,s')/\τ i=Zc A Fa (σ i) o q/\put s' n o.dst v=some (σ (i+1)))\/
  (Yc os (σ i) o=some false/\put (σ i) n o.dst (.v (.Sc []))=some (σ (i+1))/\τ i= .no)\/
  (∃v,Yc os (σ i) o=some true/\yf A (σ i) o=true/\Ar (σ i).H.bl.length v=true/\put (σ i) n o.dst v=some (σ (i+1))/\τ i= .no/\(∀j,j<i->τ j= .heap true->ord (vk os.toList []) j i=true)/\
   ∀k,i<=k->k<=os.size->∃s',op A call Fa { σ k with e:=(σ i).e } o=some (v,s'))
 ON:∀i j oi oj,os[i]?=some oi->os[j]?=some oj->i<j->ord (vk os.toList []) i j=true\/oi.apart os oj=true
 UF:∀i j,i<os.size->j<os.size->i≠j->(τ j).writes=true->(i<j/\ord (vk os.toList []) i j=true)\/(j<i/\ord (vk os.toList []) j i=true)\/conflict (τ i) (τ j)=false
def Wr(os:Array Oper)(τ:Nat->qf)(j:Nat):Z2->Prop
 | .slot t=>∃o,os[j]?=some o/\o.dst=some t
 | .heap=>τ j= .heap true
 | .box b=>τ j= .box b true
def Us(os:Array Oper)(τ:Nat->qf)(j:Nat):Z2->Prop
 | .slot t=>∃o,os[j]?=some o/\(o.dst=some t\/t∈o.looksAt os)
 | .heap=>(τ j).Fc=true
 | .box b=>∃w,τ j= .box b w
section
variable {A:yh}{call:Callee}{Fa:List Nat}{n:Nat}{os:Array Oper}{σ:Nat->S}{τ:Nat->qf}{L:Nat->Prop}
theorem Wr.us{j:Nat}{c:Z2}(h:Wr os τ j c):Us os τ j c:=by
 cases c with
 |slot t=>obtain⟨o,h1,h2⟩:=h;exact⟨o,h1,.inl h2⟩
 |heap=>simp only[Wr]at h;simp only[Us,h,qf.Fc]
 |box b=>exact⟨true,h⟩
theorem Trace.order(T:Trace A call Fa n os σ τ){i j:Nat}{c:Z2}(hi:i<os.size)(hj:j<os.size)(Uc:i≠j)(hw:Wr os τ j c)(hu:Us os τ i c):
  (i<j/\ord (vk os.toList []) i j=true)\/(j<i/\ord (vk os.toList []) j i=true):=by
 cases c with
 |slot t=>
  obtain⟨oj,hoj,hd⟩:=hw;obtain⟨oi,hoi,hu⟩:=hu;rcases Lw Uc with h|h
  ·rcases T.ON i j oi oj hoi hoj h with h1|h1
   ·exact .inl ⟨h,h1⟩
   ·exfalso;obtain⟨k1,k2,k3⟩:=Oper.apart_spec h1;rcases hu with hu|hu
    ·exact k2 t hu hd
    ·exact k3 t hd hu
  ·rcases T.ON j i oj oi hoj hoi h with h1|h1
   ·exact .inr ⟨h,h1⟩
   ·exfalso;obtain⟨k1,k2,k3⟩:=Oper.apart_spec h1;rcases hu with hu|hu
    ·exact k2 t hd hu
    ·exact k1 t hd hu
 |heap=>
  simp only[Wr]at hw;rcases T.UF i j hi hj Uc (by rw[hw];rfl)with h|h|h
  ·exact .inl h
  ·exact .inr h
  ·exfalso;simp only[Us]at hu;rw[hw]at h;cases hτ:τ i with
   |heap w=>rw[hτ]at h;simp[conflict]at h
   |no=>rw[hτ]at hu;simp[qf.Fc]at hu
   |box b w=>rw[hτ]at hu;simp[qf.Fc]at hu
 |box b=>
  simp only[Wr]at hw;rcases T.UF i j hi hj Uc (by rw[hw];rfl)with h|h|h
  ·exact .inl h
  ·exact .inr h
  ·exfalso;obtain⟨w,hu⟩:=hu;rw[hw,hu]at h;simp[conflict]at h
def Zs(os:Array Oper)(τ:Nat->qf)(L:Nat->Prop)(p:Nat)(c:Z2):Prop:=
 (∀j,j<os.size->j<p->¬L j->¬Wr os τ j c)/\(∀j,j<os.size->p<=j->L j->¬Wr os τ j c)
theorem Trace.gr(T:Trace A call Fa n os σ τ)(hD:Down os L){i:Nat}(hi:xm os L i){c:Z2}(hu:Us os τ i c):Zs os τ L i c:=by
 refine⟨fun j hj Ac Lj hw=> ?_,fun j hj hle hl hw=> ?_⟩
 ·rcases T.order hi.1 hj (by omega) hw hu with h|h
  ·omega
  ·exact Lj (hi.2.2 j h.2)
 ·have Uc:i≠j:=fun e=>hi.2.1 (e ▸ hl)
  rcases T.order hi.1 hj Uc hw hu with h|h
  ·exact hi.2.1 (hD i j hj hl h.2)
  ·omega
theorem Zs.before{i p:Nat}{c:Z2}(h:Zs os τ (fun j=>L j\/j=i) p c)(hn:¬Wr os τ i c):Zs os τ L p c:=by
 refine⟨fun j hj Ac Lj hw=> ?_,fun j hj hle hl=>h.2 j hj hle (.inl hl)⟩;by_cases e:j=i
 ·exact hn (e ▸ hw)
 ·exact h.1 j hj Ac (fun h=>h.elim Lj e) hw
theorem Zs.after{i p:Nat}{c:Z2}(hi:i<os.size)(h:Zs os τ (fun j=>L j\/j=i) p c)(hw:Wr os τ i c):i<p:=by
 rcases Vb i p with h1|h1
 ·exact h1
 ·exact absurd hw (h.2 i hi h1 (.inr rfl))
theorem Trace.eo(T:Trace A call Fa n os σ τ)(hD:Down os L){i p:Nat}(hi:xm os L i){c:Z2}(hu:Us os τ i c)(h:Zs os τ (fun j=>L j\/j=i) p c)(j:Nat)(hj:j<os.size)(h1:i<j)(h2:j<p):¬Wr os τ j c:=fun hw=>by
 by_cases hl:L j
 ·rcases T.order hi.1 hj (by omega) hw hu with h|h
  ·exact hi.2.1 (hD i j hj hl h.2)
  ·omega
 ·exact h.1 j hj h2 (fun h=>h.elim hl (by omega)) hw
structure Left(os:Array Oper)(σ:Nat->S)(τ:Nat->qf)(i:Nat):Prop where
 e:∀t,¬Wr os τ i (.slot t)->get (σ (i+1)).e t=get (σ i).e t
 wm:(σ (i+1)).H.wm=(σ i).H.wm
 len:(σ i).H.bl.length<=(σ (i+1)).H.bl.length
 H:(τ i).Fc=false->(σ (i+1)).H=(σ i).H
 bl:τ i≠ .heap true->∀b,b<(σ i).H.bl.length->(σ (i+1)).H.bl[b]?=(σ i).H.bl[b]?
 low:∀b,b<(σ i).H.wm->b<(σ i).H.bl.length->(σ (i+1)).H.bl[b]?=(σ i).H.bl[b]?
 bj:(σ i).F.length<=(σ (i+1)).F.length
 F:∀b,b<(σ i).F.length->τ i≠ .box b true->(σ (i+1)).F[b]?=(σ i).F[b]?
 row:∀(b:Nat)(r r':List AV),(σ i).F[b]?=some r->(σ (i+1)).F[b]?=some r'->r'.length=r.length
theorem Ru{s s':S}{n:Nat}{dst:Option Nat}{v:SV}(h:put s n dst v=some s'):(∀t,dst≠some t->get s'.e t=get s.e t)/\s'.H=s.H/\s'.F=s.F/\∀d,dst=some d->d<n/\get s'.e d=v:=by
 unfold put at h;split at h
 ·simp at h;subst h;exact⟨fun _ _=>rfl,rfl,rfl,fun d hd=>by simp at hd⟩
 ·rename_i d;split at h
  ·rename_i hd;simp at h;subst h;refine⟨fun t ht=> ?_,rfl,rfl,fun d' zU=> ?_⟩
   ·simp only[get];rw[if_neg (fun e=>ht (by rw[e]))]
   ·simp at zU;subst zU;exact⟨hd,by simp[get]⟩
  ·simp at h
def SC(t:qf)(s:S):S:=
 match t with
 | .heap true=>s
 |_=>{ s with H:={ s.H with wm:=s.H.bl.length } }
theorem oV{t:qf}{s s':S}{o:Oper}{v:SV}(h:TN A call Fa t s o=some (v,s')):
  ∃s1,op A call Fa (SC t s) o=some (v,s1)/\s'.e=s1.e/\s'.F=s1.F/\s'.H.bl=s1.H.bl/\(t= .heap true->s'=s1)/\(t≠ .heap true->s'.H.wm=s.H.wm):=by
 have hm:(op A call Fa { s with H:={ s.H with wm:=s.H.bl.length } } o).map (fun(v,s')=>(v,{ s' with H:={ s'.H with wm:=s.H.wm } }))=some (v,s')->
   ∃s1,op A call Fa { s with H:={ s.H with wm:=s.H.bl.length } } o=some (v,s1)/\s'.e=s1.e/\s'.F=s1.F/\s'.H.bl=s1.H.bl/\s'.H.wm=s.H.wm:=fun h=>by
  simp only[ia]at h;obtain⟨⟨u,s1⟩,h1,h⟩:=h;simp at h;obtain⟨rfl,rfl⟩:=h;exact⟨s1,h1,rfl,rfl,rfl,rfl⟩
 unfold TN at h;split at h
 ·exact⟨s',h,rfl,rfl,rfl,fun _=>rfl,fun h=>absurd rfl h⟩
 ·rename_i Uc;obtain⟨s1,h1,h2,h3,h4,h5⟩:=hm h;refine⟨s1,?_,h2,h3,h4,fun h=>absurd h Uc,fun _=>h5⟩;unfold SC;split
  ·exact absurd rfl Uc
  ·exact h1
theorem sQ(t:qf)(s:S):(SC t s).e=s.e:=by unfold SC;split<;>rfl
theorem tQ(t:qf)(s:S):(SC t s).F=s.F:=by unfold SC;split<;>rfl
theorem Uq(t:qf)(s:S):(SC t s).H.bl=s.H.bl:=by unfold SC;split<;>rfl
theorem CC{t:qf}{s:S}(h:t≠ .heap true):(SC t s).H.wm=s.H.bl.length:=by unfold SC;split;exact absurd rfl h;rfl
theorem JF(t:qf)(s:S)(o:Oper)(q:Bool):Zc A Fa (SC t s) o q=Zc A Fa s o q:=by unfold Zc;simp only[sQ]
theorem Trace.left(T:Trace A call Fa n os σ τ)(hq:Wc call){i:Nat}(hi:i<os.size):Left os σ τ i:=by
 have ho:os[i]?=some os[i]:=by simp[hi]
 generalize os[i]=o at ho;have p5:∀t,¬Wr os τ i (.slot t)->o.dst≠some t:=fun t hn hd=>hn ⟨o,ho,hd⟩
 have HR:∀{v:SV},put (σ i) n o.dst v=some (σ (i+1))->τ i= .no->Left os σ τ i:=fun{v}Wg ht=>by
  obtain⟨p1,p2,p3,p4⟩:=Ru Wg;refine⟨fun t hn=>p1 t (p5 t hn),by rw[p2],by rw[p2];exact va _,fun _=>p2,fun _ b _=>by rw[p2],fun b _ _=>by rw[p2],by rw[p3];exact va _,fun b _ _=>by rw[p3],fun b r r' hr Ql=> ?_⟩;rw[p3,hr]at Ql;simp at Ql;rw[Ql]
 rcases T.step i o ho with⟨q,v,s',hg,CB,ht,Wg⟩|⟨hg,Wg,ht⟩|⟨v,_,_,_,Wg,ht,_⟩
 ·obtain⟨p1,p2,p3,p4⟩:=Ru Wg;obtain⟨s1,h1,h2,h3,h4,h5,h6⟩:=oV CB;obtain⟨t',_,st⟩:=lG (q:=q) (t:=SC (τ i) (σ i)) hq h1 (fun _ _=>rfl) (fun _=>rfl) rfl (fun _ _ _=>rfl);rw[JF,<- ht]at st;obtain⟨q1,q2,q3⟩:=st.q;rw[Uq]at q2 q3;have Hu:(σ (i+1)).H.bl=s1.H.bl:=by rw[p2,h4]
  have ag:(σ (i+1)).H.wm=(σ i).H.wm:=by
   rw[p2];by_cases hw:τ i= .heap true
   ·rw[h5 hw,q1,hw];rfl
   ·exact h6 hw
  have GV:(σ i).H.wm<=(SC (τ i) (σ i)).H.wm\/True:= .inr trivial;have yaa:∀b,b<(SC (τ i) (σ i)).H.wm->b<(σ i).H.bl.length->(σ (i+1)).H.bl[b]?=(σ i).H.bl[b]?:=fun b hb hl=>by rw[Hu];exact q3 b hb hl
  have hF:=st.f;rw[tQ]at hF;have hF1:(σ (i+1)).F=s1.F:=by rw[p3,h3]
  rw[<- hF1]at hF;refine⟨fun t hn=> ?_,ag,by rw[Hu];exact q2,fun hh=> ?_,fun Uc b hb=>yaa b (by rw[CC Uc];exact hb) hb,fun b hb hl=> ?_,?_,fun b hb Uc=> ?_,fun b r r' hr Ql=> ?_⟩
  ·rw[p1 t (p5 t hn),h2,st.e1,sQ]
  ·have:=(st.h.2 hh).2;have Uc:τ i≠ .heap true:=fun e=>by rw[e]at hh;simp[qf.Fc]at hh
   have e1:(σ (i+1)).H.bl=(σ i).H.bl:=by rw[Hu,this,Uq]
   cases hx:(σ (i+1)).H with
   |mk bl wm=>
    cases hy:(σ i).H with
    |mk l7 wm'=>
     rw[hx,hy]at e1 ag;simp at e1 ag;rw[e1,ag]
  ·by_cases hw:τ i= .heap true
   ·exact yaa b (by rw[hw];exact hb) hl
   ·exact yaa b (by rw[CC hw];exact hl) hl
  ·rcases hF with⟨e,_⟩|⟨row,e,_⟩|⟨k,row,_,e,_⟩<;>rw[e]<;>simp
  ·rcases hF with⟨e,_⟩|⟨row,e,_⟩|⟨k,row,hk,e,_⟩
   ·rw[e]
   ·rw[e,Ka hb]
   ·rw[e,List.getElem?_set_ne (fun e'=>Uc (by rw[<- e'];exact hk))]
  ·have tJ:b<(σ i).F.length:=by rcases Vb b (σ i).F.length with h|h;exact h;simp[Ab h]at hr
   rcases hF with⟨e,_⟩|⟨row,e,_⟩|⟨k,row,hk,e,_,wG⟩
   ·rw[e,hr]at Ql;simp at Ql;rw[Ql]
   ·rw[e,Ka tJ,hr]at Ql;simp at Ql;rw[Ql]
   ·rw[e,Ob]at Ql;split at Ql
    ·rename_i e';subst e';rw[if_pos tJ]at Ql;simp at Ql;subst Ql;exact wG r hr
    ·rw[hr]at Ql;simp at Ql;rw[Ql]
 ·exact HR Wg ht
 ·exact HR Wg ht
structure Span(os:Array Oper)(σ:Nat->S)(τ:Nat->qf)(p q:Nat):Prop where
 wm:(σ q).H.wm=(σ p).H.wm
 len:(σ p).H.bl.length<=(σ q).H.bl.length
 bj:(σ p).F.length<=(σ q).F.length
 slot:∀t,(∀j,p<=j->j<q->¬Wr os τ j (.slot t))->get (σ q).e t=get (σ p).e t
 heap:(∀j,p<=j->j<q->¬Wr os τ j .heap)->∀b,b<(σ p).H.bl.length->(σ q).H.bl[b]?=(σ p).H.bl[b]?
 low:∀b,b<(σ p).H.wm->b<(σ p).H.bl.length->(σ q).H.bl[b]?=(σ p).H.bl[b]?
 box:∀b,b<(σ p).F.length->(∀j,p<=j->j<q->¬Wr os τ j (.box b))->(σ q).F[b]?=(σ p).F[b]?
 row:∀(b:Nat)(r r':List AV),(σ p).F[b]?=some r->(σ q).F[b]?=some r'->r'.length=r.length
 E7:∀b,(σ p).H.bl.length<=b->b<(σ q).H.bl.length->∃j,p<=j/\j<q/\(σ j).H.bl.length<=b/\b<(σ (j+1)).H.bl.length
theorem Trace.span(T:Trace A call Fa n os σ τ)(hq:Wc call){p:Nat}:∀q,p<=q->q<=os.size->Span os σ τ p q
 |0,h,_=>by
  obtain rfl:p=0:=by omega
  exact⟨rfl,va _,va _,fun _ _=>rfl,fun _ _ _=>rfl,fun _ _ _=>rfl,fun _ _ _=>rfl,fun b r r' h h'=>by rw[h]at h';simp at h';rw[h'],fun b h h'=>by omega⟩
 |q+1,h,hs=>by
  by_cases e:p=q+1
  ·subst e;exact⟨rfl,va _,va _,fun _ _=>rfl,fun _ _ _=>rfl,fun _ _ _=>rfl,fun _ _ _=>rfl,fun b r r' h h'=>by rw[h]at h';simp at h';rw[h'],fun b h h'=>by omega⟩
  ·have ih:=T.span hq (p:=p) q (by omega) (by omega);have l:=T.left hq (i:=q) (by omega);refine⟨l.wm.trans ih.wm,Ib ih.len l.len,Ib ih.bj l.bj,fun t ht=> ?_,fun hh b hb=> ?_,fun b hb hl=> ?_,fun b hb hh=> ?_,fun b r r' hr Ql=> ?_,fun b h1 h2=> ?_⟩
   ·exact(l.e t (ht q (by omega) (by omega))).trans (ih.slot t fun j h1 h2=>ht j h1 (by omega))
   ·exact(l.bl (hh q (by omega) (by omega)) b (zb hb ih.len)).trans (ih.heap (fun j h1 h2=>hh j h1 (by omega)) b hb)
   ·exact(l.low b (by rw[ih.wm];exact hb) (zb hl ih.len)).trans (ih.low b hb hl)
   ·exact(l.F b (zb hb ih.bj) (hh q (by omega) (by omega))).trans (ih.box b hb fun j h1 h2=>hh j h1 (by omega))
   ·have hb:b<(σ p).F.length:=by rcases Vb b (σ p).F.length with h|h;exact h;simp[Ab h]at hr
    have uJ:b<(σ q).F.length:=zb hb ih.bj;have hm:(σ q).F[b]?=some (σ q).F[b]:=Ba uJ;exact(l.row b _ r' hm Ql).trans (ih.row b r _ hr hm)
   ·by_cases h3:b<(σ q).H.bl.length
    ·obtain⟨j,k1,k2,k3⟩:=ih.E7 b h1 h3;exact⟨j,k1,by omega,k3⟩
    ·exact⟨q,by omega,by omega,by omega,h2⟩
end
end Go.V
namespace Go.V
open Go
def Gx.lim(g:Gx)(m:Nat):Gx:={ g with D:=fun b=>g.D b/\b<m }
def Fx.lim(f:Fx)(m:Nat)(W:Nat->Prop):Fx:={ E:=fun b=>f.E b/\b<m,φ:=f.φ,W:=W }
theorem pG{g:Gx}{H H':AH}{b:Nat}(h:live g H b)(e:H'.bl=H.bl):live g H' b:=⟨h.1,by rw[e];exact h.2⟩
theorem S1{g:Gx}{H H':AH}{R:Nat}(h:Fp g H R)(e:H'.bl=H.bl):Fp g H' R:=let⟨b,h1,h2⟩:=h;⟨b,pG h1 e,h2⟩
theorem dc.wm{G:Nat->Option (List AV)}{g:Gx}{w:World}{H H':AH}(h:dc G g w H)(e:H'.bl=H.bl):dc G g w H':=
 ⟨h.Pa,fun b hb=>by rw[e];exact h.Ie b hb,fun b x hd hx=>h.Vc b x hd (by rw[<- e];exact hx),fun b b' hb Ld=>h.inj b b' (pG hb e.symm) (pG Ld e.symm),h.Eu⟩
theorem dc.carry{G:Nat->Option (List AV)}{g g':Gx}{w w':World}{H:AH}(h:dc G g w H)(hle:g.Le w g' w')(hD:∀b,g'.D b->g.D b)
  (jc:∀b,live g H b->w'.heap[(g.ρ b).R]?=w.heap[(g.ρ b).R]?) (hZ:∀b,live g H b->¬g'.Z (g.ρ b).R) (hz:∀R,g'.Z R->R<w'.heap.size):dc G g' w' H:=by
 have EV:∀b,g'.D b->g'.ρ b=g.ρ b:=fun b hb=>(hle.D b (hD b hb)).2
 have hl:∀b,live g' H b->live g H b:=fun b hb=>⟨hD b hb.1,hb.2⟩
 refine⟨fun i row hg=>(h.Pa i row hg).mono hle,fun b hb=>h.Ie b (hD b hb),fun b x hd hx=> ?_,fun b b' hb Ld Uc=> ?_,hz⟩
 ·rw[EV b hd];exact(h.Vc b x (hD b hd) hx).le hle (fun hv=>jc b ⟨hD b hd,x,hx,hv⟩) (fun hv=>hZ b ⟨hD b hd,x,hx,hv⟩)
 ·rw[EV b hb.1,EV b' Ld.1];exact h.inj b b' (hl b hb) (hl b' Ld) Uc
structure Inv(G:Nat->Option (List AV))(os:Array Oper)(σ:Nat->S)(τ:Nat->qf)(n:Nat)(g0:Gx)(f0:Fx)(w0:World)(ds:List Deferred)(L:Nat->Prop)(g:Gx)(f:Fx)(a:Act)(w:World):Prop where
 n:a.tmps.size=n
 ds:a.defers=ds
 slot:∀p,p<=os.size->∀t,Zs os τ L p (.slot t)->Fe (g.lim (σ p).H.bl.length) (f.lim (σ p).F.length fun _=>True) w (get (σ p).e t) (a.tmps.getD t undef)
 heap:∀p,p<=os.size->Zs os τ L p .heap->dc G (g.lim (σ p).H.bl.length) w (σ p).H
 Pa:∀i row,G i=some row->Ro (g.lim (σ 0).H.bl.length) w i row
 Eu:∀R,g.Z R->R<w.heap.size
 box:∀b,f.E b->∃cs,Row g w (f.φ b) cs.size cs/\(∀v∈cs.toList,v.oneCell'=true)/\∀p,p<=os.size->∀row,(σ p).F[b]?=some row->cs.size=row.length/\(Zs os τ L p (.box b)->Ye (g.lim (σ p).H.bl.length) w cs 0 row)
 o7:∀b b',f.E b->f.E b'->b≠b'->f.φ b≠f.φ b'
 apart:∀b,f.E b->∀p,p<=os.size->Zs os τ L p .heap->¬Fp (g.lim (σ p).H.bl.length) (σ p).H (f.φ b)
 DG:∀j,j<os.size->¬L j->∀b,(σ j).H.bl.length<=b->b<(σ (j+1)).H.bl.length->¬g.D b
 kM:∀j,j<os.size->¬L j->∀b,(σ j).F.length<=b->b<(σ (j+1)).F.length->¬f.E b
 zah:∀b,g.D b->b<(σ os.size).H.bl.length
 yah:∀b,f.E b->b<(σ os.size).F.length
 wr:∀j,j<os.size->L j->∀b,τ j= .box b true->f.E b
 fD:∀b,g0.D b->g.D b/\g.ρ b=g0.ρ b
 zW:∀b,g.D b->g0.D b\/(σ 0).H.bl.length<=b
 fZ:∀R,g0.Z R->g.Z R
 J8:∀R,g.Z R->g0.Z R\/Fp g0 (σ 0).H R\/w0.heap.size<=R
 fFp:∀p,p<=os.size->Zs os τ L p .heap->∀R,Fp (g.lim (σ p).H.bl.length) (σ p).H R->Fp g0 (σ 0).H R\/w0.heap.size<=R
 fE:∀b,f0.E b->f.E b/\f.φ b=f0.φ b
 yW:∀b,f.E b->f0.E b\/(σ 0).F.length<=b
 fφ:∀b,f.E b->¬f0.E b->w0.heap.size<=f.φ b
 Fk:∀R,R<w0.heap.size->¬Fp g0 (σ 0).H R->(∀b,f0.E b->f0.φ b≠R)->w.heap[R]?=w0.heap[R]?
 size:w0.heap.size<=w.heap.size
 still:∀b,b<(σ 0).H.wm->live g0 (σ 0).H b->w.heap[(g0.ρ b).R]?=w0.heap[(g0.ρ b).R]?/\∀b',f.E b'->f.φ b'≠(g0.ρ b).R
 io:w.os=w0.os/\w.output=w0.output
section
variable {A:yh}{call:Callee}{Fa:List Nat}{n:Nat}{os:Array Oper}{σ:Nat->S}{τ:Nat->qf}{L:Nat->Prop}{g0 g:Gx}{f0 f:Fx}{w0 w:World}{ds:List Deferred}{a:Act}
theorem Inv.x3(inv:Inv A.Pa os σ τ n g0 f0 w0 ds L g f a w){b:Nat}(hb:f.E b):f.φ b<w.heap.size:=by
 obtain⟨cs,⟨T,fz,hR,_⟩,_⟩:=inv.box b hb;exact Za hR
theorem Inv.u_(inv:Inv A.Pa os σ τ n g0 f0 w0 ds L g f a w){b:Nat}(hb:f.E b):¬g.Z (f.φ b):=by
 obtain⟨cs,⟨T,fz,hR,_,_,hz⟩,_⟩:=inv.box b hb;exact hz
theorem Inv.start(T:Trace A call Fa n os σ τ)(hq:Wc call)(jc:St A.Pa g0 f0 (σ 0) n a w0):Inv A.Pa os σ τ n g0 f0 w0 a.defers (fun _=>False) g0 f0 a w0:=by
 have zf:∀p,p<=os.size->Span os σ τ 0 p:=fun p hp=>T.span hq p (je _) hp
 have HR:∀{p:Nat}{c:Z2},p<=os.size->Zs os τ (fun _=>False) p c->∀j,0<=j->j<p->¬Wr os τ j c:=fun hp hv j _ hj=>hv.1 j (by omega) hj (fun h=>h)
 have W4:∀p,p<=os.size->g0.Le w0 (g0.lim (σ p).H.bl.length) w0:=fun p hp=>⟨fun b hb=>⟨⟨hb,zb (jc.hw.Ie b hb) (zf p hp).len⟩,rfl⟩,fun R hR=>⟨hR,rfl⟩⟩
 have Hu:∀p,p<=os.size->Zs os τ (fun _=>False) p .heap->∀b,g0.D b->(σ p).H.bl[b]?=(σ 0).H.bl[b]?:=fun p hp hv b hb=>(zf p hp).heap (HR hp hv) b (jc.hw.Ie b hb)
 have QC:∀p,p<=os.size->Zs os τ (fun _=>False) p .heap->∀R,Fp (g0.lim (σ p).H.bl.length) (σ p).H R->Fp g0 (σ 0).H R:=fun p hp hv R⟨b,hl,e⟩=>
  ⟨b,⟨hl.1.1,by rw[<- Hu p hp hv b hl.1.1];exact hl.2⟩,e⟩
 refine⟨jc.hn,rfl,fun p hp t hv=> ?_,fun p hp hv=> ?_,fun i row hg=> ?_,jc.hw.Eu,fun b hb=> ?_,jc.hf.inj,fun b hb p hp hv h=>jc.hf.apart b hb (QC p hp hv _ h),fun j hj _ b h1 _ hb=> ?_,fun j hj _ b h1 _ hb=> ?_,
  fun b hb=>zb (jc.hw.Ie b hb) (zf _ (va _)).len,fun b hb=>zb (jc.hf.Ie b hb) (zf _ (va _)).bj,fun _ _ h=>h.elim,fun _ h=>⟨h,rfl⟩,fun _ h=> .inl h,fun _ h=>h,fun _ h=> .inl h,
  fun p hp hv R h=> .inl (QC p hp hv R h),fun _ h=>⟨h,rfl⟩,fun _ h=> .inl h,fun _ h h'=>absurd h h',fun _ _ _ _=>rfl,va _,fun b _ hl=>⟨rfl,fun b' Ld e=>jc.hf.apart b' Ld ⟨b,hl,e.symm⟩⟩,⟨rfl,rfl⟩⟩
 ·rw[(zf p hp).slot t (HR hp hv)];exact Fe.mono (f':=f0.lim (σ p).F.length fun _=>True) (W4 p hp) (fun i hi=>⟨⟨hi,zb (jc.hf.Ie i hi) (zf p hp).bj⟩,rfl⟩) (jc.he t)
 ·have h1:=jc.hw.carry (g':=g0.lim (σ p).H.bl.length) (W4 p hp) (fun b hb=>hb.1) (fun _ _=>rfl) (fun b hb=>jc.hw.Vm hb) jc.hw.Eu;refine⟨h1.Pa,fun b hb=>hb.2,fun b x hd hx=>h1.Vc b x hd (by rw[<- Hu p hp hv b hd.1];exact hx),fun b b' hb Ld=>h1.inj b b' ⟨hb.1,by rw[<- Hu p hp hv b hb.1.1];exact hb.2⟩ ⟨Ld.1,by rw[<- Hu p hp hv b' Ld.1.1];exact Ld.2⟩,h1.Eu⟩
 ·exact(jc.hw.Pa i row hg).mono (W4 0 (je _))
 ·have Ac:=jc.hf.Ie b hb;have hr:=Ba Ac;obtain⟨cs,⟨T',fz,hR,hs,hz⟩,Tk⟩:=jc.hf.Vc b _ hb hr;refine⟨cs,⟨T',fz,hR,rfl,by rw[hs];exact hz⟩,fun v hv=> ?_,fun p hp row sd=> ?_⟩
  ·obtain⟨c,hc⟩:=me hv;have Mn:c<((σ 0).F[b]).length:=by rw[<- hs];have:=Za (a:=cs) (i:=c) (x:=v) (by simpa using hc);exact this
   obtain⟨u,h1,h2,_⟩:=Tk c _ (Ba Mn);rw[Re]at h1;have:cs.toList[c]?=cs[c]?:=by simp
   rw[this,h1]at hc;simp at hc;subst hc;exact h2
  ·refine⟨?_,fun hv=> ?_⟩
   ·rw[hs];exact((zf p hp).row b _ _ hr sd).symm
   ·rw[(zf p hp).box b Ac (HR hp hv),hr]at sd;simp at sd;subst sd;exact Tk.mono (W4 p hp)
 ·have:=jc.hw.Ie b hb;have:=(zf j (by omega)).len;omega
 ·have:=jc.hf.Ie b hb;have:=(zf j (by omega)).bj;omega
end
end Go.V
namespace Go.V
open Go
theorem rq(e:List (Nat×SV)):∀(l:List Nat)(t:Nat),t∈l->get (l.map fun i=>(i,get e i)) t=get e t
 |[],t,h=>by simp at h
 |i::l,t,h=>by
  simp only[Pd,get];split
  ·rename_i e0;rw[e0]
  ·rename_i e0;exact rq e l t ((Yb.1 h).resolve_left e0)
theorem Xy(e:List (Nat×SV)):∀(l:List Nat)(t:Nat),t∉l->get (l.map fun i=>(i,get e i)) t= .v .Sb
 |[],t,h=>rfl
 |i::l,t,h=>by
  simp only[Pd,get];rw[if_neg (fun e0=>h (by simp[e0]))];exact Xy e l t (fun h'=>h (Wb _ h'))
theorem lz{α:Type}(Q:Nat->α->Prop):∀m:Nat,(∀k,k<m->∃x,Q k x)->∃l:List α,l.length=m/\∀k x,l[k]?=some x->Q k x
 |0,_=>⟨[],rfl,fun k x h=>by simp at h⟩
 |m+1,h=>by
  obtain⟨l,h1,h2⟩:=lz Q m fun k hk=>h k (by omega)
  obtain⟨x,hx⟩:=h m (by omega);refine⟨l++[x],by simp[h1],fun k y hk=> ?_⟩;rcases Nat.lt_trichotomy k m with Ac|rfl|hgt
  ·rw[Ka (by omega)]at hk;exact h2 k y hk
  ·rw[Na (by omega)]at hk;simp[h1]at hk;subst hk;exact hx
  ·rw[Ab (by simp;omega)]at hk;simp at hk
structure Q1(G:Nat->Option (List AV))(os:Array Oper)(σ:Nat->S)(τ:Nat->qf)(L:Nat->Prop)(g:Gx)(f:Fx)(a:Act)(w:World)(i:Nat)(o:Oper)(M:S):Prop where
 wm:M.H.wm=(SC (τ i) (σ i)).H.wm
 len:M.H.bl.length=(σ i).H.bl.length
 H1:(τ i).Fc=true->M.H=(SC (τ i) (σ i)).H
 H0:(τ i).Fc=false->∀(b:Nat)(x:AB),M.H.bl[b]?=some x->x=AB.dead
 bj:M.F.length=(σ i).F.length
 F:∀b,Zs os τ L i (.box b)->M.F[b]?=(σ i).F[b]?
 row:∀(b:Nat)(r r':List AV),M.F[b]?=some r->(σ i).F[b]?=some r'->r.length=r'.length
 e:∀t,t∈o.looksAt os->get M.e t=get (σ i).e t
 hw:dc G (g.lim (σ i).H.bl.length) w M.H
 hf:Td (g.lim (σ i).H.bl.length) (f.lim (σ i).F.length fun b=>τ i= .box b true) w M.H M.F
 he:Ze (g.lim (σ i).H.bl.length) (f.lim (σ i).F.length fun b=>τ i= .box b true) w M.e a.tmps
section
variable {A:yh}{call:Callee}{Fa:List Nat}{n:Nat}{os:Array Oper}{σ:Nat->S}{τ:Nat->qf}{L:Nat->Prop}{g0 g:Gx}{f0 f:Fx}{w0 w:World}{ds:List Deferred}{a:Act}{i:Nat}{o:Oper}
theorem Inv.masked(T:Trace A call Fa n os σ τ)(hq:Wc call)(inv:Inv A.Pa os σ τ n g0 f0 w0 ds L g f a w)(hD:Down os L)(hi:xm os L i)(ho:os[i]?=some o):∃M,Q1 A.Pa os σ τ L g f a w i o M:=by
 have hN:i<=os.size:=ot hi.1;obtain⟨F,hFl,hF⟩:=lz (fun b(row:List AV)=>∀r,(σ i).F[b]?=some r->row.length=r.length/\(Zs os τ L i (.box b)->row=r)/\(¬Zs os τ L i (.box b)->∀c x,row[c]?=some x->x=AV.Sb)) (σ i).F.length (fun b hb=>by
  by_cases hv:Zs os τ L i (.box b)
  ·refine⟨(σ i).F[b],fun r hr=> ?_⟩;rw[Ba hb]at hr;simp at hr;subst hr;exact⟨rfl,fun _=>rfl,fun h=>absurd hv h⟩
  ·refine⟨Ca ((σ i).F[b]).length AV.Sb,fun r hr=> ?_⟩;rw[Ba hb]at hr;simp at hr;subst hr;exact⟨by simp,fun h=>absurd h hv,fun _ c x hx=>by rw[ji]at hx;split at hx<;>simp at hx;exact hx.symm⟩)
 have Pc:∀b row,F[b]?=some row->∃r,(σ i).F[b]?=some r/\row.length=r.length/\(Zs os τ L i (.box b)->row=r)/\(¬Zs os τ L i (.box b)->∀c x,row[c]?=some x->x=AV.Sb):=fun b row hr=>by
  have hb:b<(σ i).F.length:=by rw[<- hFl];exact getElem?_lt' hr
  exact⟨_,Ba hb,hF b row hr _ (Ba hb)⟩
 obtain⟨H,hH1,hH0,hHl,hHw,hw,hap⟩:∃H:AH,((τ i).Fc=true->H=(SC (τ i) (σ i)).H)/\((τ i).Fc=false->∀(b:Nat)(x:AB),H.bl[b]?=some x->x=AB.dead)/\H.bl.length=(σ i).H.bl.length/\H.wm=(SC (τ i) (σ i)).H.wm/\
   dc A.Pa (g.lim (σ i).H.bl.length) w H/\∀b,f.E b->¬Fp (g.lim (σ i).H.bl.length) H (f.φ b):=by
  cases hh:(τ i).Fc with
  |true=>
   have hv:=T.gr hD hi (c:= .heap) hh;exact⟨(SC (τ i) (σ i)).H,fun _=>rfl,fun h=>by simp at h,by rw[Uq],rfl,(inv.heap i hN hv).wm (Uq _ _),fun b hb h=>inv.apart b hb i hN hv (S1 h (Uq _ _).symm)⟩
  |false=>
   have zO:∀b x,(Ca (σ i).H.bl.length AB.dead)[b]?=some x->x=AB.dead:=fun b x hx=>by rw[ji]at hx;split at hx<;>simp at hx;exact hx.symm
   refine⟨⟨Ca (σ i).H.bl.length .dead,(SC (τ i) (σ i)).H.wm⟩,fun h=>by simp at h,fun _=>zO,by simp,rfl,⟨fun k row hg=>(inv.Pa k row hg).mono (g:=g.lim (σ 0).H.bl.length) (g':=g.lim (σ i).H.bl.length) ⟨fun b hb=>⟨⟨hb.1,zb hb.2 (T.span hq i (je _) hN).len⟩,rfl⟩,fun R hR=>⟨hR,rfl⟩⟩,fun b hb=>by simp;exact hb.2,fun b x _ hx=>by rw[zO b x hx];trivial,fun b b' hb=> ?_,inv.Eu⟩,fun b hb=> ?_⟩
   ·obtain⟨_,x,hx,hl⟩:=hb;rw[zO b x hx]at hl;simp[Zd]at hl
   ·rintro⟨b',⟨_,x,hx,hl⟩,_⟩;rw[zO b' x hx]at hl;simp[Zd]at hl
 refine⟨⟨(o.looksAt os).map fun t=>(t,get (σ i).e t),F,H⟩,hHw,hHl,hH1,hH0,hFl,fun b hv=> ?_,fun b r r' hr Ql=> ?_,fun t ht=>rq _ _ t ht,hw,⟨fun b hb=>by rw[hFl];exact hb.2,fun b row hb hr=> ?_,fun b b' hb Ld=>inv.o7 b b' hb.1 Ld.1,fun b hb=>hap b hb.1⟩,fun t=> ?_⟩
 ·rcases Vb b (σ i).F.length with hb|hb
  ·have Ld:b<F.length:=by omega
   obtain⟨r,h1,_,h3,_⟩:=Pc b _ (Ba Ld);show F[b]?=_;rw[Ba Ld,h1,h3 hv]
  ·show F[b]?=_;rw[Ab (by omega),Ab hb]
 ·obtain⟨r0,h1,h2,_⟩:=Pc b r hr;rw[h1]at Ql;simp at Ql;subst Ql;exact h2
 ·obtain⟨r,h1,h2,h3,h4⟩:=Pc b row hr;obtain⟨cs,iW,Iz,hp⟩:=inv.box b hb.1;obtain⟨k1,k2⟩:=hp i hN r h1;refine⟨cs,by rw[h2,<- k1];exact iW,?_⟩;by_cases hv:Zs os τ L i (.box b)
  ·rw[h3 hv];exact k2 hv
  ·intro c x hx;rw[h4 hv c x hx];have hc:c<cs.size:=by rw[k1,<- h2];exact getElem?_lt' hx
   exact⟨cs[c],by simp[hc],Iz _ (by simp),.Sb _⟩
 ·by_cases ht:t∈o.looksAt os
  ·show Fe _ _ _ (get ((o.looksAt os).map fun t=>(t,get (σ i).e t)) t) _;rw[rq _ _ t ht];have:=inv.slot i hN t (T.gr hD hi ⟨o,ho,.inr ht⟩)
   revert this
   cases get (σ i).e t with
   |v x=>exact id
   |loc k c=>exact id
  ·show Fe _ _ _ (get ((o.looksAt os).map fun t=>(t,get (σ i).e t)) t) _;rw[Xy _ _ t ht];exact .Sb _
end
end Go.V
namespace Go.V
open Go
section
variable {A:yh}{call:Callee}{Fa:List Nat}{n:Nat}{os:Array Oper}{σ:Nat->S}{τ:Nat->qf}{L:Nat->Prop}{g0 g g':Gx}{f0 f f':Fx}{w0 w w':World}{ds:List Deferred}{a:Act}{i:Nat}{o:Oper}{M M':S}
open Classical in
noncomputable def Gx.join(g g':Gx):Gx:={ D:=fun b=>g.D b\/g'.D b,ρ:=fun b=>if g.D b then g.ρ b else g'.ρ b,Z:=g'.Z }
open Classical in
noncomputable def Fx.join(f f':Fx):Fx:={ E:=fun b=>f.E b\/f'.E b,φ:=fun b=>if f.E b then f.φ b else f'.φ b,W:=fun _=>True }
theorem Inv.step(T:Trace A call Fa n os σ τ)(hq:Wc call)(inv:Inv A.Pa os σ τ n g0 f0 w0 ds L g f a w)(qO:dc A.Pa g0 w0 (σ 0).H)(hD:Down os L)(hi:xm os L i)(ho:os[i]?=some o)
  (hM:Q1 A.Pa os σ τ L g f a w i o M) (hx:Bg (g.lim (σ i).H.bl.length) (f.lim (σ i).F.length fun b=>τ i= .box b true) w M.H M.F g' f' w' M'.H M'.F)
  (vG:dc A.Pa g' w' M'.H) (cM:Td g' f' w' M'.H M'.F) {v:SV} {rv:Value} (hv:Fe g' f' w' v rv)
  (taf:∀d,o.dst=some d->d<n/\get (σ (i+1)).e d=v)
  (hH1:(τ i).Fc=true->M'.H.bl=(σ (i+1)).H.bl) (hH0:(τ i).Fc=false->M'.H=M.H)
  (hF:(M'.F=M.F/\(σ (i+1)).F=(σ i).F/\∀b,τ i≠ .box b true)\/(∃row,M'.F=M.F++[row]/\(σ (i+1)).F=(σ i).F++[row]/\∀b,τ i≠ .box b true)\/
   ∃k row,τ i= .box k true/\M'.F=M.F.set k row/\(σ (i+1)).F=(σ i).F.set k row/\f.E k/\k<(σ i).F.length):
  Inv A.Pa os σ τ n g0 f0 w0 ds (fun j=>L j\/j=i) (g.join g') (f.join f') (a.put o.dst rv) w':=by
 have hN:i<=os.size:=ot hi.1;have hN1:i+1<=os.size:=hi.1;have zf:∀{p q:Nat},p<=q->q<=os.size->Span os σ τ p q:=fun h1 h2=>T.span hq _ h1 h2
 have left:=T.left hq hi.1;have Aaa:M'.H.bl.length=(σ (i+1)).H.bl.length:=by
  cases hh:(τ i).Fc with
  |true=>rw[hH1 hh]
  |false=>rw[hH0 hh,hM.len,left.H hh]
 have yO:M'.F.length=(σ (i+1)).F.length:=by
  rcases hF with⟨e1,e2,_⟩|⟨row,e1,e2,_⟩|⟨k,row,_,e1,e2,_⟩<;>rw[e1,e2]<;>simp[hM.bj]
 have mW:∀b,g'.D b->(g.D b/\b<(σ i).H.bl.length)\/(σ i).H.bl.length<=b:=fun b hb=>(hx.Pz b hb).imp id fun h=>by rw[hM.len]at h;exact h
 have RR:∀b,g'.D b->b<(σ (i+1)).H.bl.length:=fun b hb=>by rw[<- Aaa];exact vG.Ie b hb
 have F8:∀b,g.D b->b<(σ (i+1)).H.bl.length->b<(σ i).H.bl.length:=fun b hb hl=>by
  rcases Vb b (σ i).H.bl.length with h|h
  ·exact h
  ·exact absurd hb (inv.DG i hi.1 hi.2.1 b h hl)
 have baa:∀b,g'.D b->(g.join g').ρ b=g'.ρ b:=fun b hb=>by
  simp only[Gx.join];split
  ·rename_i hg;have:=F8 b hg (RR b hb);exact((hx.D b ⟨hg,this⟩).2).symm
  ·rfl
 have EV:∀b,g.D b->(g.join g').ρ b=g.ρ b:=fun b hb=>by simp only[Gx.join];rw[if_pos hb]
 have oU:∀b,f.E b->(f.join f').φ b=f.φ b:=fun b hb=>by simp only[Fx.join];rw[if_pos hb]
 have jW:∀b,f'.E b->(f.E b/\b<(σ i).F.length)\/(σ i).F.length<=b:=fun b hb=>(hx.B7 b hb).imp id fun h=>by rw[hM.bj]at h;exact h
 have kW:∀b,f'.E b->b<(σ (i+1)).F.length:=fun b hb=>by rw[<- yO];exact cM.Ie b hb
 have xag:∀b,f.E b->b<(σ (i+1)).F.length->b<(σ i).F.length:=fun b hb hl=>by
  rcases Vb b (σ i).F.length with h|h
  ·exact h
  ·exact absurd hb (inv.kM i hi.1 hi.2.1 b h hl)
 have wB:∀b,f'.E b->(f.join f').φ b=f'.φ b:=fun b hb=>by
  simp only[Fx.join];split
  ·rename_i hg;have:=xag b hg (kW b hb);exact((hx.E b ⟨hg,this⟩).2).symm
  ·rfl
 have Mx:∀b,f'.E b->¬f.E b->w.heap.size<=f'.φ b:=fun b hb hn=>hx.qI b hb (fun h=>hn h.1)
 have Vaa:∀b,f.E b->¬Fp (g.lim (σ i).H.bl.length) M.H (f.φ b):=fun b hb h=>by
  cases hh:(τ i).Fc with
  |true=>
   have Pe:=T.gr hD hi (c:= .heap) hh;exact inv.apart b hb i hN Pe (S1 h (by rw[hM.H1 hh,Uq]))
  |false=>
   obtain⟨b',⟨_,x,Dk,hl⟩,_⟩:=h;rw[hM.H0 hh b' x Dk]at hl;simp[Zd]at hl
 have iJ:∀R,R<w.heap.size->¬Fp (g.lim (σ i).H.bl.length) M.H R->(∀b,f.E b->τ i= .box b true->f.φ b≠R)->w'.heap[R]?=w.heap[R]?:=fun R hR hn hb=>by
  by_cases hE:∃b,(f.E b/\b<(σ i).F.length)/\f.φ b=R
  ·obtain⟨b,ep,rfl⟩:=hE;exact hx.own b ep (fun h=>hb b ep.1 h rfl)
  ·exact hx.Fk R hR hn fun b ep e=>hE ⟨b,ep,e⟩
 have PV:τ i≠ .heap true->∀R,R<w.heap.size->(∀b,f.E b->τ i= .box b true->f.φ b≠R)->w'.heap[R]?=w.heap[R]?:=fun Uc R hR hb=>by
  by_cases QC:Fp (g.lim (σ i).H.bl.length) M.H R
  ·obtain⟨b,hl,rfl⟩:=QC;have Ac:b<M.H.wm:=by
    rw[hM.wm,CC Uc,<- hM.len];obtain⟨_,x,Dk,_⟩:=hl;exact getElem?_lt' Dk
   exact hx.still b Ac hl
  ·exact iJ R hR QC hb
 have hZ:∀R,g.Z R->g'.Z R/\w'.heap[R]?=w.heap[R]?:=fun R hR=>⟨hx.Z R hR,iJ R (inv.Eu R hR) (fun⟨b,hl,e⟩=>hM.hw.Vm hl (e ▸ hR)) (fun b hb _ e=>inv.u_ hb (e ▸ hR))⟩
 have yB:τ i≠ .heap true->∀b,b<(σ i).H.bl.length->M'.H.bl[b]?=M.H.bl[b]?:=fun Uc b hb=>by
  refine hx.quiet b ?_ (by rw[hM.len];exact hb);rw[hM.wm,CC Uc];exact hb
 have C8:τ i≠ .heap true->∀R,g'.Z R->g.Z R\/w.heap.size<=R:=fun Uc R hR=>by
  rcases hx.Yq R hR with h|⟨b,hl,e⟩|h
  ·exact .inl h
  ·exfalso;have hb:b<M.H.bl.length:=by obtain⟨_,x,Dk,_⟩:=hl;exact getElem?_lt' Dk
   have bg:live g' M'.H b:=⟨(hx.D b hl.1).1,by rw[yB Uc b (by rw[<- hM.len];exact hb)];exact hl.2⟩;refine vG.Vm bg ?_;rw[(hx.D b hl.1).2,e];exact hR
  ·exact .inr h
 have hle:∀p,(g.lim (σ p).H.bl.length).Le w ((g.join g').lim (σ p).H.bl.length) w':=fun p=>⟨fun b hb=>⟨⟨.inl hb.1,hb.2⟩,EV b hb.1⟩,hZ⟩
 have YV:∀p,i+1<=p->p<=os.size->g'.Le w' ((g.join g').lim (σ p).H.bl.length) w':=fun p h1 h2=>⟨fun b hb=>⟨⟨.inr hb,zb (RR b hb) (zf h1 h2).len⟩,baa b hb⟩,fun R hR=>⟨hR,rfl⟩⟩
 have vak:∀p b,(f.lim (σ p).F.length fun _=>True).E b->((f.join f').lim (σ p).F.length fun _=>True).E b/\((f.join f').lim (σ p).F.length fun _=>True).φ b=(f.lim (σ p).F.length fun _=>True).φ b:=fun p b hb=>⟨⟨.inl hb.1,hb.2⟩,oU b hb.1⟩
 have bag:∀p,i+1<=p->p<=os.size->∀b,f'.E b->((f.join f').lim (σ p).F.length fun _=>True).E b/\((f.join f').lim (σ p).F.length fun _=>True).φ b=f'.φ b:=fun p h1 h2 b hb=>⟨⟨.inr hb,zb (kW b hb) (zf h1 h2).bj⟩,wB b hb⟩
 have lW:∀p,p<=i\/(τ i).Fc=false->p<=os.size->∀b,((g.join g').lim (σ p).H.bl.length).D b->(g.lim (σ p).H.bl.length).D b:=fun p hp Mr b hb=>by
  refine⟨?_,hb.2⟩;rcases hb.1 with h|h
  ·exact h
  ·rcases mW b h with h1|h1
   ·exact h1.1
   ·exfalso;rcases hp with hp|hp
    ·have:=(zf hp hN).len;have:=hb.2;omega
    ·have h2:=RR b h;rw[left.H hp]at h2;omega
 have Faa:∀p,p<=os.size->Zs os τ L p .heap->p<=i\/(τ i).Fc=false->τ i≠ .heap true->dc A.Pa ((g.join g').lim (σ p).H.bl.length) w' (σ p).H:=fun p Mr Pe hp Uc=>by
  have hold:=inv.heap p Mr Pe;refine hold.carry (hle p) (lW p hp Mr) (fun b hl=>PV Uc _ (hold.lt hl) fun b' Ld _ e=>inv.apart b' Ld p Mr Pe ⟨b,hl,e.symm⟩) (fun b hl hz=> ?_) vG.Eu;rcases C8 Uc _ hz with h|h
  ·exact hold.Vm hl h
  ·have:=hold.lt hl;exact absurd this (Nat.not_lt.2 h)
 have yj:∀p,p<=os.size->(τ i).Fc=true->Zs os τ (fun j=>L j\/j=i) p .heap->i<p->∀b,b<(σ (i+1)).H.bl.length->(σ p).H.bl[b]?=M'.H.bl[b]?:=fun p Mr hh Pe Ac b hb=>by
  rw[hH1 hh];exact(zf (p:=i+1) (q:=p) Ac Mr).heap (fun j h1 h2=>T.eo hD hi (c:= .heap) hh Pe j (by omega) (by omega) h2) b hb
 have ZV:∀p,p<=os.size->(τ i).Fc=true->Zs os τ (fun j=>L j\/j=i) p .heap->i<p->∀b,((g.join g').lim (σ p).H.bl.length).D b->¬b<(σ (i+1)).H.bl.length->(g.lim (σ p).H.bl.length).D b/\τ i≠ .heap true:=fun p Mr hh Pe Ac b hb Jt=>by
  have hgD:g.D b:=by
   rcases hb.1 with h|h
   ·exact h
   ·exact absurd (RR b h) Jt
  refine⟨⟨hgD,hb.2⟩,fun e=> ?_⟩;obtain⟨j,j1,j2,j3,j4⟩:=(zf (p:=i+1) (q:=p) Ac Mr).E7 b (by omega) hb.2;have hjN:j<os.size:=by omega
  have hLj:L j:=by
   by_cases h:L j
   ·exact h
   ·exact absurd hgD (inv.DG j hjN h b j3 j4)
  have hjh:(τ j).Fc=true:=by
   cases hjh:(τ j).Fc with
   |true=>rfl
   |false=>rw[(T.left hq hjN).H hjh]at j4;omega
  rcases T.order hjN hi.1 (by omega) (c:= .heap) e hjh with h|h
  ·omega
  ·exact hi.2.1 (hD i j hjN hLj h.2)
 have Vaf:∀p,i<p->p<=os.size->∀b,((g.join g').lim (σ p).H.bl.length).D b->b<(σ (i+1)).H.bl.length->g'.D b:=fun p _ _ b hb Ac=>by
  rcases hb.1 with h|h
  ·exact(hx.D b ⟨h,F8 b h Ac⟩).1
  ·exact h
 have x5:∀p,p<=os.size->(τ i).Fc=true->Zs os τ (fun j=>L j\/j=i) p .heap->i<p->∀b,live ((g.join g').lim (σ p).H.bl.length) (σ p).H b->
   (live g' M'.H b/\((g.join g').lim (σ p).H.bl.length).ρ b=g'.ρ b)\/(τ i≠ .heap true/\Zs os τ L p .heap/\live (g.lim (σ p).H.bl.length) (σ p).H b/\((g.join g').lim (σ p).H.bl.length).ρ b=g.ρ b/\¬b<(σ (i+1)).H.bl.length):=fun p Mr hh Pe Ac b hl=>by
  by_cases hb:b<(σ (i+1)).H.bl.length
  ·left;have:=Vaf p Ac Mr b hl.1 hb;exact⟨⟨this,by rw[<- yj p Mr hh Pe Ac b hb];exact hl.2⟩,baa b this⟩
  ·right;obtain⟨h1,h2⟩:=ZV p Mr hh Pe Ac b hl.1 hb;exact⟨h2,Pe.before h2,⟨h1,hl.2⟩,EV b h1.1,hb⟩
 have Eaa:∀p,p<=os.size->(τ i).Fc=true->Zs os τ (fun j=>L j\/j=i) p .heap->i<p->dc A.Pa ((g.join g').lim (σ p).H.bl.length) w' (σ p).H:=fun p Mr hh Pe Ac=>by
  have Naf:∀b1 b2,(live g' M'.H b1/\((g.join g').lim (σ p).H.bl.length).ρ b1=g'.ρ b1)->(τ i≠ .heap true/\Zs os τ L p .heap/\live (g.lim (σ p).H.bl.length) (σ p).H b2/\((g.join g').lim (σ p).H.bl.length).ρ b2=g.ρ b2/\¬b2<(σ (i+1)).H.bl.length)->
    (((g.join g').lim (σ p).H.bl.length).ρ b1).R≠(((g.join g').lim (σ p).H.bl.length).ρ b2).R:=fun b1 b2⟨k1,k2⟩⟨m1,m2,m3,m4,m5⟩e=>by
   rw[k2,m4]at e;have hold:=inv.heap p Mr m2;have mI:=hold.lt m3;rcases hx.fp _ ⟨b1,k1,e⟩with⟨b',bg,e'⟩|h
   ·have Ld:b'<(σ i).H.bl.length:=bg.1.2;have lJ:live (g.lim (σ p).H.bl.length) (σ p).H b':=by
     refine⟨⟨bg.1.1,zb Ld (zf (by omega) Mr).len⟩,?_⟩;rw[yj p Mr hh Pe Ac b' (zb Ld left.len),yB m1 b' Ld];exact bg.2
    have:=left.len;exact hold.inj b' b2 lJ m3 (by omega) e'
   ·exact absurd mI (Nat.not_lt.2 h)
  refine⟨fun k row hg=>(vG.Pa k row hg).mono (YV p Ac Mr),fun b hb=>hb.2,fun b x hd xB=> ?_,fun b1 b2 h1 h2 Uc=> ?_,vG.Eu⟩
  ·by_cases hb:b<(σ (i+1)).H.bl.length
   ·have zU:=Vaf p Ac Mr b hd hb;rw[show((g.join g').lim (σ p).H.bl.length).ρ b=g'.ρ b from baa b zU];rw[yj p Mr hh Pe Ac b hb]at xB;exact(vG.Vc b x zU xB).le (YV p Ac Mr) (fun _=>rfl) (fun hl=>vG.Vm ⟨zU,x,xB,hl⟩)
   ·obtain⟨h1,h2⟩:=ZV p Mr hh Pe Ac b hd hb;have U7:=Pe.before h2;have hold:=inv.heap p Mr U7;rw[show((g.join g').lim (σ p).H.bl.length).ρ b=g.ρ b from EV b h1.1];refine(hold.Vc b x h1 xB).le (hle p) (fun hl=>PV h2 _ (hold.lt ⟨h1,x,xB,hl⟩) fun b' Ld _ e=>inv.apart b' Ld p Mr U7 ⟨b,⟨h1,x,xB,hl⟩,e.symm⟩) (fun hl hz=> ?_);rcases C8 h2 _ hz with h|h
    ·exact hold.Vm ⟨h1,x,xB,hl⟩ h
    ·exact absurd (hold.lt ⟨h1,x,xB,hl⟩) (Nat.not_lt.2 h)
  ·rcases x5 p Mr hh Pe Ac b1 h1 with k1|k1<;>rcases x5 p Mr hh Pe Ac b2 h2 with k2|k2
   ·rw[k1.2,k2.2];exact vG.inj b1 b2 k1.1 k2.1 Uc
   ·exact Naf b1 b2 k1 k2
   ·exact(Naf b2 b1 k2 k1).symm
   ·rw[k1.2.2.2.1,k2.2.2.2.1];exact(inv.heap p Mr k1.2.1).inj b1 b2 k1.2.2.1 k2.2.2.1 Uc
 have faa:∀p,p<=os.size->Zs os τ (fun j=>L j\/j=i) p .heap->((p<=i\/(τ i).Fc=false)/\τ i≠ .heap true/\Zs os τ L p .heap)\/((τ i).Fc=true/\i<p):=fun p Mr Pe=>by
  cases hh:(τ i).Fc with
  |false=>
   have Uc:τ i≠ .heap true:=fun e=>by rw[e]at hh;simp[qf.Fc]at hh
   exact .inl ⟨.inr rfl,Uc,Pe.before Uc⟩
  |true=>
   rcases Vb i p with Ac|Jt
   ·exact .inr ⟨rfl,Ac⟩
   ·have Uc:τ i≠ .heap true:=Pe.2 i hi.1 Jt (.inr rfl);exact .inl ⟨.inl Jt,Uc,Pe.before Uc⟩
 have wag:∀p,p<=os.size->(p<=i\/(τ i).Fc=false)->∀R,Fp ((g.join g').lim (σ p).H.bl.length) (σ p).H R->Fp (g.lim (σ p).H.bl.length) (σ p).H R:=fun p Mr hp R⟨b,hl,e⟩=>by
  have:=lW p hp Mr b hl.1;refine⟨b,⟨this,hl.2⟩,?_⟩;rw[<- e];show(g.ρ b).R=((g.join g').ρ b).R;rw[EV b this.1]
 have Jaa:∀R,Fp (g.lim (σ i).H.bl.length) M.H R->Fp g0 (σ 0).H R\/w0.heap.size<=R:=fun R h=>by
  cases hh:(τ i).Fc with
  |true=>exact inv.fFp i hN (T.gr hD hi (c:= .heap) hh) R (S1 h (by rw[hM.H1 hh,Uq]))
  |false=>
   obtain⟨b',⟨_,x,Dk,hl⟩,_⟩:=h;rw[hM.H0 hh b' x Dk]at hl;simp[Zd]at hl
 refine⟨?_,?_,fun p hp t Pe=> ?_,fun p hp Pe=> ?_,fun k row hg=> ?_,vG.Eu,fun b hb=> ?_,fun b b' hb Ld Uc=> ?_,fun b hb p hp Pe QC=> ?_,fun j hj hnL b h1 h2 hb=> ?_,fun j hj hnL b h1 h2 hb=> ?_,fun b hb=> ?_,fun b hb=> ?_,fun j hj hL b ht=> ?_,
  fun b hb=>⟨.inl (inv.fD b hb).1,(EV b (inv.fD b hb).1).trans (inv.fD b hb).2⟩,fun b hb=> ?_,fun R hR=>hx.Z R (inv.fZ R hR),fun R hR=> ?_,fun p hp Pe R QC=> ?_,fun b hb=>⟨.inl (inv.fE b hb).1,(oU b (inv.fE b hb).1).trans (inv.fE b hb).2⟩,fun b hb=> ?_,fun b hb hn=> ?_,fun R hR hn hb=> ?_,Ib inv.size hx.size,fun b hb hl=> ?_,⟨hx.io.1.trans inv.io.1,hx.io.2.trans inv.io.2⟩⟩
 ·
  rw[<- inv.n];unfold Act.put;split<;>simp
 ·rw[<- inv.ds];unfold Act.put;split<;>rfl
 ·
  by_cases hd:o.dst=some t
  ·have hW:Wr os τ i (.slot t):=⟨o,ho,hd⟩;have Ac:=Pe.after hi.1 hW;obtain⟨h1,h2⟩:=taf t hd;have bk:get (σ p).e t=v:=by
    rw[(zf (p:=i+1) (q:=p) Ac hp).slot t (fun j j1 j2=>T.eo hD hi hW.us Pe j (by omega) (by omega) j2),h2]
   rw[bk];have htm:(a.put o.dst rv).tmps.getD t undef=rv:=by
    rw[hd];simp only[Act.put];rw[Gv t (by rw[inv.n];exact h1),if_pos rfl]
   rw[htm];exact Fe.mono (f':=(f.join f').lim (σ p).F.length fun _=>True) (YV p Ac hp) (bag p Ac hp) hv
  ·have hW:¬Wr os τ i (.slot t):=fun⟨o',K2,zU⟩=>hd (by rw[ho]at K2;simp at K2;rw[K2];exact zU)
   have htm:(a.put o.dst rv).tmps.getD t undef=a.tmps.getD t undef:=by
    cases p5:o.dst with
    |none=>rfl
    |some d=>
     simp only[Act.put];rcases Vb d a.tmps.size with Ac|Jt
     ·rw[Gv t Ac,if_neg (fun e=>hd (by rw[p5,e]))]
     ·rw[Array.setIfInBounds_eq_of_size_le Jt]
   rw[htm];exact Fe.mono (f':=(f.join f').lim (σ p).F.length fun _=>True) (hle p) (vak p) (inv.slot p hp t (Pe.before hW))
 ·
  rcases faa p hp Pe with⟨h1,h2,h3⟩|⟨h1,h2⟩
  ·exact Faa p hp h3 h1 h2
  ·exact Eaa p hp h1 Pe h2
 ·exact(inv.Pa k row hg).mono (hle 0)
 ·
  by_cases hold:f.E b
  ·rw[oU b hold];obtain⟨cs,⟨T',fz,hR,hs,Rl,hz⟩,Iz,Pc⟩:=inv.box b hold;have Ac:=inv.x3 hold;have hz':¬g'.Z (f.φ b):=fun h=>by
    rcases hx.Yq _ h with h1|h1|h1
    ·exact hz h1
    ·exact Vaa b hold h1
    ·exact absurd Ac (Nat.not_lt.2 h1)
   by_cases S7:τ i= .box b true
   ·
    obtain⟨k,row,hk,e1,e2,hEk,hlk⟩:∃k row,τ i= .box k true/\M'.F=M.F.set k row/\(σ (i+1)).F=(σ i).F.set k row/\f.E k/\k<(σ i).F.length:=by
     rcases hF with⟨_,_,h⟩|⟨_,_,_,h⟩|h
     ·exact absurd S7 (h b)
     ·exact absurd S7 (h b)
     ·exact h
    obtain rfl:k=b:=by rw[S7]at hk;injection hk with h _;exact h.symm
    have hE':=hx.E k ⟨hEk,hlk⟩;have tO:M'.F[k]?=some row:=by rw[e1,List.getElem?_set_self (by rw[hM.bj];exact hlk)]
    have nu:(σ (i+1)).F[k]?=some row:=by rw[e2,List.getElem?_set_self hlk]
    obtain⟨Jh,⟨T2,fz2,mI,tU,Haa,gJ⟩,Tk⟩:=cM.Vc k row hE'.1 tO;have qaj:f'.φ k=f.φ k:=hE'.2;rw[qaj]at mI gJ;refine⟨Jh,⟨T2,fz2,mI,rfl,by rw[tU];exact Haa,gJ⟩,fun u hu=> ?_,fun p hp r hr=> ?_⟩
    ·obtain⟨c,hc⟩:=me hu;have Mn:c<row.length:=by rw[<- tU];exact Za (a:=Jh) (i:=c) (x:=u) (by simpa using hc)
     obtain⟨u',h1,h2,_⟩:=Tk c _ (Ba Mn);rw[Re]at h1;have:Jh.toList[c]?=Jh[c]?:=by simp
     rw[this,h1]at hc;simp at hc;subst hc;exact h2
    ·refine⟨?_,fun Pe=> ?_⟩
     ·rw[tU];rcases Vb i p with xU|xU
      ·exact((zf (p:=i+1) (q:=p) xU hp).row k _ _ nu hr).symm
      ·exact(zf (p:=p) (q:=i+1) (by omega) hN1).row k _ _ hr nu
     ·have hW:Wr os τ i (.box k):=S7;have xU:=Pe.after hi.1 hW;have:(σ p).F[k]?=some row:=by
       rw[(zf (p:=i+1) (q:=p) xU hp).box k (by rw[e2];simp;exact hlk) (fun j j1 j2=>T.eo hD hi hW.us Pe j (by omega) (by omega) j2)];exact nu
      rw[this]at hr;simp at hr;subst hr;exact Tk.mono (YV p xU hp)
   ·have hun:w'.heap[f.φ b]?=w.heap[f.φ b]?:=iJ _ Ac (Vaa b hold) fun b' Ld ht' e=>by
     by_cases e':b'=b
     ·subst e';exact S7 ht'
     ·exact inv.o7 b' b Ld hold e' e
    refine⟨cs,⟨T',fz,by rw[hun];exact hR,hs,Rl,hz'⟩,Iz,fun p hp r hr=>⟨(Pc p hp r hr).1,fun Pe=> ?_⟩⟩;exact((Pc p hp r hr).2 (Pe.before S7)).mono (hle p)
  ·
   have Ld:f'.E b:=hb.resolve_left hold;have Jt:(σ i).F.length<=b:=(jW b Ld).resolve_left fun h=>hold h.1
   have Ac:=kW b Ld;have tO:=Ba (l:=M'.F) (i:=b) (by rw[yO];exact Ac);obtain⟨Jh,⟨T2,fz2,mI,tU,Haa,gJ⟩,Tk⟩:=cM.Vc b _ Ld tO;rw[wB b Ld];have nu:(σ (i+1)).F[b]?=M'.F[b]?:=by
    rcases hF with⟨e1,e2,_⟩|⟨row,e1,e2,_⟩|⟨k,row,_,e1,e2,_,hlk⟩
    ·rw[e2]at Ac;omega
    ·rw[e1,e2];have:b=(σ i).F.length:=by rw[e2]at Ac;simp at Ac;omega
     subst this;simp[hM.bj]
    ·rw[e2]at Ac;simp at Ac;omega
   refine⟨Jh,⟨T2,fz2,mI,rfl,by rw[tU];exact Haa,gJ⟩,fun u hu=> ?_,fun p hp r hr=> ?_⟩
   ·obtain⟨c,hc⟩:=me hu;have Mn:c<(M'.F[b]).length:=by rw[<- tU];exact Za (a:=Jh) (i:=c) (x:=u) (by simpa using hc)
    obtain⟨u',h1,h2,_⟩:=Tk c _ (Ba Mn);rw[Re]at h1;have:Jh.toList[c]?=Jh[c]?:=by simp
    rw[this,h1]at hc;simp at hc;subst hc;exact h2
   ·have xU:i<p:=by
     rcases Vb i p with h|h
     ·exact h
     ·exfalso;have:=(zf h hN).bj;rw[Ab (by omega)]at hr;simp at hr
    rw[tO]at nu;refine⟨?_,fun Pe=> ?_⟩
    ·rw[tU];exact((zf (p:=i+1) (q:=p) xU hp).row b _ _ nu hr).symm
    ·have:(σ p).F[b]?=some M'.F[b]:=by
      rw[(zf (p:=i+1) (q:=p) xU hp).box b Ac (fun j j1 j2 hW=> ?_)]
      ·exact nu
      ·by_cases hLj:L j
       ·exact hold (inv.wr j (by omega) hLj b hW)
       ·exact Pe.1 j (by omega) j2 (fun h=>h.elim hLj (by omega)) hW
     rw[this]at hr;simp at hr;subst hr;exact Tk.mono (YV p xU hp)
 ·
  by_cases h1:f.E b<;>by_cases h2:f.E b'
  ·rw[oU b h1,oU b' h2];exact inv.o7 b b' h1 h2 Uc
  ·have Q2:=Ld.resolve_left h2;rw[oU b h1,wB b' Q2];have:=inv.x3 h1;have:=Mx b' Q2 h2;omega
  ·have nD:=hb.resolve_left h1;rw[wB b nD,oU b' h2];have:=inv.x3 h2;have:=Mx b nD h1;omega
  ·have nD:=hb.resolve_left h1;have Q2:=Ld.resolve_left h2;rw[wB b nD,wB b' Q2];exact cM.inj b b' nD Q2 Uc
 ·
  rcases faa p hp Pe with⟨h1,h2,h3⟩|⟨h1,h2⟩
  ·have o5:=wag p hp h1 _ QC;by_cases hold:f.E b
   ·rw[oU b hold]at o5;exact inv.apart b hold p hp h3 o5
   ·have Ld:=hb.resolve_left hold;rw[wB b Ld]at o5;obtain⟨b',hl,e⟩:=o5;have:=(inv.heap p hp h3).lt hl;have:=Mx b Ld hold;omega
  ·obtain⟨b',hl,e⟩:=QC;rcases x5 p hp h1 Pe h2 b' hl with⟨k1,k2⟩|⟨m1,m2,m3,m4,m5⟩
   ·rw[k2]at e;by_cases hold:f.E b
    ·rw[oU b hold]at e;rcases hx.fp _ ⟨b',k1,e⟩with h|h
     ·exact Vaa b hold h
     ·have:=inv.x3 hold;omega
    ·have Ld:=hb.resolve_left hold;rw[wB b Ld]at e;exact cM.apart b Ld ⟨b',k1,e⟩
   ·rw[m4]at e;by_cases hold:f.E b
    ·rw[oU b hold]at e;exact inv.apart b hold p hp m2 ⟨b',m3,e⟩
    ·have Ld:=hb.resolve_left hold;rw[wB b Ld]at e;have:=(inv.heap p hp m2).lt m3;have e':(g.ρ b').R=f'.φ b:=e;have:=Mx b Ld hold;have h5:((g.lim (σ p).H.bl.length).ρ b').R=(g.ρ b').R:=rfl;omega
 ·
  have VV:¬L j:=fun h=>hnL (.inl h)
  have hji:j≠i:=fun h=>hnL (.inr h)
  rcases hb with hb|hb
  ·exact inv.DG j hj VV b h1 h2 hb
  ·rcases mW b hb with h|h
   ·exact inv.DG j hj VV b h1 h2 h.1
   ·have h3:=RR b hb;rcases Lw hji with Ac|Ac
    ·have:=(zf (p:=j+1) (q:=i) Ac hN).len;omega
    ·have:=(zf (p:=i+1) (q:=j) Ac (by omega)).len;omega
 ·have VV:¬L j:=fun h=>hnL (.inl h)
  have hji:j≠i:=fun h=>hnL (.inr h)
  rcases hb with hb|hb
  ·exact inv.kM j hj VV b h1 h2 hb
  ·rcases jW b hb with h|h
   ·exact inv.kM j hj VV b h1 h2 h.1
   ·have h3:=kW b hb;rcases Lw hji with Ac|Ac
    ·have:=(zf (p:=j+1) (q:=i) Ac hN).bj;omega
    ·have:=(zf (p:=i+1) (q:=j) Ac (by omega)).bj;omega
 ·rcases hb with hb|hb
  ·exact inv.zah b hb
  ·exact zb (RR b hb) (zf hN1 (va _)).len
 ·rcases hb with hb|hb
  ·exact inv.yah b hb
  ·exact zb (kW b hb) (zf hN1 (va _)).bj
 ·rcases hL with hL|rfl
  ·exact .inl (inv.wr j hj hL b ht)
  ·rcases hF with⟨_,_,h⟩|⟨_,_,_,h⟩|⟨k,row,hk,_,_,hEk,_⟩
   ·exact absurd ht (h b)
   ·exact absurd ht (h b)
   ·rw[ht]at hk;injection hk with h _;rw[h];exact .inl hEk
 ·rcases hb with hb|hb
  ·exact inv.zW b hb
  ·rcases mW b hb with h|h
   ·exact inv.zW b h.1
   ·exact .inr (Ib (zf (je _) hN).len h)
 ·rcases hx.Yq R hR with h|h|h
  ·exact inv.J8 R h
  ·exact .inr (Jaa R h)
  ·exact .inr (.inr (Ib inv.size h))
 ·rcases faa p hp Pe with⟨h1,h2,h3⟩|⟨h1,h2⟩
  ·exact inv.fFp p hp h3 R (wag p hp h1 R QC)
  ·obtain⟨b',hl,e⟩:=QC;rcases x5 p hp h1 Pe h2 b' hl with⟨k1,k2⟩|⟨m1,m2,m3,m4,m5⟩
   ·rw[k2]at e;rcases hx.fp _ ⟨b',k1,e⟩with h|h
    ·exact Jaa R h
    ·exact .inr (Ib inv.size h)
   ·rw[m4]at e;exact inv.fFp p hp m2 R ⟨b',m3,e⟩
 ·rcases hb with hb|hb
  ·exact inv.yW b hb
  ·rcases jW b hb with h|h
   ·exact inv.yW b h.1
   ·exact .inr (Ib (zf (je _) hN).bj h)
 ·by_cases hold:f.E b
  ·rw[oU b hold];exact inv.fφ b hold hn
  ·have Ld:=hb.resolve_left hold;rw[wB b Ld];exact Ib inv.size (Mx b Ld hold)
 ·refine(iJ R (zb hR inv.size) (fun h=> ?_) (fun b hbE _ e=> ?_)).trans (inv.Fk R hR hn hb)
  ·rcases Jaa R h with h1|h1
   ·exact hn h1
   ·omega
  ·by_cases h0:f0.E b
   ·exact hb b h0 ((inv.fE b h0).2 ▸ e)
   ·have:=inv.fφ b hbE h0;omega
 ·obtain⟨s1,s2⟩:=inv.still b hb hl;have E8:=qO.lt hl;have Ac:(g0.ρ b).R<w.heap.size:=zb E8 inv.size;refine⟨Eq.trans ?_ s1,fun b' Ld=> ?_⟩
  ·cases hh:(τ i).Fc with
   |false=>
    refine iJ _ Ac (fun h=> ?_) (fun b' Ld _=>s2 b' Ld);obtain⟨b',⟨_,x,Dk,bg⟩,_⟩:=h;rw[hM.H0 hh b' x Dk]at bg;simp[Zd]at bg
   |true=>
    have FB:b<(σ 0).H.bl.length:=by obtain⟨_,x,Dk,_⟩:=hl;exact getElem?_lt' Dk
    have P4:=zf (je i) hN;have hg:=inv.fD b hl.1;have hli:live (g.lim (σ i).H.bl.length) M.H b:=by
     refine⟨⟨hg.1,zb FB P4.len⟩,?_⟩;rw[hM.H1 hh,Uq,P4.low b hb FB];exact hl.2
    have ag:b<M.H.wm:=by
     rw[hM.wm];by_cases hw:τ i= .heap true
     ·rw[hw];show b<(σ i).H.wm;rw[P4.wm];exact hb
     ·rw[CC hw];exact zb FB P4.len
    have:=hx.still b ag hli;have e:((g.lim (σ i).H.bl.length).ρ b)=g0.ρ b:=hg.2;rw[e]at this;exact this
  ·by_cases hold:f.E b'
   ·rw[oU b' hold];exact s2 b' hold
   ·have pag:=Ld.resolve_left hold;rw[wB b' pag];have:=Mx b' pag hold;omega
end
end Go.V
namespace Go.V
open Go
section
variable {A:yh}{call:Callee}{Fa:List Nat}{n:Nat}{os:Array Oper}{σ:Nat->S}{τ:Nat->qf}{L:Nat->Prop}{g0 g:Gx}{f0 f:Fx}{w0 w:World}{ds:List Deferred}{a:Act}
theorem Inv.finish(T:Trace A call Fa n os σ τ)(hq:Wc call)(jc:St A.Pa g0 f0 (σ 0) n a w0){a':Act}(inv:Inv A.Pa os σ τ n g0 f0 w0 a.defers L g f a' w)(hL:∀j,j<os.size->L j):
  ∃f',St A.Pa g f' (σ os.size) n a' w/\Bg g0 f0 w0 (σ 0).H (σ 0).F g f' w (σ os.size).H (σ os.size).F:=by
 have Pe:∀c,Zs os τ L os.size c:=fun c=>⟨fun j hj _ h=>absurd (hL j hj) h,fun j hj h=>by omega⟩
 have zf:=T.span hq os.size (je _) (va _);have w8:g.lim (σ os.size).H.bl.length=g:=by
  have:(fun b=>g.D b/\b<(σ os.size).H.bl.length)=g.D:=by
   funext b;exact propext ⟨fun h=>h.1,fun h=>⟨h,inv.zah b h⟩⟩
  cases g;simp only[Gx.lim]at *;rw[this]
 have hw:=inv.heap _ (va _) (Pe _);rw[w8]at hw;have hx:Bg g0 f0 w0 (σ 0).H (σ 0).F g { f with W:=fun _=>True } w (σ os.size).H (σ os.size).F:=by
  refine⟨inv.fD,inv.zW,inv.fZ,inv.J8,fun R h=> ?_,inv.fE,inv.yW,inv.fφ,inv.Fk,inv.size,zf.len,zf.bj,zf.wm,zf.low,fun b hb hl=>(inv.still b hb hl).1,fun i hi=>⟨fun _=>jc.hW i hi,fun _=>trivial⟩,fun _ _ _=>trivial,fun i hi hn=>absurd (jc.hW i hi) hn,inv.io⟩;have:=inv.fFp _ (va _) (Pe _) R;rw[w8]at this;exact this h
 refine⟨{ f with W:=fun _=>True },⟨hw,⟨inv.yah,fun b row hb hr=> ?_,inv.o7,fun b hb h=> ?_⟩,fun t=> ?_,inv.n,?_,fun _ _=>trivial⟩,hx⟩
 ·obtain⟨cs,iW,_,Pc⟩:=inv.box b hb;obtain⟨h1,h2⟩:=Pc _ (va _) row hr;have h3:=h2 (Pe _);rw[w8]at h3;exact⟨cs,by rw[<- h1];exact iW,h3⟩
 ·have:=inv.apart b hb _ (va _) (Pe _);rw[w8]at this;exact this h
 ·have:=inv.slot _ (va _) t (Pe _);rw[w8]at this
  revert this
  cases get (σ os.size).e t with
  |v x=>exact id
  |loc k c=>exact fun h=>⟨h.1.1,h.2⟩
 ·rw[inv.ds];exact jc.hm.step jc.hw jc.hf hx
theorem NQ{s:S}{o:Oper}{q w:Bool}{k:Nat}(h:Zc A Fa s o q= .box k w):∃t,t∈o.looksAt os/\∃c,get s.e t= .loc k c:=by
 have key:∀{wr:Bool}{x:Operand},tf wr (operand A s.e x)= .box k w->x∈o.op.operands->∃t,t∈o.looksAt os/\∃c,get s.e t= .loc k c:=fun{wr x}h hx=>by
  cases ho:operand A s.e x with
  |none=>rw[ho]at h;simp[tf]at h
  |some sv=>
   rw[ho]at h;cases sv with
   |v y=>cases y<;>simp[tf]at h;cases wr<;>simp at h
   |loc i c=>
    simp[tf]at h;obtain⟨rfl,_⟩:=h;cases x with
    |tmp t=>
     simp[operand]at ho;exact⟨t,Df _ (List.mem_filterMap.2 ⟨.tmp t,by simpa using hx,rfl⟩),c,ho⟩
    |const v=>simp[operand]at ho
    |global gv=>simp[operand]at ho
    |func fv=>simp[operand]at ho
 unfold Zc at h;split at h
 ·rename_i ho;exact key h (by rw[ho];simp[Op.operands])
 ·unfold jr at h;split at h<;>simp at h
 ·rename_i ho;exact key h (by rw[ho];simp[Op.operands])
 all_goals first
  |(split at h<;>simp at h;done)
  |(simp at h;done)
  |(unfold jr at h;split at h<;>simp at h;done)
  |(unfold rh at h;split at h<;>simp at h;done)
theorem iM{s M:S}{o:Oper}{b:Bool}(h:Yc os s o=some b)(he:∀t,t∈o.looksAt os->get M.e t=get s.e t):Yc os M o=some b:=by
 unfold Yc at h ⊢;split at h
 ·rename_i hg;exact h
 ·rename_i j want hg;split at h
  ·rename_i d hd;have:d∈o.looksAt os:=by
    refine List.mem_append_right _ ?_;rw[hg];simp[hd]
   simp only[hg,hd,he d this];exact h
  ·simp at h
theorem Trace.upto(T:Trace A call Fa n os σ τ)(hD:Down os L){i:Nat}(hi:xm os L i)(paa:∀j,j<i->τ j= .heap true->ord (vk os.toList []) j i=true):
  ∃p,i<=p/\p<=os.size/\Zs os τ L p .heap:=by
 have key:∀k,i<=k->k<=os.size->∃p,i<=p/\p<=os.size/\(∀j,j<os.size->p<=j->j<k->L j->τ j≠ .heap true)/\(p=i\/∃j0,p=j0+1/\j0<os.size/\L j0/\τ j0= .heap true):=by
  intro k;induction k with
  |zero=>intro h1 h2;exact⟨i,va _,ot hi.1,fun j _ _ h=>by omega,.inl rfl⟩
  |succ k ih=>
   intro h1 h2;by_cases aW:i<=k
   ·obtain⟨p,a1,a2,a3,a4⟩:=ih aW (by omega);by_cases hw:L k/\τ k= .heap true
    ·exact⟨k+1,by omega,h2,fun j _ h3 h4=>by omega,.inr ⟨k,rfl,by omega,hw.1,hw.2⟩⟩
    ·refine⟨p,a1,a2,fun j hj h3 h4 hL he=> ?_,a4⟩;by_cases e:j=k
     ·subst e;exact hw ⟨hL,he⟩
     ·exact a3 j hj h3 (by omega) hL he
   ·exact⟨i,va _,ot hi.1,fun j _ h3 h4=>by omega,.inl rfl⟩
 obtain⟨p,a1,a2,a3,a4⟩:=key os.size (ot hi.1) (va _);refine⟨p,a1,a2,fun j hj Ac Lj hw=> ?_,fun j hj hle hl hw=>a3 j hj hle hj hl hw⟩;have vG:τ j= .heap true:=hw;rcases Vb j i with h|h
 ·exact Lj (hi.2.2 j (paa j h vG))
 ·rcases a4 with rfl|⟨j0,rfl,h0,hL0,qO⟩
  ·omega
  ·have Uc:j≠j0:=fun e=>Lj (e ▸ hL0)
   rcases T.UF j j0 hj h0 Uc (by rw[qO];rfl)with h1|h1|h1
   ·exact Lj (hD j j0 h0 hL0 h1.2)
   ·omega
   ·rw[vG,qO]at h1;simp[conflict]at h1
theorem LI{g g':Gx}{w:World}{m:Nat}{v:SV}{f f':Fx}{rv:Value}(hp:Ar m v=true)(hD:∀b,g.D b->b<m->g'.D b)(EV:∀b,g'.ρ b=g.ρ b)(h:Fe g f w v rv):Fe g' f' w v rv:=by
 unfold Ar at hp;split at hp
 ·rename_i b;have hb:b<m:=by simpa using hp
  have h':mb g w (.mp b) rv:=h;cases h' with
  |mp _ hd=>have:=mb.mp (g:=g') (w:=w) b (hD b hd hb);rw[EV]at this;exact this
 ·have h':mb g w (.fn _ []) rv:=h;cases h' with
  |fn _ _ vs hl hr=>
   have:vs=[]:=Ja.1 hl;subst this;exact mb.fn _ [] [] rfl fun i x v h=>by simp at h
 ·have h':mb g w .Jf rv:=h;cases h';exact mb.Jf
 ·have h':mb g w .bf rv:=h;cases h';exact mb.bf
 ·simp at hp
theorem xI{s s':S}{o:Oper}{v:SV}{F:Fence}{m:Nat}{next:Act->World->Prop}{Q:Exit->Act->World->Prop}(jc:Wj A o=true)(h:op A call Fa s o=some (v,s'))(hw:dc A.Pa g w s.H)(hf:Td g f w s.H s.F)(he:Ze g f w s.e a.tmps)(hF:Hw F)
  (hk:∀rv,Fe g f w v rv->next (a.put o.dst rv) w):o.wpIn F m A.P a w next Q:=by
 refine⟨fun f _=>hF.fn f,?_⟩;have hnd:∀c,o.op≠ .defer c:=fun c e=>by unfold op at h;rw[e]at h;simp at h
 rw[Oper.semAt_eq F.round a.eval o hnd];have fin:∀{rv:Value}{x:AV},v= .v x->(execOp a.eval o).run A.P w= .ok (.value rv) w->mb g w x rv->Oper.uponIn F m A.P o a next Q ((execOp a.eval o).run A.P w):=fun{rv x}hv hr hx=>by
  rw[hr];exact hk rv (by rw[hv];exact hx)
 unfold Wj at jc;split at jc
 ·rename_i t x ho;unfold op at h;rw[ho]at h;simp only[aa]at h;obtain⟨p,hp,h⟩:=h;obtain⟨_,x,hx,rfl⟩:=aq h;obtain⟨rv,h1,h2⟩:=rB hx hw hf (ye hp hw he);exact fin rfl (by unfold execOp;rw[ho];simp[h1]) h2
 ·rename_i t x i ho;unfold op at h;rw[ho]at h;simp only[aa]at h;obtain⟨mv,hm,k,s8,h⟩:=h;obtain⟨_,x,hx,rfl⟩:=aq h;obtain⟨rv,h1,h2⟩:=iv hx hw (Ub hm hw he) (Ub s8 hw he);exact fin rfl (by unfold execOp;rw[ho];simp[h1]) h2
 ·simp at jc
theorem S6{F:Fence}{m:Nat}{Q:Exit->Act->World->Prop}(hC:Gj A call)(hF:Hw F)(T:Trace A call Fa n os σ τ)(hq:Wc call)(qO:dc A.Pa g0 w0 (σ 0).H)(inv:Inv A.Pa os σ τ n g0 f0 w0 ds L g f a w)(hD:Down os L){i:Nat}(hi:xm os L i)
  {K:Act->World->Prop} (hK:∀g' f' a' w',Inv A.Pa os σ τ n g0 f0 w0 ds (fun j=>L j\/j=i) g' f' a' w'->K a' w'):wpOpIn F m A.P os Q i K a w:=by
 have hi1:=hi.1;have ho:os[i]?=some os[i]:=by simp[hi1]
 generalize os[i]=o at ho;obtain⟨M,hM⟩:=inv.masked T hq hD hi ho;unfold wpOpIn;simp only[ho];have bM:∀b,Yc os (σ i) o=some b->Region.wanted o (yielded os a.tmps)=b:=fun b hb=>Wy (iM hb hM.e) hM.he
 rcases T.step i o ho with⟨q,v,s',hg,CB,ht,Wg⟩|⟨hg,Wg,ht⟩|⟨v,hg,Eh,kD,Wg,ht,paa,CB⟩
 ·rw[bM true hg,if_pos rfl];obtain⟨p1,p2,p3,p4⟩:=Ru Wg;obtain⟨s1,h1,h2,h3,h4,h5,h6⟩:=oV CB;have haa:Zc A Fa (SC (τ i) (σ i)) o q=τ i:=by rw[JF,<- ht]
  have V4:∀x∈o.op.operands,operand A M.e x=operand A (SC (τ i) (σ i)).e x:=fun x hx=>by
   rw[sQ];cases x with
   |tmp t=>simp only[operand];rw[hM.e t (Df _ (List.mem_filterMap.2 ⟨.tmp t,by simpa using hx,rfl⟩))]
   |const v=>rfl
   |global gv=>rfl
   |func fv=>rfl
  obtain⟨M',Uaj,st⟩:=lG (q:=q) (t:=M) hq h1 V4 (fun hh=>hM.H1 (by rw[haa]at hh;exact hh)) (by rw[tQ];exact hM.bj) (fun b wr hb=>by
   rw[haa]at hb;rw[tQ];exact hM.F b (T.gr hD hi ⟨wr,hb⟩))
  rw[haa]at st;have stF:=st.f;rw[tQ]at stF;have hE:∀k wr,τ i= .box k wr->f.E k/\k<(σ i).F.length:=fun k wr hk=>by
   rw[ht]at hk;obtain⟨t,ht',c,hc⟩:=NQ (os:=os) hk;have:=hM.he t;rw[hM.e t ht',hc]at this;exact this.1
  refine PI hC Uaj hM.hw hM.hf hM.he hF (fun ty x y Faf k c hx=> ?_) fun hse g' f' w' rv vG cM hx hv=> ?_
  ·have h0:operand A (σ i).e x=some (.loc k c):=by
    have:=V4 x (by rw[Faf];simp[Op.operands]);rw[hx,sQ]at this;exact this.symm
   have:τ i= .box k true:=by rw[ht];unfold Zc;rw[Faf];simp only[h0];rfl
   exact this
  ·obtain h:=inv.step T hq qO hD hi ho hM hx vG cM hv (fun d hd=>p4 d hd) (fun hh=>by rw[p2,h4,(st.h.1 hh)]) (fun hh=>(st.h.2 hh).1) (by
    have hFs:(σ (i+1)).F=s1.F:=by rw[p3,h3]
    rcases stF with⟨e1,e2⟩|⟨row,e1,e2,htn⟩|⟨k,row,hk,e1,e2,_⟩
    ·by_cases hb:∃b,τ i= .box b true
     ·obtain⟨b,hb⟩:=hb;obtain⟨hEb,LR⟩:=hE b true hb;have hMb:M.F[b]?=(σ i).F[b]?:=hM.F b (T.gr hD hi ⟨true,hb⟩);have hr:=Ba LR;refine .inr (.inr ⟨b,(σ i).F[b],hb,?_,?_,hEb,LR⟩)
      ·rw[e2];refine List.ext_getElem? fun k=> ?_
       rw[Ob];split
       ·rename_i e;subst e;rw[if_pos (by rw[hM.bj];exact LR),hMb,hr]
       ·rfl
      ·rw[hFs,e1];refine List.ext_getElem? fun k=> ?_
       rw[Ob];split
       ·rename_i e;subst e;first|(rw[hr];simp;done)|(rw[hr];done)|(simp[LR,hr];done)|simp
       ·rfl
     ·exact .inl ⟨e2,by rw[hFs,e1],fun b Ld=>hb ⟨b,Ld⟩⟩
    ·refine .inr (.inl ⟨row,e2,by rw[hFs,e1],fun b hb=> ?_⟩);rw[htn]at hb;simp at hb
    ·exact .inr (.inr ⟨k,row,hk,e2,by rw[hFs,e1],hE k true hk⟩))
   exact hK _ _ _ _ h
 ·rw[bM false hg,if_neg (by simp)];refine⟨fun f _=>hF.fn f,?_⟩;obtain⟨p1,p2,p3,p4⟩:=Ru Wg;exact hK _ _ _ _ (inv.step T hq qO hD hi ho hM (v:= .v (.Sc [])) (rv:=undef) (.refl _ _ _ _ _) hM.hw hM.hf (mE _ _) (fun d hd=>p4 d hd) (fun hh=>by rw[ht]at hh;simp[qf.Fc]at hh) (fun _=>rfl) (.inl ⟨rfl,p3,fun b hb=>by rw[ht]at hb;simp at hb⟩))
 ·rw[bM true hg,if_pos rfl];obtain⟨p1,p2,p3,p4⟩:=Ru Wg;obtain⟨p,xU,Mr,Pe⟩:=T.upto hD hi paa;obtain⟨s2,Dv⟩:=CB p xU Mr;have hlen:(σ i).H.bl.length<=(σ p).H.bl.length:=(T.span hq p xU Mr).len;have hle:(g.lim (σ i).H.bl.length).Le w (g.lim (σ p).H.bl.length) w:=⟨fun b hb=>⟨⟨hb.1,zb hb.2 hlen⟩,rfl⟩,fun R hR=>⟨hR,rfl⟩⟩;have hwp:=inv.heap p Mr Pe;have saa:∀x∈o.op.operands,operand A M.e x=operand A (σ i).e x:=fun x hx=>by
   cases x with
   |tmp t=>simp only[operand];rw[hM.e t (Df _ (List.mem_filterMap.2 ⟨.tmp t,by simpa using hx,rfl⟩))]
   |const v=>rfl
   |global gv=>rfl
   |func fv=>rfl
  have Hz:Wj A o=true:=by unfold yf at Eh;simp only[Va]at Eh;exact Eh.1
  have qaa:∃s3,op A call Fa ⟨M.e,M.F,(σ p).H⟩ o=some (v,s3):=by
   unfold yf at Eh;simp only[Va]at Eh;unfold Wj at Hz;split at Hz
   ·rename_i t x K2;unfold op at Dv ⊢;rw[K2]at Dv Eh ⊢;simp only[aa]at Dv;obtain⟨q,hq1,Dv⟩:=Dv;have hq2:operand A (σ i).e (.tmp x)=some q:=hq1;have hme:=saa (.tmp x) (by rw[K2];simp[Op.operands]);simp only[hq2]at Eh;simp only[hme,hq2,ga];obtain⟨_,y,hy,rfl⟩:=aq Dv;refine⟨_,show Uf _ _=some (.v y,⟨M.e,M.F,(σ p).H⟩)from ?_⟩;have hl:load A ⟨M.e,M.F,(σ p).H⟩ t q=some y:=by
     revert hy
     cases q with
     |loc k c=>simp at Eh
     |v a=>cases a<;>simp at Eh;exact id
    rw[hl];rfl
   ·rename_i t x k K2;unfold op at Dv ⊢;rw[K2]at Dv ⊢;simp only[aa]at Dv;obtain⟨mv,hm,kv,s8,Dv⟩:=Dv;have e1:=saa x (by rw[K2];simp[Op.operands]);have e2:=saa k (by rw[K2];simp[Op.operands]);have hm':val A M.e x=some mv:=by rw[<- hm];simp only[val,e1]
    have wU:val A M.e k=some kv:=by rw[<- s8];simp only[val,e2]
    simp only[hm',wU,ga];obtain⟨_,y,hy,rfl⟩:=aq Dv;have Wf:lookup A (σ p).H t mv kv false=some y:=hy;exact⟨_,show Uf _ _=some (.v y,⟨M.e,M.F,(σ p).H⟩)by rw[Wf];rfl⟩
   ·simp at Hz
  obtain⟨s3,qaa⟩:=qaa;have QC:Td (g.lim (σ p).H.bl.length) (f.lim (σ i).F.length fun b=>τ i= .box b true) w (σ p).H M.F:=by
   refine⟨hM.hf.Ie,fun k row hk hr=> ?_,hM.hf.inj,fun k hk=>inv.apart k hk.1 p Mr Pe⟩;obtain⟨cs,h1,h2⟩:=hM.hf.Vc k row hk hr;exact⟨cs,h1,h2.mono hle⟩
  have hep:Ze (g.lim (σ p).H.bl.length) (f.lim (σ i).F.length fun b=>τ i= .box b true) w M.e a.tmps:=fun t=>(hM.he t).mono hle fun i hi=>⟨hi,rfl⟩
  refine xI Hz qaa hwp QC hep hF fun rv hv=> ?_
  have Ht:Fe (g.lim (σ i).H.bl.length) (f.lim (σ i).F.length fun b=>τ i= .box b true) w v rv:=LI (g:=g.lim (σ p).H.bl.length) kD (fun b hb Ac=>⟨hb.1,Ac⟩) (fun _=>rfl) hv;exact hK _ _ _ _ (inv.step T hq qO hD hi ho hM (v:=v) (rv:=rv) (.refl _ _ _ _ _) hM.hw hM.hf Ht (fun d hd=>p4 d hd) (fun hh=>by rw[ht]at hh;simp[qf.Fc]at hh) (fun _=>rfl) (.inl ⟨rfl,p3,fun b hb=>by rw[ht]at hb;simp at hb⟩))
def GN(A:yh)(call:Callee)(Fa:List Nat)(n:Nat)(os:Array Oper)(b:List Nat)(i:Nat)(x:List qf)(s s1:S)(t:qf)(o:Oper)(later:SV->Prop):Prop:=
 (∃q v s',Yc os s o=some true/\TN A call Fa t s o=some (v,s')/\t=Zc A Fa s o q/\put s' n o.dst v=some s1)\/
 (Yc os s o=some false/\put s n o.dst (.v (.Sc []))=some s1/\t= .no)\/
 (∃v,Yc os s o=some true/\yf A s o=true/\Ar s.H.bl.length v=true/\put s n o.dst v=some s1/\t= .no/\kR b i x=true/\later v)
theorem kB{b:List Nat}:∀(l:List Oper)(i:Nat)(s:S)(x:List qf)(rs:List (Oper×List (Nat×SV)×SV))(s':S)(y:List qf),Zg A call Fa rs s->Xj A call Fa n os b l i s x rs=some (s',y)->
  ∃(σ:Nat->S)(τ:Nat->qf),σ 0=s/\σ l.length=s'/\y=x++(ua l.length).map τ/\(∀k,k<=l.length->Zg A call Fa rs (σ k))/\∀k o,l[k]?=some o->
   GN A call Fa n os b (i+k) (x++(ua k).map τ) (σ k) (σ (k+1)) (τ k) o fun v=>∀k',k<=k'->k'<=l.length->∃s',op A call Fa { σ k' with e:=(σ k).e } o=some (v,s')
 |[],i,s,x,rs,s',y,FR,h=>by
  simp[Xj]at h;obtain⟨rfl,rfl⟩:=h;exact⟨fun _=>s,fun _=> .no,rfl,rfl,by simp,fun _ _=>FR,fun k o h=>by simp at h⟩
 |o::l,i,s,x,rs,s',y,FR,h=>by
  simp only[Xj,aa]at h;obtain⟨g,hg,h⟩:=h;have fin:∀(s1:S)(t:qf)(rs':List (Oper×List (Nat×SV)×SV)),Zg A call Fa rs' s1->(∀r∈rs,r∈rs')->Xj A call Fa n os b l (i+1) s1 (x++[t]) rs'=some (s',y)->
    (∀(later:SV->Prop),(∀v s0,op A call Fa s o=some (v,s0)->(o,s.e,v)∈rs'->later v)->GN A call Fa n os b i x s s1 t o later)->
    ∃(σ:Nat->S)(τ:Nat->qf),σ 0=s/\σ (o::l).length=s'/\y=x++(ua (o::l).length).map τ/\(∀k,k<=(o::l).length->Zg A call Fa rs (σ k))/\∀k o',(o::l)[k]?=some o'->
     GN A call Fa n os b (i+k) (x++(ua k).map τ) (σ k) (σ (k+1)) (τ k) o' fun v=>∀k',k<=k'->k'<=(o::l).length->∃s',op A call Fa { σ k' with e:=(σ k).e } o'=some (v,s'):=fun s1 t rs' Haj Eaj h1 h2=>by
   obtain⟨σ,τ,e0,e1,e2,e4,e3⟩:=kB l (i+1) s1 _ rs' s' y Haj h1;refine⟨fun k=>match k with|0=>s|k+1=>σ k,fun k=>match k with|0=>t|k+1=>τ k,rfl,by simpa using e1,?_,fun k hk=> ?_,fun k o' hk=> ?_⟩
   ·rw[e2,Jb,List.range_succ_eq_map]
    simp
   ·cases k with
    |zero=>exact FR
    |succ k=>exact fun r hr=>e4 k (by simpa using hk) r (Eaj r hr)
   ·cases k with
    |zero=>
     simp at hk;subst hk;have:=h2 (fun v=>∀k',0<=k'->k'<=(o::l).length->∃s',op A call Fa { (match k' with|0=>s|k+1=>σ k:S)with e:=s.e } o=some (v,s')) fun v s0 hv hm k' _ s8=>by
      cases k' with
      |zero=>exact⟨s0,hv⟩
      |succ k'=>exact e4 k' (by simpa using s8) _ hm
     simpa[e0]using this
    |succ k=>
     have:=e3 k o' (by simpa using hk);have e5:i+1+k=i+(k+1):=by omega
     have e6:x++[t]++(ua k).map τ=x++(ua (k+1)).map (fun k=>match k with|0=>t|k+1=>τ k):=by
      rw[List.range_succ_eq_map];simp
     rw[e5,e6]at this;rcases this with h|h|⟨v,a1,a2,a3,a4,a5,a6,a7⟩
     ·exact .inl h
     ·exact .inr (.inl h)
     ·refine .inr (.inr ⟨v,a1,a2,a3,a4,a5,a6,fun k' h1 h2=> ?_⟩);cases k' with
      |zero=>omega
      |succ k'=>exact a7 k' (by omega) (by simpa using h2)
  cases g with
  |true=>
   simp only at h;split at h
   ·rename_i Eh;simp only[aa]at h;obtain⟨⟨v,s1⟩,CB,h⟩:=h;simp only at h;split at h
    case isFalse=>simp at h
    rename_i kD;simp only[Va]at kD;simp only[aa]at h;obtain⟨s2,Wg,h⟩:=h;split at h
    case isFalse=>simp at h
    rename_i Hg;exact fin s2 .no _ Hg (fun r hr=>Df _ hr) h fun later hl=> .inr (.inr ⟨v,hg,Eh,kD.1,Wg,rfl,kD.2,hl v s1 CB (by simp)⟩)
   ·simp only[aa]at h;obtain⟨⟨v,s1⟩,CB,s2,Wg,h⟩:=h;split at h
    case isFalse=>simp at h
    rename_i Hg;exact fin s2 _ _ Hg (fun r hr=>hr) h fun later hl=> .inl ⟨_,v,s1,hg,CB,rfl,Wg⟩
  |false=>
   simp only[aa]at h;obtain⟨s1,Wg,h⟩:=h;split at h
   case isFalse=>simp at h
   rename_i Hg;exact fin s1 _ _ Hg (fun r hr=>hr) h fun later hl=> .inr (.inl ⟨hg,Wg,rfl⟩)
theorem Fg{α:Type}{l:List α}{i:Nat}{x:α}(h:l[i]?=some x):(x,i)∈l.zipIdx:=by
 rw[List.mem_iff_getElem?];exact⟨i,by simp[h]⟩
theorem eG{s s':S}(h:region A call Fa n os true s=some s'):∃(σ:Nat->S)(τ:Nat->qf),σ 0=s/\σ os.size=s'/\Trace A call Fa n os σ τ/\∀j o,os[j]?=some o->∀e∈o.after,Region.binds .any e=true->e.on<j:=by
 simp only[region,if_true]at h;split at h
 case isFalse=>simp at h
 rename_i KV;simp only[aa]at h;obtain⟨⟨s1,y⟩,Taj,h⟩:=h;split at h
 case isFalse=>simp at h
 rename_i Bv;simp at h;subst h;obtain⟨σ,τ,e0,e1,e2,_,e3⟩:=kB os.toList 0 s [] [] s1 y (fun r hr=>by simp at hr) Taj;have hy:∀k,k<os.size->y[k]?=some (τ k):=fun k hk=>by rw[e2];simp[hk]
 simp only[aG,Va]at KV;obtain⟨E2,tU⟩:=KV;refine⟨σ,τ,e0,by simpa using e1,⟨fun i o ho=> ?_,fun i j oi oj hoi hoj Ac=> ?_,fun i j hi hj Uc hw=> ?_⟩,fun j o ho e he hb=> ?_⟩
 ·rcases e3 i o (by simpa using ho)with h|h|⟨v,a1,a2,a3,a4,a5,a6,a7⟩
  ·exact .inl h
  ·exact .inr (.inl h)
  ·refine .inr (.inr ⟨v,a1,a2,a3,a4,a5,fun j hj hw=> ?_,fun k h1 h2=>a7 k h1 (by simpa using h2)⟩);have hm:(τ j,j)∈([]++(ua i).map τ).zipIdx:=Fg (by simp[hj]);have:=tc.1 a6 _ hm
   simpa[hw,qf.Fc,qf.writes]using this
 ·have h1:=tc.1 tU _ (Fg (l:=os.toList) (i:=j) (x:=oj) (by simpa using hoj));have h2:=tc.1 h1 _ (Fg (l:=os.toList) (i:=i) (x:=oi) (by simpa using hoi))
  simpa[Ac]using h2
 ·have h1:=tc.1 Bv _ (Fg (hy j hj));simp only[hw,Zf,Bool.false_or]at h1;have h2:=tc.1 h1 _ (Fg (hy i hi));simp only[Yh,Va,decide_eq_true_eq,beq_iff_eq,Bool.not_eq_true']at h2;rcases h2 with((h2|h2)|h2)|h2
  ·exact absurd h2 Uc
  ·exact .inl h2
  ·exact .inr (.inl h2)
  ·exact .inr (.inr h2)
 ·have h1:=tc.1 E2 _ (Fg (l:=os.toList) (i:=j) (x:=o) (by simpa using ho));have h2:=tc.1 h1 e (by simpa using he)
  simpa[hb]using h2
def yR(listed:Array Bool)(j:Nat):Prop:=listed.getD j false=true
theorem ND{l:List Bool}{i:Nat}(h:l[i]?=some false):0<l.countP (!·):=by
 rw[List.countP_pos_iff];exact⟨false,Nb h,rfl⟩
theorem Oz{l:List Bool}:∀{i:Nat},l[i]?=some false->(l.set i true).countP (!·)+1=l.countP (!·):=by
 induction l with
 |nil=>intro i h;simp at h
 |cons x l ih=>
  intro i h;cases i with
  |zero=>simp at h;subst h;simp
  |succ i=>
   have:=ih (i:=i) (by simpa using h);simp only[List.set_cons_succ,List.countP_cons];omega
theorem G0{F:Fence}{m:Nat}{Q:Exit->Act->World->Prop}(hC:Gj A call)(hF:Hw F)(T:Trace A call Fa n os σ τ)(hq:Wc call)(qO:dc A.Pa g0 w0 (σ 0).H)
  (rJ:∀j o,os[j]?=some o->∀e∈o.after,Region.binds .any e=true->e.on<j)
  (Jz:∀g' f' a' w' L,Inv A.Pa os σ τ n g0 f0 w0 ds L g' f' a' w'->(∀j,j<os.size->L j)->Q .normal a' w'):
  ∀(fuel:Nat)(listed:Array Bool)(g:Gx)(f:Fx)(a:Act)(w:World),listed.size=os.size->listed.toList.countP (!·)<=fuel->Down os (yR listed)->Inv A.Pa os σ τ n g0 f0 w0 ds (yR listed) g f a w->wpAnyIn F m A.P .any os Q fuel listed a w:=by
 have Hg:∀(listed:Array Bool),listed.size=os.size->Region.ready .any os listed=[]->∀j,j<os.size->yR listed j:=by
  intro listed hs hr j;induction j using Nat.strongRecOn with
  |ind j ih=>
   intro hj;unfold yR;cases hl:listed.getD j false with
   |true=>rfl
   |false=>
    exfalso;have:j∈Region.ready .any os listed:=mem_ready.2 ⟨by simp[dr,hs,hj]at hl ⊢;exact hl,os[j],by simp[hj],fun e he hb=>ih e.on (rJ j _ (by simp[hj]) e he hb) (by have:=rJ j os[j] (by simp[hj]) e he hb;omega)⟩;rw[hr]at this;simp at this
 intro fuel;induction fuel with
 |zero=>
  intro listed g f a w hs hc hD inv;have hr:Region.ready .any os listed=[]:=by
   cases hr:Region.ready .any os listed with
   |nil=>rfl
   |cons i l=>
    exfalso;have hi:i∈Region.ready .any os listed:=by rw[hr];simp
    obtain⟨h1,o,ho,_⟩:=mem_ready.1 hi;have Ac:=Za ho;have:listed.toList[i]?=some false:=by simp[dr,hs,Ac]at h1;simp[hs,Ac,h1]
    have:=ND this;omega
  exact⟨hr,Jz g f a w _ inv (Hg listed hs hr)⟩
 |succ fuel ih=>
  intro listed g f a w hs hc hD inv;refine⟨fun hr=>Jz g f a w _ inv (Hg listed hs hr),fun i hi=> ?_⟩;obtain⟨h1,o,ho,Waa⟩:=mem_ready.1 hi;have Ac:=Za ho;have Laa:listed.toList[i]?=some false:=by simp[dr,hs,Ac]at h1;simp[hs,Ac,h1]
  have TL:¬yR listed i:=by unfold yR;simp[dr,hs,Ac]at h1 ⊢;exact h1
  have NV:xm os (yR listed) i:=⟨Ac,TL,fun k hk=>by
   obtain⟨e,he,hb,h⟩:=iV ho hk;have hL:=Waa e he hb;rcases h with rfl|h
   ·exact hL
   ·exact hD k e.on (by have:=rJ i o ho e he hb;omega) hL h⟩
  have uag:(fun j=>yR listed j\/j=i)=yR (listed.setIfInBounds i true):=by
   funext j;apply propext;unfold yR;by_cases e:j=i
   ·subst e;simp[dr,hs,Ac]
   ·rw[getD_set_ne false (fun h=>e h.symm)];exact⟨fun h=>h.resolve_right e,.inl⟩
  refine S6 hC hF T hq qO inv hD NV fun g' f' a' w' maj=> ?_
  refine ih _ g' f' a' w' (by simpa using hs) ?_ ?_ ?_
  ·have:=Oz Laa;rw[Array.toList_setIfInBounds];omega
  ·rw[<- uag];exact hD.add NV
  ·rw[<- uag];exact maj
theorem WT(hm:A.P.follows .mixedOrders=true):Jn A:=by
 intro call Fa hC hq F m n id all g f s s' a w Q hF h jc hk;obtain⟨σ,τ,rfl,rfl,T,rJ⟩:=eG h;refine wpIn_region_any hm ?_;have hh:({ w with drawn:=w.drawn+1 }:World).heap=w.heap:=rfl;have jaa:St A.Pa g f (σ 0) n a { w with drawn:=w.drawn+1 }:=by
  refine⟨jc.hw.heap hh,jc.hf.heap hh,fun t=>(jc.he t).mono (.heap hh) fun _ h=>⟨h,rfl⟩,jc.hn,?_,jc.hW⟩;exact jc.hm.step jc.hw jc.hf (.heap hh)
 refine G0 (g0:=g) (f0:=f) (w0:={ w with drawn:=w.drawn+1 }) (ds:=a.defers) hC hF T hq jaa.hw rJ (fun g' f' a' w' L inv hL=> ?_) all.size _ g f a _ (by simp) ?_ ?_ ?_
 ·obtain⟨f2,h1,h2⟩:=inv.finish T hq jaa hL;exact hk g' f2 a' w' h1 ((Bg.heap hh).trans h2) (by rw[inv.ds];exact .refl _ _)
 ·rw[Array.toList_replicate];exact Ib List.countP_le_length (by simp)
 ·intro i j hj hL;unfold yR at hL;simp[dr]at hL
 ·have:yR (Array.replicate all.size false)=fun _=>False:=by
   funext j;apply propext;unfold yR;simp[dr]
  rw[this];exact Inv.start T hq jaa
end
end Go.V
