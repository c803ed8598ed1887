/- An evaluator of the translated code and that it is right: each of its answers is an answer of the model. -/
import Derived.Test.YtjenflkegbmkkaaGreatDoorA4
import Derived.Orders
set_option linter.unusedVariables false
set_option linter.unusedSimpArgs false
set_option linter.unusedSectionVars false
open Array renaming getD→kq
open Bool renaming or_eq_true→Ff,and_eq_true→Ia,not_true→Xl
open List renaming mem_cons_of_mem→Gb,length_nil→ek,getD_eq_getElem?_getD→Ea,getElem?_append_left→Fa,getElem?_eq_none→mb,getElem?_set→Kb,getElem?_eq_getElem→ya,getElem?_of_mem→Yd,map_cons→Dd,mem_cons→oc,getElem?_append_right→Ka,replicate→Ja,getElem?_replicate→Ei,mem_append_left→qf,length_eq_zero_iff→Da,range→ua,mem_iff_getElem?→GB,all_eq_true→Yb,mem_of_getElem?→jb
open Nat renaming zero_add→de,lt_or_gt_of_ne→Yu,lt_or_ge→Rb,le_refl→oa,le_trans→Ib,lt_of_lt_of_le→Za,zero_le→Nd,le_of_lt→Hr
open Option renaming map_eq_some_iff→ia,bind_eq_some_iff→aa,bind_some→da
namespace Go.V
open Go
theorem force_eq {α:Type} (n:Nat) (k:Nat->α):force n k=k n:=by cases n<;>rfl
theorem Zp (acc:List Nat) (i:Nat):∀ es:List Edge,(bitsOf acc es).testBit i=true->∃ e∈es,Region.binds .any e=true/\(e.on=i\/(acc.getD e.on 0).testBit i=true)
 |[],h=>by simp [bitsOf] at h
 |e::es,h=>by
  simp only [bitsOf] at h;split at h
  · rename_i hb;simp only [Nat.testBit_or,Ff,Nat.testBit_two_pow,decide_eq_true_eq] at h;rcases h with (h|h)|h
    · exact ⟨e,by simp,hb,.inl h⟩
    · exact ⟨e,by simp,hb,.inr h⟩
    · obtain ⟨x,h1,h2⟩:=Zp acc i es h;exact ⟨x,Gb _ h1,h2⟩
  · obtain ⟨x,h1,h2⟩:=Zp acc i es h;exact ⟨x,Gb _ h1,h2⟩
theorem bq:∀ (os:List Oper) (acc:List Nat),acc <+: ck os acc
 |[],acc=>List.prefix_refl _
 |o::os,acc=>by
  simp only [ck,force_eq];exact (List.prefix_append _ _).trans (bq os _)
theorem XD:∀ (os:List Oper) (acc:List Nat) (k:Nat) (o:Oper),os[k]?=some o->
  ∃ UY,UY <+: ck os acc/\UY.length=acc.length+k/\(ck os acc)[acc.length+k]?=some (bitsOf UY o.after.toList)
 |[],acc,k,o,h=>by simp at h
 |o'::os,acc,0,o,h=>by
  simp at h;subst h;refine ⟨acc,bq _ _,rfl,?_⟩;simp only [ck,force_eq];obtain ⟨t,ht⟩:=bq os (acc++[bitsOf acc o'.after.toList]);rw [<- ht]
  simp
 |o'::os,acc,k+1,o,h=>by
  obtain ⟨UY,h1,h2,h3⟩:=XD os (acc++[bitsOf acc o'.after.toList]) k o (by simpa using h);simp only [ck,force_eq];refine ⟨UY,h1,by simp at h2;omega,?_⟩;rw [<- h3];congr 1;simp;omega
theorem OS {os:Array Oper} {i j:Nat} {o:Oper} (ho:os[j]?=some o) (h:ord (ck os.toList []) i j=true):
   ∃ e∈o.after,Region.binds .any e=true/\(e.on=i\/ord (ck os.toList []) i e.on=true):=by
 obtain ⟨acc,h1,h2,h3⟩:=XD os.toList [] j o (by simpa using ho);simp only [ek,de] at h2 h3;unfold ord at h;rw [Ea,h3] at h;obtain ⟨e,he,hb,h⟩:=Zp acc i _ h;refine ⟨e,by simpa using he,hb,h.imp id fun h=> ?_⟩;unfold ord;rw [Ea] at h ⊢;by_cases nc:e.on<acc.length
 · obtain ⟨t,ht⟩:=h1;rw [<- ht,Fa nc];exact h
 · rw [mb (by omega)] at h;simp at h
def Down (os:Array Oper) (L:Nat->Prop):Prop:=∀ i j,j<os.size->L j->ord (ck os.toList []) i j=true->L i
def Hl (os:Array Oper) (L:Nat->Prop) (j:Nat):Prop:=j<os.size/\¬ L j/\∀ i,ord (ck os.toList []) i j=true->L i
theorem Down.add {os:Array Oper} {L:Nat->Prop} {j:Nat} (h:Down os L) (hj:Hl os L j):Down os fun i=>L i\/i=j:=fun i k hk hL ho=>by
 rcases hL with hL|rfl
 · exact .inl (h i k hk hL ho)
 · exact .inl (hj.2.2 i ho)
inductive xZ where
 |slot (t:Nat)
 |heap
 |box (b:Nat)
structure Trace (A:oh) (call:Callee) (za:List Nat) (n:Nat) (os:Array Oper) (σ:Nat->S) (τ:Nat->Ze):Prop where
 step:∀ i o,os[i]?=some o->
  (∃ q v s',Sc os (σ i) o=some true/\rM A call za (τ i) (σ i) o=some (v,s')/\τ i=Uc A za (σ i) o q/\put s' n o.dst v=some (σ (i+1)))\/
  (Sc os (σ i) o=some false/\put (σ i) n o.dst (.v (.Rc []))=some (σ (i+1))/\τ i= .no)\/
  (∃ v,Sc os (σ i) o=some true/\gf A (σ i) o=true/\tq (σ i).H.bl.length v=true/\put (σ i) n o.dst v=some (σ (i+1))/\τ i= .no/\(∀ j,j<i->τ j= .heap true->ord (ck os.toList []) j i=true)/\
   ∀ k,i<=k->k<=os.size->∃ s',op A call za { σ k with e:=(σ i).e } o=some (v,s'))
 nM:∀ i j oi oj,os[i]?=some oi->os[j]?=some oj->i<j->ord (ck os.toList []) i j=true\/oi.apart os oj=true
 lE:∀ i j,i<os.size->j<os.size->i≠j->(τ j).writes=true->(i<j/\ord (ck os.toList []) i j=true)\/(j<i/\ord (ck os.toList []) j i=true)\/conflict (τ i) (τ j)=false
def Wr (os:Array Oper) (τ:Nat->Ze) (j:Nat):xZ->Prop
 | .slot t=>∃ o,os[j]?=some o/\o.dst=some t
 | .heap=>τ j= .heap true
 | .box b=>τ j= .box b true
def Us (os:Array Oper) (τ:Nat->Ze) (j:Nat):xZ->Prop
 | .slot t=>∃ o,os[j]?=some o/\(o.dst=some t\/t∈o.looksAt os)
 | .heap=>(τ j).Cc=true
 | .box b=>∃ w,τ j= .box b w
section
variable {A:oh} {call:Callee} {za:List Nat} {n:Nat} {os:Array Oper} {σ:Nat->S} {τ:Nat->Ze} {L:Nat->Prop}
theorem Wr.us {j:Nat} {c:xZ} (h:Wr os τ j c):Us os τ j c:=by
 cases c with
 |slot t=>obtain ⟨o,h1,h2⟩:=h;exact ⟨o,h1,.inl h2⟩
 |heap=>simp only [Wr] at h;simp only [Us,h,Ze.Cc]
 |box b=>exact ⟨true,h⟩
theorem Trace.order (T:Trace A call za n os σ τ) {i j:Nat} {c:xZ} (hi:i<os.size) (hj:j<os.size) (Nc:i≠j) (hw:Wr os τ j c) (hu:Us os τ i c):
  (i<j/\ord (ck os.toList []) i j=true)\/(j<i/\ord (ck os.toList []) j i=true):=by
 cases c with
 |slot t=>
  obtain ⟨oj,hoj,hd⟩:=hw;obtain ⟨oi,hoi,hu⟩:=hu;rcases Yu Nc with h|h
  · rcases T.nM i j oi oj hoi hoj h with h1|h1
    · exact .inl ⟨h,h1⟩
    · exfalso;obtain ⟨k1,k2,k3⟩:=Oper.apart_spec h1;rcases hu with hu|hu
      · exact k2 t hu hd
      · exact k3 t hd hu
  · rcases T.nM j i oj oi hoj hoi h with h1|h1
    · exact .inr ⟨h,h1⟩
    · exfalso;obtain ⟨k1,k2,k3⟩:=Oper.apart_spec h1;rcases hu with hu|hu
      · exact k2 t hd hu
      · exact k1 t hd hu
 |heap=>
  simp only [Wr] at hw;rcases T.lE i j hi hj Nc (by rw [hw];rfl) with h|h|h
  · exact .inl h
  · exact .inr h
  · exfalso;simp only [Us] at hu;rw [hw] at h;cases hτ:τ i with
    |heap w=>rw [hτ] at h;simp [conflict] at h
    |no=>rw [hτ] at hu;simp [Ze.Cc] at hu
    |box b w=>rw [hτ] at hu;simp [Ze.Cc] at hu
 |box b=>
  simp only [Wr] at hw;rcases T.lE i j hi hj Nc (by rw [hw];rfl) with h|h|h
  · exact .inl h
  · exact .inr h
  · exfalso;obtain ⟨w,hu⟩:=hu;rw [hw,hu] at h;simp [conflict] at h
def Gr (os:Array Oper) (τ:Nat->Ze) (L:Nat->Prop) (p:Nat) (c:xZ):Prop:=
 (∀ j,j<os.size->j<p->¬ L j->¬ Wr os τ j c)/\(∀ j,j<os.size->p<=j->L j->¬ Wr os τ j c)
theorem Trace.lq (T:Trace A call za n os σ τ) (hD:Down os L) {i:Nat} (hi:Hl os L i) {c:xZ} (hu:Us os τ i c):Gr os τ L i c:=by
 refine ⟨fun j hj nc Bj hw=> ?_,fun j hj hle hl hw=> ?_⟩
 · rcases T.order hi.1 hj (by omega) hw hu with h|h
   · omega
   · exact Bj (hi.2.2 j h.2)
 · have Nc:i≠j:=fun e=>hi.2.1 (e ▸ hl)
   rcases T.order hi.1 hj Nc hw hu with h|h
   · exact hi.2.1 (hD i j hj hl h.2)
   · omega
theorem Gr.before {i p:Nat} {c:xZ} (h:Gr os τ (fun j=>L j\/j=i) p c) (hn:¬ Wr os τ i c):Gr os τ L p c:=by
 refine ⟨fun j hj nc Bj hw=> ?_,fun j hj hle hl=>h.2 j hj hle (.inl hl)⟩;by_cases e:j=i
 · exact hn (e ▸ hw)
 · exact h.1 j hj nc (fun h=>h.elim Bj e) hw
theorem Gr.after {i p:Nat} {c:xZ} (hi:i<os.size) (h:Gr os τ (fun j=>L j\/j=i) p c) (hw:Wr os τ i c):i<p:=by
 rcases Rb i p with h1|h1
 · exact h1
 · exact absurd hw (h.2 i hi h1 (.inr rfl))
theorem Trace.pn (T:Trace A call za n os σ τ) (hD:Down os L) {i p:Nat} (hi:Hl os L i) {c:xZ} (hu:Us os τ i c) (h:Gr os τ (fun j=>L j\/j=i) p c) (j:Nat) (hj:j<os.size) (h1:i<j) (h2:j<p):¬ Wr os τ j c:=fun hw=>by
 by_cases hl:L j
 · rcases T.order hi.1 hj (by omega) hw hu with h|h
   · exact hi.2.1 (hD i j hj hl h.2)
   · omega
 · exact h.1 j hj h2 (fun h=>h.elim hl (by omega)) hw
structure Left (os:Array Oper) (σ:Nat->S) (τ:Nat->Ze) (i:Nat):Prop where
 e:∀ t,¬ Wr os τ i (.slot t)->get (σ (i+1)).e t=get (σ i).e t
 wm:(σ (i+1)).H.wm=(σ i).H.wm
 len:(σ i).H.bl.length<=(σ (i+1)).H.bl.length
 H:(τ i).Cc=false->(σ (i+1)).H=(σ i).H
 bl:τ i≠ .heap true->∀ b,b<(σ i).H.bl.length->(σ (i+1)).H.bl[b]?=(σ i).H.bl[b]?
 low:∀ b,b<(σ i).H.wm->b<(σ i).H.bl.length->(σ (i+1)).H.bl[b]?=(σ i).H.bl[b]?
 Ti:(σ i).F.length<=(σ (i+1)).F.length
 F:∀ b,b<(σ i).F.length->τ i≠ .box b true->(σ (i+1)).F[b]?=(σ i).F[b]?
 row:∀ (b:Nat) (r r':List AV),(σ i).F[b]?=some r->(σ (i+1)).F[b]?=some r'->r'.length=r.length
theorem Mt {s s':S} {n:Nat} {dst:Option Nat} {v:SV} (h:put s n dst v=some s'):(∀ t,dst≠some t->get s'.e t=get s.e t)/\s'.H=s.H/\s'.F=s.F/\∀ d,dst=some d->d<n/\get s'.e d=v:=by
 unfold put at h;split at h
 · simp at h;subst h;exact ⟨fun _ _=>rfl,rfl,rfl,fun d hd=>by simp at hd⟩
 · rename_i d;split at h
   · rename_i hd;simp at h;subst h;refine ⟨fun t ht=> ?_,rfl,rfl,fun d' iS=> ?_⟩
     · simp only [get];rw [if_neg (fun e=>ht (by rw [e]))]
     · simp at iS;subst iS;exact ⟨hd,by simp [get]⟩
   · simp at h
def EB (t:Ze) (s:S):S:=
 match t with
 | .heap true=>s
 |_=>{ s with H:={ s.H with wm:=s.H.bl.length } }
theorem YS {t:Ze} {s s':S} {o:Oper} {v:SV} (h:rM A call za t s o=some (v,s')):
   ∃ s1,op A call za (EB t s) o=some (v,s1)/\s'.e=s1.e/\s'.F=s1.F/\s'.H.bl=s1.H.bl/\(t= .heap true->s'=s1)/\(t≠ .heap true->s'.H.wm=s.H.wm):=by
 have hm:(op A call za { s with H:={ s.H with wm:=s.H.bl.length } } o).map (fun (v,s')=>(v,{ s' with H:={ s'.H with wm:=s.H.wm } }))=some (v,s')->
     ∃ s1,op A call za { s with H:={ s.H with wm:=s.H.bl.length } } o=some (v,s1)/\s'.e=s1.e/\s'.F=s1.F/\s'.H.bl=s1.H.bl/\s'.H.wm=s.H.wm:=fun h=>by
   simp only [ia] at h;obtain ⟨⟨u,s1⟩,h1,h⟩:=h;simp at h;obtain ⟨rfl,rfl⟩:=h;exact ⟨s1,h1,rfl,rfl,rfl,rfl⟩
 unfold rM at h;split at h
 · exact ⟨s',h,rfl,rfl,rfl,fun _=>rfl,fun h=>absurd rfl h⟩
 · rename_i Nc;obtain ⟨s1,h1,h2,h3,h4,h5⟩:=hm h;refine ⟨s1,?_,h2,h3,h4,fun h=>absurd h Nc,fun _=>h5⟩;unfold EB;split
   · exact absurd rfl Nc
   · exact h1
theorem wO (t:Ze) (s:S):(EB t s).e=s.e:=by unfold EB;split<;>rfl
theorem xO (t:Ze) (s:S):(EB t s).F=s.F:=by unfold EB;split<;>rfl
theorem aq (t:Ze) (s:S):(EB t s).H.bl=s.H.bl:=by unfold EB;split<;>rfl
theorem oB {t:Ze} {s:S} (h:t≠ .heap true):(EB t s).H.wm=s.H.bl.length:=by unfold EB;split;exact absurd rfl h;rfl
theorem VD (t:Ze) (s:S) (o:Oper) (q:Bool):Uc A za (EB t s) o q=Uc A za s o q:=by unfold Uc;simp only [wO]
theorem Trace.left (T:Trace A call za n os σ τ) (hq:Pc call) {i:Nat} (hi:i<os.size):Left os σ τ i:=by
 have ho:os[i]?=some os[i]:=by simp [hi]
 generalize os[i]=o at ho;have B1:∀ t,¬ Wr os τ i (.slot t)->o.dst≠some t:=fun t hn hd=>hn ⟨o,ho,hd⟩
 have HP:∀ {v:SV},put (σ i) n o.dst v=some (σ (i+1))->τ i= .no->Left os σ τ i:=fun {v} Hg ht=>by
   obtain ⟨p1,p2,p3,p4⟩:=Mt Hg;refine ⟨fun t hn=>p1 t (B1 t hn),by rw [p2],by rw [p2];exact oa _,fun _=>p2,fun _ b _=>by rw [p2],fun b _ _=>by rw [p2],by rw [p3];exact oa _,fun b _ _=>by rw [p3],fun b r r' hr Rk=> ?_⟩;rw [p3,hr] at Rk;simp at Rk;rw [Rk]
 rcases T.step i o ho with ⟨q,v,s',hg,qA,ht,Hg⟩|⟨hg,Hg,ht⟩|⟨v,_,_,_,Hg,ht,_⟩
 · obtain ⟨p1,p2,p3,p4⟩:=Mt Hg;obtain ⟨s1,h1,h2,h3,h4,h5,h6⟩:=YS qA;obtain ⟨t',_,st⟩:=CE (q:=q) (t:=EB (τ i) (σ i)) hq h1 (fun _ _=>rfl) (fun _=>rfl) rfl (fun _ _ _=>rfl);rw [VD,<- ht] at st;obtain ⟨q1,q2,q3⟩:=st.q;rw [aq] at q2 q3;have Ct:(σ (i+1)).H.bl=s1.H.bl:=by rw [p2,h4]
   have Of:(σ (i+1)).H.wm=(σ i).H.wm:=by
     rw [p2];by_cases hw:τ i= .heap true
     · rw [h5 hw,q1,hw];rfl
     · exact h6 hw
   have yT:(σ i).H.wm<=(EB (τ i) (σ i)).H.wm\/True:= .inr trivial;have C9:∀ b,b<(EB (τ i) (σ i)).H.wm->b<(σ i).H.bl.length->(σ (i+1)).H.bl[b]?=(σ i).H.bl[b]?:=fun b hb hl=>by rw [Ct];exact q3 b hb hl
   have hF:=st.f;rw [xO] at hF;have hF1:(σ (i+1)).F=s1.F:=by rw [p3,h3]
   rw [<- hF1] at hF;refine ⟨fun t hn=> ?_,Of,by rw [Ct];exact q2,fun hh=> ?_,fun Nc b hb=>C9 b (by rw [oB Nc];exact hb) hb,fun b hb hl=> ?_,?_,fun b hb Nc=> ?_,fun b r r' hr Rk=> ?_⟩
   · rw [p1 t (B1 t hn),h2,st.e1,wO]
   · have:=(st.h.2 hh).2;have Nc:τ i≠ .heap true:=fun e=>by rw [e] at hh;simp [Ze.Cc] at hh
     have e1:(σ (i+1)).H.bl=(σ i).H.bl:=by rw [Ct,this,aq]
     cases hx:(σ (i+1)).H with
     |mk bl wm=>
       cases hy:(σ i).H with
       |mk u4 wm'=>
         rw [hx,hy] at e1 Of;simp at e1 Of;rw [e1,Of]
   · by_cases hw:τ i= .heap true
     · exact C9 b (by rw [hw];exact hb) hl
     · exact C9 b (by rw [oB hw];exact hl) hl
   · rcases hF with ⟨e,_⟩|⟨row,e,_⟩|⟨k,row,_,e,_⟩<;>rw [e]<;>simp
   · rcases hF with ⟨e,_⟩|⟨row,e,_⟩|⟨k,row,hk,e,_⟩
     · rw [e]
     · rw [e,Fa hb]
     · rw [e,List.getElem?_set_ne (fun e'=>Nc (by rw [<- e'];exact hk))]
   · have JH:b<(σ i).F.length:=by rcases Rb b (σ i).F.length with h|h;exact h;simp [mb h] at hr
     rcases hF with ⟨e,_⟩|⟨row,e,_⟩|⟨k,row,hk,e,_,YC⟩
     · rw [e,hr] at Rk;simp at Rk;rw [Rk]
     · rw [e,Fa JH,hr] at Rk;simp at Rk;rw [Rk]
     · rw [e,Kb] at Rk;split at Rk
       · rename_i e';subst e';rw [if_pos JH] at Rk;simp at Rk;subst Rk;exact YC r hr
       · rw [hr] at Rk;simp at Rk;rw [Rk]
 · exact HP Hg ht
 · exact HP Hg ht
structure Span (os:Array Oper) (σ:Nat->S) (τ:Nat->Ze) (p q:Nat):Prop where
 wm:(σ q).H.wm=(σ p).H.wm
 len:(σ p).H.bl.length<=(σ q).H.bl.length
 Ti:(σ p).F.length<=(σ q).F.length
 slot:∀ t,(∀ j,p<=j->j<q->¬ Wr os τ j (.slot t))->get (σ q).e t=get (σ p).e t
 heap:(∀ j,p<=j->j<q->¬ Wr os τ j .heap)->∀ b,b<(σ p).H.bl.length->(σ q).H.bl[b]?=(σ p).H.bl[b]?
 low:∀ b,b<(σ p).H.wm->b<(σ p).H.bl.length->(σ q).H.bl[b]?=(σ p).H.bl[b]?
 box:∀ b,b<(σ p).F.length->(∀ j,p<=j->j<q->¬ Wr os τ j (.box b))->(σ q).F[b]?=(σ p).F[b]?
 row:∀ (b:Nat) (r r':List AV),(σ p).F[b]?=some r->(σ q).F[b]?=some r'->r'.length=r.length
 K4:∀ b,(σ p).H.bl.length<=b->b<(σ q).H.bl.length->∃ j,p<=j/\j<q/\(σ j).H.bl.length<=b/\b<(σ (j+1)).H.bl.length
theorem Trace.span (T:Trace A call za n os σ τ) (hq:Pc call) {p:Nat}:∀ q,p<=q->q<=os.size->Span os σ τ p q
 |0,h,_=>by
  obtain rfl:p=0:=by omega
  exact ⟨rfl,oa _,oa _,fun _ _=>rfl,fun _ _ _=>rfl,fun _ _ _=>rfl,fun _ _ _=>rfl,fun b r r' h h'=>by rw [h] at h';simp at h';rw [h'],fun b h h'=>by omega⟩
 |q+1,h,hs=>by
  by_cases e:p=q+1
  · subst e;exact ⟨rfl,oa _,oa _,fun _ _=>rfl,fun _ _ _=>rfl,fun _ _ _=>rfl,fun _ _ _=>rfl,fun b r r' h h'=>by rw [h] at h';simp at h';rw [h'],fun b h h'=>by omega⟩
  · have ih:=T.span hq (p:=p) q (by omega) (by omega);have l:=T.left hq (i:=q) (by omega);refine ⟨l.wm.trans ih.wm,Ib ih.len l.len,Ib ih.Ti l.Ti,fun t ht=> ?_,fun hh b hb=> ?_,fun b hb hl=> ?_,fun b hb hh=> ?_,fun b r r' hr Rk=> ?_,fun b h1 h2=> ?_⟩
    · exact (l.e t (ht q (by omega) (by omega))).trans (ih.slot t fun j h1 h2=>ht j h1 (by omega))
    · exact (l.bl (hh q (by omega) (by omega)) b (Za hb ih.len)).trans (ih.heap (fun j h1 h2=>hh j h1 (by omega)) b hb)
    · exact (l.low b (by rw [ih.wm];exact hb) (Za hl ih.len)).trans (ih.low b hb hl)
    · exact (l.F b (Za hb ih.Ti) (hh q (by omega) (by omega))).trans (ih.box b hb fun j h1 h2=>hh j h1 (by omega))
    · have hb:b<(σ p).F.length:=by rcases Rb b (σ p).F.length with h|h;exact h;simp [mb h] at hr
      have aD:b<(σ q).F.length:=Za hb ih.Ti;have hm:(σ q).F[b]?=some (σ q).F[b]:=ya aD;exact (l.row b _ r' hm Rk).trans (ih.row b r _ hr hm)
    · by_cases h3:b<(σ q).H.bl.length
      · obtain ⟨j,k1,k2,k3⟩:=ih.K4 b h1 h3;exact ⟨j,k1,by omega,k3⟩
      · exact ⟨q,by omega,by omega,by omega,h2⟩
end
end Go.V
namespace Go.V
open Go
def Gx.lim (g:Gx) (m:Nat):Gx:={ g with D:=fun b=>g.D b/\b<m }
def Fx.lim (f:Fx) (m:Nat) (W:Nat->Prop):Fx:={ E:=fun b=>f.E b/\b<m,φ:=f.φ,W:=W }
theorem JE {g:Gx} {H H':AH} {b:Nat} (h:live g H b) (e:H'.bl=H.bl):live g H' b:=⟨h.1,by rw [e];exact h.2⟩
theorem ZY {g:Gx} {H H':AH} {R:Nat} (h:Fp g H R) (e:H'.bl=H.bl):Fp g H' R:=let ⟨b,h1,h2⟩:=h;⟨b,JE h1 e,h2⟩
theorem Ub.wm {G:Nat->Option (List AV)} {g:Gx} {w:World} {H H':AH} (h:Ub G g w H) (e:H'.bl=H.bl):Ub G g w H':=
 ⟨h.La,fun b hb=>by rw [e];exact h.Ae b hb,fun b x hd hx=>h.Oc b x hd (by rw [<- e];exact hx),fun b b' hb zd=>h.inj b b' (JE hb e.symm) (JE zd e.symm),h.vt⟩
theorem Ub.carry {G:Nat->Option (List AV)} {g g':Gx} {w w':World} {H:AH} (h:Ub G g w H) (hle:g.Le w g' w') (hD:∀ b,g'.D b->g.D b)
   (Wb:∀ b,live g H b->w'.heap[(g.ρ b).R]?=w.heap[(g.ρ b).R]?) (hZ:∀ b,live g H b->¬ g'.Z (g.ρ b).R) (hz:∀ R,g'.Z R->R<w'.heap.size):Ub G g' w' H:=by
 have wT:∀ b,g'.D b->g'.ρ b=g.ρ b:=fun b hb=>(hle.D b (hD b hb)).2
 have hl:∀ b,live g' H b->live g H b:=fun b hb=>⟨hD b hb.1,hb.2⟩
 refine ⟨fun i row hg=>(h.La i row hg).mono hle,fun b hb=>h.Ae b (hD b hb),fun b x hd hx=> ?_,fun b b' hb zd Nc=> ?_,hz⟩
 · rw [wT b hd];exact (h.Oc b x (hD b hd) hx).le hle (fun hv=>Wb b ⟨hD b hd,x,hx,hv⟩) (fun hv=>hZ b ⟨hD b hd,x,hx,hv⟩)
 · rw [wT b hb.1,wT b' zd.1];exact h.inj b b' (hl b hb) (hl b' zd) Nc
structure Inv (G:Nat->Option (List AV)) (os:Array Oper) (σ:Nat->S) (τ:Nat->Ze) (n:Nat) (g0:Gx) (f0:Fx) (w0:World) (ds:List Deferred) (L:Nat->Prop) (g:Gx) (f:Fx) (a:Act) (w:World):Prop where
 n:a.tmps.size=n
 ds:a.defers=ds
 slot:∀ p,p<=os.size->∀ t,Gr os τ L p (.slot t)->we (g.lim (σ p).H.bl.length) (f.lim (σ p).F.length fun _=>True) w (get (σ p).e t) (a.tmps.getD t undef)
 heap:∀ p,p<=os.size->Gr os τ L p .heap->Ub G (g.lim (σ p).H.bl.length) w (σ p).H
 La:∀ i row,G i=some row->Rn (g.lim (σ 0).H.bl.length) w i row
 vt:∀ R,g.Z R->R<w.heap.size
 box:∀ b,f.E b->∃ cs,Row g w (f.φ b) cs.size cs/\(∀ v∈cs.toList,v.oneCell'=true)/\∀ p,p<=os.size->∀ row,(σ p).F[b]?=some row->cs.size=row.length/\(Gr os τ L p (.box b)->Oe (g.lim (σ p).H.bl.length) w cs 0 row)
 x4:∀ b b',f.E b->f.E b'->b≠b'->f.φ b≠f.φ b'
 apart:∀ b,f.E b->∀ p,p<=os.size->Gr os τ L p .heap->¬ Fp (g.lim (σ p).H.bl.length) (σ p).H (f.φ b)
 bF:∀ j,j<os.size->¬ L j->∀ b,(σ j).H.bl.length<=b->b<(σ (j+1)).H.bl.length->¬ g.D b
 zK:∀ j,j<os.size->¬ L j->∀ b,(σ j).F.length<=b->b<(σ (j+1)).F.length->¬ f.E b
 Gae:∀ b,g.D b->b<(σ os.size).H.bl.length
 Fae:∀ b,f.E b->b<(σ os.size).F.length
 wr:∀ j,j<os.size->L j->∀ b,τ j= .box b true->f.E b
 fD:∀ b,g0.D b->g.D b/\g.ρ b=g0.ρ b
 wU:∀ b,g.D b->g0.D b\/(σ 0).H.bl.length<=b
 fZ:∀ R,g0.Z R->g.Z R
 T5:∀ R,g.Z R->g0.Z R\/Fp g0 (σ 0).H R\/w0.heap.size<=R
 fFp:∀ p,p<=os.size->Gr os τ L p .heap->∀ R,Fp (g.lim (σ p).H.bl.length) (σ p).H R->Fp g0 (σ 0).H R\/w0.heap.size<=R
 fE:∀ b,f0.E b->f.E b/\f.φ b=f0.φ b
 vU:∀ b,f.E b->f0.E b\/(σ 0).F.length<=b
 fφ:∀ b,f.E b->¬ f0.E b->w0.heap.size<=f.φ b
 qk:∀ R,R<w0.heap.size->¬ Fp g0 (σ 0).H R->(∀ b,f0.E b->f0.φ b≠R)->w.heap[R]?=w0.heap[R]?
 size:w0.heap.size<=w.heap.size
 still:∀ b,b<(σ 0).H.wm->live g0 (σ 0).H b->w.heap[(g0.ρ b).R]?=w0.heap[(g0.ρ b).R]?/\∀ b',f.E b'->f.φ b'≠(g0.ρ b).R
 io:w.os=w0.os/\w.output=w0.output
section
variable {A:oh} {call:Callee} {za:List Nat} {n:Nat} {os:Array Oper} {σ:Nat->S} {τ:Nat->Ze} {L:Nat->Prop} {g0 g:Gx} {f0 f:Fx} {w0 w:World} {ds:List Deferred} {a:Act}
theorem Inv.zZ (inv:Inv A.La os σ τ n g0 f0 w0 ds L g f a w) {b:Nat} (hb:f.E b):f.φ b<w.heap.size:=by
 obtain ⟨cs,⟨T,fz,hR,_⟩,_⟩:=inv.box b hb;exact Ua hR
theorem Inv.R7 (inv:Inv A.La os σ τ n g0 f0 w0 ds L g f a w) {b:Nat} (hb:f.E b):¬ g.Z (f.φ b):=by
 obtain ⟨cs,⟨T,fz,hR,_,_,hz⟩,_⟩:=inv.box b hb;exact hz
theorem Inv.start (T:Trace A call za n os σ τ) (hq:Pc call) (Wb:St A.La g0 f0 (σ 0) n a w0):Inv A.La os σ τ n g0 f0 w0 a.defers (fun _=>False) g0 f0 a w0:=by
 have jf:∀ p,p<=os.size->Span os σ τ 0 p:=fun p hp=>T.span hq p (Nd _) hp
 have HP:∀ {p:Nat} {c:xZ},p<=os.size->Gr os τ (fun _=>False) p c->∀ j,0<=j->j<p->¬ Wr os τ j c:=fun hp hv j _ hj=>hv.1 j (by omega) hj (fun h=>h)
 have S0:∀ p,p<=os.size->g0.Le w0 (g0.lim (σ p).H.bl.length) w0:=fun p hp=>⟨fun b hb=>⟨⟨hb,Za (Wb.hw.Ae b hb) (jf p hp).len⟩,rfl⟩,fun R hR=>⟨hR,rfl⟩⟩
 have Ct:∀ p,p<=os.size->Gr os τ (fun _=>False) p .heap->∀ b,g0.D b->(σ p).H.bl[b]?=(σ 0).H.bl[b]?:=fun p hp hv b hb=>(jf p hp).heap (HP hp hv) b (Wb.hw.Ae b hb)
 have CB:∀ p,p<=os.size->Gr os τ (fun _=>False) p .heap->∀ R,Fp (g0.lim (σ p).H.bl.length) (σ p).H R->Fp g0 (σ 0).H R:=fun p hp hv R ⟨b,hl,e⟩=>
   ⟨b,⟨hl.1.1,by rw [<- Ct p hp hv b hl.1.1];exact hl.2⟩,e⟩
 refine ⟨Wb.hn,rfl,fun p hp t hv=> ?_,fun p hp hv=> ?_,fun i row hg=> ?_,Wb.hw.vt,fun b hb=> ?_,Wb.hf.inj,fun b hb p hp hv h=>Wb.hf.apart b hb (CB p hp hv _ h),fun j hj _ b h1 _ hb=> ?_,fun j hj _ b h1 _ hb=> ?_,
   fun b hb=>Za (Wb.hw.Ae b hb) (jf _ (oa _)).len,fun b hb=>Za (Wb.hf.Ae b hb) (jf _ (oa _)).Ti,fun _ _ h=>h.elim,fun _ h=>⟨h,rfl⟩,fun _ h=> .inl h,fun _ h=>h,fun _ h=> .inl h,
   fun p hp hv R h=> .inl (CB p hp hv R h),fun _ h=>⟨h,rfl⟩,fun _ h=> .inl h,fun _ h h'=>absurd h h',fun _ _ _ _=>rfl,oa _,fun b _ hl=>⟨rfl,fun b' zd e=>Wb.hf.apart b' zd ⟨b,hl,e.symm⟩⟩,⟨rfl,rfl⟩⟩
 · rw [(jf p hp).slot t (HP hp hv)];exact we.mono (f':=f0.lim (σ p).F.length fun _=>True) (S0 p hp) (fun i hi=>⟨⟨hi,Za (Wb.hf.Ae i hi) (jf p hp).Ti⟩,rfl⟩) (Wb.he t)
 · have h1:=Wb.hw.carry (g':=g0.lim (σ p).H.bl.length) (S0 p hp) (fun b hb=>hb.1) (fun _ _=>rfl) (fun b hb=>Wb.hw.fm hb) Wb.hw.vt;refine ⟨h1.La,fun b hb=>hb.2,fun b x hd hx=>h1.Oc b x hd (by rw [<- Ct p hp hv b hd.1];exact hx),fun b b' hb zd=>h1.inj b b' ⟨hb.1,by rw [<- Ct p hp hv b hb.1.1];exact hb.2⟩ ⟨zd.1,by rw [<- Ct p hp hv b' zd.1.1];exact zd.2⟩,h1.vt⟩
 · exact (Wb.hw.La i row hg).mono (S0 0 (Nd _))
 · have nc:=Wb.hf.Ae b hb;have hr:=ya nc;obtain ⟨cs,⟨T',fz,hR,hs,hz⟩,Pj⟩:=Wb.hf.Oc b _ hb hr;refine ⟨cs,⟨T',fz,hR,rfl,by rw [hs];exact hz⟩,fun v hv=> ?_,fun p hp row Zc=> ?_⟩
   · obtain ⟨c,hc⟩:=Yd hv;have Mm:c<((σ 0).F[b]).length:=by rw [<- hs];have:=Ua (a:=cs) (i:=c) (x:=v) (by simpa using hc);exact this
     obtain ⟨u,h1,h2,_⟩:=Pj c _ (ya Mm);rw [de] at h1;have:cs.toList[c]?=cs[c]?:=by simp
     rw [this,h1] at hc;simp at hc;subst hc;exact h2
   · refine ⟨?_,fun hv=> ?_⟩
     · rw [hs];exact ((jf p hp).row b _ _ hr Zc).symm
     · rw [(jf p hp).box b nc (HP hp hv),hr] at Zc;simp at Zc;subst Zc;exact Pj.mono (S0 p hp)
 · have:=Wb.hw.Ae b hb;have:=(jf j (by omega)).len;omega
 · have:=Wb.hf.Ae b hb;have:=(jf j (by omega)).Ti;omega
end
end Go.V
namespace Go.V
open Go
theorem qp (e:List (Nat×SV)):∀ (l:List Nat) (t:Nat),t∈l->get (l.map fun i=>(i,get e i)) t=get e t
 |[],t,h=>by simp at h
 |i::l,t,h=>by
  simp only [Dd,get];split
  · rename_i e0;rw [e0]
  · rename_i e0;exact qp e l t ((oc.1 h).resolve_left e0)
theorem yx (e:List (Nat×SV)):∀ (l:List Nat) (t:Nat),t∉l->get (l.map fun i=>(i,get e i)) t= .v .Qb
 |[],t,h=>rfl
 |i::l,t,h=>by
  simp only [Dd,get];rw [if_neg (fun e0=>h (by simp [e0]))];exact yx e l t (fun h'=>h (Gb _ h'))
theorem Nx {α:Type} (Q:Nat->α->Prop):∀ m:Nat,(∀ k,k<m->∃ x,Q k x)->∃ l:List α,l.length=m/\∀ k x,l[k]?=some x->Q k x
 |0,_=>⟨[],rfl,fun k x h=>by simp at h⟩
 |m+1,h=>by
  obtain ⟨l,h1,h2⟩:=Nx Q m fun k hk=>h k (by omega)
  obtain ⟨x,hx⟩:=h m (by omega);refine ⟨l++[x],by simp [h1],fun k y hk=> ?_⟩;rcases Nat.lt_trichotomy k m with nc|rfl|hgt
  · rw [Fa (by omega)] at hk;exact h2 k y hk
  · rw [Ka (by omega)] at hk;simp [h1] at hk;subst hk;exact hx
  · rw [mb (by simp;omega)] at hk;simp at hk
structure XY (G:Nat->Option (List AV)) (os:Array Oper) (σ:Nat->S) (τ:Nat->Ze) (L:Nat->Prop) (g:Gx) (f:Fx) (a:Act) (w:World) (i:Nat) (o:Oper) (M:S):Prop where
 wm:M.H.wm=(EB (τ i) (σ i)).H.wm
 len:M.H.bl.length=(σ i).H.bl.length
 H1:(τ i).Cc=true->M.H=(EB (τ i) (σ i)).H
 H0:(τ i).Cc=false->∀ (b:Nat) (x:AB),M.H.bl[b]?=some x->x=AB.dead
 Ti:M.F.length=(σ i).F.length
 F:∀ b,Gr os τ L i (.box b)->M.F[b]?=(σ i).F[b]?
 row:∀ (b:Nat) (r r':List AV),M.F[b]?=some r->(σ i).F[b]?=some r'->r.length=r'.length
 e:∀ t,t∈o.looksAt os->get M.e t=get (σ i).e t
 hw:Ub G (g.lim (σ i).H.bl.length) w M.H
 hf:Jd (g.lim (σ i).H.bl.length) (f.lim (σ i).F.length fun b=>τ i= .box b true) w M.H M.F
 he:Pe (g.lim (σ i).H.bl.length) (f.lim (σ i).F.length fun b=>τ i= .box b true) w M.e a.tmps
section
variable {A:oh} {call:Callee} {za:List Nat} {n:Nat} {os:Array Oper} {σ:Nat->S} {τ:Nat->Ze} {L:Nat->Prop} {g0 g:Gx} {f0 f:Fx} {w0 w:World} {ds:List Deferred} {a:Act} {i:Nat} {o:Oper}
theorem Inv.masked (T:Trace A call za n os σ τ) (hq:Pc call) (inv:Inv A.La os σ τ n g0 f0 w0 ds L g f a w) (hD:Down os L) (hi:Hl os L i) (ho:os[i]?=some o):∃ M,XY A.La os σ τ L g f a w i o M:=by
 have hN:i<=os.size:=Hr hi.1;obtain ⟨F,hFl,hF⟩:=Nx (fun b (row:List AV)=>∀ r,(σ i).F[b]?=some r->row.length=r.length/\(Gr os τ L i (.box b)->row=r)/\(¬ Gr os τ L i (.box b)->∀ c x,row[c]?=some x->x=AV.Qb)) (σ i).F.length (fun b hb=>by
   by_cases hv:Gr os τ L i (.box b)
   · refine ⟨(σ i).F[b],fun r hr=> ?_⟩;rw [ya hb] at hr;simp at hr;subst hr;exact ⟨rfl,fun _=>rfl,fun h=>absurd hv h⟩
   · refine ⟨Ja ((σ i).F[b]).length AV.Qb,fun r hr=> ?_⟩;rw [ya hb] at hr;simp at hr;subst hr;exact ⟨by simp,fun h=>absurd h hv,fun _ c x hx=>by rw [Ei] at hx;split at hx<;>simp at hx;exact hx.symm⟩)
 have Kc:∀ b row,F[b]?=some row->∃ r,(σ i).F[b]?=some r/\row.length=r.length/\(Gr os τ L i (.box b)->row=r)/\(¬ Gr os τ L i (.box b)->∀ c x,row[c]?=some x->x=AV.Qb):=fun b row hr=>by
   have hb:b<(σ i).F.length:=by rw [<- hFl];exact getElem?_lt' hr
   exact ⟨_,ya hb,hF b row hr _ (ya hb)⟩
 obtain ⟨H,hH1,hH0,hHl,hHw,hw,hap⟩:∃ H:AH,((τ i).Cc=true->H=(EB (τ i) (σ i)).H)/\((τ i).Cc=false->∀ (b:Nat) (x:AB),H.bl[b]?=some x->x=AB.dead)/\H.bl.length=(σ i).H.bl.length/\H.wm=(EB (τ i) (σ i)).H.wm/\
     Ub A.La (g.lim (σ i).H.bl.length) w H/\∀ b,f.E b->¬ Fp (g.lim (σ i).H.bl.length) H (f.φ b):=by
   cases hh:(τ i).Cc with
   |true=>
     have hv:=T.lq hD hi (c:= .heap) hh;exact ⟨(EB (τ i) (σ i)).H,fun _=>rfl,fun h=>by simp at h,by rw [aq],rfl,(inv.heap i hN hv).wm (aq _ _),fun b hb h=>inv.apart b hb i hN hv (ZY h (aq _ _).symm)⟩
   |false=>
     have RM:∀ b x,(Ja (σ i).H.bl.length AB.dead)[b]?=some x->x=AB.dead:=fun b x hx=>by rw [Ei] at hx;split at hx<;>simp at hx;exact hx.symm
     refine ⟨⟨Ja (σ i).H.bl.length .dead,(EB (τ i) (σ i)).H.wm⟩,fun h=>by simp at h,fun _=>RM,by simp,rfl,⟨fun k row hg=>(inv.La k row hg).mono (g:=g.lim (σ 0).H.bl.length) (g':=g.lim (σ i).H.bl.length) ⟨fun b hb=>⟨⟨hb.1,Za hb.2 (T.span hq i (Nd _) hN).len⟩,rfl⟩,fun R hR=>⟨hR,rfl⟩⟩,fun b hb=>by simp;exact hb.2,fun b x _ hx=>by rw [RM b x hx];trivial,fun b b' hb=> ?_,inv.vt⟩,fun b hb=> ?_⟩
     · obtain ⟨_,x,hx,hl⟩:=hb;rw [RM b x hx] at hl;simp [Sd] at hl
     · rintro ⟨b',⟨_,x,hx,hl⟩,_⟩;rw [RM b' x hx] at hl;simp [Sd] at hl
 refine ⟨⟨(o.looksAt os).map fun t=>(t,get (σ i).e t),F,H⟩,hHw,hHl,hH1,hH0,hFl,fun b hv=> ?_,fun b r r' hr Rk=> ?_,fun t ht=>qp _ _ t ht,hw,⟨fun b hb=>by rw [hFl];exact hb.2,fun b row hb hr=> ?_,fun b b' hb zd=>inv.x4 b b' hb.1 zd.1,fun b hb=>hap b hb.1⟩,fun t=> ?_⟩
 · rcases Rb b (σ i).F.length with hb|hb
   · have zd:b<F.length:=by omega
     obtain ⟨r,h1,_,h3,_⟩:=Kc b _ (ya zd);show F[b]?=_;rw [ya zd,h1,h3 hv]
   · show F[b]?=_;rw [mb (by omega),mb hb]
 · obtain ⟨r0,h1,h2,_⟩:=Kc b r hr;rw [h1] at Rk;simp at Rk;subst Rk;exact h2
 · obtain ⟨r,h1,h2,h3,h4⟩:=Kc b row hr;obtain ⟨cs,dU,qy,hp⟩:=inv.box b hb.1;obtain ⟨k1,k2⟩:=hp i hN r h1;refine ⟨cs,by rw [h2,<- k1];exact dU,?_⟩;by_cases hv:Gr os τ L i (.box b)
   · rw [h3 hv];exact k2 hv
   · intro c x hx;rw [h4 hv c x hx];have hc:c<cs.size:=by rw [k1,<- h2];exact getElem?_lt' hx
     exact ⟨cs[c],by simp [hc],qy _ (by simp),.Qb _⟩
 · by_cases ht:t∈o.looksAt os
   · show we _ _ _ (get ((o.looksAt os).map fun t=>(t,get (σ i).e t)) t) _;rw [qp _ _ t ht];have:=inv.slot i hN t (T.lq hD hi ⟨o,ho,.inr ht⟩)
     revert this
     cases get (σ i).e t with
     |v x=>exact id
     |loc k c=>exact id
   · show we _ _ _ (get ((o.looksAt os).map fun t=>(t,get (σ i).e t)) t) _;rw [yx _ _ t ht];exact .Qb _
end
end Go.V
namespace Go.V
open Go
section
variable {A:oh} {call:Callee} {za:List Nat} {n:Nat} {os:Array Oper} {σ:Nat->S} {τ:Nat->Ze} {L:Nat->Prop} {g0 g g':Gx} {f0 f f':Fx} {w0 w w':World} {ds:List Deferred} {a:Act} {i:Nat} {o:Oper} {M M':S}
open Classical in
noncomputable def Gx.join (g g':Gx):Gx:={ D:=fun b=>g.D b\/g'.D b,ρ:=fun b=>if g.D b then g.ρ b else g'.ρ b,Z:=g'.Z }
open Classical in
noncomputable def Fx.join (f f':Fx):Fx:={ E:=fun b=>f.E b\/f'.E b,φ:=fun b=>if f.E b then f.φ b else f'.φ b,W:=fun _=>True }
theorem Inv.step (T:Trace A call za n os σ τ) (hq:Pc call) (inv:Inv A.La os σ τ n g0 f0 w0 ds L g f a w) (IM:Ub A.La g0 w0 (σ 0).H) (hD:Down os L) (hi:Hl os L i) (ho:os[i]?=some o)
   (hM:XY A.La os σ τ L g f a w i o M) (hx:kg (g.lim (σ i).H.bl.length) (f.lim (σ i).F.length fun b=>τ i= .box b true) w M.H M.F g' f' w' M'.H M'.F)
   (XC:Ub A.La g' w' M'.H) (pK:Jd g' f' w' M'.H M'.F) {v:SV} {rv:Value} (hv:we g' f' w' v rv)
   (Iac:∀ d,o.dst=some d->d<n/\get (σ (i+1)).e d=v)
   (hH1:(τ i).Cc=true->M'.H.bl=(σ (i+1)).H.bl) (hH0:(τ i).Cc=false->M'.H=M.H)
   (hF:(M'.F=M.F/\(σ (i+1)).F=(σ i).F/\∀ b,τ i≠ .box b true)\/(∃ row,M'.F=M.F++[row]/\(σ (i+1)).F=(σ i).F++[row]/\∀ b,τ i≠ .box b true)\/
     ∃ k row,τ i= .box k true/\M'.F=M.F.set k row/\(σ (i+1)).F=(σ i).F.set k row/\f.E k/\k<(σ i).F.length):
   Inv A.La os σ τ n g0 f0 w0 ds (fun j=>L j\/j=i) (g.join g') (f.join f') (a.put o.dst rv) w':=by
 have hN:i<=os.size:=Hr hi.1;have hN1:i+1<=os.size:=hi.1;have jf:∀ {p q:Nat},p<=q->q<=os.size->Span os σ τ p q:=fun h1 h2=>T.span hq _ h1 h2
 have left:=T.left hq hi.1;have E9:M'.H.bl.length=(σ (i+1)).H.bl.length:=by
   cases hh:(τ i).Cc with
   |true=>rw [hH1 hh]
   |false=>rw [hH0 hh,hM.len,left.H hh]
 have QM:M'.F.length=(σ (i+1)).F.length:=by
   rcases hF with ⟨e1,e2,_⟩|⟨row,e1,e2,_⟩|⟨k,row,_,e1,e2,_⟩<;>rw [e1,e2]<;>simp [hM.Ti]
 have iU:∀ b,g'.D b->(g.D b/\b<(σ i).H.bl.length)\/(σ i).H.bl.length<=b:=fun b hb=>(hx.Ay b hb).imp id fun h=>by rw [hM.len] at h;exact h
 have NP:∀ b,g'.D b->b<(σ (i+1)).H.bl.length:=fun b hb=>by rw [<- E9];exact XC.Ae b hb
 have R5:∀ b,g.D b->b<(σ (i+1)).H.bl.length->b<(σ i).H.bl.length:=fun b hb hl=>by
   rcases Rb b (σ i).H.bl.length with h|h
   · exact h
   · exact absurd hb (inv.bF i hi.1 hi.2.1 b h hl)
 have Q8:∀ b,g'.D b->(g.join g').ρ b=g'.ρ b:=fun b hb=>by
   simp only [Gx.join];split
   · rename_i hg;have:=R5 b hg (NP b hb);exact ((hx.D b ⟨hg,this⟩).2).symm
   · rfl
 have wT:∀ b,g.D b->(g.join g').ρ b=g.ρ b:=fun b hb=>by simp only [Gx.join];rw [if_pos hb]
 have WR:∀ b,f.E b->(f.join f').φ b=f.φ b:=fun b hb=>by simp only [Fx.join];rw [if_pos hb]
 have eU:∀ b,f'.E b->(f.E b/\b<(σ i).F.length)\/(σ i).F.length<=b:=fun b hb=>(hx.G4 b hb).imp id fun h=>by rw [hM.Ti] at h;exact h
 have gU:∀ b,f'.E b->b<(σ (i+1)).F.length:=fun b hb=>by rw [<- QM];exact pK.Ae b hb
 have Kad:∀ b,f.E b->b<(σ (i+1)).F.length->b<(σ i).F.length:=fun b hb hl=>by
   rcases Rb b (σ i).F.length with h|h
   · exact h
   · exact absurd hb (inv.zK i hi.1 hi.2.1 b h hl)
 have lA:∀ b,f'.E b->(f.join f').φ b=f'.φ b:=fun b hb=>by
   simp only [Fx.join];split
   · rename_i hg;have:=Kad b hg (gU b hb);exact ((hx.E b ⟨hg,this⟩).2).symm
   · rfl
 have cw:∀ b,f'.E b->¬ f.E b->w.heap.size<=f'.φ b:=fun b hb hn=>hx.KG b hb (fun h=>hn h.1)
 have X9:∀ b,f.E b->¬ Fp (g.lim (σ i).H.bl.length) M.H (f.φ b):=fun b hb h=>by
   cases hh:(τ i).Cc with
   |true=>
     have Ee:=T.lq hD hi (c:= .heap) hh;exact inv.apart b hb i hN Ee (ZY h (by rw [hM.H1 hh,aq]))
   |false=>
     obtain ⟨b',⟨_,x,jk,hl⟩,_⟩:=h;rw [hM.H0 hh b' x jk] at hl;simp [Sd] at hl
 have wH:∀ R,R<w.heap.size->¬ Fp (g.lim (σ i).H.bl.length) M.H R->(∀ b,f.E b->τ i= .box b true->f.φ b≠R)->w'.heap[R]?=w.heap[R]?:=fun R hR hn hb=>by
   by_cases hE:∃ b,(f.E b/\b<(σ i).F.length)/\f.φ b=R
   · obtain ⟨b,Om,rfl⟩:=hE;exact hx.own b Om (fun h=>hb b Om.1 h rfl)
   · exact hx.qk R hR hn fun b Om e=>hE ⟨b,Om,e⟩
 have IT:τ i≠ .heap true->∀ R,R<w.heap.size->(∀ b,f.E b->τ i= .box b true->f.φ b≠R)->w'.heap[R]?=w.heap[R]?:=fun Nc R hR hb=>by
   by_cases CB:Fp (g.lim (σ i).H.bl.length) M.H R
   · obtain ⟨b,hl,rfl⟩:=CB;have nc:b<M.H.wm:=by
       rw [hM.wm,oB Nc,<- hM.len];obtain ⟨_,x,jk,_⟩:=hl;exact getElem?_lt' jk
     exact hx.still b nc hl
   · exact wH R hR CB hb
 have hZ:∀ R,g.Z R->g'.Z R/\w'.heap[R]?=w.heap[R]?:=fun R hR=>⟨hx.Z R hR,wH R (inv.vt R hR) (fun ⟨b,hl,e⟩=>hM.hw.fm hl (e ▸ hR)) (fun b hb _ e=>inv.R7 hb (e ▸ hR))⟩
 have nA:τ i≠ .heap true->∀ b,b<(σ i).H.bl.length->M'.H.bl[b]?=M.H.bl[b]?:=fun Nc b hb=>by
   refine hx.quiet b ?_ (by rw [hM.len];exact hb);rw [hM.wm,oB Nc];exact hb
 have O5:τ i≠ .heap true->∀ R,g'.Z R->g.Z R\/w.heap.size<=R:=fun Nc R hR=>by
   rcases hx.gq R hR with h|⟨b,hl,e⟩|h
   · exact .inl h
   · exfalso;have hb:b<M.H.bl.length:=by obtain ⟨_,x,jk,_⟩:=hl;exact getElem?_lt' jk
     have Pf:live g' M'.H b:=⟨(hx.D b hl.1).1,by rw [nA Nc b (by rw [<- hM.len];exact hb)];exact hl.2⟩;refine XC.fm Pf ?_;rw [(hx.D b hl.1).2,e];exact hR
   · exact .inr h
 have hle:∀ p,(g.lim (σ p).H.bl.length).Le w ((g.join g').lim (σ p).H.bl.length) w':=fun p=>⟨fun b hb=>⟨⟨.inl hb.1,hb.2⟩,wT b hb.1⟩,hZ⟩
 have TT:∀ p,i+1<=p->p<=os.size->g'.Le w' ((g.join g').lim (σ p).H.bl.length) w':=fun p h1 h2=>⟨fun b hb=>⟨⟨.inr hb,Za (NP b hb) (jf h1 h2).len⟩,Q8 b hb⟩,fun R hR=>⟨hR,rfl⟩⟩
 have zah:∀ p b,(f.lim (σ p).F.length fun _=>True).E b->((f.join f').lim (σ p).F.length fun _=>True).E b/\((f.join f').lim (σ p).F.length fun _=>True).φ b=(f.lim (σ p).F.length fun _=>True).φ b:=fun p b hb=>⟨⟨.inl hb.1,hb.2⟩,WR b hb.1⟩
 have rad:∀ p,i+1<=p->p<=os.size->∀ b,f'.E b->((f.join f').lim (σ p).F.length fun _=>True).E b/\((f.join f').lim (σ p).F.length fun _=>True).φ b=f'.φ b:=fun p h1 h2 b hb=>⟨⟨.inr hb,Za (gU b hb) (jf h1 h2).Ti⟩,lA b hb⟩
 have hU:∀ p,p<=i\/(τ i).Cc=false->p<=os.size->∀ b,((g.join g').lim (σ p).H.bl.length).D b->(g.lim (σ p).H.bl.length).D b:=fun p hp Gq b hb=>by
   refine ⟨?_,hb.2⟩;rcases hb.1 with h|h
   · exact h
   · rcases iU b h with h1|h1
     · exact h1.1
     · exfalso;rcases hp with hp|hp
       · have:=(jf hp hN).len;have:=hb.2;omega
       · have h2:=NP b h;rw [left.H hp] at h2;omega
 have I9:∀ p,p<=os.size->Gr os τ L p .heap->p<=i\/(τ i).Cc=false->τ i≠ .heap true->Ub A.La ((g.join g').lim (σ p).H.bl.length) w' (σ p).H:=fun p Gq Ee hp Nc=>by
   have hold:=inv.heap p Gq Ee;refine hold.carry (hle p) (hU p hp Gq) (fun b hl=>IT Nc _ (hold.lt hl) fun b' zd _ e=>inv.apart b' zd p Gq Ee ⟨b,hl,e.symm⟩) (fun b hl hz=> ?_) XC.vt;rcases O5 Nc _ hz with h|h
   · exact hold.fm hl h
   · have:=hold.lt hl;exact absurd this (Nat.not_lt.2 h)
 have jj:∀ p,p<=os.size->(τ i).Cc=true->Gr os τ (fun j=>L j\/j=i) p .heap->i<p->∀ b,b<(σ (i+1)).H.bl.length->(σ p).H.bl[b]?=M'.H.bl[b]?:=fun p Gq hh Ee nc b hb=>by
   rw [hH1 hh];exact (jf (p:=i+1) (q:=p) nc Gq).heap (fun j h1 h2=>T.pn hD hi (c:= .heap) hh Ee j (by omega) (by omega) h2) b hb
 have UT:∀ p,p<=os.size->(τ i).Cc=true->Gr os τ (fun j=>L j\/j=i) p .heap->i<p->∀ b,((g.join g').lim (σ p).H.bl.length).D b->¬ b<(σ (i+1)).H.bl.length->(g.lim (σ p).H.bl.length).D b/\τ i≠ .heap true:=fun p Gq hh Ee nc b hb Qr=>by
   have hgD:g.D b:=by
     rcases hb.1 with h|h
     · exact h
     · exact absurd (NP b h) Qr
   refine ⟨⟨hgD,hb.2⟩,fun e=> ?_⟩;obtain ⟨j,j1,j2,j3,j4⟩:=(jf (p:=i+1) (q:=p) nc Gq).K4 b (by omega) hb.2;have hjN:j<os.size:=by omega
   have hLj:L j:=by
     by_cases h:L j
     · exact h
     · exact absurd hgD (inv.bF j hjN h b j3 j4)
   have hjh:(τ j).Cc=true:=by
     cases hjh:(τ j).Cc with
     |true=>rfl
     |false=>rw [(T.left hq hjN).H hjh] at j4;omega
   rcases T.order hjN hi.1 (by omega) (c:= .heap) e hjh with h|h
   · omega
   · exact hi.2.1 (hD i j hjN hLj h.2)
 have kad:∀ p,i<p->p<=os.size->∀ b,((g.join g').lim (σ p).H.bl.length).D b->b<(σ (i+1)).H.bl.length->g'.D b:=fun p _ _ b hb nc=>by
   rcases hb.1 with h|h
   · exact (hx.D b ⟨h,R5 b h nc⟩).1
   · exact h
 have G1:∀ p,p<=os.size->(τ i).Cc=true->Gr os τ (fun j=>L j\/j=i) p .heap->i<p->∀ b,live ((g.join g').lim (σ p).H.bl.length) (σ p).H b->
     (live g' M'.H b/\((g.join g').lim (σ p).H.bl.length).ρ b=g'.ρ b)\/(τ i≠ .heap true/\Gr os τ L p .heap/\live (g.lim (σ p).H.bl.length) (σ p).H b/\((g.join g').lim (σ p).H.bl.length).ρ b=g.ρ b/\¬ b<(σ (i+1)).H.bl.length):=fun p Gq hh Ee nc b hl=>by
   by_cases hb:b<(σ (i+1)).H.bl.length
   · left;have:=kad p nc Gq b hl.1 hb;exact ⟨⟨this,by rw [<- jj p Gq hh Ee nc b hb];exact hl.2⟩,Q8 b this⟩
   · right;obtain ⟨h1,h2⟩:=UT p Gq hh Ee nc b hl.1 hb;exact ⟨h2,Ee.before h2,⟨h1,hl.2⟩,wT b h1.1,hb⟩
 have H9:∀ p,p<=os.size->(τ i).Cc=true->Gr os τ (fun j=>L j\/j=i) p .heap->i<p->Ub A.La ((g.join g').lim (σ p).H.bl.length) w' (σ p).H:=fun p Gq hh Ee nc=>by
   have cad:∀ b1 b2,(live g' M'.H b1/\((g.join g').lim (σ p).H.bl.length).ρ b1=g'.ρ b1)->(τ i≠ .heap true/\Gr os τ L p .heap/\live (g.lim (σ p).H.bl.length) (σ p).H b2/\((g.join g').lim (σ p).H.bl.length).ρ b2=g.ρ b2/\¬ b2<(σ (i+1)).H.bl.length)->
       (((g.join g').lim (σ p).H.bl.length).ρ b1).R≠(((g.join g').lim (σ p).H.bl.length).ρ b2).R:=fun b1 b2 ⟨k1,k2⟩ ⟨m1,m2,m3,m4,m5⟩ e=>by
     rw [k2,m4] at e;have hold:=inv.heap p Gq m2;have nJ:=hold.lt m3;rcases hx.fp _ ⟨b1,k1,e⟩ with ⟨b',Pf,e'⟩|h
     · have zd:b'<(σ i).H.bl.length:=Pf.1.2;have BH:live (g.lim (σ p).H.bl.length) (σ p).H b':=by
         refine ⟨⟨Pf.1.1,Za zd (jf (by omega) Gq).len⟩,?_⟩;rw [jj p Gq hh Ee nc b' (Za zd left.len),nA m1 b' zd];exact Pf.2
       have:=left.len;exact hold.inj b' b2 BH m3 (by omega) e'
     · exact absurd nJ (Nat.not_lt.2 h)
   refine ⟨fun k row hg=>(XC.La k row hg).mono (TT p nc Gq),fun b hb=>hb.2,fun b x hd mA=> ?_,fun b1 b2 h1 h2 Nc=> ?_,XC.vt⟩
   · by_cases hb:b<(σ (i+1)).H.bl.length
     · have iS:=kad p nc Gq b hd hb;rw [show ((g.join g').lim (σ p).H.bl.length).ρ b=g'.ρ b from Q8 b iS];rw [jj p Gq hh Ee nc b hb] at mA;exact (XC.Oc b x iS mA).le (TT p nc Gq) (fun _=>rfl) (fun hl=>XC.fm ⟨iS,x,mA,hl⟩)
     · obtain ⟨h1,h2⟩:=UT p Gq hh Ee nc b hd hb;have u5:=Ee.before h2;have hold:=inv.heap p Gq u5;rw [show ((g.join g').lim (σ p).H.bl.length).ρ b=g.ρ b from wT b h1.1];refine (hold.Oc b x h1 mA).le (hle p) (fun hl=>IT h2 _ (hold.lt ⟨h1,x,mA,hl⟩) fun b' zd _ e=>inv.apart b' zd p Gq u5 ⟨b,⟨h1,x,mA,hl⟩,e.symm⟩) (fun hl hz=> ?_);rcases O5 h2 _ hz with h|h
       · exact hold.fm ⟨h1,x,mA,hl⟩ h
       · exact absurd (hold.lt ⟨h1,x,mA,hl⟩) (Nat.not_lt.2 h)
   · rcases G1 p Gq hh Ee nc b1 h1 with k1|k1<;>rcases G1 p Gq hh Ee nc b2 h2 with k2|k2
     · rw [k1.2,k2.2];exact XC.inj b1 b2 k1.1 k2.1 Nc
     · exact cad b1 b2 k1 k2
     · exact (cad b2 b1 k2 k1).symm
     · rw [k1.2.2.2.1,k2.2.2.2.1];exact (inv.heap p Gq k1.2.1).inj b1 b2 k1.2.2.1 k2.2.2.1 Nc
 have U8:∀ p,p<=os.size->Gr os τ (fun j=>L j\/j=i) p .heap->((p<=i\/(τ i).Cc=false)/\τ i≠ .heap true/\Gr os τ L p .heap)\/((τ i).Cc=true/\i<p):=fun p Gq Ee=>by
   cases hh:(τ i).Cc with
   |false=>
     have Nc:τ i≠ .heap true:=fun e=>by rw [e] at hh;simp [Ze.Cc] at hh
     exact .inl ⟨.inr rfl,Nc,Ee.before Nc⟩
   |true=>
     rcases Rb i p with nc|Qr
     · exact .inr ⟨rfl,nc⟩
     · have Nc:τ i≠ .heap true:=Ee.2 i hi.1 Qr (.inr rfl);exact .inl ⟨.inl Qr,Nc,Ee.before Nc⟩
 have Jad:∀ p,p<=os.size->(p<=i\/(τ i).Cc=false)->∀ R,Fp ((g.join g').lim (σ p).H.bl.length) (σ p).H R->Fp (g.lim (σ p).H.bl.length) (σ p).H R:=fun p Gq hp R ⟨b,hl,e⟩=>by
   have:=hU p hp Gq b hl.1;refine ⟨b,⟨this,hl.2⟩,?_⟩;rw [<- e];show (g.ρ b).R=((g.join g').ρ b).R;rw [wT b this.1]
 have M9:∀ R,Fp (g.lim (σ i).H.bl.length) M.H R->Fp g0 (σ 0).H R\/w0.heap.size<=R:=fun R h=>by
   cases hh:(τ i).Cc with
   |true=>exact inv.fFp i hN (T.lq hD hi (c:= .heap) hh) R (ZY h (by rw [hM.H1 hh,aq]))
   |false=>
     obtain ⟨b',⟨_,x,jk,hl⟩,_⟩:=h;rw [hM.H0 hh b' x jk] at hl;simp [Sd] at hl
 refine ⟨?_,?_,fun p hp t Ee=> ?_,fun p hp Ee=> ?_,fun k row hg=> ?_,XC.vt,fun b hb=> ?_,fun b b' hb zd Nc=> ?_,fun b hb p hp Ee CB=> ?_,fun j hj hnL b h1 h2 hb=> ?_,fun j hj hnL b h1 h2 hb=> ?_,fun b hb=> ?_,fun b hb=> ?_,fun j hj hL b ht=> ?_,
   fun b hb=>⟨.inl (inv.fD b hb).1,(wT b (inv.fD b hb).1).trans (inv.fD b hb).2⟩,fun b hb=> ?_,fun R hR=>hx.Z R (inv.fZ R hR),fun R hR=> ?_,fun p hp Ee R CB=> ?_,fun b hb=>⟨.inl (inv.fE b hb).1,(WR b (inv.fE b hb).1).trans (inv.fE b hb).2⟩,fun b hb=> ?_,fun b hb hn=> ?_,fun R hR hn hb=> ?_,Ib inv.size hx.size,fun b hb hl=> ?_,⟨hx.io.1.trans inv.io.1,hx.io.2.trans inv.io.2⟩⟩
 ·
   rw [<- inv.n];unfold Act.put;split<;>simp
 · rw [<- inv.ds];unfold Act.put;split<;>rfl
 ·
   by_cases hd:o.dst=some t
   · have hW:Wr os τ i (.slot t):=⟨o,ho,hd⟩;have nc:=Ee.after hi.1 hW;obtain ⟨h1,h2⟩:=Iac t hd;have Qj:get (σ p).e t=v:=by
       rw [(jf (p:=i+1) (q:=p) nc hp).slot t (fun j j1 j2=>T.pn hD hi hW.us Ee j (by omega) (by omega) j2),h2]
     rw [Qj];have htm:(a.put o.dst rv).tmps.getD t undef=rv:=by
       rw [hd];simp only [Act.put];rw [ou t (by rw [inv.n];exact h1),if_pos rfl]
     rw [htm];exact we.mono (f':=(f.join f').lim (σ p).F.length fun _=>True) (TT p nc hp) (rad p nc hp) hv
   · have hW:¬ Wr os τ i (.slot t):=fun ⟨o',nZ,iS⟩=>hd (by rw [ho] at nZ;simp at nZ;rw [nZ];exact iS)
     have htm:(a.put o.dst rv).tmps.getD t undef=a.tmps.getD t undef:=by
       cases B1:o.dst with
       |none=>rfl
       |some d=>
         simp only [Act.put];rcases Rb d a.tmps.size with nc|Qr
         · rw [ou t nc,if_neg (fun e=>hd (by rw [B1,e]))]
         · rw [Array.setIfInBounds_eq_of_size_le Qr]
     rw [htm];exact we.mono (f':=(f.join f').lim (σ p).F.length fun _=>True) (hle p) (zah p) (inv.slot p hp t (Ee.before hW))
 ·
   rcases U8 p hp Ee with ⟨h1,h2,h3⟩|⟨h1,h2⟩
   · exact I9 p hp h3 h1 h2
   · exact H9 p hp h1 Ee h2
 · exact (inv.La k row hg).mono (hle 0)
 ·
   by_cases hold:f.E b
   · rw [WR b hold];obtain ⟨cs,⟨T',fz,hR,hs,Tk,hz⟩,qy,Kc⟩:=inv.box b hold;have nc:=inv.zZ hold;have hz':¬ g'.Z (f.φ b):=fun h=>by
       rcases hx.gq _ h with h1|h1|h1
       · exact hz h1
       · exact X9 b hold h1
       · exact absurd nc (Nat.not_lt.2 h1)
     by_cases o5:τ i= .box b true
     ·
       obtain ⟨k,row,hk,e1,e2,hEk,hlk⟩:∃ k row,τ i= .box k true/\M'.F=M.F.set k row/\(σ (i+1)).F=(σ i).F.set k row/\f.E k/\k<(σ i).F.length:=by
         rcases hF with ⟨_,_,h⟩|⟨_,_,_,h⟩|h
         · exact absurd o5 (h b)
         · exact absurd o5 (h b)
         · exact h
       obtain rfl:k=b:=by rw [o5] at hk;injection hk with h _;exact h.symm
       have hE':=hx.E k ⟨hEk,hlk⟩;have KM:M'.F[k]?=some row:=by rw [e1,List.getElem?_set_self (by rw [hM.Ti];exact hlk)]
       have Ns:(σ (i+1)).F[k]?=some row:=by rw [e2,List.getElem?_set_self hlk]
       obtain ⟨Bh,⟨T2,fz2,nJ,aS,K9,vH⟩,Pj⟩:=pK.Oc k row hE'.1 KM;have pag:f'.φ k=f.φ k:=hE'.2;rw [pag] at nJ vH;refine ⟨Bh,⟨T2,fz2,nJ,rfl,by rw [aS];exact K9,vH⟩,fun u hu=> ?_,fun p hp r hr=> ?_⟩
       · obtain ⟨c,hc⟩:=Yd hu;have Mm:c<row.length:=by rw [<- aS];exact Ua (a:=Bh) (i:=c) (x:=u) (by simpa using hc)
         obtain ⟨u',h1,h2,_⟩:=Pj c _ (ya Mm);rw [de] at h1;have:Bh.toList[c]?=Bh[c]?:=by simp
         rw [this,h1] at hc;simp at hc;subst hc;exact h2
       · refine ⟨?_,fun Ee=> ?_⟩
         · rw [aS];rcases Rb i p with eS|eS
           · exact ((jf (p:=i+1) (q:=p) eS hp).row k _ _ Ns hr).symm
           · exact (jf (p:=p) (q:=i+1) (by omega) hN1).row k _ _ hr Ns
         · have hW:Wr os τ i (.box k):=o5;have eS:=Ee.after hi.1 hW;have:(σ p).F[k]?=some row:=by
             rw [(jf (p:=i+1) (q:=p) eS hp).box k (by rw [e2];simp;exact hlk) (fun j j1 j2=>T.pn hD hi hW.us Ee j (by omega) (by omega) j2)];exact Ns
           rw [this] at hr;simp at hr;subst hr;exact Pj.mono (TT p eS hp)
     · have hun:w'.heap[f.φ b]?=w.heap[f.φ b]?:=wH _ nc (X9 b hold) fun b' zd X8 e=>by
         by_cases e':b'=b
         · subst e';exact o5 X8
         · exact inv.x4 b' b zd hold e' e
       refine ⟨cs,⟨T',fz,by rw [hun];exact hR,hs,Tk,hz'⟩,qy,fun p hp r hr=>⟨(Kc p hp r hr).1,fun Ee=> ?_⟩⟩;exact ((Kc p hp r hr).2 (Ee.before o5)).mono (hle p)
   ·
     have zd:f'.E b:=hb.resolve_left hold;have Qr:(σ i).F.length<=b:=(eU b zd).resolve_left fun h=>hold h.1
     have nc:=gU b zd;have KM:=ya (l:=M'.F) (i:=b) (by rw [QM];exact nc);obtain ⟨Bh,⟨T2,fz2,nJ,aS,K9,vH⟩,Pj⟩:=pK.Oc b _ zd KM;rw [lA b zd];have Ns:(σ (i+1)).F[b]?=M'.F[b]?:=by
       rcases hF with ⟨e1,e2,_⟩|⟨row,e1,e2,_⟩|⟨k,row,_,e1,e2,_,hlk⟩
       · rw [e2] at nc;omega
       · rw [e1,e2];have:b=(σ i).F.length:=by rw [e2] at nc;simp at nc;omega
         subst this;simp [hM.Ti]
       · rw [e2] at nc;simp at nc;omega
     refine ⟨Bh,⟨T2,fz2,nJ,rfl,by rw [aS];exact K9,vH⟩,fun u hu=> ?_,fun p hp r hr=> ?_⟩
     · obtain ⟨c,hc⟩:=Yd hu;have Mm:c<(M'.F[b]).length:=by rw [<- aS];exact Ua (a:=Bh) (i:=c) (x:=u) (by simpa using hc)
       obtain ⟨u',h1,h2,_⟩:=Pj c _ (ya Mm);rw [de] at h1;have:Bh.toList[c]?=Bh[c]?:=by simp
       rw [this,h1] at hc;simp at hc;subst hc;exact h2
     · have eS:i<p:=by
         rcases Rb i p with h|h
         · exact h
         · exfalso;have:=(jf h hN).Ti;rw [mb (by omega)] at hr;simp at hr
       rw [KM] at Ns;refine ⟨?_,fun Ee=> ?_⟩
       · rw [aS];exact ((jf (p:=i+1) (q:=p) eS hp).row b _ _ Ns hr).symm
       · have:(σ p).F[b]?=some M'.F[b]:=by
           rw [(jf (p:=i+1) (q:=p) eS hp).box b nc (fun j j1 j2 hW=> ?_)]
           · exact Ns
           · by_cases hLj:L j
             · exact hold (inv.wr j (by omega) hLj b hW)
             · exact Ee.1 j (by omega) j2 (fun h=>h.elim hLj (by omega)) hW
         rw [this] at hr;simp at hr;subst hr;exact Pj.mono (TT p eS hp)
 ·
   by_cases h1:f.E b<;>by_cases h2:f.E b'
   · rw [WR b h1,WR b' h2];exact inv.x4 b b' h1 h2 Nc
   · have tZ:=zd.resolve_left h2;rw [WR b h1,lA b' tZ];have:=inv.zZ h1;have:=cw b' tZ h2;omega
   · have YB:=hb.resolve_left h1;rw [lA b YB,WR b' h2];have:=inv.zZ h2;have:=cw b YB h1;omega
   · have YB:=hb.resolve_left h1;have tZ:=zd.resolve_left h2;rw [lA b YB,lA b' tZ];exact pK.inj b b' YB tZ Nc
 ·
   rcases U8 p hp Ee with ⟨h1,h2,h3⟩|⟨h1,h2⟩
   · have Z0:=Jad p hp h1 _ CB;by_cases hold:f.E b
     · rw [WR b hold] at Z0;exact inv.apart b hold p hp h3 Z0
     · have zd:=hb.resolve_left hold;rw [lA b zd] at Z0;obtain ⟨b',hl,e⟩:=Z0;have:=(inv.heap p hp h3).lt hl;have:=cw b zd hold;omega
   · obtain ⟨b',hl,e⟩:=CB;rcases G1 p hp h1 Ee h2 b' hl with ⟨k1,k2⟩|⟨m1,m2,m3,m4,m5⟩
     · rw [k2] at e;by_cases hold:f.E b
       · rw [WR b hold] at e;rcases hx.fp _ ⟨b',k1,e⟩ with h|h
         · exact X9 b hold h
         · have:=inv.zZ hold;omega
       · have zd:=hb.resolve_left hold;rw [lA b zd] at e;exact pK.apart b zd ⟨b',k1,e⟩
     · rw [m4] at e;by_cases hold:f.E b
       · rw [WR b hold] at e;exact inv.apart b hold p hp m2 ⟨b',m3,e⟩
       · have zd:=hb.resolve_left hold;rw [lA b zd] at e;have:=(inv.heap p hp m2).lt m3;have e':(g.ρ b').R=f'.φ b:=e;have:=cw b zd hold;have h5:((g.lim (σ p).H.bl.length).ρ b').R=(g.ρ b').R:=rfl;omega
 ·
   have OT:¬ L j:=fun h=>hnL (.inl h)
   have hji:j≠i:=fun h=>hnL (.inr h)
   rcases hb with hb|hb
   · exact inv.bF j hj OT b h1 h2 hb
   · rcases iU b hb with h|h
     · exact inv.bF j hj OT b h1 h2 h.1
     · have h3:=NP b hb;rcases Yu hji with nc|nc
       · have:=(jf (p:=j+1) (q:=i) nc hN).len;omega
       · have:=(jf (p:=i+1) (q:=j) nc (by omega)).len;omega
 · have OT:¬ L j:=fun h=>hnL (.inl h)
   have hji:j≠i:=fun h=>hnL (.inr h)
   rcases hb with hb|hb
   · exact inv.zK j hj OT b h1 h2 hb
   · rcases eU b hb with h|h
     · exact inv.zK j hj OT b h1 h2 h.1
     · have h3:=gU b hb;rcases Yu hji with nc|nc
       · have:=(jf (p:=j+1) (q:=i) nc hN).Ti;omega
       · have:=(jf (p:=i+1) (q:=j) nc (by omega)).Ti;omega
 · rcases hb with hb|hb
   · exact inv.Gae b hb
   · exact Za (NP b hb) (jf hN1 (oa _)).len
 · rcases hb with hb|hb
   · exact inv.Fae b hb
   · exact Za (gU b hb) (jf hN1 (oa _)).Ti
 · rcases hL with hL|rfl
   · exact .inl (inv.wr j hj hL b ht)
   · rcases hF with ⟨_,_,h⟩|⟨_,_,_,h⟩|⟨k,row,hk,_,_,hEk,_⟩
     · exact absurd ht (h b)
     · exact absurd ht (h b)
     · rw [ht] at hk;injection hk with h _;rw [h];exact .inl hEk
 · rcases hb with hb|hb
   · exact inv.wU b hb
   · rcases iU b hb with h|h
     · exact inv.wU b h.1
     · exact .inr (Ib (jf (Nd _) hN).len h)
 · rcases hx.gq R hR with h|h|h
   · exact inv.T5 R h
   · exact .inr (M9 R h)
   · exact .inr (.inr (Ib inv.size h))
 · rcases U8 p hp Ee with ⟨h1,h2,h3⟩|⟨h1,h2⟩
   · exact inv.fFp p hp h3 R (Jad p hp h1 R CB)
   · obtain ⟨b',hl,e⟩:=CB;rcases G1 p hp h1 Ee h2 b' hl with ⟨k1,k2⟩|⟨m1,m2,m3,m4,m5⟩
     · rw [k2] at e;rcases hx.fp _ ⟨b',k1,e⟩ with h|h
       · exact M9 R h
       · exact .inr (Ib inv.size h)
     · rw [m4] at e;exact inv.fFp p hp m2 R ⟨b',m3,e⟩
 · rcases hb with hb|hb
   · exact inv.vU b hb
   · rcases eU b hb with h|h
     · exact inv.vU b h.1
     · exact .inr (Ib (jf (Nd _) hN).Ti h)
 · by_cases hold:f.E b
   · rw [WR b hold];exact inv.fφ b hold hn
   · have zd:=hb.resolve_left hold;rw [lA b zd];exact Ib inv.size (cw b zd hold)
 · refine (wH R (Za hR inv.size) (fun h=> ?_) (fun b hbE _ e=> ?_)).trans (inv.qk R hR hn hb)
   · rcases M9 R h with h1|h1
     · exact hn h1
     · omega
   · by_cases h0:f0.E b
     · exact hb b h0 ((inv.fE b h0).2 ▸ e)
     · have:=inv.fφ b hbE h0;omega
 · obtain ⟨s1,s2⟩:=inv.still b hb hl;have Q5:=IM.lt hl;have nc:(g0.ρ b).R<w.heap.size:=Za Q5 inv.size;refine ⟨Eq.trans ?_ s1,fun b' zd=> ?_⟩
   · cases hh:(τ i).Cc with
     |false=>
       refine wH _ nc (fun h=> ?_) (fun b' zd _=>s2 b' zd);obtain ⟨b',⟨_,x,jk,Pf⟩,_⟩:=h;rw [hM.H0 hh b' x jk] at Pf;simp [Sd] at Pf
     |true=>
       have tA:b<(σ 0).H.bl.length:=by obtain ⟨_,x,jk,_⟩:=hl;exact getElem?_lt' jk
       have L0:=jf (Nd i) hN;have hg:=inv.fD b hl.1;have hli:live (g.lim (σ i).H.bl.length) M.H b:=by
         refine ⟨⟨hg.1,Za tA L0.len⟩,?_⟩;rw [hM.H1 hh,aq,L0.low b hb tA];exact hl.2
       have Of:b<M.H.wm:=by
         rw [hM.wm];by_cases hw:τ i= .heap true
         · rw [hw];show b<(σ i).H.wm;rw [L0.wm];exact hb
         · rw [oB hw];exact Za tA L0.len
       have:=hx.still b Of hli;have e:((g.lim (σ i).H.bl.length).ρ b)=g0.ρ b:=hg.2;rw [e] at this;exact this
   · by_cases hold:f.E b'
     · rw [WR b' hold];exact s2 b' hold
     · have Dad:=zd.resolve_left hold;rw [lA b' Dad];have:=cw b' Dad hold;omega
end
end Go.V
namespace Go.V
open Go
section
variable {A:oh} {call:Callee} {za:List Nat} {n:Nat} {os:Array Oper} {σ:Nat->S} {τ:Nat->Ze} {L:Nat->Prop} {g0 g:Gx} {f0 f:Fx} {w0 w:World} {ds:List Deferred} {a:Act}
theorem Inv.finish (T:Trace A call za n os σ τ) (hq:Pc call) (Wb:St A.La g0 f0 (σ 0) n a w0) {a':Act} (inv:Inv A.La os σ τ n g0 f0 w0 a.defers L g f a' w) (hL:∀ j,j<os.size->L j):
   ∃ f',St A.La g f' (σ os.size) n a' w/\kg g0 f0 w0 (σ 0).H (σ 0).F g f' w (σ os.size).H (σ os.size).F:=by
 have Ee:∀ c,Gr os τ L os.size c:=fun c=>⟨fun j hj _ h=>absurd (hL j hj) h,fun j hj h=>by omega⟩
 have jf:=T.span hq os.size (Nd _) (oa _);have J5:g.lim (σ os.size).H.bl.length=g:=by
   have:(fun b=>g.D b/\b<(σ os.size).H.bl.length)=g.D:=by
    funext b;exact propext ⟨fun h=>h.1,fun h=>⟨h,inv.Gae b h⟩⟩
   cases g;simp only [Gx.lim] at *;rw [this]
 have hw:=inv.heap _ (oa _) (Ee _);rw [J5] at hw;have hx:kg g0 f0 w0 (σ 0).H (σ 0).F g { f with W:=fun _=>True } w (σ os.size).H (σ os.size).F:=by
   refine ⟨inv.fD,inv.wU,inv.fZ,inv.T5,fun R h=> ?_,inv.fE,inv.vU,inv.fφ,inv.qk,inv.size,jf.len,jf.Ti,jf.wm,jf.low,fun b hb hl=>(inv.still b hb hl).1,fun i hi=>⟨fun _=>Wb.hW i hi,fun _=>trivial⟩,fun _ _ _=>trivial,fun i hi hn=>absurd (Wb.hW i hi) hn,inv.io⟩;have:=inv.fFp _ (oa _) (Ee _) R;rw [J5] at this;exact this h
 refine ⟨{ f with W:=fun _=>True },⟨hw,⟨inv.Fae,fun b row hb hr=> ?_,inv.x4,fun b hb h=> ?_⟩,fun t=> ?_,inv.n,?_,fun _ _=>trivial⟩,hx⟩
 · obtain ⟨cs,dU,_,Kc⟩:=inv.box b hb;obtain ⟨h1,h2⟩:=Kc _ (oa _) row hr;have h3:=h2 (Ee _);rw [J5] at h3;exact ⟨cs,by rw [<- h1];exact dU,h3⟩
 · have:=inv.apart b hb _ (oa _) (Ee _);rw [J5] at this;exact this h
 · have:=inv.slot _ (oa _) t (Ee _);rw [J5] at this
   revert this
   cases get (σ os.size).e t with
   |v x=>exact id
   |loc k c=>exact fun h=>⟨h.1.1,h.2⟩
 · rw [inv.ds];exact Wb.hm.step Wb.hw Wb.hf hx
theorem RO {s:S} {o:Oper} {q w:Bool} {k:Nat} (h:Uc A za s o q= .box k w):∃ t,t∈o.looksAt os/\∃ c,get s.e t= .loc k c:=by
 have key:∀ {wr:Bool} {x:Operand},af wr (operand A s.e x)= .box k w->x∈o.op.operands->∃ t,t∈o.looksAt os/\∃ c,get s.e t= .loc k c:=fun {wr x} h hx=>by
   cases ho:operand A s.e x with
   |none=>rw [ho] at h;simp [af] at h
   |some sv=>
    rw [ho] at h;cases sv with
    |v y=>cases y<;>simp [af] at h;cases wr<;>simp at h
    |loc i c=>
     simp [af] at h;obtain ⟨rfl,_⟩:=h;cases x with
     |tmp t=>
      simp [operand] at ho;exact ⟨t,qf _ (List.mem_filterMap.2 ⟨.tmp t,by simpa using hx,rfl⟩),c,ho⟩
     |const v=>simp [operand] at ho
     |global gv=>simp [operand] at ho
     |func fv=>simp [operand] at ho
 unfold Uc at h;split at h
 · rename_i ho;exact key h (by rw [ho];simp [Op.operands])
 · unfold nq at h;split at h<;>simp at h
 · rename_i ho;exact key h (by rw [ho];simp [Op.operands])
 all_goals first
   |(split at h<;>simp at h;done)
   |(simp at h;done)
   |(unfold nq at h;split at h<;>simp at h;done)
   |(unfold dh at h;split at h<;>simp at h;done)
theorem wK {s M:S} {o:Oper} {b:Bool} (h:Sc os s o=some b) (he:∀ t,t∈o.looksAt os->get M.e t=get s.e t):Sc os M o=some b:=by
 unfold Sc at h ⊢;split at h
 · rename_i hg;exact h
 · rename_i j want hg;split at h
   · rename_i d hd;have:d∈o.looksAt os:=by
      refine List.mem_append_right _ ?_;rw [hg];simp [hd]
     simp only [hg,hd,he d this];exact h
   · simp at h
theorem Trace.upto (T:Trace A call za n os σ τ) (hD:Down os L) {i:Nat} (hi:Hl os L i) (o9:∀ j,j<i->τ j= .heap true->ord (ck os.toList []) j i=true):
   ∃ p,i<=p/\p<=os.size/\Gr os τ L p .heap:=by
 have key:∀ k,i<=k->k<=os.size->∃ p,i<=p/\p<=os.size/\(∀ j,j<os.size->p<=j->j<k->L j->τ j≠ .heap true)/\(p=i\/∃ j0,p=j0+1/\j0<os.size/\L j0/\τ j0= .heap true):=by
   intro k;induction k with
   |zero=>intro h1 h2;exact ⟨i,oa _,Hr hi.1,fun j _ _ h=>by omega,.inl rfl⟩
   |succ k ih=>
     intro h1 h2;by_cases NM:i<=k
     · obtain ⟨p,a1,a2,a3,a4⟩:=ih NM (by omega);by_cases hw:L k/\τ k= .heap true
       · exact ⟨k+1,by omega,h2,fun j _ h3 h4=>by omega,.inr ⟨k,rfl,by omega,hw.1,hw.2⟩⟩
       · refine ⟨p,a1,a2,fun j hj h3 h4 hL he=> ?_,a4⟩;by_cases e:j=k
         · subst e;exact hw ⟨hL,he⟩
         · exact a3 j hj h3 (by omega) hL he
     · exact ⟨i,oa _,Hr hi.1,fun j _ h3 h4=>by omega,.inl rfl⟩
 obtain ⟨p,a1,a2,a3,a4⟩:=key os.size (Hr hi.1) (oa _);refine ⟨p,a1,a2,fun j hj nc Bj hw=> ?_,fun j hj hle hl hw=>a3 j hj hle hj hl hw⟩;have XC:τ j= .heap true:=hw;rcases Rb j i with h|h
 · exact Bj (hi.2.2 j (o9 j h XC))
 · rcases a4 with rfl|⟨j0,rfl,h0,hL0,IM⟩
   · omega
   · have Nc:j≠j0:=fun e=>Bj (e ▸ hL0)
     rcases T.lE j j0 hj h0 Nc (by rw [IM];rfl) with h1|h1|h1
     · exact Bj (hD j j0 h0 hL0 h1.2)
     · omega
     · rw [XC,IM] at h1;simp [conflict] at h1
theorem aH {g g':Gx} {w:World} {m:Nat} {v:SV} {f f':Fx} {rv:Value} (hp:tq m v=true) (hD:∀ b,g.D b->b<m->g'.D b) (wT:∀ b,g'.ρ b=g.ρ b) (h:we g f w v rv):we g' f' w v rv:=by
 unfold tq at hp;split at hp
 · rename_i b;have hb:b<m:=by simpa using hp
   have h':Ya g w (.mp b) rv:=h;cases h' with
   |mp _ hd=>have:=Ya.mp (g:=g') (w:=w) b (hD b hd hb);rw [wT] at this;exact this
 · have h':Ya g w (.fn _ []) rv:=h;cases h' with
   |fn _ _ vs hl hr=>
    have:vs=[]:=Da.1 hl;subst this;exact Ya.fn _ [] [] rfl fun i x v h=>by simp at h
 · have h':Ya g w .yf rv:=h;cases h';exact Ya.yf
 · have h':Ya g w .Te rv:=h;cases h';exact Ya.Te
 · simp at hp
theorem QG {s s':S} {o:Oper} {v:SV} {F:Fence} {m:Nat} {next:Act->World->Prop} {Q:Exit->Act->World->Prop} (Wb:Kj A o=true) (h:op A call za s o=some (v,s')) (hw:Ub A.La g w s.H) (hf:Jd g f w s.H s.F) (he:Pe g f w s.e a.tmps) (hF:Tu F)
   (hk:∀ rv,we g f w v rv->next (a.put o.dst rv) w):o.wpIn F m A.P a w next Q:=by
 refine ⟨fun f _=>hF.fn f,?_⟩;have s9:∀ c,o.op≠ .defer c:=fun c e=>by unfold op at h;rw [e] at h;simp at h
 rw [Oper.semAt_eq F.round a.eval o s9];have fin:∀ {rv:Value} {x:AV},v= .v x->(execOp a.eval o).run A.P w= .ok (.value rv) w->Ya g w x rv->Oper.uponIn F m A.P o a next Q ((execOp a.eval o).run A.P w):=fun {rv x} hv hr hx=>by
   rw [hr];exact hk rv (by rw [hv];exact hx)
 unfold Kj at Wb;split at Wb
 · rename_i t x ho;unfold op at h;rw [ho] at h;simp only [aa] at h;obtain ⟨p,hp,h⟩:=h;obtain ⟨_,x,hx,rfl⟩:=Po h;obtain ⟨rv,h1,h2⟩:=fA hx hw hf (me hp hw he);exact fin rfl (by unfold execOp;rw [ho];simp [h1]) h2
 · rename_i t x i ho;unfold op at h;rw [ho] at h;simp only [aa] at h;obtain ⟨mv,hm,k,G5,h⟩:=h;obtain ⟨_,x,hx,rfl⟩:=Po h;obtain ⟨rv,h1,h2⟩:=Ut hx hw (Pb hm hw he) (Pb G5 hw he);exact fin rfl (by unfold execOp;rw [ho];simp [h1]) h2
 · simp at Wb
theorem R3 {F:Fence} {m:Nat} {Q:Exit->Act->World->Prop} (hC:xj A call) (hF:Tu F) (T:Trace A call za n os σ τ) (hq:Pc call) (IM:Ub A.La g0 w0 (σ 0).H) (inv:Inv A.La os σ τ n g0 f0 w0 ds L g f a w) (hD:Down os L) {i:Nat} (hi:Hl os L i)
   {K:Act->World->Prop} (hK:∀ g' f' a' w',Inv A.La os σ τ n g0 f0 w0 ds (fun j=>L j\/j=i) g' f' a' w'->K a' w'):wpOpIn F m A.P os Q i K a w:=by
 have hi1:=hi.1;have ho:os[i]?=some os[i]:=by simp [hi1]
 generalize os[i]=o at ho;obtain ⟨M,hM⟩:=inv.masked T hq hD hi ho;unfold wpOpIn;simp only [ho];have oK:∀ b,Sc os (σ i) o=some b->Region.wanted o (yielded os a.tmps)=b:=fun b hb=>xx (wK hb hM.e) hM.he
 rcases T.step i o ho with ⟨q,v,s',hg,qA,ht,Hg⟩|⟨hg,Hg,ht⟩|⟨v,hg,xh,VB,Hg,ht,o9,qA⟩
 · rw [oK true hg,if_pos rfl];obtain ⟨p1,p2,p3,p4⟩:=Mt Hg;obtain ⟨s1,h1,h2,h3,h4,h5,h6⟩:=YS qA;have W8:Uc A za (EB (τ i) (σ i)) o q=τ i:=by rw [VD,<- ht]
   have R0:∀ x∈o.op.operands,operand A M.e x=operand A (EB (τ i) (σ i)).e x:=fun x hx=>by
     rw [wO];cases x with
     |tmp t=>simp only [operand];rw [hM.e t (qf _ (List.mem_filterMap.2 ⟨.tmp t,by simpa using hx,rfl⟩))]
     |const v=>rfl
     |global gv=>rfl
     |func fv=>rfl
   obtain ⟨M',Wag,st⟩:=CE (q:=q) (t:=M) hq h1 R0 (fun hh=>hM.H1 (by rw [W8] at hh;exact hh)) (by rw [xO];exact hM.Ti) (fun b wr hb=>by
     rw [W8] at hb;rw [xO];exact hM.F b (T.lq hD hi ⟨wr,hb⟩))
   rw [W8] at st;have stF:=st.f;rw [xO] at stF;have hE:∀ k wr,τ i= .box k wr->f.E k/\k<(σ i).F.length:=fun k wr hk=>by
     rw [ht] at hk;obtain ⟨t,X8,c,hc⟩:=RO (os:=os) hk;have:=hM.he t;rw [hM.e t X8,hc] at this;exact this.1
   refine eH hC Wag hM.hw hM.hf hM.he hF (fun ty x y Vac k c hx=> ?_) fun hse g' f' w' rv XC pK hx hv=> ?_
   · have h0:operand A (σ i).e x=some (.loc k c):=by
       have:=R0 x (by rw [Vac];simp [Op.operands]);rw [hx,wO] at this;exact this.symm
     have:τ i= .box k true:=by rw [ht];unfold Uc;rw [Vac];simp only [h0];rfl
     exact this
   · obtain h:=inv.step T hq IM hD hi ho hM hx XC pK hv (fun d hd=>p4 d hd) (fun hh=>by rw [p2,h4,(st.h.1 hh)]) (fun hh=>(st.h.2 hh).1) (by
       have hFs:(σ (i+1)).F=s1.F:=by rw [p3,h3]
       rcases stF with ⟨e1,e2⟩|⟨row,e1,e2,htn⟩|⟨k,row,hk,e1,e2,_⟩
       · by_cases hb:∃ b,τ i= .box b true
         · obtain ⟨b,hb⟩:=hb;obtain ⟨hEb,JP⟩:=hE b true hb;have hMb:M.F[b]?=(σ i).F[b]?:=hM.F b (T.lq hD hi ⟨true,hb⟩);have hr:=ya JP;refine .inr (.inr ⟨b,(σ i).F[b],hb,?_,?_,hEb,JP⟩)
           · rw [e2];refine List.ext_getElem? fun k=> ?_
             rw [Kb];split
             · rename_i e;subst e;rw [if_pos (by rw [hM.Ti];exact JP),hMb,hr]
             · rfl
           · rw [hFs,e1];refine List.ext_getElem? fun k=> ?_
             rw [Kb];split
             · rename_i e;subst e;first|(rw [hr];simp;done)|(rw [hr];done)|(simp [JP,hr];done)|simp
             · rfl
         · exact .inl ⟨e2,by rw [hFs,e1],fun b zd=>hb ⟨b,zd⟩⟩
       · refine .inr (.inl ⟨row,e2,by rw [hFs,e1],fun b hb=> ?_⟩);rw [htn] at hb;simp at hb
       · exact .inr (.inr ⟨k,row,hk,e2,by rw [hFs,e1],hE k true hk⟩))
     exact hK _ _ _ _ h
 · rw [oK false hg,if_neg (by simp)];refine ⟨fun f _=>hF.fn f,?_⟩;obtain ⟨p1,p2,p3,p4⟩:=Mt Hg;exact hK _ _ _ _ (inv.step T hq IM hD hi ho hM (v:= .v (.Rc [])) (rv:=undef) (.refl _ _ _ _ _) hM.hw hM.hf (wC _ _) (fun d hd=>p4 d hd) (fun hh=>by rw [ht] at hh;simp [Ze.Cc] at hh) (fun _=>rfl) (.inl ⟨rfl,p3,fun b hb=>by rw [ht] at hb;simp at hb⟩))
 · rw [oK true hg,if_pos rfl];obtain ⟨p1,p2,p3,p4⟩:=Mt Hg;obtain ⟨p,eS,Gq,Ee⟩:=T.upto hD hi o9;obtain ⟨s2,gw⟩:=qA p eS Gq;have hlen:(σ i).H.bl.length<=(σ p).H.bl.length:=(T.span hq p eS Gq).len;have hle:(g.lim (σ i).H.bl.length).Le w (g.lim (σ p).H.bl.length) w:=⟨fun b hb=>⟨⟨hb.1,Za hb.2 hlen⟩,rfl⟩,fun R hR=>⟨hR,rfl⟩⟩;have hwp:=inv.heap p Gq Ee;have q9:∀ x∈o.op.operands,operand A M.e x=operand A (σ i).e x:=fun x hx=>by
     cases x with
     |tmp t=>simp only [operand];rw [hM.e t (qf _ (List.mem_filterMap.2 ⟨.tmp t,by simpa using hx,rfl⟩))]
     |const v=>rfl
     |global gv=>rfl
     |func fv=>rfl
   have ny:Kj A o=true:=by unfold gf at xh;simp only [Ia] at xh;exact xh.1
   have p9:∃ s3,op A call za ⟨M.e,M.F,(σ p).H⟩ o=some (v,s3):=by
     unfold gf at xh;simp only [Ia] at xh;unfold Kj at ny;split at ny
     · rename_i t x nZ;unfold op at gw ⊢;rw [nZ] at gw xh ⊢;simp only [aa] at gw;obtain ⟨q,hq1,gw⟩:=gw;have hq2:operand A (σ i).e (.tmp x)=some q:=hq1;have hme:=q9 (.tmp x) (by rw [nZ];simp [Op.operands]);simp only [hq2] at xh;simp only [hme,hq2,da];obtain ⟨_,y,hy,rfl⟩:=Po gw;refine ⟨_,show Hf _ _=some (.v y,⟨M.e,M.F,(σ p).H⟩) from ?_⟩;have hl:load A ⟨M.e,M.F,(σ p).H⟩ t q=some y:=by
         revert hy
         cases q with
         |loc k c=>simp at xh
         |v a=>cases a<;>simp at xh;exact id
       rw [hl];rfl
     · rename_i t x k nZ;unfold op at gw ⊢;rw [nZ] at gw ⊢;simp only [aa] at gw;obtain ⟨mv,hm,kv,G5,gw⟩:=gw;have e1:=q9 x (by rw [nZ];simp [Op.operands]);have e2:=q9 k (by rw [nZ];simp [Op.operands]);have x9:val A M.e x=some mv:=by rw [<- hm];simp only [val,e1]
       have dS:val A M.e k=some kv:=by rw [<- G5];simp only [val,e2]
       simp only [x9,dS,da];obtain ⟨_,y,hy,rfl⟩:=Po gw;have If:lookup A (σ p).H t mv kv false=some y:=hy;exact ⟨_,show Hf _ _=some (.v y,⟨M.e,M.F,(σ p).H⟩) by rw [If];rfl⟩
     · simp at ny
   obtain ⟨s3,p9⟩:=p9;have CB:Jd (g.lim (σ p).H.bl.length) (f.lim (σ i).F.length fun b=>τ i= .box b true) w (σ p).H M.F:=by
     refine ⟨hM.hf.Ae,fun k row hk hr=> ?_,hM.hf.inj,fun k hk=>inv.apart k hk.1 p Gq Ee⟩;obtain ⟨cs,h1,h2⟩:=hM.hf.Oc k row hk hr;exact ⟨cs,h1,h2.mono hle⟩
   have hep:Pe (g.lim (σ p).H.bl.length) (f.lim (σ i).F.length fun b=>τ i= .box b true) w M.e a.tmps:=fun t=>(hM.he t).mono hle fun i hi=>⟨hi,rfl⟩
   refine QG ny p9 hwp CB hep hF fun rv hv=> ?_
   have Pr:we (g.lim (σ i).H.bl.length) (f.lim (σ i).F.length fun b=>τ i= .box b true) w v rv:=aH (g:=g.lim (σ p).H.bl.length) VB (fun b hb nc=>⟨hb.1,nc⟩) (fun _=>rfl) hv;exact hK _ _ _ _ (inv.step T hq IM hD hi ho hM (v:=v) (rv:=rv) (.refl _ _ _ _ _) hM.hw hM.hf Pr (fun d hd=>p4 d hd) (fun hh=>by rw [ht] at hh;simp [Ze.Cc] at hh) (fun _=>rfl) (.inl ⟨rfl,p3,fun b hb=>by rw [ht] at hb;simp at hb⟩))
def gM (A:oh) (call:Callee) (za:List Nat) (n:Nat) (os:Array Oper) (b:List Nat) (i:Nat) (x:List Ze) (s s1:S) (t:Ze) (o:Oper) (later:SV->Prop):Prop:=
 (∃ q v s',Sc os s o=some true/\rM A call za t s o=some (v,s')/\t=Uc A za s o q/\put s' n o.dst v=some s1)\/
 (Sc os s o=some false/\put s n o.dst (.v (.Rc []))=some s1/\t= .no)\/
 (∃ v,Sc os s o=some true/\gf A s o=true/\tq s.H.bl.length v=true/\put s n o.dst v=some s1/\t= .no/\kP b i x=true/\later v)
theorem Wz {b:List Nat}:∀ (l:List Oper) (i:Nat) (s:S) (x:List Ze) (rs:List (Oper×List (Nat×SV)×SV)) (s':S) (y:List Ze),Mg A call za rs s->Lj A call za n os b l i s x rs=some (s',y)->
  ∃ (σ:Nat->S) (τ:Nat->Ze),σ 0=s/\σ l.length=s'/\y=x++(ua l.length).map τ/\(∀ k,k<=l.length->Mg A call za rs (σ k))/\∀ k o,l[k]?=some o->
   gM A call za n os b (i+k) (x++(ua k).map τ) (σ k) (σ (k+1)) (τ k) o fun v=>∀ k',k<=k'->k'<=l.length->∃ s',op A call za { σ k' with e:=(σ k).e } o=some (v,s')
 |[],i,s,x,rs,s',y,FP,h=>by
  simp [Lj] at h;obtain ⟨rfl,rfl⟩:=h;exact ⟨fun _=>s,fun _=> .no,rfl,rfl,by simp,fun _ _=>FP,fun k o h=>by simp at h⟩
 |o::l,i,s,x,rs,s',y,FP,h=>by
  simp only [Lj,aa] at h;obtain ⟨g,hg,h⟩:=h;have fin:∀ (s1:S) (t:Ze) (rs':List (Oper×List (Nat×SV)×SV)),Mg A call za rs' s1->(∀ r∈rs,r∈rs')->Lj A call za n os b l (i+1) s1 (x++[t]) rs'=some (s',y)->
     (∀ (later:SV->Prop),(∀ v s0,op A call za s o=some (v,s0)->(o,s.e,v)∈rs'->later v)->gM A call za n os b i x s s1 t o later)->
     ∃ (σ:Nat->S) (τ:Nat->Ze),σ 0=s/\σ (o::l).length=s'/\y=x++(ua (o::l).length).map τ/\(∀ k,k<=(o::l).length->Mg A call za rs (σ k))/\∀ k o',(o::l)[k]?=some o'->
      gM A call za n os b (i+k) (x++(ua k).map τ) (σ k) (σ (k+1)) (τ k) o' fun v=>∀ k',k<=k'->k'<=(o::l).length->∃ s',op A call za { σ k' with e:=(σ k).e } o'=some (v,s'):=fun s1 t rs' Iag EP h1 h2=>by
   obtain ⟨σ,τ,e0,e1,e2,e4,e3⟩:=Wz l (i+1) s1 _ rs' s' y Iag h1;refine ⟨fun k=>match k with|0=>s|k+1=>σ k,fun k=>match k with|0=>t|k+1=>τ k,rfl,by simpa using e1,?_,fun k hk=> ?_,fun k o' hk=> ?_⟩
   · rw [e2,List.length_cons,List.range_succ_eq_map]
     simp
   · cases k with
     |zero=>exact FP
     |succ k=>exact fun r hr=>e4 k (by simpa using hk) r (EP r hr)
   · cases k with
     |zero=>
      simp at hk;subst hk;have:=h2 (fun v=>∀ k',0<=k'->k'<=(o::l).length->∃ s',op A call za { (match k' with|0=>s|k+1=>σ k:S) with e:=s.e } o=some (v,s')) fun v s0 hv hm k' _ G5=>by
        cases k' with
        |zero=>exact ⟨s0,hv⟩
        |succ k'=>exact e4 k' (by simpa using G5) _ hm
      simpa [e0] using this
     |succ k=>
      have:=e3 k o' (by simpa using hk);have e5:i+1+k=i+(k+1):=by omega
      have e6:x++[t]++(ua k).map τ=x++(ua (k+1)).map (fun k=>match k with|0=>t|k+1=>τ k):=by
        rw [List.range_succ_eq_map];simp
      rw [e5,e6] at this;rcases this with h|h|⟨v,a1,a2,a3,a4,a5,a6,a7⟩
      · exact .inl h
      · exact .inr (.inl h)
      · refine .inr (.inr ⟨v,a1,a2,a3,a4,a5,a6,fun k' h1 h2=> ?_⟩);cases k' with
        |zero=>omega
        |succ k'=>exact a7 k' (by omega) (by simpa using h2)
  cases g with
  |true=>
   simp only at h;split at h
   · rename_i xh;simp only [aa] at h;obtain ⟨⟨v,s1⟩,qA,h⟩:=h;simp only at h;split at h
     case isFalse=>simp at h
     rename_i VB;simp only [Ia] at VB;simp only [aa] at h;obtain ⟨s2,Hg,h⟩:=h;split at h
     case isFalse=>simp at h
     rename_i Af;exact fin s2 .no _ Af (fun r hr=>qf _ hr) h fun later hl=> .inr (.inr ⟨v,hg,xh,VB.1,Hg,rfl,VB.2,hl v s1 qA (by simp)⟩)
   · simp only [aa] at h;obtain ⟨⟨v,s1⟩,qA,s2,Hg,h⟩:=h;split at h
     case isFalse=>simp at h
     rename_i Af;exact fin s2 _ _ Af (fun r hr=>hr) h fun later hl=> .inl ⟨_,v,s1,hg,qA,rfl,Hg⟩
  |false=>
   simp only [aa] at h;obtain ⟨s1,Hg,h⟩:=h;split at h
   case isFalse=>simp at h
   rename_i Af;exact fin s1 _ _ Af (fun r hr=>hr) h fun later hl=> .inr (.inl ⟨hg,Hg,rfl⟩)
theorem ng {α:Type} {l:List α} {i:Nat} {x:α} (h:l[i]?=some x):(x,i)∈l.zipIdx:=by
 rw [GB];exact ⟨i,by simp [h]⟩
theorem vE {s s':S} (h:region A call za n os true s=some s'):∃ (σ:Nat->S) (τ:Nat->Ze),σ 0=s/\σ os.size=s'/\Trace A call za n os σ τ/\∀ j o,os[j]?=some o->∀ e∈o.after,Region.binds .any e=true->e.on<j:=by
 simp only [region,if_true] at h;split at h
 case isFalse=>simp at h
 rename_i BT;simp only [aa] at h;obtain ⟨⟨s1,y⟩,Vag,h⟩:=h;split at h
 case isFalse=>simp at h
 rename_i gu;simp at h;subst h;obtain ⟨σ,τ,e0,e1,e2,_,e3⟩:=Wz os.toList 0 s [] [] s1 y (fun r hr=>by simp at hr) Vag;have hy:∀ k,k<os.size->y[k]?=some (τ k):=fun k hk=>by rw [e2];simp [hk]
 simp only [qE,Ia] at BT;obtain ⟨kZ,aS⟩:=BT;refine ⟨σ,τ,e0,by simpa using e1,⟨fun i o ho=> ?_,fun i j oi oj hoi hoj nc=> ?_,fun i j hi hj Nc hw=> ?_⟩,fun j o ho e he hb=> ?_⟩
 · rcases e3 i o (by simpa using ho) with h|h|⟨v,a1,a2,a3,a4,a5,a6,a7⟩
   · exact .inl h
   · exact .inr (.inl h)
   · refine .inr (.inr ⟨v,a1,a2,a3,a4,a5,fun j hj hw=> ?_,fun k h1 h2=>a7 k h1 (by simpa using h2)⟩);have hm:(τ j,j)∈([]++(ua i).map τ).zipIdx:=ng (by simp [hj]);have:=Yb.1 a6 _ hm
     simpa [hw,Ze.Cc,Ze.writes] using this
 · have h1:=Yb.1 aS _ (ng (l:=os.toList) (i:=j) (x:=oj) (by simpa using hoj));have h2:=Yb.1 h1 _ (ng (l:=os.toList) (i:=i) (x:=oi) (by simpa using hoi))
   simpa [nc] using h2
 · have h1:=Yb.1 gu _ (ng (hy j hj));simp only [hw,Xl,Bool.false_or] at h1;have h2:=Yb.1 h1 _ (ng (hy i hi));simp only [Ff,Ia,decide_eq_true_eq,beq_iff_eq,Bool.not_eq_true'] at h2;rcases h2 with ((h2|h2)|h2)|h2
   · exact absurd h2 Nc
   · exact .inl h2
   · exact .inr (.inl h2)
   · exact .inr (.inr h2)
 · have h1:=Yb.1 kZ _ (ng (l:=os.toList) (i:=j) (x:=o) (by simpa using ho));have h2:=Yb.1 h1 e (by simpa using he)
   simpa [hb] using h2
def xP (listed:Array Bool) (j:Nat):Prop:=listed.getD j false=true
theorem ZB {l:List Bool} {i:Nat} (h:l[i]?=some false):0<l.countP (!·):=by
 rw [List.countP_pos_iff];exact ⟨false,jb h,rfl⟩
theorem zy {l:List Bool}:∀ {i:Nat},l[i]?=some false->(l.set i true).countP (!·)+1=l.countP (!·):=by
 induction l with
 |nil=>intro i h;simp at h
 |cons x l ih=>
  intro i h;cases i with
  |zero=>simp at h;subst h;simp
  |succ i=>
   have:=ih (i:=i) (by simpa using h);simp only [List.set_cons_succ,List.countP_cons];omega
theorem uY {F:Fence} {m:Nat} {Q:Exit->Act->World->Prop} (hC:xj A call) (hF:Tu F) (T:Trace A call za n os σ τ) (hq:Pc call) (IM:Ub A.La g0 w0 (σ 0).H)
  (GH:∀ j o,os[j]?=some o->∀ e∈o.after,Region.binds .any e=true->e.on<j)
  (sy:∀ g' f' a' w' L,Inv A.La os σ τ n g0 f0 w0 ds L g' f' a' w'->(∀ j,j<os.size->L j)->Q .normal a' w'):
  ∀ (fuel:Nat) (listed:Array Bool) (g:Gx) (f:Fx) (a:Act) (w:World),listed.size=os.size->listed.toList.countP (!·)<=fuel->Down os (xP listed)->Inv A.La os σ τ n g0 f0 w0 ds (xP listed) g f a w->wpAnyIn F m A.P .any os Q fuel listed a w:=by
 have Af:∀ (listed:Array Bool),listed.size=os.size->Region.ready .any os listed=[]->∀ j,j<os.size->xP listed j:=by
  intro listed hs hr j;induction j using Nat.strongRecOn with
  |ind j ih=>
    intro hj;unfold xP;cases hl:listed.getD j false with
    |true=>rfl
    |false=>
      exfalso;have:j∈Region.ready .any os listed:=mem_ready.2 ⟨by simp [kq,hs,hj] at hl ⊢;exact hl,os[j],by simp [hj],fun e he hb=>ih e.on (GH j _ (by simp [hj]) e he hb) (by have:=GH j os[j] (by simp [hj]) e he hb;omega)⟩;rw [hr] at this;simp at this
 intro fuel;induction fuel with
 |zero=>
  intro listed g f a w hs hc hD inv;have hr:Region.ready .any os listed=[]:=by
    cases hr:Region.ready .any os listed with
    |nil=>rfl
    |cons i l=>
      exfalso;have hi:i∈Region.ready .any os listed:=by rw [hr];simp
      obtain ⟨h1,o,ho,_⟩:=mem_ready.1 hi;have nc:=Ua ho;have:listed.toList[i]?=some false:=by simp [kq,hs,nc] at h1;simp [hs,nc,h1]
      have:=ZB this;omega
  exact ⟨hr,sy g f a w _ inv (Af listed hs hr)⟩
 |succ fuel ih=>
  intro listed g f a w hs hc hD inv;refine ⟨fun hr=>sy g f a w _ inv (Af listed hs hr),fun i hi=> ?_⟩;obtain ⟨h1,o,ho,Y9⟩:=mem_ready.1 hi;have nc:=Ua ho;have O9:listed.toList[i]?=some false:=by simp [kq,hs,nc] at h1;simp [hs,nc,h1]
  have iK:¬ xP listed i:=by unfold xP;simp [kq,hs,nc] at h1 ⊢;exact h1
  have FT:Hl os (xP listed) i:=⟨nc,iK,fun k hk=>by
    obtain ⟨e,he,hb,h⟩:=OS ho hk;have hL:=Y9 e he hb;rcases h with rfl|h
    · exact hL
    · exact hD k e.on (by have:=GH i o ho e he hb;omega) hL h⟩
  have Had:(fun j=>xP listed j\/j=i)=xP (listed.setIfInBounds i true):=by
    funext j;apply propext;unfold xP;by_cases e:j=i
    · subst e;simp [kq,hs,nc]
    · rw [getD_set_ne false (fun h=>e h.symm)];exact ⟨fun h=>h.resolve_right e,.inl⟩
  refine R3 hC hF T hq IM inv hD FT fun g' f' a' w' kag=> ?_
  refine ih _ g' f' a' w' (by simpa using hs) ?_ ?_ ?_
  · have:=zy O9;rw [Array.toList_setIfInBounds];omega
  · rw [<- Had];exact hD.add FT
  · rw [<- Had];exact kag
theorem ER (hm:A.P.follows .mixedOrders=true):Km A:=by
 intro call za hC hq F m n id all g f s s' a w Q hF h Wb hk;obtain ⟨σ,τ,rfl,rfl,T,GH⟩:=vE h;refine wpIn_region_any hm ?_;have hh:({ w with drawn:=w.drawn+1 }:World).heap=w.heap:=rfl;have Z8:St A.La g f (σ 0) n a { w with drawn:=w.drawn+1 }:=by
   refine ⟨Wb.hw.heap hh,Wb.hf.heap hh,fun t=>(Wb.he t).mono (.heap hh) fun _ h=>⟨h,rfl⟩,Wb.hn,?_,Wb.hW⟩;exact Wb.hm.step Wb.hw Wb.hf (.heap hh)
 refine uY (g0:=g) (f0:=f) (w0:={ w with drawn:=w.drawn+1 }) (ds:=a.defers) hC hF T hq Z8.hw GH (fun g' f' a' w' L inv hL=> ?_) all.size _ g f a _ (by simp) ?_ ?_ ?_
 · obtain ⟨f2,h1,h2⟩:=inv.finish T hq Z8 hL;exact hk g' f2 a' w' h1 ((kg.heap hh).trans h2) (by rw [inv.ds];exact .refl _ _)
 · rw [Array.toList_replicate];exact Ib List.countP_le_length (by simp)
 · intro i j hj hL;unfold xP at hL;simp [kq] at hL
 · have:xP (Array.replicate all.size false)=fun _=>False:=by
    funext j;apply propext;unfold xP;simp [kq]
   rw [this];exact Inv.start T hq Z8
end
end Go.V
