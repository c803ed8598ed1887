/- An evaluator of the translated code and that it is right: each of its answers is an answer of the model. -/
import Derived.Test.YtjenflkegbmkkaaGreatDoorA4
import Derived.Orders
set_option linter.unusedVariables false
set_option linter.unusedSimpArgs false
set_option linter.unusedSectionVars false
namespace Go.V
open Go
theorem force_eq {α:Type} (n:Nat) (k:Nat->α):force n k=k n:=by cases n<;>rfl
theorem bitsOf_spec (acc:List Nat) (i:Nat):∀ es:List Edge,(bitsOf acc es).testBit i=true->∃ e∈es,Region.binds .any e=true/\(e.on=i\/(acc.getD e.on 0).testBit i=true)
 |[],h=>by simp [bitsOf] at h
 |e::es,h=>by
  simp only [bitsOf] at h;split at h
  · rename_i hb;simp only [Nat.testBit_or,Bool.or_eq_true,Nat.testBit_two_pow,decide_eq_true_eq] at h;rcases h with (h|h)|h
    · exact ⟨e,by simp,hb,.inl h⟩
    · exact ⟨e,by simp,hb,.inr h⟩
    · obtain ⟨x,h1,h2⟩:=bitsOf_spec acc i es h;exact ⟨x,List.mem_cons_of_mem _ h1,h2⟩
  · obtain ⟨x,h1,h2⟩:=bitsOf_spec acc i es h;exact ⟨x,List.mem_cons_of_mem _ h1,h2⟩
theorem ancL_prefix:∀ (os:List Oper) (acc:List Nat),acc <+: ancL os acc
 |[],acc=>List.prefix_refl _
 |o::os,acc=>by
  simp only [ancL,force_eq];exact (List.prefix_append _ _).trans (ancL_prefix os _)
theorem ancL_spec:∀ (os:List Oper) (acc:List Nat) (k:Nat) (o:Oper),os[k]?=some o->
  ∃ acc',acc' <+: ancL os acc/\acc'.length=acc.length+k/\(ancL os acc)[acc.length+k]?=some (bitsOf acc' o.after.toList)
 |[],acc,k,o,h=>by simp at h
 |o'::os,acc,0,o,h=>by
  simp at h;subst h;refine ⟨acc,ancL_prefix _ _,rfl,?_⟩;simp only [ancL,force_eq];obtain ⟨t,ht⟩:=ancL_prefix os (acc++[bitsOf acc o'.after.toList]);rw [<- ht]
  simp
 |o'::os,acc,k+1,o,h=>by
  obtain ⟨acc',h1,h2,h3⟩:=ancL_spec os (acc++[bitsOf acc o'.after.toList]) k o (by simpa using h);simp only [ancL,force_eq];refine ⟨acc',h1,by simp at h2;omega,?_⟩;rw [<- h3];congr 1;simp;omega
theorem ord_edge {os:Array Oper} {i j:Nat} {o:Oper} (ho:os[j]?=some o) (h:ord (ancL os.toList []) i j=true):
   ∃ e∈o.after,Region.binds .any e=true/\(e.on=i\/ord (ancL os.toList []) i e.on=true):=by
 obtain ⟨acc,h1,h2,h3⟩:=ancL_spec os.toList [] j o (by simpa using ho);simp only [List.length_nil,Nat.zero_add] at h2 h3;unfold ord at h;rw [List.getD_eq_getElem?_getD,h3] at h;obtain ⟨e,he,hb,h⟩:=bitsOf_spec acc i _ h;refine ⟨e,by simpa using he,hb,h.imp id fun h=> ?_⟩;unfold ord;rw [List.getD_eq_getElem?_getD] at h ⊢;by_cases hlt:e.on<acc.length
 · obtain ⟨t,ht⟩:=h1;rw [<- ht,List.getElem?_append_left hlt];exact h
 · rw [List.getElem?_eq_none (by omega)] at h;simp at h
def Down (os:Array Oper) (L:Nat->Prop):Prop:=∀ i j,j<os.size->L j->ord (ancL os.toList []) i j=true->L i
def ReadyAt (os:Array Oper) (L:Nat->Prop) (j:Nat):Prop:=j<os.size/\¬ L j/\∀ i,ord (ancL os.toList []) i j=true->L i
theorem Down.add {os:Array Oper} {L:Nat->Prop} {j:Nat} (h:Down os L) (hj:ReadyAt os L j):Down os fun i=>L i\/i=j:=fun i k hk hL ho=>by
 rcases hL with hL|rfl
 · exact .inl (h i k hk hL ho)
 · exact .inl (hj.2.2 i ho)
inductive Cmp where
 |slot (t:Nat)
 |heap
 |box (b:Nat)
structure Trace (A:Par) (call:Callee) (locs:List Nat) (n:Nat) (os:Array Oper) (σ:Nat->S) (τ:Nat->Tch):Prop where
 step:∀ i o,os[i]?=some o->
  (∃ q v s',guardOn os (σ i) o=some true/\opD A call locs (τ i) (σ i) o=some (v,s')/\τ i=touch A locs (σ i) o q/\put s' n o.dst v=some (σ (i+1)))\/
  (guardOn os (σ i) o=some false/\put (σ i) n o.dst (.v (.tup []))=some (σ (i+1))/\τ i= .no)\/
  (∃ v,guardOn os (σ i) o=some true/\isStill A (σ i) o=true/\plainSV (σ i).H.bl.length v=true/\put (σ i) n o.dst v=some (σ (i+1))/\τ i= .no/\(∀ j,j<i->τ j= .heap true->ord (ancL os.toList []) j i=true)/\
   ∀ k,i<=k->k<=os.size->∃ s',op A call locs { σ k with e:=(σ i).e } o=some (v,s'))
 slots:∀ i j oi oj,os[i]?=some oi->os[j]?=some oj->i<j->ord (ancL os.toList []) i j=true\/oi.apart os oj=true
 touches:∀ i j,i<os.size->j<os.size->i≠j->(τ j).writes=true->(i<j/\ord (ancL os.toList []) i j=true)\/(j<i/\ord (ancL os.toList []) j i=true)\/conflict (τ i) (τ j)=false
def Wr (os:Array Oper) (τ:Nat->Tch) (j:Nat):Cmp->Prop
 | .slot t=>∃ o,os[j]?=some o/\o.dst=some t
 | .heap=>τ j= .heap true
 | .box b=>τ j= .box b true
def Us (os:Array Oper) (τ:Nat->Tch) (j:Nat):Cmp->Prop
 | .slot t=>∃ o,os[j]?=some o/\(o.dst=some t\/t∈o.looksAt os)
 | .heap=>(τ j).isHeap=true
 | .box b=>∃ w,τ j= .box b w
section
variable {A:Par} {call:Callee} {locs:List Nat} {n:Nat} {os:Array Oper} {σ:Nat->S} {τ:Nat->Tch} {L:Nat->Prop}
theorem Wr.us {j:Nat} {c:Cmp} (h:Wr os τ j c):Us os τ j c:=by
 cases c with
 |slot t=>obtain ⟨o,h1,h2⟩:=h;exact ⟨o,h1,.inl h2⟩
 |heap=>simp only [Wr] at h;simp only [Us,h,Tch.isHeap]
 |box b=>exact ⟨true,h⟩
theorem Trace.order (T:Trace A call locs n os σ τ) {i j:Nat} {c:Cmp} (hi:i<os.size) (hj:j<os.size) (hne:i≠j) (hw:Wr os τ j c) (hu:Us os τ i c):
  (i<j/\ord (ancL os.toList []) i j=true)\/(j<i/\ord (ancL os.toList []) j i=true):=by
 cases c with
 |slot t=>
  obtain ⟨oj,hoj,hd⟩:=hw;obtain ⟨oi,hoi,hu⟩:=hu;rcases Nat.lt_or_gt_of_ne hne with h|h
  · rcases T.slots i j oi oj hoi hoj h with h1|h1
    · exact .inl ⟨h,h1⟩
    · exfalso;obtain ⟨k1,k2,k3⟩:=Oper.apart_spec h1;rcases hu with hu|hu
      · exact k2 t hu hd
      · exact k3 t hd hu
  · rcases T.slots j i oj oi hoj hoi h with h1|h1
    · exact .inr ⟨h,h1⟩
    · exfalso;obtain ⟨k1,k2,k3⟩:=Oper.apart_spec h1;rcases hu with hu|hu
      · exact k2 t hd hu
      · exact k1 t hd hu
 |heap=>
  simp only [Wr] at hw;rcases T.touches i j hi hj hne (by rw [hw];rfl) with h|h|h
  · exact .inl h
  · exact .inr h
  · exfalso;simp only [Us] at hu;rw [hw] at h;cases hτ:τ i with
    |heap w=>rw [hτ] at h;simp [conflict] at h
    |no=>rw [hτ] at hu;simp [Tch.isHeap] at hu
    |box b w=>rw [hτ] at hu;simp [Tch.isHeap] at hu
 |box b=>
  simp only [Wr] at hw;rcases T.touches i j hi hj hne (by rw [hw];rfl) with h|h|h
  · exact .inl h
  · exact .inr h
  · exfalso;obtain ⟨w,hu⟩:=hu;rw [hw,hu] at h;simp [conflict] at h
def Vis (os:Array Oper) (τ:Nat->Tch) (L:Nat->Prop) (p:Nat) (c:Cmp):Prop:=
 (∀ j,j<os.size->j<p->¬ L j->¬ Wr os τ j c)/\(∀ j,j<os.size->p<=j->L j->¬ Wr os τ j c)
theorem Trace.vis_use (T:Trace A call locs n os σ τ) (hD:Down os L) {i:Nat} (hi:ReadyAt os L i) {c:Cmp} (hu:Us os τ i c):Vis os τ L i c:=by
 refine ⟨fun j hj hlt hnl hw=> ?_,fun j hj hle hl hw=> ?_⟩
 · rcases T.order hi.1 hj (by omega) hw hu with h|h
   · omega
   · exact hnl (hi.2.2 j h.2)
 · have hne:i≠j:=fun e=>hi.2.1 (e ▸ hl)
   rcases T.order hi.1 hj hne hw hu with h|h
   · exact hi.2.1 (hD i j hj hl h.2)
   · omega
theorem Vis.before {i p:Nat} {c:Cmp} (h:Vis os τ (fun j=>L j\/j=i) p c) (hn:¬ Wr os τ i c):Vis os τ L p c:=by
 refine ⟨fun j hj hlt hnl hw=> ?_,fun j hj hle hl=>h.2 j hj hle (.inl hl)⟩;by_cases e:j=i
 · exact hn (e ▸ hw)
 · exact h.1 j hj hlt (fun h=>h.elim hnl e) hw
theorem Vis.after {i p:Nat} {c:Cmp} (hi:i<os.size) (h:Vis os τ (fun j=>L j\/j=i) p c) (hw:Wr os τ i c):i<p:=by
 rcases Nat.lt_or_ge i p with h1|h1
 · exact h1
 · exact absurd hw (h.2 i hi h1 (.inr rfl))
theorem Trace.none_between (T:Trace A call locs n os σ τ) (hD:Down os L) {i p:Nat} (hi:ReadyAt os L i) {c:Cmp} (hu:Us os τ i c) (h:Vis os τ (fun j=>L j\/j=i) p c) (j:Nat) (hj:j<os.size) (h1:i<j) (h2:j<p):¬ Wr os τ j c:=fun hw=>by
 by_cases hl:L j
 · rcases T.order hi.1 hj (by omega) hw hu with h|h
   · exact hi.2.1 (hD i j hj hl h.2)
   · omega
 · exact h.1 j hj h2 (fun h=>h.elim hl (by omega)) hw
structure Left (os:Array Oper) (σ:Nat->S) (τ:Nat->Tch) (i:Nat):Prop where
 e:∀ t,¬ Wr os τ i (.slot t)->get (σ (i+1)).e t=get (σ i).e t
 wm:(σ (i+1)).H.wm=(σ i).H.wm
 len:(σ i).H.bl.length<=(σ (i+1)).H.bl.length
 H:(τ i).isHeap=false->(σ (i+1)).H=(σ i).H
 bl:τ i≠ .heap true->∀ b,b<(σ i).H.bl.length->(σ (i+1)).H.bl[b]?=(σ i).H.bl[b]?
 low:∀ b,b<(σ i).H.wm->b<(σ i).H.bl.length->(σ (i+1)).H.bl[b]?=(σ i).H.bl[b]?
 flen:(σ i).F.length<=(σ (i+1)).F.length
 F:∀ b,b<(σ i).F.length->τ i≠ .box b true->(σ (i+1)).F[b]?=(σ i).F[b]?
 row:∀ (b:Nat) (r r':List AV),(σ i).F[b]?=some r->(σ (i+1)).F[b]?=some r'->r'.length=r.length
theorem put_get {s s':S} {n:Nat} {dst:Option Nat} {v:SV} (h:put s n dst v=some s'):(∀ t,dst≠some t->get s'.e t=get s.e t)/\s'.H=s.H/\s'.F=s.F/\∀ d,dst=some d->d<n/\get s'.e d=v:=by
 unfold put at h;split at h
 · simp at h;subst h;exact ⟨fun _ _=>rfl,rfl,rfl,fun d hd=>by simp at hd⟩
 · rename_i d;split at h
   · rename_i hd;simp at h;subst h;refine ⟨fun t ht=> ?_,rfl,rfl,fun d' hd'=> ?_⟩
     · simp only [get];rw [if_neg (fun e=>ht (by rw [e]))]
     · simp at hd';subst hd';exact ⟨hd,by simp [get]⟩
   · simp at h
def atD (t:Tch) (s:S):S:=
 match t with
 | .heap true=>s
 |_=>{ s with H:={ s.H with wm:=s.H.bl.length } }
theorem opD_at {t:Tch} {s s':S} {o:Oper} {v:SV} (h:opD A call locs t s o=some (v,s')):
   ∃ s1,op A call locs (atD t s) o=some (v,s1)/\s'.e=s1.e/\s'.F=s1.F/\s'.H.bl=s1.H.bl/\(t= .heap true->s'=s1)/\(t≠ .heap true->s'.H.wm=s.H.wm):=by
 have hm:(op A call locs { s with H:={ s.H with wm:=s.H.bl.length } } o).map (fun (v,s')=>(v,{ s' with H:={ s'.H with wm:=s.H.wm } }))=some (v,s')->
     ∃ s1,op A call locs { s with H:={ s.H with wm:=s.H.bl.length } } o=some (v,s1)/\s'.e=s1.e/\s'.F=s1.F/\s'.H.bl=s1.H.bl/\s'.H.wm=s.H.wm:=fun h=>by
   simp only [Option.map_eq_some_iff] at h;obtain ⟨⟨u,s1⟩,h1,h⟩:=h;simp at h;obtain ⟨rfl,rfl⟩:=h;exact ⟨s1,h1,rfl,rfl,rfl,rfl⟩
 unfold opD at h;split at h
 · exact ⟨s',h,rfl,rfl,rfl,fun _=>rfl,fun h=>absurd rfl h⟩
 · rename_i hne;obtain ⟨s1,h1,h2,h3,h4,h5⟩:=hm h;refine ⟨s1,?_,h2,h3,h4,fun h=>absurd h hne,fun _=>h5⟩;unfold atD;split
   · exact absurd rfl hne
   · exact h1
theorem atD_e (t:Tch) (s:S):(atD t s).e=s.e:=by unfold atD;split<;>rfl
theorem atD_F (t:Tch) (s:S):(atD t s).F=s.F:=by unfold atD;split<;>rfl
theorem atD_bl (t:Tch) (s:S):(atD t s).H.bl=s.H.bl:=by unfold atD;split<;>rfl
theorem atD_wm {t:Tch} {s:S} (h:t≠ .heap true):(atD t s).H.wm=s.H.bl.length:=by unfold atD;split;exact absurd rfl h;rfl
theorem atD_touch (t:Tch) (s:S) (o:Oper) (q:Bool):touch A locs (atD t s) o q=touch A locs s o q:=by unfold touch;simp only [atD_e]
theorem Trace.left (T:Trace A call locs n os σ τ) (hq:CalleeQuiet call) {i:Nat} (hi:i<os.size):Left os σ τ i:=by
 have ho:os[i]?=some os[i]:=by simp [hi]
 generalize os[i]=o at ho;have hdst:∀ t,¬ Wr os τ i (.slot t)->o.dst≠some t:=fun t hn hd=>hn ⟨o,ho,hd⟩
 have hno:∀ {v:SV},put (σ i) n o.dst v=some (σ (i+1))->τ i= .no->Left os σ τ i:=fun {v} hput ht=>by
   obtain ⟨p1,p2,p3,p4⟩:=put_get hput;refine ⟨fun t hn=>p1 t (hdst t hn),by rw [p2],by rw [p2];exact Nat.le_refl _,fun _=>p2,fun _ b _=>by rw [p2],fun b _ _=>by rw [p2],by rw [p3];exact Nat.le_refl _,fun b _ _=>by rw [p3],fun b r r' hr hr'=> ?_⟩;rw [p3,hr] at hr';simp at hr';rw [hr']
 rcases T.step i o ho with ⟨q,v,s',hg,hop,ht,hput⟩|⟨hg,hput,ht⟩|⟨v,_,_,_,hput,ht,_⟩
 · obtain ⟨p1,p2,p3,p4⟩:=put_get hput;obtain ⟨s1,h1,h2,h3,h4,h5,h6⟩:=opD_at hop;obtain ⟨t',_,st⟩:=op_step (q:=q) (t:=atD (τ i) (σ i)) hq h1 (fun _ _=>rfl) (fun _=>rfl) rfl (fun _ _ _=>rfl);rw [atD_touch,<- ht] at st;obtain ⟨q1,q2,q3⟩:=st.q;rw [atD_bl] at q2 q3;have hbl:(σ (i+1)).H.bl=s1.H.bl:=by rw [p2,h4]
   have hwm:(σ (i+1)).H.wm=(σ i).H.wm:=by
     rw [p2];by_cases hw:τ i= .heap true
     · rw [h5 hw,q1,hw];rfl
     · exact h6 hw
   have hwm1:(σ i).H.wm<=(atD (τ i) (σ i)).H.wm\/True:= .inr trivial;have hlow:∀ b,b<(atD (τ i) (σ i)).H.wm->b<(σ i).H.bl.length->(σ (i+1)).H.bl[b]?=(σ i).H.bl[b]?:=fun b hb hl=>by rw [hbl];exact q3 b hb hl
   have hF:=st.f;rw [atD_F] at hF;have hF1:(σ (i+1)).F=s1.F:=by rw [p3,h3]
   rw [<- hF1] at hF;refine ⟨fun t hn=> ?_,hwm,by rw [hbl];exact q2,fun hh=> ?_,fun hne b hb=>hlow b (by rw [atD_wm hne];exact hb) hb,fun b hb hl=> ?_,?_,fun b hb hne=> ?_,fun b r r' hr hr'=> ?_⟩
   · rw [p1 t (hdst t hn),h2,st.e1,atD_e]
   · have:=(st.h.2 hh).2;have hne:τ i≠ .heap true:=fun e=>by rw [e] at hh;simp [Tch.isHeap] at hh
     have e1:(σ (i+1)).H.bl=(σ i).H.bl:=by rw [hbl,this,atD_bl]
     cases hx:(σ (i+1)).H with
     |mk bl wm=>
       cases hy:(σ i).H with
       |mk bl' wm'=>
         rw [hx,hy] at e1 hwm;simp at e1 hwm;rw [e1,hwm]
   · by_cases hw:τ i= .heap true
     · exact hlow b (by rw [hw];exact hb) hl
     · exact hlow b (by rw [atD_wm hw];exact hl) hl
   · rcases hF with ⟨e,_⟩|⟨row,e,_⟩|⟨k,row,_,e,_⟩<;>rw [e]<;>simp
   · rcases hF with ⟨e,_⟩|⟨row,e,_⟩|⟨k,row,hk,e,_⟩
     · rw [e]
     · rw [e,List.getElem?_append_left hb]
     · rw [e,List.getElem?_set_ne (fun e'=>hne (by rw [<- e'];exact hk))]
   · have hbl':b<(σ i).F.length:=by rcases Nat.lt_or_ge b (σ i).F.length with h|h;exact h;simp [List.getElem?_eq_none h] at hr
     rcases hF with ⟨e,_⟩|⟨row,e,_⟩|⟨k,row,hk,e,_,hrl⟩
     · rw [e,hr] at hr';simp at hr';rw [hr']
     · rw [e,List.getElem?_append_left hbl',hr] at hr';simp at hr';rw [hr']
     · rw [e,List.getElem?_set] at hr';split at hr'
       · rename_i e';subst e';rw [if_pos hbl'] at hr';simp at hr';subst hr';exact hrl r hr
       · rw [hr] at hr';simp at hr';rw [hr']
 · exact hno hput ht
 · exact hno hput ht
structure Span (os:Array Oper) (σ:Nat->S) (τ:Nat->Tch) (p q:Nat):Prop where
 wm:(σ q).H.wm=(σ p).H.wm
 len:(σ p).H.bl.length<=(σ q).H.bl.length
 flen:(σ p).F.length<=(σ q).F.length
 slot:∀ t,(∀ j,p<=j->j<q->¬ Wr os τ j (.slot t))->get (σ q).e t=get (σ p).e t
 heap:(∀ j,p<=j->j<q->¬ Wr os τ j .heap)->∀ b,b<(σ p).H.bl.length->(σ q).H.bl[b]?=(σ p).H.bl[b]?
 low:∀ b,b<(σ p).H.wm->b<(σ p).H.bl.length->(σ q).H.bl[b]?=(σ p).H.bl[b]?
 box:∀ b,b<(σ p).F.length->(∀ j,p<=j->j<q->¬ Wr os τ j (.box b))->(σ q).F[b]?=(σ p).F[b]?
 row:∀ (b:Nat) (r r':List AV),(σ p).F[b]?=some r->(σ q).F[b]?=some r'->r'.length=r.length
 which:∀ b,(σ p).H.bl.length<=b->b<(σ q).H.bl.length->∃ j,p<=j/\j<q/\(σ j).H.bl.length<=b/\b<(σ (j+1)).H.bl.length
theorem Trace.span (T:Trace A call locs n os σ τ) (hq:CalleeQuiet call) {p:Nat}:∀ q,p<=q->q<=os.size->Span os σ τ p q
 |0,h,_=>by
  obtain rfl:p=0:=by omega
  exact ⟨rfl,Nat.le_refl _,Nat.le_refl _,fun _ _=>rfl,fun _ _ _=>rfl,fun _ _ _=>rfl,fun _ _ _=>rfl,fun b r r' h h'=>by rw [h] at h';simp at h';rw [h'],fun b h h'=>by omega⟩
 |q+1,h,hs=>by
  by_cases e:p=q+1
  · subst e;exact ⟨rfl,Nat.le_refl _,Nat.le_refl _,fun _ _=>rfl,fun _ _ _=>rfl,fun _ _ _=>rfl,fun _ _ _=>rfl,fun b r r' h h'=>by rw [h] at h';simp at h';rw [h'],fun b h h'=>by omega⟩
  · have ih:=T.span hq (p:=p) q (by omega) (by omega);have l:=T.left hq (i:=q) (by omega);refine ⟨l.wm.trans ih.wm,Nat.le_trans ih.len l.len,Nat.le_trans ih.flen l.flen,fun t ht=> ?_,fun hh b hb=> ?_,fun b hb hl=> ?_,fun b hb hh=> ?_,fun b r r' hr hr'=> ?_,fun b h1 h2=> ?_⟩
    · exact (l.e t (ht q (by omega) (by omega))).trans (ih.slot t fun j h1 h2=>ht j h1 (by omega))
    · exact (l.bl (hh q (by omega) (by omega)) b (Nat.lt_of_lt_of_le hb ih.len)).trans (ih.heap (fun j h1 h2=>hh j h1 (by omega)) b hb)
    · exact (l.low b (by rw [ih.wm];exact hb) (Nat.lt_of_lt_of_le hl ih.len)).trans (ih.low b hb hl)
    · exact (l.F b (Nat.lt_of_lt_of_le hb ih.flen) (hh q (by omega) (by omega))).trans (ih.box b hb fun j h1 h2=>hh j h1 (by omega))
    · have hb:b<(σ p).F.length:=by rcases Nat.lt_or_ge b (σ p).F.length with h|h;exact h;simp [List.getElem?_eq_none h] at hr
      have hb2:b<(σ q).F.length:=Nat.lt_of_lt_of_le hb ih.flen;have hm:(σ q).F[b]?=some (σ q).F[b]:=List.getElem?_eq_getElem hb2;exact (l.row b _ r' hm hr').trans (ih.row b r _ hr hm)
    · by_cases h3:b<(σ q).H.bl.length
      · obtain ⟨j,k1,k2,k3⟩:=ih.which b h1 h3;exact ⟨j,k1,by omega,k3⟩
      · exact ⟨q,by omega,by omega,by omega,h2⟩
end
end Go.V
namespace Go.V
open Go
def Gx.lim (g:Gx) (m:Nat):Gx:={ g with D:=fun b=>g.D b/\b<m }
def Fx.lim (f:Fx) (m:Nat) (W:Nat->Prop):Fx:={ E:=fun b=>f.E b/\b<m,φ:=f.φ,W:=W }
theorem live_bl {g:Gx} {H H':AH} {b:Nat} (h:live g H b) (e:H'.bl=H.bl):live g H' b:=⟨h.1,by rw [e];exact h.2⟩
theorem Fp_bl {g:Gx} {H H':AH} {R:Nat} (h:Fp g H R) (e:H'.bl=H.bl):Fp g H' R:=let ⟨b,h1,h2⟩:=h;⟨b,live_bl h1 e,h2⟩
theorem WRel.wm {G:Nat->Option (List AV)} {g:Gx} {w:World} {H H':AH} (h:WRel G g w H) (e:H'.bl=H.bl):WRel G g w H':=
 ⟨h.glob,fun b hb=>by rw [e];exact h.dom b hb,fun b x hd hx=>h.blk b x hd (by rw [<- e];exact hx),fun b b' hb hb'=>h.inj b b' (live_bl hb e.symm) (live_bl hb' e.symm),h.zlt⟩
theorem WRel.carry {G:Nat->Option (List AV)} {g g':Gx} {w w':World} {H:AH} (h:WRel G g w H) (hle:g.Le w g' w') (hD:∀ b,g'.D b->g.D b)
   (hst:∀ b,live g H b->w'.heap[(g.ρ b).R]?=w.heap[(g.ρ b).R]?) (hZ:∀ b,live g H b->¬ g'.Z (g.ρ b).R) (hz:∀ R,g'.Z R->R<w'.heap.size):WRel G g' w' H:=by
 have hρ:∀ b,g'.D b->g'.ρ b=g.ρ b:=fun b hb=>(hle.D b (hD b hb)).2
 have hl:∀ b,live g' H b->live g H b:=fun b hb=>⟨hD b hb.1,hb.2⟩
 refine ⟨fun i row hg=>(h.glob i row hg).mono hle,fun b hb=>h.dom b (hD b hb),fun b x hd hx=> ?_,fun b b' hb hb' hne=> ?_,hz⟩
 · rw [hρ b hd];exact (h.blk b x (hD b hd) hx).le hle (fun hv=>hst b ⟨hD b hd,x,hx,hv⟩) (fun hv=>hZ b ⟨hD b hd,x,hx,hv⟩)
 · rw [hρ b hb.1,hρ b' hb'.1];exact h.inj b b' (hl b hb) (hl b' hb') hne
structure Inv (G:Nat->Option (List AV)) (os:Array Oper) (σ:Nat->S) (τ:Nat->Tch) (n:Nat) (g0:Gx) (f0:Fx) (w0:World) (ds:List Deferred) (L:Nat->Prop) (g:Gx) (f:Fx) (a:Act) (w:World):Prop where
 n:a.tmps.size=n
 ds:a.defers=ds
 slot:∀ p,p<=os.size->∀ t,Vis os τ L p (.slot t)->SVRel (g.lim (σ p).H.bl.length) (f.lim (σ p).F.length fun _=>True) w (get (σ p).e t) (a.tmps.getD t undef)
 heap:∀ p,p<=os.size->Vis os τ L p .heap->WRel G (g.lim (σ p).H.bl.length) w (σ p).H
 glob:∀ i row,G i=some row->GlobRel (g.lim (σ 0).H.bl.length) w i row
 zlt:∀ R,g.Z R->R<w.heap.size
 box:∀ b,f.E b->∃ cs,Row g w (f.φ b) cs.size cs/\(∀ v∈cs.toList,v.oneCell'=true)/\∀ p,p<=os.size->∀ row,(σ p).F[b]?=some row->cs.size=row.length/\(Vis os τ L p (.box b)->RowRel (g.lim (σ p).H.bl.length) w cs 0 row)
 binj:∀ b b',f.E b->f.E b'->b≠b'->f.φ b≠f.φ b'
 apart:∀ b,f.E b->∀ p,p<=os.size->Vis os τ L p .heap->¬ Fp (g.lim (σ p).H.bl.length) (σ p).H (f.φ b)
 freshD:∀ j,j<os.size->¬ L j->∀ b,(σ j).H.bl.length<=b->b<(σ (j+1)).H.bl.length->¬ g.D b
 freshE:∀ j,j<os.size->¬ L j->∀ b,(σ j).F.length<=b->b<(σ (j+1)).F.length->¬ f.E b
 domD:∀ b,g.D b->b<(σ os.size).H.bl.length
 domE:∀ b,f.E b->b<(σ os.size).F.length
 wr:∀ j,j<os.size->L j->∀ b,τ j= .box b true->f.E b
 fD:∀ b,g0.D b->g.D b/\g.ρ b=g0.ρ b
 fDnew:∀ b,g.D b->g0.D b\/(σ 0).H.bl.length<=b
 fZ:∀ R,g0.Z R->g.Z R
 fZnew:∀ R,g.Z R->g0.Z R\/Fp g0 (σ 0).H R\/w0.heap.size<=R
 fFp:∀ p,p<=os.size->Vis os τ L p .heap->∀ R,Fp (g.lim (σ p).H.bl.length) (σ p).H R->Fp g0 (σ 0).H R\/w0.heap.size<=R
 fE:∀ b,f0.E b->f.E b/\f.φ b=f0.φ b
 fEnew:∀ b,f.E b->f0.E b\/(σ 0).F.length<=b
 fφ:∀ b,f.E b->¬ f0.E b->w0.heap.size<=f.φ b
 unch:∀ R,R<w0.heap.size->¬ Fp g0 (σ 0).H R->(∀ b,f0.E b->f0.φ b≠R)->w.heap[R]?=w0.heap[R]?
 size:w0.heap.size<=w.heap.size
 still:∀ b,b<(σ 0).H.wm->live g0 (σ 0).H b->w.heap[(g0.ρ b).R]?=w0.heap[(g0.ρ b).R]?/\∀ b',f.E b'->f.φ b'≠(g0.ρ b).R
 io:w.os=w0.os/\w.output=w0.output
section
variable {A:Par} {call:Callee} {locs:List Nat} {n:Nat} {os:Array Oper} {σ:Nat->S} {τ:Nat->Tch} {L:Nat->Prop} {g0 g:Gx} {f0 f:Fx} {w0 w:World} {ds:List Deferred} {a:Act}
theorem Inv.φlt (inv:Inv A.glob os σ τ n g0 f0 w0 ds L g f a w) {b:Nat} (hb:f.E b):f.φ b<w.heap.size:=by
 obtain ⟨cs,⟨T,fz,hR,_⟩,_⟩:=inv.box b hb;exact getElem?_lt hR
theorem Inv.φnotZ (inv:Inv A.glob os σ τ n g0 f0 w0 ds L g f a w) {b:Nat} (hb:f.E b):¬ g.Z (f.φ b):=by
 obtain ⟨cs,⟨T,fz,hR,_,_,hz⟩,_⟩:=inv.box b hb;exact hz
theorem Inv.start (T:Trace A call locs n os σ τ) (hq:CalleeQuiet call) (hst:St A.glob g0 f0 (σ 0) n a w0):Inv A.glob os σ τ n g0 f0 w0 a.defers (fun _=>False) g0 f0 a w0:=by
 have hsp:∀ p,p<=os.size->Span os σ τ 0 p:=fun p hp=>T.span hq p (Nat.zero_le _) hp
 have hno:∀ {p:Nat} {c:Cmp},p<=os.size->Vis os τ (fun _=>False) p c->∀ j,0<=j->j<p->¬ Wr os τ j c:=fun hp hv j _ hj=>hv.1 j (by omega) hj (fun h=>h)
 have hlim:∀ p,p<=os.size->g0.Le w0 (g0.lim (σ p).H.bl.length) w0:=fun p hp=>⟨fun b hb=>⟨⟨hb,Nat.lt_of_lt_of_le (hst.hw.dom b hb) (hsp p hp).len⟩,rfl⟩,fun R hR=>⟨hR,rfl⟩⟩
 have hbl:∀ p,p<=os.size->Vis os τ (fun _=>False) p .heap->∀ b,g0.D b->(σ p).H.bl[b]?=(σ 0).H.bl[b]?:=fun p hp hv b hb=>(hsp p hp).heap (hno hp hv) b (hst.hw.dom b hb)
 have hfp:∀ p,p<=os.size->Vis os τ (fun _=>False) p .heap->∀ R,Fp (g0.lim (σ p).H.bl.length) (σ p).H R->Fp g0 (σ 0).H R:=fun p hp hv R ⟨b,hl,e⟩=>
   ⟨b,⟨hl.1.1,by rw [<- hbl p hp hv b hl.1.1];exact hl.2⟩,e⟩
 refine ⟨hst.hn,rfl,fun p hp t hv=> ?_,fun p hp hv=> ?_,fun i row hg=> ?_,hst.hw.zlt,fun b hb=> ?_,hst.hf.inj,fun b hb p hp hv h=>hst.hf.apart b hb (hfp p hp hv _ h),fun j hj _ b h1 _ hb=> ?_,fun j hj _ b h1 _ hb=> ?_,
   fun b hb=>Nat.lt_of_lt_of_le (hst.hw.dom b hb) (hsp _ (Nat.le_refl _)).len,fun b hb=>Nat.lt_of_lt_of_le (hst.hf.dom b hb) (hsp _ (Nat.le_refl _)).flen,fun _ _ h=>h.elim,fun _ h=>⟨h,rfl⟩,fun _ h=> .inl h,fun _ h=>h,fun _ h=> .inl h,
   fun p hp hv R h=> .inl (hfp p hp hv R h),fun _ h=>⟨h,rfl⟩,fun _ h=> .inl h,fun _ h h'=>absurd h h',fun _ _ _ _=>rfl,Nat.le_refl _,fun b _ hl=>⟨rfl,fun b' hb' e=>hst.hf.apart b' hb' ⟨b,hl,e.symm⟩⟩,⟨rfl,rfl⟩⟩
 · rw [(hsp p hp).slot t (hno hp hv)];exact SVRel.mono (f':=f0.lim (σ p).F.length fun _=>True) (hlim p hp) (fun i hi=>⟨⟨hi,Nat.lt_of_lt_of_le (hst.hf.dom i hi) (hsp p hp).flen⟩,rfl⟩) (hst.he t)
 · have h1:=hst.hw.carry (g':=g0.lim (σ p).H.bl.length) (hlim p hp) (fun b hb=>hb.1) (fun _ _=>rfl) (fun b hb=>hst.hw.notZ hb) hst.hw.zlt;refine ⟨h1.glob,fun b hb=>hb.2,fun b x hd hx=>h1.blk b x hd (by rw [<- hbl p hp hv b hd.1];exact hx),fun b b' hb hb'=>h1.inj b b' ⟨hb.1,by rw [<- hbl p hp hv b hb.1.1];exact hb.2⟩ ⟨hb'.1,by rw [<- hbl p hp hv b' hb'.1.1];exact hb'.2⟩,h1.zlt⟩
 · exact (hst.hw.glob i row hg).mono (hlim 0 (Nat.zero_le _))
 · have hlt:=hst.hf.dom b hb;have hr:=List.getElem?_eq_getElem hlt;obtain ⟨cs,⟨T',fz,hR,hs,hz⟩,hrr⟩:=hst.hf.blk b _ hb hr;refine ⟨cs,⟨T',fz,hR,rfl,by rw [hs];exact hz⟩,fun v hv=> ?_,fun p hp row hrow=> ?_⟩
   · obtain ⟨c,hc⟩:=List.getElem?_of_mem hv;have hc':c<((σ 0).F[b]).length:=by rw [<- hs];have:=getElem?_lt (a:=cs) (i:=c) (x:=v) (by simpa using hc);exact this
     obtain ⟨u,h1,h2,_⟩:=hrr c _ (List.getElem?_eq_getElem hc');rw [Nat.zero_add] at h1;have:cs.toList[c]?=cs[c]?:=by simp
     rw [this,h1] at hc;simp at hc;subst hc;exact h2
   · refine ⟨?_,fun hv=> ?_⟩
     · rw [hs];exact ((hsp p hp).row b _ _ hr hrow).symm
     · rw [(hsp p hp).box b hlt (hno hp hv),hr] at hrow;simp at hrow;subst hrow;exact hrr.mono (hlim p hp)
 · have:=hst.hw.dom b hb;have:=(hsp j (by omega)).len;omega
 · have:=hst.hf.dom b hb;have:=(hsp j (by omega)).flen;omega
end
end Go.V
namespace Go.V
open Go
theorem get_map_mem (e:List (Nat×SV)):∀ (l:List Nat) (t:Nat),t∈l->get (l.map fun i=>(i,get e i)) t=get e t
 |[],t,h=>by simp at h
 |i::l,t,h=>by
  simp only [List.map_cons,get];split
  · rename_i e0;rw [e0]
  · rename_i e0;exact get_map_mem e l t ((List.mem_cons.1 h).resolve_left e0)
theorem get_map_not (e:List (Nat×SV)):∀ (l:List Nat) (t:Nat),t∉l->get (l.map fun i=>(i,get e i)) t= .v .junk
 |[],t,h=>rfl
 |i::l,t,h=>by
  simp only [List.map_cons,get];rw [if_neg (fun e0=>h (by simp [e0]))];exact get_map_not e l t (fun h'=>h (List.mem_cons_of_mem _ h'))
theorem exists_list {α:Type} (Q:Nat->α->Prop):∀ m:Nat,(∀ k,k<m->∃ x,Q k x)->∃ l:List α,l.length=m/\∀ k x,l[k]?=some x->Q k x
 |0,_=>⟨[],rfl,fun k x h=>by simp at h⟩
 |m+1,h=>by
  obtain ⟨l,h1,h2⟩:=exists_list Q m fun k hk=>h k (by omega)
  obtain ⟨x,hx⟩:=h m (by omega);refine ⟨l++[x],by simp [h1],fun k y hk=> ?_⟩;rcases Nat.lt_trichotomy k m with hlt|rfl|hgt
  · rw [List.getElem?_append_left (by omega)] at hk;exact h2 k y hk
  · rw [List.getElem?_append_right (by omega)] at hk;simp [h1] at hk;subst hk;exact hx
  · rw [List.getElem?_eq_none (by simp;omega)] at hk;simp at hk
structure Masked (G:Nat->Option (List AV)) (os:Array Oper) (σ:Nat->S) (τ:Nat->Tch) (L:Nat->Prop) (g:Gx) (f:Fx) (a:Act) (w:World) (i:Nat) (o:Oper) (M:S):Prop where
 wm:M.H.wm=(atD (τ i) (σ i)).H.wm
 len:M.H.bl.length=(σ i).H.bl.length
 H1:(τ i).isHeap=true->M.H=(atD (τ i) (σ i)).H
 H0:(τ i).isHeap=false->∀ (b:Nat) (x:AB),M.H.bl[b]?=some x->x=AB.dead
 flen:M.F.length=(σ i).F.length
 F:∀ b,Vis os τ L i (.box b)->M.F[b]?=(σ i).F[b]?
 row:∀ (b:Nat) (r r':List AV),M.F[b]?=some r->(σ i).F[b]?=some r'->r.length=r'.length
 e:∀ t,t∈o.looksAt os->get M.e t=get (σ i).e t
 hw:WRel G (g.lim (σ i).H.bl.length) w M.H
 hf:FRel (g.lim (σ i).H.bl.length) (f.lim (σ i).F.length fun b=>τ i= .box b true) w M.H M.F
 he:EnvRel (g.lim (σ i).H.bl.length) (f.lim (σ i).F.length fun b=>τ i= .box b true) w M.e a.tmps
section
variable {A:Par} {call:Callee} {locs:List Nat} {n:Nat} {os:Array Oper} {σ:Nat->S} {τ:Nat->Tch} {L:Nat->Prop} {g0 g:Gx} {f0 f:Fx} {w0 w:World} {ds:List Deferred} {a:Act} {i:Nat} {o:Oper}
theorem Inv.masked (T:Trace A call locs n os σ τ) (hq:CalleeQuiet call) (inv:Inv A.glob os σ τ n g0 f0 w0 ds L g f a w) (hD:Down os L) (hi:ReadyAt os L i) (ho:os[i]?=some o):∃ M,Masked A.glob os σ τ L g f a w i o M:=by
 have hN:i<=os.size:=Nat.le_of_lt hi.1;obtain ⟨F,hFl,hF⟩:=exists_list (fun b (row:List AV)=>∀ r,(σ i).F[b]?=some r->row.length=r.length/\(Vis os τ L i (.box b)->row=r)/\(¬ Vis os τ L i (.box b)->∀ c x,row[c]?=some x->x=AV.junk)) (σ i).F.length (fun b hb=>by
   by_cases hv:Vis os τ L i (.box b)
   · refine ⟨(σ i).F[b],fun r hr=> ?_⟩;rw [List.getElem?_eq_getElem hb] at hr;simp at hr;subst hr;exact ⟨rfl,fun _=>rfl,fun h=>absurd hv h⟩
   · refine ⟨List.replicate ((σ i).F[b]).length AV.junk,fun r hr=> ?_⟩;rw [List.getElem?_eq_getElem hb] at hr;simp at hr;subst hr;exact ⟨by simp,fun h=>absurd h hv,fun _ c x hx=>by rw [List.getElem?_replicate] at hx;split at hx<;>simp at hx;exact hx.symm⟩)
 have hrows:∀ b row,F[b]?=some row->∃ r,(σ i).F[b]?=some r/\row.length=r.length/\(Vis os τ L i (.box b)->row=r)/\(¬ Vis os τ L i (.box b)->∀ c x,row[c]?=some x->x=AV.junk):=fun b row hr=>by
   have hb:b<(σ i).F.length:=by rw [<- hFl];exact getElem?_lt' hr
   exact ⟨_,List.getElem?_eq_getElem hb,hF b row hr _ (List.getElem?_eq_getElem hb)⟩
 obtain ⟨H,hH1,hH0,hHl,hHw,hw,hap⟩:∃ H:AH,((τ i).isHeap=true->H=(atD (τ i) (σ i)).H)/\((τ i).isHeap=false->∀ (b:Nat) (x:AB),H.bl[b]?=some x->x=AB.dead)/\H.bl.length=(σ i).H.bl.length/\H.wm=(atD (τ i) (σ i)).H.wm/\
     WRel A.glob (g.lim (σ i).H.bl.length) w H/\∀ b,f.E b->¬ Fp (g.lim (σ i).H.bl.length) H (f.φ b):=by
   cases hh:(τ i).isHeap with
   |true=>
     have hv:=T.vis_use hD hi (c:= .heap) hh;exact ⟨(atD (τ i) (σ i)).H,fun _=>rfl,fun h=>by simp at h,by rw [atD_bl],rfl,(inv.heap i hN hv).wm (atD_bl _ _),fun b hb h=>inv.apart b hb i hN hv (Fp_bl h (atD_bl _ _).symm)⟩
   |false=>
     have hdead:∀ b x,(List.replicate (σ i).H.bl.length AB.dead)[b]?=some x->x=AB.dead:=fun b x hx=>by rw [List.getElem?_replicate] at hx;split at hx<;>simp at hx;exact hx.symm
     refine ⟨⟨List.replicate (σ i).H.bl.length .dead,(atD (τ i) (σ i)).H.wm⟩,fun h=>by simp at h,fun _=>hdead,by simp,rfl,⟨fun k row hg=>(inv.glob k row hg).mono (g:=g.lim (σ 0).H.bl.length) (g':=g.lim (σ i).H.bl.length) ⟨fun b hb=>⟨⟨hb.1,Nat.lt_of_lt_of_le hb.2 (T.span hq i (Nat.zero_le _) hN).len⟩,rfl⟩,fun R hR=>⟨hR,rfl⟩⟩,fun b hb=>by simp;exact hb.2,fun b x _ hx=>by rw [hdead b x hx];trivial,fun b b' hb=> ?_,inv.zlt⟩,fun b hb=> ?_⟩
     · obtain ⟨_,x,hx,hl⟩:=hb;rw [hdead b x hx] at hl;simp [liveB] at hl
     · rintro ⟨b',⟨_,x,hx,hl⟩,_⟩;rw [hdead b' x hx] at hl;simp [liveB] at hl
 refine ⟨⟨(o.looksAt os).map fun t=>(t,get (σ i).e t),F,H⟩,hHw,hHl,hH1,hH0,hFl,fun b hv=> ?_,fun b r r' hr hr'=> ?_,fun t ht=>get_map_mem _ _ t ht,hw,⟨fun b hb=>by rw [hFl];exact hb.2,fun b row hb hr=> ?_,fun b b' hb hb'=>inv.binj b b' hb.1 hb'.1,fun b hb=>hap b hb.1⟩,fun t=> ?_⟩
 · rcases Nat.lt_or_ge b (σ i).F.length with hb|hb
   · have hb':b<F.length:=by omega
     obtain ⟨r,h1,_,h3,_⟩:=hrows b _ (List.getElem?_eq_getElem hb');show F[b]?=_;rw [List.getElem?_eq_getElem hb',h1,h3 hv]
   · show F[b]?=_;rw [List.getElem?_eq_none (by omega),List.getElem?_eq_none hb]
 · obtain ⟨r0,h1,h2,_⟩:=hrows b r hr;rw [h1] at hr';simp at hr';subst hr';exact h2
 · obtain ⟨r,h1,h2,h3,h4⟩:=hrows b row hr;obtain ⟨cs,hRow,hone,hp⟩:=inv.box b hb.1;obtain ⟨k1,k2⟩:=hp i hN r h1;refine ⟨cs,by rw [h2,<- k1];exact hRow,?_⟩;by_cases hv:Vis os τ L i (.box b)
   · rw [h3 hv];exact k2 hv
   · intro c x hx;rw [h4 hv c x hx];have hc:c<cs.size:=by rw [k1,<- h2];exact getElem?_lt' hx
     exact ⟨cs[c],by simp [hc],hone _ (by simp),.junk _⟩
 · by_cases ht:t∈o.looksAt os
   · show SVRel _ _ _ (get ((o.looksAt os).map fun t=>(t,get (σ i).e t)) t) _;rw [get_map_mem _ _ t ht];have:=inv.slot i hN t (T.vis_use hD hi ⟨o,ho,.inr ht⟩)
     revert this
     cases get (σ i).e t with
     |v x=>exact id
     |loc k c=>exact id
   · show SVRel _ _ _ (get ((o.looksAt os).map fun t=>(t,get (σ i).e t)) t) _;rw [get_map_not _ _ t ht];exact .junk _
end
end Go.V
namespace Go.V
open Go
section
variable {A:Par} {call:Callee} {locs:List Nat} {n:Nat} {os:Array Oper} {σ:Nat->S} {τ:Nat->Tch} {L:Nat->Prop} {g0 g g':Gx} {f0 f f':Fx} {w0 w w':World} {ds:List Deferred} {a:Act} {i:Nat} {o:Oper} {M M':S}
open Classical in
noncomputable def Gx.join (g g':Gx):Gx:={ D:=fun b=>g.D b\/g'.D b,ρ:=fun b=>if g.D b then g.ρ b else g'.ρ b,Z:=g'.Z }
open Classical in
noncomputable def Fx.join (f f':Fx):Fx:={ E:=fun b=>f.E b\/f'.E b,φ:=fun b=>if f.E b then f.φ b else f'.φ b,W:=fun _=>True }
theorem Inv.step (T:Trace A call locs n os σ τ) (hq:CalleeQuiet call) (inv:Inv A.glob os σ τ n g0 f0 w0 ds L g f a w) (hw0:WRel A.glob g0 w0 (σ 0).H) (hD:Down os L) (hi:ReadyAt os L i) (ho:os[i]?=some o)
   (hM:Masked A.glob os σ τ L g f a w i o M) (hx:FExt (g.lim (σ i).H.bl.length) (f.lim (σ i).F.length fun b=>τ i= .box b true) w M.H M.F g' f' w' M'.H M'.F)
   (hw':WRel A.glob g' w' M'.H) (hf':FRel g' f' w' M'.H M'.F) {v:SV} {rv:Value} (hv:SVRel g' f' w' v rv)
   (hslot:∀ d,o.dst=some d->d<n/\get (σ (i+1)).e d=v)
   (hH1:(τ i).isHeap=true->M'.H.bl=(σ (i+1)).H.bl) (hH0:(τ i).isHeap=false->M'.H=M.H)
   (hF:(M'.F=M.F/\(σ (i+1)).F=(σ i).F/\∀ b,τ i≠ .box b true)\/(∃ row,M'.F=M.F++[row]/\(σ (i+1)).F=(σ i).F++[row]/\∀ b,τ i≠ .box b true)\/
     ∃ k row,τ i= .box k true/\M'.F=M.F.set k row/\(σ (i+1)).F=(σ i).F.set k row/\f.E k/\k<(σ i).F.length):
   Inv A.glob os σ τ n g0 f0 w0 ds (fun j=>L j\/j=i) (g.join g') (f.join f') (a.put o.dst rv) w':=by
 have hN:i<=os.size:=Nat.le_of_lt hi.1;have hN1:i+1<=os.size:=hi.1;have hsp:∀ {p q:Nat},p<=q->q<=os.size->Span os σ τ p q:=fun h1 h2=>T.span hq _ h1 h2
 have left:=T.left hq hi.1;have hlenM':M'.H.bl.length=(σ (i+1)).H.bl.length:=by
   cases hh:(τ i).isHeap with
   |true=>rw [hH1 hh]
   |false=>rw [hH0 hh,hM.len,left.H hh]
 have hflenM':M'.F.length=(σ (i+1)).F.length:=by
   rcases hF with ⟨e1,e2,_⟩|⟨row,e1,e2,_⟩|⟨k,row,_,e1,e2,_⟩<;>rw [e1,e2]<;>simp [hM.flen]
 have hDnew:∀ b,g'.D b->(g.D b/\b<(σ i).H.bl.length)\/(σ i).H.bl.length<=b:=fun b hb=>(hx.Dnew b hb).imp id fun h=>by rw [hM.len] at h;exact h
 have hDlt:∀ b,g'.D b->b<(σ (i+1)).H.bl.length:=fun b hb=>by rw [<- hlenM'];exact hw'.dom b hb
 have hDold:∀ b,g.D b->b<(σ (i+1)).H.bl.length->b<(σ i).H.bl.length:=fun b hb hl=>by
   rcases Nat.lt_or_ge b (σ i).H.bl.length with h|h
   · exact h
   · exact absurd hb (inv.freshD i hi.1 hi.2.1 b h hl)
 have hρ':∀ b,g'.D b->(g.join g').ρ b=g'.ρ b:=fun b hb=>by
   simp only [Gx.join];split
   · rename_i hg;have:=hDold b hg (hDlt b hb);exact ((hx.D b ⟨hg,this⟩).2).symm
   · rfl
 have hρ:∀ b,g.D b->(g.join g').ρ b=g.ρ b:=fun b hb=>by simp only [Gx.join];rw [if_pos hb]
 have hφ:∀ b,f.E b->(f.join f').φ b=f.φ b:=fun b hb=>by simp only [Fx.join];rw [if_pos hb]
 have hEnew:∀ b,f'.E b->(f.E b/\b<(σ i).F.length)\/(σ i).F.length<=b:=fun b hb=>(hx.Enew b hb).imp id fun h=>by rw [hM.flen] at h;exact h
 have hElt:∀ b,f'.E b->b<(σ (i+1)).F.length:=fun b hb=>by rw [<- hflenM'];exact hf'.dom b hb
 have hEold:∀ b,f.E b->b<(σ (i+1)).F.length->b<(σ i).F.length:=fun b hb hl=>by
   rcases Nat.lt_or_ge b (σ i).F.length with h|h
   · exact h
   · exact absurd hb (inv.freshE i hi.1 hi.2.1 b h hl)
 have hφ':∀ b,f'.E b->(f.join f').φ b=f'.φ b:=fun b hb=>by
   simp only [Fx.join];split
   · rename_i hg;have:=hEold b hg (hElt b hb);exact ((hx.E b ⟨hg,this⟩).2).symm
   · rfl
 have hφnew:∀ b,f'.E b->¬ f.E b->w.heap.size<=f'.φ b:=fun b hb hn=>hx.φnew b hb (fun h=>hn h.1)
 have hapM:∀ b,f.E b->¬ Fp (g.lim (σ i).H.bl.length) M.H (f.φ b):=fun b hb h=>by
   cases hh:(τ i).isHeap with
   |true=>
     have hvis:=T.vis_use hD hi (c:= .heap) hh;exact inv.apart b hb i hN hvis (Fp_bl h (by rw [hM.H1 hh,atD_bl]))
   |false=>
     obtain ⟨b',⟨_,x,hx',hl⟩,_⟩:=h;rw [hM.H0 hh b' x hx'] at hl;simp [liveB] at hl
 have hunch:∀ R,R<w.heap.size->¬ Fp (g.lim (σ i).H.bl.length) M.H R->(∀ b,f.E b->τ i= .box b true->f.φ b≠R)->w'.heap[R]?=w.heap[R]?:=fun R hR hn hb=>by
   by_cases hE:∃ b,(f.E b/\b<(σ i).F.length)/\f.φ b=R
   · obtain ⟨b,hb1,rfl⟩:=hE;exact hx.own b hb1 (fun h=>hb b hb1.1 h rfl)
   · exact hx.unch R hR hn fun b hb1 e=>hE ⟨b,hb1,e⟩
 have hquiet:τ i≠ .heap true->∀ R,R<w.heap.size->(∀ b,f.E b->τ i= .box b true->f.φ b≠R)->w'.heap[R]?=w.heap[R]?:=fun hne R hR hb=>by
   by_cases hfp:Fp (g.lim (σ i).H.bl.length) M.H R
   · obtain ⟨b,hl,rfl⟩:=hfp;have hlt:b<M.H.wm:=by
       rw [hM.wm,atD_wm hne,<- hM.len];obtain ⟨_,x,hx',_⟩:=hl;exact getElem?_lt' hx'
     exact hx.still b hlt hl
   · exact hunch R hR hfp hb
 have hZ:∀ R,g.Z R->g'.Z R/\w'.heap[R]?=w.heap[R]?:=fun R hR=>⟨hx.Z R hR,hunch R (inv.zlt R hR) (fun ⟨b,hl,e⟩=>hM.hw.notZ hl (e ▸ hR)) (fun b hb _ e=>inv.φnotZ hb (e ▸ hR))⟩
 have hsame:τ i≠ .heap true->∀ b,b<(σ i).H.bl.length->M'.H.bl[b]?=M.H.bl[b]?:=fun hne b hb=>by
   refine hx.quiet b ?_ (by rw [hM.len];exact hb);rw [hM.wm,atD_wm hne];exact hb
 have hZnew:τ i≠ .heap true->∀ R,g'.Z R->g.Z R\/w.heap.size<=R:=fun hne R hR=>by
   rcases hx.Znew R hR with h|⟨b,hl,e⟩|h
   · exact .inl h
   · exfalso;have hb:b<M.H.bl.length:=by obtain ⟨_,x,hx',_⟩:=hl;exact getElem?_lt' hx'
     have hl':live g' M'.H b:=⟨(hx.D b hl.1).1,by rw [hsame hne b (by rw [<- hM.len];exact hb)];exact hl.2⟩;refine hw'.notZ hl' ?_;rw [(hx.D b hl.1).2,e];exact hR
   · exact .inr h
 have hle:∀ p,(g.lim (σ p).H.bl.length).Le w ((g.join g').lim (σ p).H.bl.length) w':=fun p=>⟨fun b hb=>⟨⟨.inl hb.1,hb.2⟩,hρ b hb.1⟩,hZ⟩
 have hle':∀ p,i+1<=p->p<=os.size->g'.Le w' ((g.join g').lim (σ p).H.bl.length) w':=fun p h1 h2=>⟨fun b hb=>⟨⟨.inr hb,Nat.lt_of_lt_of_le (hDlt b hb) (hsp h1 h2).len⟩,hρ' b hb⟩,fun R hR=>⟨hR,rfl⟩⟩
 have hfle:∀ p b,(f.lim (σ p).F.length fun _=>True).E b->((f.join f').lim (σ p).F.length fun _=>True).E b/\((f.join f').lim (σ p).F.length fun _=>True).φ b=(f.lim (σ p).F.length fun _=>True).φ b:=fun p b hb=>⟨⟨.inl hb.1,hb.2⟩,hφ b hb.1⟩
 have hfle':∀ p,i+1<=p->p<=os.size->∀ b,f'.E b->((f.join f').lim (σ p).F.length fun _=>True).E b/\((f.join f').lim (σ p).F.length fun _=>True).φ b=f'.φ b:=fun p h1 h2 b hb=>⟨⟨.inr hb,Nat.lt_of_lt_of_le (hElt b hb) (hsp h1 h2).flen⟩,hφ' b hb⟩
 have hDsame:∀ p,p<=i\/(τ i).isHeap=false->p<=os.size->∀ b,((g.join g').lim (σ p).H.bl.length).D b->(g.lim (σ p).H.bl.length).D b:=fun p hp hpN b hb=>by
   refine ⟨?_,hb.2⟩;rcases hb.1 with h|h
   · exact h
   · rcases hDnew b h with h1|h1
     · exact h1.1
     · exfalso;rcases hp with hp|hp
       · have:=(hsp hp hN).len;have:=hb.2;omega
       · have h2:=hDlt b h;rw [left.H hp] at h2;omega
 have hheapA:∀ p,p<=os.size->Vis os τ L p .heap->p<=i\/(τ i).isHeap=false->τ i≠ .heap true->WRel A.glob ((g.join g').lim (σ p).H.bl.length) w' (σ p).H:=fun p hpN hvis hp hne=>by
   have hold:=inv.heap p hpN hvis;refine hold.carry (hle p) (hDsame p hp hpN) (fun b hl=>hquiet hne _ (hold.lt hl) fun b' hb' _ e=>inv.apart b' hb' p hpN hvis ⟨b,hl,e.symm⟩) (fun b hl hz=> ?_) hw'.zlt;rcases hZnew hne _ hz with h|h
   · exact hold.notZ hl h
   · have:=hold.lt hl;exact absurd this (Nat.not_lt.2 h)
 have hnone:∀ p,p<=os.size->(τ i).isHeap=true->Vis os τ (fun j=>L j\/j=i) p .heap->i<p->∀ b,b<(σ (i+1)).H.bl.length->(σ p).H.bl[b]?=M'.H.bl[b]?:=fun p hpN hh hvis hlt b hb=>by
   rw [hH1 hh];exact (hsp (p:=i+1) (q:=p) hlt hpN).heap (fun j h1 h2=>T.none_between hD hi (c:= .heap) hh hvis j (by omega) (by omega) h2) b hb
 have hlater:∀ p,p<=os.size->(τ i).isHeap=true->Vis os τ (fun j=>L j\/j=i) p .heap->i<p->∀ b,((g.join g').lim (σ p).H.bl.length).D b->¬ b<(σ (i+1)).H.bl.length->(g.lim (σ p).H.bl.length).D b/\τ i≠ .heap true:=fun p hpN hh hvis hlt b hb hge=>by
   have hgD:g.D b:=by
     rcases hb.1 with h|h
     · exact h
     · exact absurd (hDlt b h) hge
   refine ⟨⟨hgD,hb.2⟩,fun e=> ?_⟩;obtain ⟨j,j1,j2,j3,j4⟩:=(hsp (p:=i+1) (q:=p) hlt hpN).which b (by omega) hb.2;have hjN:j<os.size:=by omega
   have hLj:L j:=by
     by_cases h:L j
     · exact h
     · exact absurd hgD (inv.freshD j hjN h b j3 j4)
   have hjh:(τ j).isHeap=true:=by
     cases hjh:(τ j).isHeap with
     |true=>rfl
     |false=>rw [(T.left hq hjN).H hjh] at j4;omega
   rcases T.order hjN hi.1 (by omega) (c:= .heap) e hjh with h|h
   · omega
   · exact hi.2.1 (hD i j hjN hLj h.2)
 have hin':∀ p,i<p->p<=os.size->∀ b,((g.join g').lim (σ p).H.bl.length).D b->b<(σ (i+1)).H.bl.length->g'.D b:=fun p _ _ b hb hlt=>by
   rcases hb.1 with h|h
   · exact (hx.D b ⟨h,hDold b h hlt⟩).1
   · exact h
 have hFpB:∀ p,p<=os.size->(τ i).isHeap=true->Vis os τ (fun j=>L j\/j=i) p .heap->i<p->∀ b,live ((g.join g').lim (σ p).H.bl.length) (σ p).H b->
     (live g' M'.H b/\((g.join g').lim (σ p).H.bl.length).ρ b=g'.ρ b)\/(τ i≠ .heap true/\Vis os τ L p .heap/\live (g.lim (σ p).H.bl.length) (σ p).H b/\((g.join g').lim (σ p).H.bl.length).ρ b=g.ρ b/\¬ b<(σ (i+1)).H.bl.length):=fun p hpN hh hvis hlt b hl=>by
   by_cases hb:b<(σ (i+1)).H.bl.length
   · left;have:=hin' p hlt hpN b hl.1 hb;exact ⟨⟨this,by rw [<- hnone p hpN hh hvis hlt b hb];exact hl.2⟩,hρ' b this⟩
   · right;obtain ⟨h1,h2⟩:=hlater p hpN hh hvis hlt b hl.1 hb;exact ⟨h2,hvis.before h2,⟨h1,hl.2⟩,hρ b h1.1,hb⟩
 have hheapB:∀ p,p<=os.size->(τ i).isHeap=true->Vis os τ (fun j=>L j\/j=i) p .heap->i<p->WRel A.glob ((g.join g').lim (σ p).H.bl.length) w' (σ p).H:=fun p hpN hh hvis hlt=>by
   have hmix:∀ b1 b2,(live g' M'.H b1/\((g.join g').lim (σ p).H.bl.length).ρ b1=g'.ρ b1)->(τ i≠ .heap true/\Vis os τ L p .heap/\live (g.lim (σ p).H.bl.length) (σ p).H b2/\((g.join g').lim (σ p).H.bl.length).ρ b2=g.ρ b2/\¬ b2<(σ (i+1)).H.bl.length)->
       (((g.join g').lim (σ p).H.bl.length).ρ b1).R≠(((g.join g').lim (σ p).H.bl.length).ρ b2).R:=fun b1 b2 ⟨k1,k2⟩ ⟨m1,m2,m3,m4,m5⟩ e=>by
     rw [k2,m4] at e;have hold:=inv.heap p hpN m2;have hR2:=hold.lt m3;rcases hx.fp _ ⟨b1,k1,e⟩ with ⟨b',hl',e'⟩|h
     · have hb':b'<(σ i).H.bl.length:=hl'.1.2;have hl2:live (g.lim (σ p).H.bl.length) (σ p).H b':=by
         refine ⟨⟨hl'.1.1,Nat.lt_of_lt_of_le hb' (hsp (by omega) hpN).len⟩,?_⟩;rw [hnone p hpN hh hvis hlt b' (Nat.lt_of_lt_of_le hb' left.len),hsame m1 b' hb'];exact hl'.2
       have:=left.len;exact hold.inj b' b2 hl2 m3 (by omega) e'
     · exact absurd hR2 (Nat.not_lt.2 h)
   refine ⟨fun k row hg=>(hw'.glob k row hg).mono (hle' p hlt hpN),fun b hb=>hb.2,fun b x hd hxb=> ?_,fun b1 b2 h1 h2 hne=> ?_,hw'.zlt⟩
   · by_cases hb:b<(σ (i+1)).H.bl.length
     · have hd':=hin' p hlt hpN b hd hb;rw [show ((g.join g').lim (σ p).H.bl.length).ρ b=g'.ρ b from hρ' b hd'];rw [hnone p hpN hh hvis hlt b hb] at hxb;exact (hw'.blk b x hd' hxb).le (hle' p hlt hpN) (fun _=>rfl) (fun hl=>hw'.notZ ⟨hd',x,hxb,hl⟩)
     · obtain ⟨h1,h2⟩:=hlater p hpN hh hvis hlt b hd hb;have hvis':=hvis.before h2;have hold:=inv.heap p hpN hvis';rw [show ((g.join g').lim (σ p).H.bl.length).ρ b=g.ρ b from hρ b h1.1];refine (hold.blk b x h1 hxb).le (hle p) (fun hl=>hquiet h2 _ (hold.lt ⟨h1,x,hxb,hl⟩) fun b' hb' _ e=>inv.apart b' hb' p hpN hvis' ⟨b,⟨h1,x,hxb,hl⟩,e.symm⟩) (fun hl hz=> ?_);rcases hZnew h2 _ hz with h|h
       · exact hold.notZ ⟨h1,x,hxb,hl⟩ h
       · exact absurd (hold.lt ⟨h1,x,hxb,hl⟩) (Nat.not_lt.2 h)
   · rcases hFpB p hpN hh hvis hlt b1 h1 with k1|k1<;>rcases hFpB p hpN hh hvis hlt b2 h2 with k2|k2
     · rw [k1.2,k2.2];exact hw'.inj b1 b2 k1.1 k2.1 hne
     · exact hmix b1 b2 k1 k2
     · exact (hmix b2 b1 k2 k1).symm
     · rw [k1.2.2.2.1,k2.2.2.2.1];exact (inv.heap p hpN k1.2.1).inj b1 b2 k1.2.2.1 k2.2.2.1 hne
 have hway:∀ p,p<=os.size->Vis os τ (fun j=>L j\/j=i) p .heap->((p<=i\/(τ i).isHeap=false)/\τ i≠ .heap true/\Vis os τ L p .heap)\/((τ i).isHeap=true/\i<p):=fun p hpN hvis=>by
   cases hh:(τ i).isHeap with
   |false=>
     have hne:τ i≠ .heap true:=fun e=>by rw [e] at hh;simp [Tch.isHeap] at hh
     exact .inl ⟨.inr rfl,hne,hvis.before hne⟩
   |true=>
     rcases Nat.lt_or_ge i p with hlt|hge
     · exact .inr ⟨rfl,hlt⟩
     · have hne:τ i≠ .heap true:=hvis.2 i hi.1 hge (.inr rfl);exact .inl ⟨.inl hge,hne,hvis.before hne⟩
 have hFpA:∀ p,p<=os.size->(p<=i\/(τ i).isHeap=false)->∀ R,Fp ((g.join g').lim (σ p).H.bl.length) (σ p).H R->Fp (g.lim (σ p).H.bl.length) (σ p).H R:=fun p hpN hp R ⟨b,hl,e⟩=>by
   have:=hDsame p hp hpN b hl.1;refine ⟨b,⟨this,hl.2⟩,?_⟩;rw [<- e];show (g.ρ b).R=((g.join g').ρ b).R;rw [hρ b this.1]
 have hfpM:∀ R,Fp (g.lim (σ i).H.bl.length) M.H R->Fp g0 (σ 0).H R\/w0.heap.size<=R:=fun R h=>by
   cases hh:(τ i).isHeap with
   |true=>exact inv.fFp i hN (T.vis_use hD hi (c:= .heap) hh) R (Fp_bl h (by rw [hM.H1 hh,atD_bl]))
   |false=>
     obtain ⟨b',⟨_,x,hx',hl⟩,_⟩:=h;rw [hM.H0 hh b' x hx'] at hl;simp [liveB] at hl
 refine ⟨?_,?_,fun p hp t hvis=> ?_,fun p hp hvis=> ?_,fun k row hg=> ?_,hw'.zlt,fun b hb=> ?_,fun b b' hb hb' hne=> ?_,fun b hb p hp hvis hfp=> ?_,fun j hj hnL b h1 h2 hb=> ?_,fun j hj hnL b h1 h2 hb=> ?_,fun b hb=> ?_,fun b hb=> ?_,fun j hj hL b ht=> ?_,
   fun b hb=>⟨.inl (inv.fD b hb).1,(hρ b (inv.fD b hb).1).trans (inv.fD b hb).2⟩,fun b hb=> ?_,fun R hR=>hx.Z R (inv.fZ R hR),fun R hR=> ?_,fun p hp hvis R hfp=> ?_,fun b hb=>⟨.inl (inv.fE b hb).1,(hφ b (inv.fE b hb).1).trans (inv.fE b hb).2⟩,fun b hb=> ?_,fun b hb hn=> ?_,fun R hR hn hb=> ?_,Nat.le_trans inv.size hx.size,fun b hb hl=> ?_,⟨hx.io.1.trans inv.io.1,hx.io.2.trans inv.io.2⟩⟩
 ·
   rw [<- inv.n];unfold Act.put;split<;>simp
 · rw [<- inv.ds];unfold Act.put;split<;>rfl
 ·
   by_cases hd:o.dst=some t
   · have hW:Wr os τ i (.slot t):=⟨o,ho,hd⟩;have hlt:=hvis.after hi.1 hW;obtain ⟨h1,h2⟩:=hslot t hd;have hget:get (σ p).e t=v:=by
       rw [(hsp (p:=i+1) (q:=p) hlt hp).slot t (fun j j1 j2=>T.none_between hD hi hW.us hvis j (by omega) (by omega) j2),h2]
     rw [hget];have htm:(a.put o.dst rv).tmps.getD t undef=rv:=by
       rw [hd];simp only [Act.put];rw [getD_set t (by rw [inv.n];exact h1),if_pos rfl]
     rw [htm];exact SVRel.mono (f':=(f.join f').lim (σ p).F.length fun _=>True) (hle' p hlt hp) (hfle' p hlt hp) hv
   · have hW:¬ Wr os τ i (.slot t):=fun ⟨o',ho',hd'⟩=>hd (by rw [ho] at ho';simp at ho';rw [ho'];exact hd')
     have htm:(a.put o.dst rv).tmps.getD t undef=a.tmps.getD t undef:=by
       cases hdst:o.dst with
       |none=>rfl
       |some d=>
         simp only [Act.put];rcases Nat.lt_or_ge d a.tmps.size with hlt|hge
         · rw [getD_set t hlt,if_neg (fun e=>hd (by rw [hdst,e]))]
         · rw [Array.setIfInBounds_eq_of_size_le hge]
     rw [htm];exact SVRel.mono (f':=(f.join f').lim (σ p).F.length fun _=>True) (hle p) (hfle p) (inv.slot p hp t (hvis.before hW))
 ·
   rcases hway p hp hvis with ⟨h1,h2,h3⟩|⟨h1,h2⟩
   · exact hheapA p hp h3 h1 h2
   · exact hheapB p hp h1 hvis h2
 · exact (inv.glob k row hg).mono (hle 0)
 ·
   by_cases hold:f.E b
   · rw [hφ b hold];obtain ⟨cs,⟨T',fz,hR,hs,hfz,hz⟩,hone,hrows⟩:=inv.box b hold;have hlt:=inv.φlt hold;have hz':¬ g'.Z (f.φ b):=fun h=>by
       rcases hx.Znew _ h with h1|h1|h1
       · exact hz h1
       · exact hapM b hold h1
       · exact absurd hlt (Nat.not_lt.2 h1)
     by_cases hwr:τ i= .box b true
     ·
       obtain ⟨k,row,hk,e1,e2,hEk,hlk⟩:∃ k row,τ i= .box k true/\M'.F=M.F.set k row/\(σ (i+1)).F=(σ i).F.set k row/\f.E k/\k<(σ i).F.length:=by
         rcases hF with ⟨_,_,h⟩|⟨_,_,_,h⟩|h
         · exact absurd hwr (h b)
         · exact absurd hwr (h b)
         · exact h
       obtain rfl:k=b:=by rw [hwr] at hk;injection hk with h _;exact h.symm
       have hE':=hx.E k ⟨hEk,hlk⟩;have hrowM:M'.F[k]?=some row:=by rw [e1,List.getElem?_set_self (by rw [hM.flen];exact hlk)]
       have hrowσ:(σ (i+1)).F[k]?=some row:=by rw [e2,List.getElem?_set_self hlk]
       obtain ⟨cs',⟨T2,fz2,hR2,hs2,hfz2,hz2⟩,hrr⟩:=hf'.blk k row hE'.1 hrowM;have hφk:f'.φ k=f.φ k:=hE'.2;rw [hφk] at hR2 hz2;refine ⟨cs',⟨T2,fz2,hR2,rfl,by rw [hs2];exact hfz2,hz2⟩,fun u hu=> ?_,fun p hp r hr=> ?_⟩
       · obtain ⟨c,hc⟩:=List.getElem?_of_mem hu;have hc':c<row.length:=by rw [<- hs2];exact getElem?_lt (a:=cs') (i:=c) (x:=u) (by simpa using hc)
         obtain ⟨u',h1,h2,_⟩:=hrr c _ (List.getElem?_eq_getElem hc');rw [Nat.zero_add] at h1;have:cs'.toList[c]?=cs'[c]?:=by simp
         rw [this,h1] at hc;simp at hc;subst hc;exact h2
       · refine ⟨?_,fun hvis=> ?_⟩
         · rw [hs2];rcases Nat.lt_or_ge i p with hip|hip
           · exact ((hsp (p:=i+1) (q:=p) hip hp).row k _ _ hrowσ hr).symm
           · exact (hsp (p:=p) (q:=i+1) (by omega) hN1).row k _ _ hr hrowσ
         · have hW:Wr os τ i (.box k):=hwr;have hip:=hvis.after hi.1 hW;have:(σ p).F[k]?=some row:=by
             rw [(hsp (p:=i+1) (q:=p) hip hp).box k (by rw [e2];simp;exact hlk) (fun j j1 j2=>T.none_between hD hi hW.us hvis j (by omega) (by omega) j2)];exact hrowσ
           rw [this] at hr;simp at hr;subst hr;exact hrr.mono (hle' p hip hp)
     · have hun:w'.heap[f.φ b]?=w.heap[f.φ b]?:=hunch _ hlt (hapM b hold) fun b' hb' ht' e=>by
         by_cases e':b'=b
         · subst e';exact hwr ht'
         · exact inv.binj b' b hb' hold e' e
       refine ⟨cs,⟨T',fz,by rw [hun];exact hR,hs,hfz,hz'⟩,hone,fun p hp r hr=>⟨(hrows p hp r hr).1,fun hvis=> ?_⟩⟩;exact ((hrows p hp r hr).2 (hvis.before hwr)).mono (hle p)
   ·
     have hb':f'.E b:=hb.resolve_left hold;have hge:(σ i).F.length<=b:=(hEnew b hb').resolve_left fun h=>hold h.1
     have hlt:=hElt b hb';have hrowM:=List.getElem?_eq_getElem (l:=M'.F) (i:=b) (by rw [hflenM'];exact hlt);obtain ⟨cs',⟨T2,fz2,hR2,hs2,hfz2,hz2⟩,hrr⟩:=hf'.blk b _ hb' hrowM;rw [hφ' b hb'];have hrowσ:(σ (i+1)).F[b]?=M'.F[b]?:=by
       rcases hF with ⟨e1,e2,_⟩|⟨row,e1,e2,_⟩|⟨k,row,_,e1,e2,_,hlk⟩
       · rw [e2] at hlt;omega
       · rw [e1,e2];have:b=(σ i).F.length:=by rw [e2] at hlt;simp at hlt;omega
         subst this;simp [hM.flen]
       · rw [e2] at hlt;simp at hlt;omega
     refine ⟨cs',⟨T2,fz2,hR2,rfl,by rw [hs2];exact hfz2,hz2⟩,fun u hu=> ?_,fun p hp r hr=> ?_⟩
     · obtain ⟨c,hc⟩:=List.getElem?_of_mem hu;have hc':c<(M'.F[b]).length:=by rw [<- hs2];exact getElem?_lt (a:=cs') (i:=c) (x:=u) (by simpa using hc)
       obtain ⟨u',h1,h2,_⟩:=hrr c _ (List.getElem?_eq_getElem hc');rw [Nat.zero_add] at h1;have:cs'.toList[c]?=cs'[c]?:=by simp
       rw [this,h1] at hc;simp at hc;subst hc;exact h2
     · have hip:i<p:=by
         rcases Nat.lt_or_ge i p with h|h
         · exact h
         · exfalso;have:=(hsp h hN).flen;rw [List.getElem?_eq_none (by omega)] at hr;simp at hr
       rw [hrowM] at hrowσ;refine ⟨?_,fun hvis=> ?_⟩
       · rw [hs2];exact ((hsp (p:=i+1) (q:=p) hip hp).row b _ _ hrowσ hr).symm
       · have:(σ p).F[b]?=some M'.F[b]:=by
           rw [(hsp (p:=i+1) (q:=p) hip hp).box b hlt (fun j j1 j2 hW=> ?_)]
           · exact hrowσ
           · by_cases hLj:L j
             · exact hold (inv.wr j (by omega) hLj b hW)
             · exact hvis.1 j (by omega) j2 (fun h=>h.elim hLj (by omega)) hW
         rw [this] at hr;simp at hr;subst hr;exact hrr.mono (hle' p hip hp)
 ·
   by_cases h1:f.E b<;>by_cases h2:f.E b'
   · rw [hφ b h1,hφ b' h2];exact inv.binj b b' h1 h2 hne
   · have h2':=hb'.resolve_left h2;rw [hφ b h1,hφ' b' h2'];have:=inv.φlt h1;have:=hφnew b' h2' h2;omega
   · have h1':=hb.resolve_left h1;rw [hφ' b h1',hφ b' h2];have:=inv.φlt h2;have:=hφnew b h1' h1;omega
   · have h1':=hb.resolve_left h1;have h2':=hb'.resolve_left h2;rw [hφ' b h1',hφ' b' h2'];exact hf'.inj b b' h1' h2' hne
 ·
   rcases hway p hp hvis with ⟨h1,h2,h3⟩|⟨h1,h2⟩
   · have hfp':=hFpA p hp h1 _ hfp;by_cases hold:f.E b
     · rw [hφ b hold] at hfp';exact inv.apart b hold p hp h3 hfp'
     · have hb':=hb.resolve_left hold;rw [hφ' b hb'] at hfp';obtain ⟨b',hl,e⟩:=hfp';have:=(inv.heap p hp h3).lt hl;have:=hφnew b hb' hold;omega
   · obtain ⟨b',hl,e⟩:=hfp;rcases hFpB p hp h1 hvis h2 b' hl with ⟨k1,k2⟩|⟨m1,m2,m3,m4,m5⟩
     · rw [k2] at e;by_cases hold:f.E b
       · rw [hφ b hold] at e;rcases hx.fp _ ⟨b',k1,e⟩ with h|h
         · exact hapM b hold h
         · have:=inv.φlt hold;omega
       · have hb':=hb.resolve_left hold;rw [hφ' b hb'] at e;exact hf'.apart b hb' ⟨b',k1,e⟩
     · rw [m4] at e;by_cases hold:f.E b
       · rw [hφ b hold] at e;exact inv.apart b hold p hp m2 ⟨b',m3,e⟩
       · have hb':=hb.resolve_left hold;rw [hφ' b hb'] at e;have:=(inv.heap p hp m2).lt m3;have e':(g.ρ b').R=f'.φ b:=e;have:=hφnew b hb' hold;have h5:((g.lim (σ p).H.bl.length).ρ b').R=(g.ρ b').R:=rfl;omega
 ·
   have hnL':¬ L j:=fun h=>hnL (.inl h)
   have hji:j≠i:=fun h=>hnL (.inr h)
   rcases hb with hb|hb
   · exact inv.freshD j hj hnL' b h1 h2 hb
   · rcases hDnew b hb with h|h
     · exact inv.freshD j hj hnL' b h1 h2 h.1
     · have h3:=hDlt b hb;rcases Nat.lt_or_gt_of_ne hji with hlt|hlt
       · have:=(hsp (p:=j+1) (q:=i) hlt hN).len;omega
       · have:=(hsp (p:=i+1) (q:=j) hlt (by omega)).len;omega
 · have hnL':¬ L j:=fun h=>hnL (.inl h)
   have hji:j≠i:=fun h=>hnL (.inr h)
   rcases hb with hb|hb
   · exact inv.freshE j hj hnL' b h1 h2 hb
   · rcases hEnew b hb with h|h
     · exact inv.freshE j hj hnL' b h1 h2 h.1
     · have h3:=hElt b hb;rcases Nat.lt_or_gt_of_ne hji with hlt|hlt
       · have:=(hsp (p:=j+1) (q:=i) hlt hN).flen;omega
       · have:=(hsp (p:=i+1) (q:=j) hlt (by omega)).flen;omega
 · rcases hb with hb|hb
   · exact inv.domD b hb
   · exact Nat.lt_of_lt_of_le (hDlt b hb) (hsp hN1 (Nat.le_refl _)).len
 · rcases hb with hb|hb
   · exact inv.domE b hb
   · exact Nat.lt_of_lt_of_le (hElt b hb) (hsp hN1 (Nat.le_refl _)).flen
 · rcases hL with hL|rfl
   · exact .inl (inv.wr j hj hL b ht)
   · rcases hF with ⟨_,_,h⟩|⟨_,_,_,h⟩|⟨k,row,hk,_,_,hEk,_⟩
     · exact absurd ht (h b)
     · exact absurd ht (h b)
     · rw [ht] at hk;injection hk with h _;rw [h];exact .inl hEk
 · rcases hb with hb|hb
   · exact inv.fDnew b hb
   · rcases hDnew b hb with h|h
     · exact inv.fDnew b h.1
     · exact .inr (Nat.le_trans (hsp (Nat.zero_le _) hN).len h)
 · rcases hx.Znew R hR with h|h|h
   · exact inv.fZnew R h
   · exact .inr (hfpM R h)
   · exact .inr (.inr (Nat.le_trans inv.size h))
 · rcases hway p hp hvis with ⟨h1,h2,h3⟩|⟨h1,h2⟩
   · exact inv.fFp p hp h3 R (hFpA p hp h1 R hfp)
   · obtain ⟨b',hl,e⟩:=hfp;rcases hFpB p hp h1 hvis h2 b' hl with ⟨k1,k2⟩|⟨m1,m2,m3,m4,m5⟩
     · rw [k2] at e;rcases hx.fp _ ⟨b',k1,e⟩ with h|h
       · exact hfpM R h
       · exact .inr (Nat.le_trans inv.size h)
     · rw [m4] at e;exact inv.fFp p hp m2 R ⟨b',m3,e⟩
 · rcases hb with hb|hb
   · exact inv.fEnew b hb
   · rcases hEnew b hb with h|h
     · exact inv.fEnew b h.1
     · exact .inr (Nat.le_trans (hsp (Nat.zero_le _) hN).flen h)
 · by_cases hold:f.E b
   · rw [hφ b hold];exact inv.fφ b hold hn
   · have hb':=hb.resolve_left hold;rw [hφ' b hb'];exact Nat.le_trans inv.size (hφnew b hb' hold)
 · refine (hunch R (Nat.lt_of_lt_of_le hR inv.size) (fun h=> ?_) (fun b hbE _ e=> ?_)).trans (inv.unch R hR hn hb)
   · rcases hfpM R h with h1|h1
     · exact hn h1
     · omega
   · by_cases h0:f0.E b
     · exact hb b h0 ((inv.fE b h0).2 ▸ e)
     · have:=inv.fφ b hbE h0;omega
 · obtain ⟨s1,s2⟩:=inv.still b hb hl;have hR0:=hw0.lt hl;have hlt:(g0.ρ b).R<w.heap.size:=Nat.lt_of_lt_of_le hR0 inv.size;refine ⟨Eq.trans ?_ s1,fun b' hb'=> ?_⟩
   · cases hh:(τ i).isHeap with
     |false=>
       refine hunch _ hlt (fun h=> ?_) (fun b' hb' _=>s2 b' hb');obtain ⟨b',⟨_,x,hx',hl'⟩,_⟩:=h;rw [hM.H0 hh b' x hx'] at hl';simp [liveB] at hl'
     |true=>
       have hb0:b<(σ 0).H.bl.length:=by obtain ⟨_,x,hx',_⟩:=hl;exact getElem?_lt' hx'
       have hspi:=hsp (Nat.zero_le i) hN;have hg:=inv.fD b hl.1;have hli:live (g.lim (σ i).H.bl.length) M.H b:=by
         refine ⟨⟨hg.1,Nat.lt_of_lt_of_le hb0 hspi.len⟩,?_⟩;rw [hM.H1 hh,atD_bl,hspi.low b hb hb0];exact hl.2
       have hwm:b<M.H.wm:=by
         rw [hM.wm];by_cases hw:τ i= .heap true
         · rw [hw];show b<(σ i).H.wm;rw [hspi.wm];exact hb
         · rw [atD_wm hw];exact Nat.lt_of_lt_of_le hb0 hspi.len
       have:=hx.still b hwm hli;have e:((g.lim (σ i).H.bl.length).ρ b)=g0.ρ b:=hg.2;rw [e] at this;exact this
   · by_cases hold:f.E b'
     · rw [hφ b' hold];exact s2 b' hold
     · have hb'':=hb'.resolve_left hold;rw [hφ' b' hb''];have:=hφnew b' hb'' hold;omega
end
end Go.V
namespace Go.V
open Go
section
variable {A:Par} {call:Callee} {locs:List Nat} {n:Nat} {os:Array Oper} {σ:Nat->S} {τ:Nat->Tch} {L:Nat->Prop} {g0 g:Gx} {f0 f:Fx} {w0 w:World} {ds:List Deferred} {a:Act}
theorem Inv.finish (T:Trace A call locs n os σ τ) (hq:CalleeQuiet call) (hst:St A.glob g0 f0 (σ 0) n a w0) {a':Act} (inv:Inv A.glob os σ τ n g0 f0 w0 a.defers L g f a' w) (hL:∀ j,j<os.size->L j):
   ∃ f',St A.glob g f' (σ os.size) n a' w/\FExt g0 f0 w0 (σ 0).H (σ 0).F g f' w (σ os.size).H (σ os.size).F:=by
 have hvis:∀ c,Vis os τ L os.size c:=fun c=>⟨fun j hj _ h=>absurd (hL j hj) h,fun j hj h=>by omega⟩
 have hsp:=T.span hq os.size (Nat.zero_le _) (Nat.le_refl _);have hgl:g.lim (σ os.size).H.bl.length=g:=by
   have:(fun b=>g.D b/\b<(σ os.size).H.bl.length)=g.D:=by
    funext b;exact propext ⟨fun h=>h.1,fun h=>⟨h,inv.domD b h⟩⟩
   cases g;simp only [Gx.lim] at *;rw [this]
 have hw:=inv.heap _ (Nat.le_refl _) (hvis _);rw [hgl] at hw;have hx:FExt g0 f0 w0 (σ 0).H (σ 0).F g { f with W:=fun _=>True } w (σ os.size).H (σ os.size).F:=by
   refine ⟨inv.fD,inv.fDnew,inv.fZ,inv.fZnew,fun R h=> ?_,inv.fE,inv.fEnew,inv.fφ,inv.unch,inv.size,hsp.len,hsp.flen,hsp.wm,hsp.low,fun b hb hl=>(inv.still b hb hl).1,fun i hi=>⟨fun _=>hst.hW i hi,fun _=>trivial⟩,fun _ _ _=>trivial,fun i hi hn=>absurd (hst.hW i hi) hn,inv.io⟩;have:=inv.fFp _ (Nat.le_refl _) (hvis _) R;rw [hgl] at this;exact this h
 refine ⟨{ f with W:=fun _=>True },⟨hw,⟨inv.domE,fun b row hb hr=> ?_,inv.binj,fun b hb h=> ?_⟩,fun t=> ?_,inv.n,?_,fun _ _=>trivial⟩,hx⟩
 · obtain ⟨cs,hRow,_,hrows⟩:=inv.box b hb;obtain ⟨h1,h2⟩:=hrows _ (Nat.le_refl _) row hr;have h3:=h2 (hvis _);rw [hgl] at h3;exact ⟨cs,by rw [<- h1];exact hRow,h3⟩
 · have:=inv.apart b hb _ (Nat.le_refl _) (hvis _);rw [hgl] at this;exact this h
 · have:=inv.slot _ (Nat.le_refl _) t (hvis _);rw [hgl] at this
   revert this
   cases get (σ os.size).e t with
   |v x=>exact id
   |loc k c=>exact fun h=>⟨h.1.1,h.2⟩
 · rw [inv.ds];exact hst.hm.step hst.hw hst.hf hx
theorem touch_box {s:S} {o:Oper} {q w:Bool} {k:Nat} (h:touch A locs s o q= .box k w):∃ t,t∈o.looksAt os/\∃ c,get s.e t= .loc k c:=by
 have key:∀ {wr:Bool} {x:Operand},touchAt wr (operand A s.e x)= .box k w->x∈o.op.operands->∃ t,t∈o.looksAt os/\∃ c,get s.e t= .loc k c:=fun {wr x} h hx=>by
   cases ho:operand A s.e x with
   |none=>rw [ho] at h;simp [touchAt] at h
   |some sv=>
    rw [ho] at h;cases sv with
    |v y=>cases y<;>simp [touchAt] at h;cases wr<;>simp at h
    |loc i c=>
     simp [touchAt] at h;obtain ⟨rfl,_⟩:=h;cases x with
     |tmp t=>
      simp [operand] at ho;exact ⟨t,List.mem_append_left _ (List.mem_filterMap.2 ⟨.tmp t,by simpa using hx,rfl⟩),c,ho⟩
     |const v=>simp [operand] at ho
     |global gv=>simp [operand] at ho
     |func fv=>simp [operand] at ho
 unfold touch at h;split at h
 · rename_i ho;exact key h (by rw [ho];simp [Op.operands])
 · unfold touchIx at h;split at h<;>simp at h
 · rename_i ho;exact key h (by rw [ho];simp [Op.operands])
 all_goals first
   |(split at h<;>simp at h;done)
   |(simp at h;done)
   |(unfold touchIx at h;split at h<;>simp at h;done)
   |(unfold touchLen at h;split at h<;>simp at h;done)
theorem guard_same {s M:S} {o:Oper} {b:Bool} (h:guardOn os s o=some b) (he:∀ t,t∈o.looksAt os->get M.e t=get s.e t):guardOn os M o=some b:=by
 unfold guardOn at h ⊢;split at h
 · rename_i hg;exact h
 · rename_i j want hg;split at h
   · rename_i d hd;have:d∈o.looksAt os:=by
      refine List.mem_append_right _ ?_;rw [hg];simp [hd]
     simp only [hg,hd,he d this];exact h
   · simp at h
theorem Trace.upto (T:Trace A call locs n os σ τ) (hD:Down os L) {i:Nat} (hi:ReadyAt os L i) (hord:∀ j,j<i->τ j= .heap true->ord (ancL os.toList []) j i=true):
   ∃ p,i<=p/\p<=os.size/\Vis os τ L p .heap:=by
 have key:∀ k,i<=k->k<=os.size->∃ p,i<=p/\p<=os.size/\(∀ j,j<os.size->p<=j->j<k->L j->τ j≠ .heap true)/\(p=i\/∃ j0,p=j0+1/\j0<os.size/\L j0/\τ j0= .heap true):=by
   intro k;induction k with
   |zero=>intro h1 h2;exact ⟨i,Nat.le_refl _,Nat.le_of_lt hi.1,fun j _ _ h=>by omega,.inl rfl⟩
   |succ k ih=>
     intro h1 h2;by_cases hik:i<=k
     · obtain ⟨p,a1,a2,a3,a4⟩:=ih hik (by omega);by_cases hw:L k/\τ k= .heap true
       · exact ⟨k+1,by omega,h2,fun j _ h3 h4=>by omega,.inr ⟨k,rfl,by omega,hw.1,hw.2⟩⟩
       · refine ⟨p,a1,a2,fun j hj h3 h4 hL he=> ?_,a4⟩;by_cases e:j=k
         · subst e;exact hw ⟨hL,he⟩
         · exact a3 j hj h3 (by omega) hL he
     · exact ⟨i,Nat.le_refl _,Nat.le_of_lt hi.1,fun j _ h3 h4=>by omega,.inl rfl⟩
 obtain ⟨p,a1,a2,a3,a4⟩:=key os.size (Nat.le_of_lt hi.1) (Nat.le_refl _);refine ⟨p,a1,a2,fun j hj hlt hnl hw=> ?_,fun j hj hle hl hw=>a3 j hj hle hj hl hw⟩;have hw':τ j= .heap true:=hw;rcases Nat.lt_or_ge j i with h|h
 · exact hnl (hi.2.2 j (hord j h hw'))
 · rcases a4 with rfl|⟨j0,rfl,h0,hL0,hw0⟩
   · omega
   · have hne:j≠j0:=fun e=>hnl (e ▸ hL0)
     rcases T.touches j j0 hj h0 hne (by rw [hw0];rfl) with h1|h1|h1
     · exact hnl (hD j j0 h0 hL0 h1.2)
     · omega
     · rw [hw',hw0] at h1;simp [conflict] at h1
theorem plain_lower {g g':Gx} {w:World} {m:Nat} {v:SV} {f f':Fx} {rv:Value} (hp:plainSV m v=true) (hD:∀ b,g.D b->b<m->g'.D b) (hρ:∀ b,g'.ρ b=g.ρ b) (h:SVRel g f w v rv):SVRel g' f' w v rv:=by
 unfold plainSV at hp;split at hp
 · rename_i b;have hb:b<m:=by simpa using hp
   have h':VRel g w (.mp b) rv:=h;cases h' with
   |mp _ hd=>have:=VRel.mp (g:=g') (w:=w) b (hD b hd hb);rw [hρ] at this;exact this
 · have h':VRel g w (.fn _ []) rv:=h;cases h' with
   |fn _ _ vs hl hr=>
    have:vs=[]:=List.length_eq_zero_iff.1 hl;subst this;exact VRel.fn _ [] [] rfl fun i x v h=>by simp at h
 · have h':VRel g w .nilm rv:=h;cases h';exact VRel.nilm
 · have h':VRel g w .nilf rv:=h;cases h';exact VRel.nilf
 · simp at hp
theorem still_sound {s s':S} {o:Oper} {v:SV} {F:Fence} {m:Nat} {next:Act->World->Prop} {Q:Exit->Act->World->Prop} (hst:stillOp A o=true) (h:op A call locs s o=some (v,s')) (hw:WRel A.glob g w s.H) (hf:FRel g f w s.H s.F) (he:EnvRel g f w s.e a.tmps) (hF:Wide F)
   (hk:∀ rv,SVRel g f w v rv->next (a.put o.dst rv) w):o.wpIn F m A.P a w next Q:=by
 refine ⟨fun f _=>hF.fn f,?_⟩;have hnd:∀ c,o.op≠ .defer c:=fun c e=>by unfold op at h;rw [e] at h;simp at h
 rw [Oper.semAt_eq F.round a.eval o hnd];have fin:∀ {rv:Value} {x:AV},v= .v x->(execOp a.eval o).run A.P w= .ok (.value rv) w->VRel g w x rv->Oper.uponIn F m A.P o a next Q ((execOp a.eval o).run A.P w):=fun {rv x} hv hr hx=>by
   rw [hr];exact hk rv (by rw [hv];exact hx)
 unfold stillOp at hst;split at hst
 · rename_i t x ho;unfold op at h;rw [ho] at h;simp only [Option.bind_eq_some_iff] at h;obtain ⟨p,hp,h⟩:=h;obtain ⟨_,x,hx,rfl⟩:=ret1_env h;obtain ⟨rv,h1,h2⟩:=load_sound hx hw hf (operand_sound hp hw he);exact fin rfl (by unfold execOp;rw [ho];simp [h1]) h2
 · rename_i t x i ho;unfold op at h;rw [ho] at h;simp only [Option.bind_eq_some_iff] at h;obtain ⟨mv,hm,k,hk',h⟩:=h;obtain ⟨_,x,hx,rfl⟩:=ret1_env h;obtain ⟨rv,h1,h2⟩:=lookup_sound hx hw (val_sound hm hw he) (val_sound hk' hw he);exact fin rfl (by unfold execOp;rw [ho];simp [h1]) h2
 · simp at hst
theorem draw_op {F:Fence} {m:Nat} {Q:Exit->Act->World->Prop} (hC:CallGoes A call) (hF:Wide F) (T:Trace A call locs n os σ τ) (hq:CalleeQuiet call) (hw0:WRel A.glob g0 w0 (σ 0).H) (inv:Inv A.glob os σ τ n g0 f0 w0 ds L g f a w) (hD:Down os L) {i:Nat} (hi:ReadyAt os L i)
   {K:Act->World->Prop} (hK:∀ g' f' a' w',Inv A.glob os σ τ n g0 f0 w0 ds (fun j=>L j\/j=i) g' f' a' w'->K a' w'):wpOpIn F m A.P os Q i K a w:=by
 have hi1:=hi.1;have ho:os[i]?=some os[i]:=by simp [hi1]
 generalize os[i]=o at ho;obtain ⟨M,hM⟩:=inv.masked T hq hD hi ho;unfold wpOpIn;simp only [ho];have hguard:∀ b,guardOn os (σ i) o=some b->Region.wanted o (yielded os a.tmps)=b:=fun b hb=>guard_sound (guard_same hb hM.e) hM.he
 rcases T.step i o ho with ⟨q,v,s',hg,hop,ht,hput⟩|⟨hg,hput,ht⟩|⟨v,hg,hstill,hpl,hput,ht,hord,hop⟩
 · rw [hguard true hg,if_pos rfl];obtain ⟨p1,p2,p3,p4⟩:=put_get hput;obtain ⟨s1,h1,h2,h3,h4,h5,h6⟩:=opD_at hop;have htch:touch A locs (atD (τ i) (σ i)) o q=τ i:=by rw [atD_touch,<- ht]
   have hmem:∀ x∈o.op.operands,operand A M.e x=operand A (atD (τ i) (σ i)).e x:=fun x hx=>by
     rw [atD_e];cases x with
     |tmp t=>simp only [operand];rw [hM.e t (List.mem_append_left _ (List.mem_filterMap.2 ⟨.tmp t,by simpa using hx,rfl⟩))]
     |const v=>rfl
     |global gv=>rfl
     |func fv=>rfl
   obtain ⟨M',hopM,st⟩:=op_step (q:=q) (t:=M) hq h1 hmem (fun hh=>hM.H1 (by rw [htch] at hh;exact hh)) (by rw [atD_F];exact hM.flen) (fun b wr hb=>by
     rw [htch] at hb;rw [atD_F];exact hM.F b (T.vis_use hD hi ⟨wr,hb⟩))
   rw [htch] at st;have stF:=st.f;rw [atD_F] at stF;have hE:∀ k wr,τ i= .box k wr->f.E k/\k<(σ i).F.length:=fun k wr hk=>by
     rw [ht] at hk;obtain ⟨t,ht',c,hc⟩:=touch_box (os:=os) hk;have:=hM.he t;rw [hM.e t ht',hc] at this;exact this.1
   refine op_sound hC hopM hM.hw hM.hf hM.he hF (fun ty x y hop' k c hx=> ?_) fun hse g' f' w' rv hw' hf' hx hv=> ?_
   · have h0:operand A (σ i).e x=some (.loc k c):=by
       have:=hmem x (by rw [hop'];simp [Op.operands]);rw [hx,atD_e] at this;exact this.symm
     have:τ i= .box k true:=by rw [ht];unfold touch;rw [hop'];simp only [h0];rfl
     exact this
   · obtain h:=inv.step T hq hw0 hD hi ho hM hx hw' hf' hv (fun d hd=>p4 d hd) (fun hh=>by rw [p2,h4,(st.h.1 hh)]) (fun hh=>(st.h.2 hh).1) (by
       have hFs:(σ (i+1)).F=s1.F:=by rw [p3,h3]
       rcases stF with ⟨e1,e2⟩|⟨row,e1,e2,htn⟩|⟨k,row,hk,e1,e2,_⟩
       · by_cases hb:∃ b,τ i= .box b true
         · obtain ⟨b,hb⟩:=hb;obtain ⟨hEb,hlb⟩:=hE b true hb;have hMb:M.F[b]?=(σ i).F[b]?:=hM.F b (T.vis_use hD hi ⟨true,hb⟩);have hr:=List.getElem?_eq_getElem hlb;refine .inr (.inr ⟨b,(σ i).F[b],hb,?_,?_,hEb,hlb⟩)
           · rw [e2];refine List.ext_getElem? fun k=> ?_
             rw [List.getElem?_set];split
             · rename_i e;subst e;rw [if_pos (by rw [hM.flen];exact hlb),hMb,hr]
             · rfl
           · rw [hFs,e1];refine List.ext_getElem? fun k=> ?_
             rw [List.getElem?_set];split
             · rename_i e;subst e;first|(rw [hr];simp;done)|(rw [hr];done)|(simp [hlb,hr];done)|simp
             · rfl
         · exact .inl ⟨e2,by rw [hFs,e1],fun b hb'=>hb ⟨b,hb'⟩⟩
       · refine .inr (.inl ⟨row,e2,by rw [hFs,e1],fun b hb=> ?_⟩);rw [htn] at hb;simp at hb
       · exact .inr (.inr ⟨k,row,hk,e2,by rw [hFs,e1],hE k true hk⟩))
     exact hK _ _ _ _ h
 · rw [hguard false hg,if_neg (by simp)];refine ⟨fun f _=>hF.fn f,?_⟩;obtain ⟨p1,p2,p3,p4⟩:=put_get hput;exact hK _ _ _ _ (inv.step T hq hw0 hD hi ho hM (v:= .v (.tup [])) (rv:=undef) (.refl _ _ _ _ _) hM.hw hM.hf (undef_rel _ _) (fun d hd=>p4 d hd) (fun hh=>by rw [ht] at hh;simp [Tch.isHeap] at hh) (fun _=>rfl) (.inl ⟨rfl,p3,fun b hb=>by rw [ht] at hb;simp at hb⟩))
 · rw [hguard true hg,if_pos rfl];obtain ⟨p1,p2,p3,p4⟩:=put_get hput;obtain ⟨p,hip,hpN,hvis⟩:=T.upto hD hi hord;obtain ⟨s2,hop2⟩:=hop p hip hpN;have hlen:(σ i).H.bl.length<=(σ p).H.bl.length:=(T.span hq p hip hpN).len;have hle:(g.lim (σ i).H.bl.length).Le w (g.lim (σ p).H.bl.length) w:=⟨fun b hb=>⟨⟨hb.1,Nat.lt_of_lt_of_le hb.2 hlen⟩,rfl⟩,fun R hR=>⟨hR,rfl⟩⟩;have hwp:=inv.heap p hpN hvis;have hoeq:∀ x∈o.op.operands,operand A M.e x=operand A (σ i).e x:=fun x hx=>by
     cases x with
     |tmp t=>simp only [operand];rw [hM.e t (List.mem_append_left _ (List.mem_filterMap.2 ⟨.tmp t,by simpa using hx,rfl⟩))]
     |const v=>rfl
     |global gv=>rfl
     |func fv=>rfl
   have hst0:stillOp A o=true:=by unfold isStill at hstill;simp only [Bool.and_eq_true] at hstill;exact hstill.1
   have hop3:∃ s3,op A call locs ⟨M.e,M.F,(σ p).H⟩ o=some (v,s3):=by
     unfold isStill at hstill;simp only [Bool.and_eq_true] at hstill;unfold stillOp at hst0;split at hst0
     · rename_i t x ho';unfold op at hop2 ⊢;rw [ho'] at hop2 hstill ⊢;simp only [Option.bind_eq_some_iff] at hop2;obtain ⟨q,hq1,hop2⟩:=hop2;have hq2:operand A (σ i).e (.tmp x)=some q:=hq1;have hme:=hoeq (.tmp x) (by rw [ho'];simp [Op.operands]);simp only [hq2] at hstill;simp only [hme,hq2,Option.bind_some];obtain ⟨_,y,hy,rfl⟩:=ret1_env hop2;refine ⟨_,show ret1 _ _=some (.v y,⟨M.e,M.F,(σ p).H⟩) from ?_⟩;have hl:load A ⟨M.e,M.F,(σ p).H⟩ t q=some y:=by
         revert hy
         cases q with
         |loc k c=>simp at hstill
         |v a=>cases a<;>simp at hstill;exact id
       rw [hl];rfl
     · rename_i t x k ho';unfold op at hop2 ⊢;rw [ho'] at hop2 ⊢;simp only [Option.bind_eq_some_iff] at hop2;obtain ⟨mv,hm,kv,hk',hop2⟩:=hop2;have e1:=hoeq x (by rw [ho'];simp [Op.operands]);have e2:=hoeq k (by rw [ho'];simp [Op.operands]);have hm':val A M.e x=some mv:=by rw [<- hm];simp only [val,e1]
       have hk2:val A M.e k=some kv:=by rw [<- hk'];simp only [val,e2]
       simp only [hm',hk2,Option.bind_some];obtain ⟨_,y,hy,rfl⟩:=ret1_env hop2;have hy':lookup A (σ p).H t mv kv false=some y:=hy;exact ⟨_,show ret1 _ _=some (.v y,⟨M.e,M.F,(σ p).H⟩) by rw [hy'];rfl⟩
     · simp at hst0
   obtain ⟨s3,hop3⟩:=hop3;have hfp:FRel (g.lim (σ p).H.bl.length) (f.lim (σ i).F.length fun b=>τ i= .box b true) w (σ p).H M.F:=by
     refine ⟨hM.hf.dom,fun k row hk hr=> ?_,hM.hf.inj,fun k hk=>inv.apart k hk.1 p hpN hvis⟩;obtain ⟨cs,h1,h2⟩:=hM.hf.blk k row hk hr;exact ⟨cs,h1,h2.mono hle⟩
   have hep:EnvRel (g.lim (σ p).H.bl.length) (f.lim (σ i).F.length fun b=>τ i= .box b true) w M.e a.tmps:=fun t=>(hM.he t).mono hle fun i hi=>⟨hi,rfl⟩
   refine still_sound hst0 hop3 hwp hfp hep hF fun rv hv=> ?_
   have hv':SVRel (g.lim (σ i).H.bl.length) (f.lim (σ i).F.length fun b=>τ i= .box b true) w v rv:=plain_lower (g:=g.lim (σ p).H.bl.length) hpl (fun b hb hlt=>⟨hb.1,hlt⟩) (fun _=>rfl) hv;exact hK _ _ _ _ (inv.step T hq hw0 hD hi ho hM (v:=v) (rv:=rv) (.refl _ _ _ _ _) hM.hw hM.hf hv' (fun d hd=>p4 d hd) (fun hh=>by rw [ht] at hh;simp [Tch.isHeap] at hh) (fun _=>rfl) (.inl ⟨rfl,p3,fun b hb=>by rw [ht] at hb;simp at hb⟩))
def StepAt (A:Par) (call:Callee) (locs:List Nat) (n:Nat) (os:Array Oper) (b:List Nat) (i:Nat) (x:List Tch) (s s1:S) (t:Tch) (o:Oper) (later:SV->Prop):Prop:=
 (∃ q v s',guardOn os s o=some true/\opD A call locs t s o=some (v,s')/\t=touch A locs s o q/\put s' n o.dst v=some s1)\/
 (guardOn os s o=some false/\put s n o.dst (.v (.tup []))=some s1/\t= .no)\/
 (∃ v,guardOn os s o=some true/\isStill A s o=true/\plainSV s.H.bl.length v=true/\put s n o.dst v=some s1/\t= .no/\ordW b i x=true/\later v)
theorem opsD_trace {b:List Nat}:∀ (l:List Oper) (i:Nat) (s:S) (x:List Tch) (rs:List (Oper×List (Nat×SV)×SV)) (s':S) (y:List Tch),StillAll A call locs rs s->opsD A call locs n os b l i s x rs=some (s',y)->
  ∃ (σ:Nat->S) (τ:Nat->Tch),σ 0=s/\σ l.length=s'/\y=x++(List.range l.length).map τ/\(∀ k,k<=l.length->StillAll A call locs rs (σ k))/\∀ k o,l[k]?=some o->
   StepAt A call locs n os b (i+k) (x++(List.range k).map τ) (σ k) (σ (k+1)) (τ k) o fun v=>∀ k',k<=k'->k'<=l.length->∃ s',op A call locs { σ k' with e:=(σ k).e } o=some (v,s')
 |[],i,s,x,rs,s',y,hrs,h=>by
  simp [opsD] at h;obtain ⟨rfl,rfl⟩:=h;exact ⟨fun _=>s,fun _=> .no,rfl,rfl,by simp,fun _ _=>hrs,fun k o h=>by simp at h⟩
 |o::l,i,s,x,rs,s',y,hrs,h=>by
  simp only [opsD,Option.bind_eq_some_iff] at h;obtain ⟨g,hg,h⟩:=h;have fin:∀ (s1:S) (t:Tch) (rs':List (Oper×List (Nat×SV)×SV)),StillAll A call locs rs' s1->(∀ r∈rs,r∈rs')->opsD A call locs n os b l (i+1) s1 (x++[t]) rs'=some (s',y)->
     (∀ (later:SV->Prop),(∀ v s0,op A call locs s o=some (v,s0)->(o,s.e,v)∈rs'->later v)->StepAt A call locs n os b i x s s1 t o later)->
     ∃ (σ:Nat->S) (τ:Nat->Tch),σ 0=s/\σ (o::l).length=s'/\y=x++(List.range (o::l).length).map τ/\(∀ k,k<=(o::l).length->StillAll A call locs rs (σ k))/\∀ k o',(o::l)[k]?=some o'->
      StepAt A call locs n os b (i+k) (x++(List.range k).map τ) (σ k) (σ (k+1)) (τ k) o' fun v=>∀ k',k<=k'->k'<=(o::l).length->∃ s',op A call locs { σ k' with e:=(σ k).e } o'=some (v,s'):=fun s1 t rs' hrs' hsub h1 h2=>by
   obtain ⟨σ,τ,e0,e1,e2,e4,e3⟩:=opsD_trace l (i+1) s1 _ rs' s' y hrs' h1;refine ⟨fun k=>match k with|0=>s|k+1=>σ k,fun k=>match k with|0=>t|k+1=>τ k,rfl,by simpa using e1,?_,fun k hk=> ?_,fun k o' hk=> ?_⟩
   · rw [e2,List.length_cons,List.range_succ_eq_map]
     simp
   · cases k with
     |zero=>exact hrs
     |succ k=>exact fun r hr=>e4 k (by simpa using hk) r (hsub r hr)
   · cases k with
     |zero=>
      simp at hk;subst hk;have:=h2 (fun v=>∀ k',0<=k'->k'<=(o::l).length->∃ s',op A call locs { (match k' with|0=>s|k+1=>σ k:S) with e:=s.e } o=some (v,s')) fun v s0 hv hm k' _ hk'=>by
        cases k' with
        |zero=>exact ⟨s0,hv⟩
        |succ k'=>exact e4 k' (by simpa using hk') _ hm
      simpa [e0] using this
     |succ k=>
      have:=e3 k o' (by simpa using hk);have e5:i+1+k=i+(k+1):=by omega
      have e6:x++[t]++(List.range k).map τ=x++(List.range (k+1)).map (fun k=>match k with|0=>t|k+1=>τ k):=by
        rw [List.range_succ_eq_map];simp
      rw [e5,e6] at this;rcases this with h|h|⟨v,a1,a2,a3,a4,a5,a6,a7⟩
      · exact .inl h
      · exact .inr (.inl h)
      · refine .inr (.inr ⟨v,a1,a2,a3,a4,a5,a6,fun k' h1 h2=> ?_⟩);cases k' with
        |zero=>omega
        |succ k'=>exact a7 k' (by omega) (by simpa using h2)
  cases g with
  |true=>
   simp only at h;split at h
   · rename_i hstill;simp only [Option.bind_eq_some_iff] at h;obtain ⟨⟨v,s1⟩,hop,h⟩:=h;simp only at h;split at h
     case isFalse=>simp at h
     rename_i hpl;simp only [Bool.and_eq_true] at hpl;simp only [Option.bind_eq_some_iff] at h;obtain ⟨s2,hput,h⟩:=h;split at h
     case isFalse=>simp at h
     rename_i hall;exact fin s2 .no _ hall (fun r hr=>List.mem_append_left _ hr) h fun later hl=> .inr (.inr ⟨v,hg,hstill,hpl.1,hput,rfl,hpl.2,hl v s1 hop (by simp)⟩)
   · simp only [Option.bind_eq_some_iff] at h;obtain ⟨⟨v,s1⟩,hop,s2,hput,h⟩:=h;split at h
     case isFalse=>simp at h
     rename_i hall;exact fin s2 _ _ hall (fun r hr=>hr) h fun later hl=> .inl ⟨_,v,s1,hg,hop,rfl,hput⟩
  |false=>
   simp only [Option.bind_eq_some_iff] at h;obtain ⟨s1,hput,h⟩:=h;split at h
   case isFalse=>simp at h
   rename_i hall;exact fin s1 _ _ hall (fun r hr=>hr) h fun later hl=> .inr (.inl ⟨hg,hput,rfl⟩)
theorem mem_zipIdx_of {α:Type} {l:List α} {i:Nat} {x:α} (h:l[i]?=some x):(x,i)∈l.zipIdx:=by
 rw [List.mem_iff_getElem?];exact ⟨i,by simp [h]⟩
theorem region_trace {s s':S} (h:region A call locs n os true s=some s'):∃ (σ:Nat->S) (τ:Nat->Tch),σ 0=s/\σ os.size=s'/\Trace A call locs n os σ τ/\∀ j o,os[j]?=some o->∀ e∈o.after,Region.binds .any e=true->e.on<j:=by
 simp only [region,if_true] at h;split at h
 case isFalse=>simp at h
 rename_i hslots;simp only [Option.bind_eq_some_iff] at h;obtain ⟨⟨s1,y⟩,hops,h⟩:=h;split at h
 case isFalse=>simp at h
 rename_i htr;simp at h;subst h;obtain ⟨σ,τ,e0,e1,e2,_,e3⟩:=opsD_trace os.toList 0 s [] [] s1 y (fun r hr=>by simp at hr) hops;have hy:∀ k,k<os.size->y[k]?=some (τ k):=fun k hk=>by rw [e2];simp [hk]
 simp only [slotsOK,Bool.and_eq_true] at hslots;obtain ⟨hs1,hs2⟩:=hslots;refine ⟨σ,τ,e0,by simpa using e1,⟨fun i o ho=> ?_,fun i j oi oj hoi hoj hlt=> ?_,fun i j hi hj hne hw=> ?_⟩,fun j o ho e he hb=> ?_⟩
 · rcases e3 i o (by simpa using ho) with h|h|⟨v,a1,a2,a3,a4,a5,a6,a7⟩
   · exact .inl h
   · exact .inr (.inl h)
   · refine .inr (.inr ⟨v,a1,a2,a3,a4,a5,fun j hj hw=> ?_,fun k h1 h2=>a7 k h1 (by simpa using h2)⟩);have hm:(τ j,j)∈([]++(List.range i).map τ).zipIdx:=mem_zipIdx_of (by simp [hj]);have:=List.all_eq_true.1 a6 _ hm
     simpa [hw,Tch.isHeap,Tch.writes] using this
 · have h1:=List.all_eq_true.1 hs2 _ (mem_zipIdx_of (l:=os.toList) (i:=j) (x:=oj) (by simpa using hoj));have h2:=List.all_eq_true.1 h1 _ (mem_zipIdx_of (l:=os.toList) (i:=i) (x:=oi) (by simpa using hoi))
   simpa [hlt] using h2
 · have h1:=List.all_eq_true.1 htr _ (mem_zipIdx_of (hy j hj));simp only [hw,Bool.not_true,Bool.false_or] at h1;have h2:=List.all_eq_true.1 h1 _ (mem_zipIdx_of (hy i hi));simp only [Bool.or_eq_true,Bool.and_eq_true,decide_eq_true_eq,beq_iff_eq,Bool.not_eq_true'] at h2;rcases h2 with ((h2|h2)|h2)|h2
   · exact absurd h2 hne
   · exact .inl h2
   · exact .inr (.inl h2)
   · exact .inr (.inr h2)
 · have h1:=List.all_eq_true.1 hs1 _ (mem_zipIdx_of (l:=os.toList) (i:=j) (x:=o) (by simpa using ho));have h2:=List.all_eq_true.1 h1 e (by simpa using he)
   simpa [hb] using h2
def isL (listed:Array Bool) (j:Nat):Prop:=listed.getD j false=true
theorem countP_pos_of {l:List Bool} {i:Nat} (h:l[i]?=some false):0<l.countP (!·):=by
 rw [List.countP_pos_iff];exact ⟨false,List.mem_of_getElem? h,rfl⟩
theorem countP_set_true {l:List Bool}:∀ {i:Nat},l[i]?=some false->(l.set i true).countP (!·)+1=l.countP (!·):=by
 induction l with
 |nil=>intro i h;simp at h
 |cons x l ih=>
  intro i h;cases i with
  |zero=>simp at h;subst h;simp
  |succ i=>
   have:=ih (i:=i) (by simpa using h);simp only [List.set_cons_succ,List.countP_cons];omega
theorem draw_any {F:Fence} {m:Nat} {Q:Exit->Act->World->Prop} (hC:CallGoes A call) (hF:Wide F) (T:Trace A call locs n os σ τ) (hq:CalleeQuiet call) (hw0:WRel A.glob g0 w0 (σ 0).H)
  (hedge:∀ j o,os[j]?=some o->∀ e∈o.after,Region.binds .any e=true->e.on<j)
  (hfin:∀ g' f' a' w' L,Inv A.glob os σ τ n g0 f0 w0 ds L g' f' a' w'->(∀ j,j<os.size->L j)->Q .normal a' w'):
  ∀ (fuel:Nat) (listed:Array Bool) (g:Gx) (f:Fx) (a:Act) (w:World),listed.size=os.size->listed.toList.countP (!·)<=fuel->Down os (isL listed)->Inv A.glob os σ τ n g0 f0 w0 ds (isL listed) g f a w->wpAnyIn F m A.P .any os Q fuel listed a w:=by
 have hall:∀ (listed:Array Bool),listed.size=os.size->Region.ready .any os listed=[]->∀ j,j<os.size->isL listed j:=by
  intro listed hs hr j;induction j using Nat.strongRecOn with
  |ind j ih=>
    intro hj;unfold isL;cases hl:listed.getD j false with
    |true=>rfl
    |false=>
      exfalso;have:j∈Region.ready .any os listed:=mem_ready.2 ⟨by simp [Array.getD,hs,hj] at hl ⊢;exact hl,os[j],by simp [hj],fun e he hb=>ih e.on (hedge j _ (by simp [hj]) e he hb) (by have:=hedge j os[j] (by simp [hj]) e he hb;omega)⟩;rw [hr] at this;simp at this
 intro fuel;induction fuel with
 |zero=>
  intro listed g f a w hs hc hD inv;have hr:Region.ready .any os listed=[]:=by
    cases hr:Region.ready .any os listed with
    |nil=>rfl
    |cons i l=>
      exfalso;have hi:i∈Region.ready .any os listed:=by rw [hr];simp
      obtain ⟨h1,o,ho,_⟩:=mem_ready.1 hi;have hlt:=getElem?_lt ho;have:listed.toList[i]?=some false:=by simp [Array.getD,hs,hlt] at h1;simp [hs,hlt,h1]
      have:=countP_pos_of this;omega
  exact ⟨hr,hfin g f a w _ inv (hall listed hs hr)⟩
 |succ fuel ih=>
  intro listed g f a w hs hc hD inv;refine ⟨fun hr=>hfin g f a w _ inv (hall listed hs hr),fun i hi=> ?_⟩;obtain ⟨h1,o,ho,hafter⟩:=mem_ready.1 hi;have hlt:=getElem?_lt ho;have hfalse:listed.toList[i]?=some false:=by simp [Array.getD,hs,hlt] at h1;simp [hs,hlt,h1]
  have hnot:¬ isL listed i:=by unfold isL;simp [Array.getD,hs,hlt] at h1 ⊢;exact h1
  have hready:ReadyAt os (isL listed) i:=⟨hlt,hnot,fun k hk=>by
    obtain ⟨e,he,hb,h⟩:=ord_edge ho hk;have hL:=hafter e he hb;rcases h with rfl|h
    · exact hL
    · exact hD k e.on (by have:=hedge i o ho e he hb;omega) hL h⟩
  have hLeq:(fun j=>isL listed j\/j=i)=isL (listed.setIfInBounds i true):=by
    funext j;apply propext;unfold isL;by_cases e:j=i
    · subst e;simp [Array.getD,hs,hlt]
    · rw [getD_set_ne false (fun h=>e h.symm)];exact ⟨fun h=>h.resolve_right e,.inl⟩
  refine draw_op hC hF T hq hw0 inv hD hready fun g' f' a' w' inv'=> ?_
  refine ih _ g' f' a' w' (by simpa using hs) ?_ ?_ ?_
  · have:=countP_set_true hfalse;rw [Array.toList_setIfInBounds];omega
  · rw [<- hLeq];exact hD.add hready
  · rw [<- hLeq];exact inv'
theorem draw_goes (hm:A.P.follows .mixedOrders=true):DrawGoes A:=by
 intro call locs hC hq F m n id all g f s s' a w Q hF h hst hk;obtain ⟨σ,τ,rfl,rfl,T,hedge⟩:=region_trace h;refine wpIn_region_any hm ?_;have hh:({ w with drawn:=w.drawn+1 }:World).heap=w.heap:=rfl;have hst':St A.glob g f (σ 0) n a { w with drawn:=w.drawn+1 }:=by
   refine ⟨hst.hw.heap hh,hst.hf.heap hh,fun t=>(hst.he t).mono (.heap hh) fun _ h=>⟨h,rfl⟩,hst.hn,?_,hst.hW⟩;exact hst.hm.step hst.hw hst.hf (.heap hh)
 refine draw_any (g0:=g) (f0:=f) (w0:={ w with drawn:=w.drawn+1 }) (ds:=a.defers) hC hF T hq hst'.hw hedge (fun g' f' a' w' L inv hL=> ?_) all.size _ g f a _ (by simp) ?_ ?_ ?_
 · obtain ⟨f2,h1,h2⟩:=inv.finish T hq hst' hL;exact hk g' f2 a' w' h1 ((FExt.heap hh).trans h2) (by rw [inv.ds];exact .refl _ _)
 · rw [Array.toList_replicate];exact Nat.le_trans List.countP_le_length (by simp)
 · intro i j hj hL;unfold isL at hL;simp [Array.getD] at hL
 · have:isL (Array.replicate all.size false)=fun _=>False:=by
    funext j;apply propext;unfold isL;simp [Array.getD]
   rw [this];exact Inv.start T hq hst'
end
end Go.V
