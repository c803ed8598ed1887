/- An evaluator of the translated code and that it is right: each of its answers is an answer of the model. -/
import Derived.Test.YtcbcifeaalkdfaaGreatDoorA1
import Derived.Test.YtcbcifeaalkdfaaGreatDoorA3
import Derived.LoopNIn
import Derived.RangeFuncRecord
import Derived.Scope
import Derived.Sort.Grow
import Derived.Deep.Draws
import Derived.Lib.ItoaNum
import Derived.Lib.LaidTab
set_option linter.unusedVariables false
set_option linter.unusedSimpArgs false
set_option linter.unusedSectionVars false
open Array renaming getD_eq_getD_getElem?→ij,getElem?_append_left→Qv,getElem?_eq_none→wF,getElem?_modify→vF
open Bool renaming and_eq_true→Ab
open List renaming getElem?_append_left→Ja,getElem?_set→Cc,mem_cons_of_mem→Rb,length_eq_zero_iff→Gb,range→mb,map_cons→He,mem_cons→me,getElem?_cons_succ→Zi,getElem?_eq_getElem→Da,all_eq_true→ec,getElem?_cons_zero→Vh,length_take→je,getElem?_take→Jb
open Nat renaming le_refl→ya,le_trans→Db
open Option renaming bind_eq_some_iff→aa,map_eq_some_iff→ja,bind_some→da,map_some→Yd
open Option.some renaming injEq→Wc
namespace Go.V
open Go
def fe(H H':AH):Prop:=H'.wm=H.wm/\H.bl.length<=H'.bl.length/\∀b,b<H.wm->b<H.bl.length->H'.bl[b]?=H.bl[b]?
theorem fe.refl(H:AH):fe H H:=⟨rfl,ya _,λ_ _ _=>rfl⟩
theorem fe.trans{H H1 H2:AH}(h:fe H H1)(h':fe H1 H2):fe H H2:=
 ⟨h'.1.trans h.1,Db h.2.1 h'.2.1,λb hb hl=>(h'.2.2 b (by rw[h.1];exact hb) (by have:=h.2.1;omega)).trans (h.2.2 b hb hl)⟩
theorem fe.push(H:AH)(x:AB):fe H (push H x):=⟨rfl,by simp[V.push],λb _ hl=>by simp[V.push,Ja hl]⟩
theorem fe.set{H:AH}{b:Nat}(h:H.wm<=b)(x:AB):fe H (Qa H b x):=⟨rfl,by simp[Qa],λb' hb _=>by
 simp only[Qa,Cc];rw[if_neg (by omega)]⟩
def Nd(call:Callee):Prop:=∀fv args H r H',call fv args H=some (r,H')->fe H H'
section
variable {A:Oi}{call:Callee}{Ca:List Nat}
theorem GK{H H':AH}{ts:Array TypeId}{x y v:AV}(h:append A H ts x y=some (v,H')):fe H H':=by
 simp only[append,aa]at h;obtain⟨_,_,_,_,_,_,_,_,_,_,xs,_,ys,_,h⟩:=h;split at h
 case isFalse=>simp at h
 split at h
 ·simp at h;obtain⟨_,rfl⟩:=h;exact .refl _
 ·split at h
  ·simp at h;obtain⟨_,rfl⟩:=h;exact .push _ _
  ·simp at h;obtain⟨_,rfl⟩:=h;exact .push _ _
  ·split at h
   ·rename_i hc;simp at h;obtain⟨_,rfl⟩:=h;exact(fe.set hc.1 .dead).trans (fe.push _ _)
   ·simp at h
  ·simp at h
theorem bA{H H':AH}{t:TypeId}{n:Nat}{ps:List (Nat×AV)}{v:AV}(h:buildSlice A H t n ps=some (v,H')):fe H H':=by
 simp only[buildSlice,aa]at h;obtain⟨_,_,_,_,h⟩:=h;split at h
 case isFalse=>simp at h
 split at h
 ·simp at h;obtain⟨_,rfl⟩:=h;exact .refl _
 ·simp only[aa]at h;obtain⟨_,_,h⟩:=h;simp at h;obtain⟨_,rfl⟩:=h;exact .push _ _
theorem rB{H H':AH}{t:TypeId}{l c v:AV}(h:makeSlice A H t l c=some (v,H')):fe H H':=by
 unfold makeSlice at h;split at h
 ·simp only[aa]at h;obtain⟨_,_,_,_,_,_,h⟩:=h;split at h
  ·simp at h;obtain⟨_,rfl⟩:=h;exact .push _ _
  ·simp at h
 ·simp at h
theorem iG{H H':AH}{s d:TypeId}{x v:AV}(h:convert A H s d x=some (v,H')):fe H H':=by
 unfold convert at h;split at h
 ·simp at h;obtain⟨_,rfl⟩:=h;exact .refl _
 ·simp at h;obtain⟨_,rfl⟩:=h;exact .refl _
 ·split at h
  ·split at h
   ·simp at h;obtain⟨_,rfl⟩:=h;exact .push _ _
   ·simp at h
  ·simp at h
 ·split at h
  ·simp only[aa,ja]at h;obtain⟨_,_,_,_,h⟩:=h;simp at h;obtain⟨_,rfl⟩:=h;exact .refl _
  ·simp at h
 ·simp at h
theorem nq{H H':AH}{t:TypeId}{m k x:AV}(h:mapUpdate A H t m k x=some H'):fe H H':=by
 unfold mapUpdate at h;split at h
 ·split at h
  ·rename_i hc;simp only[Ab,decide_eq_true_eq]at hc;split at h
   ·simp only[ja]at h;obtain⟨_,_,rfl⟩:=h;exact .set hc.2 _
   ·simp at h
  ·simp at h
 ·simp at h
theorem pB{H H':AH}{t:TypeId}{m k:AV}(h:lg A H t m k=some H'):fe H H':=by
 unfold lg at h;split at h
 ·split at h
  ·simp at h;subst h;exact .refl _
  ·simp at h
 ·split at h
  ·rename_i hc;simp only[Ab,decide_eq_true_eq]at hc;split at h
   ·simp only[ja]at h;obtain⟨_,_,rfl⟩:=h;exact .set hc.2 _
   ·simp at h
  ·simp at h
 ·simp at h
theorem oG{H H':AH}{b:Builtin}{ts:Array TypeId}{args:List AV}{v:AV}(h:builtin A H b ts args=some (v,H')):fe H H':=by
 unfold builtin at h;split at h
 ·exact GK h
 ·simp only[aa]at h;obtain⟨_,_,h⟩:=h;split at h
  all_goals first
   |(simp at h;obtain⟨_,rfl⟩:=h;exact .refl _)
   |(simp only[ja]at h;obtain⟨_,_,h⟩:=h;simp at h;obtain⟨_,rfl⟩:=h;exact .refl _)
   |simp at h
 ·simp only[ja]at h;obtain⟨_,_,h⟩:=h;simp at h;obtain⟨_,rfl⟩:=h;exact .refl _
 ·simp only[ja]at h;obtain⟨_,_,h⟩:=h;simp at h;obtain⟨_,rfl⟩:=h;exact .refl _
 ·simp only[aa,ja]at h;obtain⟨_,_,_,hd,h⟩:=h;simp at h;obtain⟨_,rfl⟩:=h;exact pB hd
 ·simp only[aa]at h;obtain⟨_,_,_,_,_,_,_,_,h⟩:=h;split at h
  ·simp at h;obtain⟨_,rfl⟩:=h;exact .refl _
  ·simp at h;obtain⟨_,rfl⟩:=h;exact .refl _
  ·split at h
   ·split at h
    ·rename_i hc;simp at h;obtain⟨_,rfl⟩:=h;exact .set hc.1 _
    ·simp at h
   ·simp at h
  ·simp at h
 ·simp at h
structure u9(P8:Yf)(s s' t t':S):Prop where
 e1:s'.e=s.e
 e2:t'.e=t.e
 q:fe s.H s'.H
 h:(P8.Yc=true->t'.H=s'.H)/\(P8.Yc=false->t'.H=t.H/\s'.H=s.H)
 f:(s'.F=s.F/\t'.F=t.F)\/(∃row,s'.F=s.F++[row]/\t'.F=t.F++[row]/\P8= .no)\/∃i row,P8= .box i true/\s'.F=s.F.set i row/\t'.F=t.F.set i row/\∀Mk,s.F[i]?=some Mk->row.length=Mk.length
theorem u9.same{P8:Yf}{s t:S}(hH:P8.Yc=true->t.H=s.H):u9 P8 s s t t:=
 ⟨rfl,rfl,.refl _,⟨hH,λ_=>⟨rfl,rfl⟩⟩,.inl ⟨rfl,rfl⟩⟩
theorem u9.heap{w:Bool}{s t:S}{H:AH}(hq:fe s.H H):u9 (.heap w) s { s with H:=H } t { t with H:=H }:=
 ⟨rfl,rfl,hq,⟨λ_=>rfl,λh=>by simp[Yf.Yc]at h⟩,.inl ⟨rfl,rfl⟩⟩
section
variable {s s' t:S}{o:Oper}
theorem Iy:∀{l:List Operand},(∀x∈l,operand A t.e x=operand A s.e x)->Pk A t.e l=Pk A s.e l
 |[],_=>rfl
 |x::l,h=>by
  simp only[Pk,val,h x (by simp),Iy (l:=l) λy hy=>h y (Rb _ hy)]
theorem Qu:∀{l:List (Nat×Operand)},(∀x∈l.map (·.2),operand A t.e x=operand A s.e x)->parts A t.e l=parts A s.e l
 |[],_=>rfl
 |(i,x)::l,h=>by
  simp only[parts,val,h x (by simp),Qu (l:=l) λy hy=>h y (by simp at hy ⊢;exact .inr hy)]
theorem qA{x:Option Operand}(h:∀y∈x.toArray,operand A t.e y=operand A s.e y):yh A t.e x=yh A s.e x:=by
 cases x with
 |none=>rfl
 |some x=>simp only[yh,val,h x (by simp)]
theorem Ih{x:Option AV}{v:SV}{P8:Yf}(h:kj s x=some (v,s'))(hH:P8.Yc=true->t.H=s.H):∃t',kj t x=some (v,t')/\u9 P8 s s' t t':=by
 simp only[kj,ja]at h;obtain⟨a,ha,h⟩:=h;simp at h;obtain⟨rfl,rfl⟩:=h;exact⟨t,by simp[kj,ha],.same hH⟩
theorem Il{fz:AH->AV->Option (AV×AH)}(Tn:∀H x x' H',fz H x=some (x',H')->fe H H'):∀(xs:List AV)(H:AH)(Hq:List AV)(H':AH),Eh fz H xs=some (Hq,H')->fe H H'
 |[],H,Hq,H',h=>by simp[Eh]at h;obtain⟨_,rfl⟩:=h;exact .refl _
 |x::xs,H,Hq,H',h=>by
  simp only[Eh,aa]at h;obtain⟨⟨x1,H1⟩,h1,⟨xs1,H2⟩,h2,h⟩:=h;simp at h;obtain⟨_,rfl⟩:=h;exact(Tn _ _ _ _ h1).trans (Il Tn xs _ _ _ h2)
theorem Vw{fz:AH->AV->Option (AV×AH)}(Tn:∀H x x' H',fz H x=some (x',H')->fe H H'):∀(xs:List (List AV))(H:AH)(Hq:List (List AV))(H':AH),Ki fz H xs=some (Hq,H')->fe H H'
 |[],H,Hq,H',h=>by simp[Ki]at h;obtain⟨_,rfl⟩:=h;exact .refl _
 |x::xs,H,Hq,H',h=>by
  simp only[Ki,aa]at h;obtain⟨⟨x1,H1⟩,h1,⟨xs1,H2⟩,h2,h⟩:=h;simp at h;obtain⟨_,rfl⟩:=h;exact(Il Tn _ _ _ _ h1).trans (Vw Tn xs _ _ _ h2)
theorem wj:∀(d:Nat)(H:AH)(x x':AV)(H':AH),freeze d H x=some (x',H')->fe H H'
 |0,H,x,x',H',h=>by simp[freeze]at h
 |d+1,H,x,x',H',h=>by
  cases x
  case sl b r n=>
   simp only[freeze,aa]at h;obtain⟨rows,_,sz,_,h⟩:=h;split at h
   case isFalse=>simp at h
   rename_i Th;simp only[aa]at h;obtain⟨⟨Ke,H1⟩,cG,h⟩:=h;simp at h;obtain⟨_,rfl⟩:=h;exact(fe.set Th _).trans (Vw (wj d) _ _ _ _ cG)
  case agg cs=>
   simp only[freeze,aa]at h;obtain⟨⟨Ei,H1⟩,h1,h⟩:=h;simp at h;obtain⟨_,rfl⟩:=h;exact Il (wj d) _ _ _ _ h1
  case Re cs=>
   simp only[freeze,aa]at h;obtain⟨⟨Ei,H1⟩,h1,h⟩:=h;simp at h;obtain⟨_,rfl⟩:=h;exact Il (wj d) _ _ _ _ h1
  all_goals simp[freeze]at h;obtain⟨_,rfl⟩:=h;exact .refl _
theorem fo{x:Option (AV×AH)}{v:SV}{w:Bool}(h:jo s x=some (v,s'))(hq:∀a H,x=some (a,H)->fe s.H H):∃t',jo t x=some (v,t')/\u9 (.heap w) s s' t t':=by
 simp only[jo,ja]at h;obtain⟨⟨a,H⟩,ha,h⟩:=h;simp at h;obtain⟨rfl,rfl⟩:=h;exact⟨{ t with H:=H },by simp[jo,ha],.heap (hq a H ha)⟩
theorem mF{bt:TypeId}{b:Bool}{cs:List AV}{v:SV}(h:boxed s bt b cs=some (v,s'))(hH:b=false->t.H=s.H)(hl:t.F.length=s.F.length):∃t',boxed t bt b cs=some (v,t')/\u9 (if b then .no else .heap false) s s' t t':=by
 unfold boxed at h ⊢;split at h
 case isFalse=>simp at h
 rename_i hc;rw[if_pos hc];simp only[Wc]at h;cases b with
 |true=>
  simp[box]at h;obtain⟨rfl,rfl⟩:=h;refine⟨{ t with F:=t.F++[cs] },by simp[box,hl],⟨rfl,rfl,.refl _,⟨λh=>by simp[Yf.Yc]at h,λ_=>⟨rfl,rfl⟩⟩,.inr (.inl ⟨cs,rfl,rfl,rfl⟩)⟩⟩
 |false=>
  simp[box]at h;obtain⟨rfl,rfl⟩:=h;refine⟨{ t with H:=push s.H (.cells [cs] cs.length (some (bt,2))) },by simp[box,hH rfl],⟨rfl,rfl,.push _ _,⟨λ_=>rfl,λh=>by simp[Yf.Yc]at h⟩,.inl ⟨rfl,rfl⟩⟩⟩
theorem EV{ty:TypeId}{p:SV}{x:AV}(h:load A s ty p=some x)(hH:(Vf false (some p)).Yc=true->t.H=s.H)(hB:∀i w,Vf false (some p)= .box i w->t.F[i]?=s.F[i]?):load A t ty p=some x:=by
 unfold load at h ⊢;split at h
 ·rename_i i c;simp only[hB i false rfl];exact h
 ·rename_i b r c;simp only[hH rfl];exact h
 ·exact h
 ·simp at h
theorem UN{ty:TypeId}{p:SV}{x:AV}(h:store A s ty p x=some s')(hH:(Vf true (some p)).Yc=true->t.H=s.H)(hB:∀i w,Vf true (some p)= .box i w->t.F[i]?=s.F[i]?):
  ∃t',store A t ty p x=some t'/\u9 (Vf true (some p)) s s' t t':=by
 simp only[store,aa]at h;obtain⟨cs,Kj,n,hn,h⟩:=h;split at h
 case isFalse=>simp at h
 rename_i hlen;unfold store;simp only[Kj,hn,da];rw[if_pos hlen];split at h
 ·rename_i i c;simp only[aa]at h;obtain⟨row,hr,Vb,qg,h⟩:=h;simp at h;subst h;exact⟨{ t with F:=t.F.set i Vb },by simp[hB i true rfl,hr,qg],⟨rfl,rfl,.refl _,⟨λh=>by simp[Vf,Yf.Yc]at h,λ_=>⟨rfl,rfl⟩⟩,.inr (.inr ⟨i,Vb,rfl,rfl,rfl,λMk ho=>by
   rw[hr]at ho;simp at ho;subst ho;unfold gg at qg;split at qg
   ·simp at qg;subst qg;simp;omega
   ·simp at qg⟩)⟩⟩
 ·rename_i b r c;have hH':=hH rfl;split at h
  case h_2=>simp at h
  rename_i rows sz AF hb;split at h
  case isFalse=>simp at h
  rename_i Th;simp only[aa]at h;obtain⟨row,hr,Vb,qg,h⟩:=h;simp at h;subst h;refine⟨{ t with H:=Qa s.H b (.cells (rows.set r Vb) sz AF) },by simp[hH',hb,Th,hr,qg],⟨rfl,rfl,.set Th _,⟨λ_=>rfl,λh=>by simp[Vf,Yf.Yc]at h⟩,.inl ⟨rfl,rfl⟩⟩⟩
 ·simp at h
theorem WC{H H':AH}{ty:TypeId}{p:SV}{i:Int}(h:(Hs (some p)).Yc=true->H'=H):indexAddr A H' ty p i=indexAddr A H ty p i:=by
 unfold indexAddr;split
 ·rfl
 ·split
  ·rw[h rfl]
  ·rfl
  ·rfl
 ·rfl
def UR(A:Oi)(H:AH)(t:TypeId)(x:AV):Option (AV×AH):=
 match A.P.underlying t,x with
 |some .string,.str s=>some (.int .i64 s.size,H)
 |some (.slice _),.Xa|some (.slice _),.Ef=>some (.int .i64 0,H)
 |some (.slice _),.lit _ rows=>some (.int .i64 rows.length,H)
 |some (.slice _),.sl _ _ n=>some (.int .i64 n,H)
 |some (.map _ _),m=>(mapOf H m).map λes=>(.int .i64 es.length,H)
 |some (.array n _),_=>some (.int .i64 n,H)
 |_,_=>none
theorem DK{H H':AH}{b:Builtin}{ts:Array TypeId}{l:List AV}{v:AV}(hp:b= .max\/b= .min\/(b= .len/\∀m,l≠[.mp m]))(h:builtin A H b ts l=some (v,H')):H'=H/\∀H2,builtin A H2 b ts l=some (v,H2):=by
 rcases hp with rfl|rfl|⟨rfl,hp⟩
 ·unfold builtin at h ⊢;split at h<;>simp_all
  obtain⟨a,h1,h2,h3⟩:=h;exact⟨h3.symm,λ_=>by rw[h1,h2]⟩
 ·unfold builtin at h ⊢;split at h<;>simp_all
  obtain⟨a,h1,h2,h3⟩:=h;exact⟨h3.symm,λ_=>by rw[h1,h2]⟩
 ·unfold builtin at h;split at h<;>try (simp_all;done)
  rename_i x _;simp only[aa]at h;obtain⟨t,ht,h⟩:=h;have key:∀H2,builtin A H2 .len ts [x]=UR A H2 t x:=λH2=>by simp only[builtin,ht,da,UR];rfl
  have h:UR A H t x=some (v,H'):=h;unfold UR at key h;split at h
  all_goals first
   |(simp at h;done)
   |(simp at h;obtain⟨rfl,rfl⟩:=h;exact⟨rfl,λH2=>by rw[key];simp_all⟩)
   |skip
  rename_i x _ _ _ _ hu _;simp only[ja]at h;obtain⟨es,he,h⟩:=h;simp at h;obtain⟨rfl,rfl⟩:=h;refine⟨rfl,λH2=> ?_⟩;rw[key];have:mapOf H2 x=some es:=by
   cases x<;>first|(simp[mapOf]at he;done)|(exact absurd rfl (hp _))|(simpa[mapOf]using he)
  simp[hu,this]
theorem qI{q:Bool}{v:SV}(hq:Nd call)(h:op A call Ca s o=some (v,s'))(he:∀x∈o.op.operands,operand A t.e x=operand A s.e x)
  (hH:(Ud A Ca s o q).Yc=true->t.H=s.H) (hl:t.F.length=s.F.length) (hB:∀i w,Ud A Ca s o q= .box i w->t.F[i]?=s.F[i]?):
  ∃t',op A call Ca t o=some (v,t')/\u9 (Ud A Ca s o q) s s' t t':=by
 have hv:∀x∈o.op.operands,val A t.e x=val A s.e x:=λx hx=>by simp only[val,he x hx]
 obtain⟨dst,o,type,pos,after,guard⟩:=o;simp only at he hv;cases o
 case move x=>
  simp only[op]at h ⊢;simp only[he x (by simp[Op.operands])];simp only[ja]at h ⊢;obtain⟨u,hu,h⟩:=h;simp at h;obtain⟨rfl,rfl⟩:=h;exact⟨t,⟨u,hu,rfl⟩,.same hH⟩
 case assign x=>
  simp only[op]at h ⊢;simp only[he x (by simp[Op.operands])];simp only[ja]at h ⊢;obtain⟨u,hu,h⟩:=h;simp at h;obtain⟨rfl,rfl⟩:=h;exact⟨t,⟨u,hu,rfl⟩,.same hH⟩
 case pick c a b=>
  simp only[op]at h ⊢;rw[hv c (by simp[Op.operands])];rw[he a (by simp[Op.operands]),he b (by simp[Op.operands])];simp only[aa]at h ⊢;obtain⟨u,hu,h⟩:=h;split at h
  ·simp only[ja]at h;obtain⟨x,hx,h⟩:=h;simp at h;obtain⟨rfl,rfl⟩:=h;exact⟨t,⟨_,hu,by simp[hx]⟩,.same hH⟩
  ·simp only[ja]at h;obtain⟨x,hx,h⟩:=h;simp at h;obtain⟨rfl,rfl⟩:=h;exact⟨t,⟨_,hu,by simp[hx]⟩,.same hH⟩
  ·simp at h
 case alloc ty=>
  simp only[op,aa]at h;obtain⟨z,hz,h⟩:=h;have:=mF (t:=t) h (λhb=>hH (by have Wd:Ch Ca ⟨dst,.alloc ty,type,pos,after,guard⟩=false:=hb;simp only[Ud,Wd];rfl)) hl;simp only[op,hz,da];exact this
 case box ty x=>
  simp only[op,aa]at h;obtain⟨u,hu,cs,Kj,h⟩:=h;have:=mF (t:=t) h (λhb=>hH (by have Wd:Ch Ca ⟨dst,.box ty x,type,pos,after,guard⟩=false:=hb;simp only[Ud,Wd];rfl)) hl;simp only[op,hv x (by simp[Op.operands]),hu,Kj,da];exact this
 case build ty ps=>
  simp only[op,aa]at h;obtain⟨l,cD,h⟩:=h;simp only[op,Qu (s:=s) (t:=t) (l:=ps.toList) (λx hx=>he x (by simpa[Op.operands]using hx)),cD,da];exact Ih h hH
 case buildSlice ty n ps=>
  simp only[op,aa]at h;obtain⟨l,cD,h⟩:=h;simp only[op,Qu (s:=s) (t:=t) (l:=ps.toList) (λx hx=>he x (by simpa[Op.operands]using hx)),cD,da,hH rfl];refine fo h λa H hx=> ?_
  simp only[aa]at hx;obtain⟨⟨x0,H0⟩,TG,hx⟩:=hx;have h1:=bA TG;simp only at hx;split at hx
  ·exact h1.trans (wj _ _ _ _ _ hx)
  ·simp at hx;obtain⟨_,rfl⟩:=hx;exact h1
 case load ty x=>
  simp only[op,aa]at h;obtain⟨p,hp,h⟩:=h;simp only[Ud,hp]at hH hB ⊢;simp only[op,he x (by simp[Op.operands]),hp,da];cases Fg:load A s ty p with
  |none=>rw[Fg]at h;simp[kj]at h
  |some y=>rw[EV Fg hH hB];rw[Fg]at h;exact Ih h hH
 case store ty x y=>
  simp only[op,aa,ja]at h;obtain⟨p,hp,a,ha,s1,hs,h⟩:=h;simp at h;obtain⟨rfl,rfl⟩:=h;simp only[Ud,hp]at hH hB ⊢;obtain⟨t',h1,h2⟩:=UN hs hH hB;simp only[op,he x (by simp[Op.operands]),hv y (by simp[Op.operands]),hp,ha,h1,da,Yd];exact⟨t',rfl,h2⟩
 case nilCheck x=>
  simp only[op,aa]at h;obtain⟨p,hp,h⟩:=h;simp only[op,he x (by simp[Op.operands]),hp,da];split at h<;>first|(simp at h;obtain⟨rfl,rfl⟩:=h;exact⟨t,rfl,.same hH⟩)|simp at h
 case binOp b ty x y ty'=>
  simp only[op,aa]at h;obtain⟨p,hp,q',hq',h⟩:=h;simp only[op,hv x (by simp[Op.operands]),hv y (by simp[Op.operands]),hp,hq',da];exact Ih h hH
 case unOp u ty x=>
  simp only[op,aa]at h;obtain⟨p,hp,h⟩:=h;simp only[op,hv x (by simp[Op.operands]),hp,da];exact Ih h hH
 case convert a b x=>
  simp only[op,aa]at h;obtain⟨p,hp,h⟩:=h;simp only[op,hv x (by simp[Op.operands]),hp,da,hH rfl];exact fo h λa H=>iG
 case makeFunc fx first Lh=>
  cases fx with
  |func f=>
   simp only[op]at h ⊢;split at h
   ·rename_i h0;rw[if_pos h0];simp only[ja]at h;obtain⟨l,Fg,h⟩:=h;simp at h;obtain⟨rfl,rfl⟩:=h;rw[Iy (s:=s) (t:=t) (l:=Lh.toList) (λx hx=>he x (by simp[Op.operands];exact .inr (by simpa using hx))),Fg];exact⟨t,rfl,.same hH⟩
   ·simp at h
  |_=>simp[op]at h
 case makeMap ty r=>
  have aY:v= .v (.mp s.H.bl.length)/\s'={ s with H:=push s.H (.map []) }/\op A call Ca t ⟨dst,.makeMap ty r,type,pos,after,guard⟩=some (.v (.mp t.H.bl.length),{ t with H:=push t.H (.map []) }):=by
   simp only[op,aa]at h ⊢;obtain⟨_,h1,h⟩:=h;simp at h;obtain⟨rfl,rfl⟩:=h;refine⟨rfl,rfl,(),?_,trivial⟩;cases r with
   |none=>rfl
   |some x=>simp only[hv x (by simp[Op.operands])];exact h1
  obtain⟨rfl,rfl,h2⟩:=aY;rw[h2,hH rfl];exact⟨_,rfl,.heap (.push _ _)⟩
 case makeSlice ty l c=>
  simp only[op,aa]at h;obtain⟨p,hp,q',hq',h⟩:=h;simp only[op,hv l (by simp[Op.operands]),hv c (by simp[Op.operands]),hp,hq',da,hH rfl];exact fo h λa H=>rB
 case slice ty x lo hi mx=>
  cases mx with
  |some m=>
   cases lo with
   |some _=>simp[op]at h
   |none=>
   cases hi with
   |none=>simp[op]at h
   |some hi=>
   simp only[op,aa]at h;obtain⟨p,hp,l,Fg,u,hu,h⟩:=h;simp only[op,hv x (by simp[Op.operands]),hv hi (by simp[Op.operands]),hv m (by simp[Op.operands]),hp,Fg,hu,da];split at h
   ·rename_i hc;rw[if_pos hc];exact Ih h hH
   ·simp at h
  |none=>
   simp only[op,aa]at h;obtain⟨p,hp,l,Fg,u,hu,h⟩:=h;simp only[op,hv x (by simp[Op.operands]),qA (s:=s) (t:=t) (x:=lo) (λy hy=>he y (by simp[Op.operands]at hy ⊢;simp[hy])),qA (s:=s) (t:=t) (x:=hi) (λy hy=>he y (by simp[Op.operands]at hy ⊢;simp[hy])),hp,Fg,hu,da,hH rfl];exact Ih h hH
 case fieldAddr ty x f=>
  simp only[op,aa]at h;obtain⟨p,hp,fd,dM,n,hn,h⟩:=h;simp only[op,he x (by simp[Op.operands]),hp,dM,hn,da];split at h
  ·simp at h
  ·rename_i h0;rw[if_neg h0];simp only[ja]at h ⊢;obtain⟨u,hu,h⟩:=h;simp at h;obtain⟨rfl,rfl⟩:=h;exact⟨t,⟨u,hu,rfl⟩,.same hH⟩
 case field ty x f=>
  simp only[op,aa]at h;obtain⟨p,hp,h⟩:=h;simp only[op,hv x (by simp[Op.operands]),hp,da];split at h
  ·simp only[aa]at h;obtain⟨fd,dM,h⟩:=h;simp only[dM,da];exact Ih h hH
  ·simp at h
 case indexAddr ty x i=>
  simp only[op,aa]at h;obtain⟨p,hp,u,hu,n,hn,h⟩:=h;simp only[Ud,hp]at hH hB ⊢;simp only[op,he x (by simp[Op.operands]),hv i (by simp[Op.operands]),hp,hu,hn,da,WC hH];simp only[ja]at h ⊢;obtain⟨y,hy,h⟩:=h;simp at h;obtain⟨rfl,rfl⟩:=h;exact⟨t,⟨y,hy,rfl⟩,.same hH⟩
 case index ty x i=>
  simp only[op,aa]at h;obtain⟨p,hp,u,hu,n,hn,h⟩:=h;simp only[op,hv x (by simp[Op.operands]),hv i (by simp[Op.operands]),hp,hu,hn,da];exact Ih h hH
 case lookup ty x i ok=>
  simp only[op,aa]at h;obtain⟨p,hp,u,hu,h⟩:=h;simp only[op,hv x (by simp[Op.operands]),hv i (by simp[Op.operands]),hp,hu,da,hH rfl];exact Ih h hH
 case mapUpdate ty m k x=>
  simp only[op,aa,ja]at h;obtain⟨p,hp,u,hu,y,hy,H,hm,h⟩:=h;simp at h;obtain⟨rfl,rfl⟩:=h;simp only[op,hv m (by simp[Op.operands]),hv k (by simp[Op.operands]),hv x (by simp[Op.operands]),hp,hu,hy,hm,da,Yd,hH rfl];exact⟨_,rfl,.heap (nq hm)⟩
 case insert ty m k x=>
  simp only[op,aa,ja]at h;obtain⟨p,hp,u,hu,y,hy,H,hm,h⟩:=h;simp at h;obtain⟨rfl,rfl⟩:=h;simp only[op,hv m (by simp[Op.operands]),hv k (by simp[Op.operands]),hv x (by simp[Op.operands]),hp,hu,hy,hm,da,Yd,hH rfl];exact⟨_,rfl,.heap (nq hm)⟩
 case extract x i=>
  simp only[op,aa]at h;obtain⟨p,hp,h⟩:=h;simp only[op,hv x (by simp[Op.operands]),hp,da];split at h
  ·simp only[ja]at h ⊢;obtain⟨y,hy,h⟩:=h;simp at h;obtain⟨rfl,rfl⟩:=h;exact⟨t,⟨y,hy,rfl⟩,.same hH⟩
  ·simp at h
 case call c=>
  obtain⟨callee,args,argTypes⟩:=c;simp only[op,aa]at h;obtain⟨l,Fg,h⟩:=h;have U8:Pk A t.e args.toList=some l:=by rw[<- Fg];exact Iy λx hx=>he x (by simp only[Op.operands];unfold Call.operands;cases callee<;>simp_all)
  have pure:∀(b:Builtin),callee= .builtin b->(b= .max\/b= .min\/(b= .len/\∀m,l≠[.mp m]))->∃t',op A call Ca t ⟨dst,.call ⟨callee,args,argTypes⟩,type,pos,after,guard⟩=some (v,t')/\u9 .no s s' t t':=λb hb hp=>by
   subst hb;simp only[jo,ja]at h;obtain⟨⟨a,H⟩,ha,h⟩:=h;simp at h;obtain⟨rfl,rfl⟩:=h;obtain⟨rfl,h2⟩:=DK hp ha;exact⟨t,by simp[op,U8,jo,h2 t.H],.same (λh=>by cases h)⟩
  by_cases X8:(∃b,callee= .builtin b/\(b= .max\/b= .min\/(b= .len/\∀m,l≠[.mp m])))
  ·obtain⟨b,rfl,hp⟩:=X8;have ht:Ud A Ca s ⟨dst,.call ⟨.builtin b,args,argTypes⟩,type,pos,after,guard⟩ q= .no:=by
    rcases hp with rfl|rfl|⟨rfl,hp⟩
    ·rfl
    ·rfl
    ·simp only[Ud,Fg];unfold Xh;split
     ·rename_i m e;simp at e;exact absurd e (hp m)
     ·rfl
     ·rename_i e;simp at e
   rw[ht];exact pure b rfl hp
  obtain⟨wr,S8⟩:∃wr,Ud A Ca s ⟨dst,.call ⟨callee,args,argTypes⟩,type,pos,after,guard⟩ q= .heap wr:=by
   cases callee with
   |builtin b=>
    cases b<;>first|exact⟨_,rfl⟩|(exact absurd ⟨_,rfl,.inl rfl⟩ X8)|(exact absurd ⟨_,rfl,.inr (.inl rfl)⟩ X8)|skip
    have:∃m,l=[.mp m]:=by
     rcases Classical.em (∃m,l=[.mp m])with h'|h'
     ·exact h'
     ·exact absurd ⟨_,rfl,.inr (.inr ⟨rfl,λm e=>h' ⟨m,e⟩⟩)⟩ X8
    obtain⟨m,rfl⟩:=this;exact⟨false,by simp only[Ud,Fg,Xh]⟩
   |_=>exact⟨_,rfl⟩
  rw[S8]at hH ⊢;simp only[op,U8,da,hH rfl];cases callee with
  |value f=>
   simp only[aa]at h;obtain⟨gv,hg,h⟩:=h;simp only[hv f (by simp[Op.operands,Call.operands]),hg,da];exact fo h λa H=>hq _ _ _ _ _
  |builtin b=>exact fo h λa H=>oG
  |_=>simp at h
 all_goals simp[op]at h
end
end
end Go.V
namespace Go.V
open Go
section
variable {A:Oi}{call:Callee}{Ca keep:List Nat}{n:Nat}
theorem KC{s s':S}{o:Oper}{v:SV}(hq:Nd call)(h:op A call Ca s o=some (v,s')):fe s.H s'.H/\s'.e=s.e:=by
 obtain⟨t',_,h2⟩:=qI (q:=false) (t:=s) hq h (λ_ _=>rfl) (λ_=>rfl) rfl (λ_ _ _=>rfl);exact⟨h2.q,h2.e1⟩
theorem FC{s s':S}{n:Nat}{dst:Option Nat}{v:SV}(h:put s n dst v=some s'):s'.H=s.H/\s'.F=s.F:=by
 unfold put at h;split at h
 ·simp at h;subst h;exact⟨rfl,rfl⟩
 ·split at h
  ·simp at h;subst h;exact⟨rfl,rfl⟩
  ·simp at h
theorem Qy{all:Array Oper}(hq:Nd call):∀(l:List Oper)(s s':S),ops A call Ca n all l s=some s'->fe s.H s'.H
 |[],s,s',h=>by simp[ops]at h;subst h;exact .refl _
 |o::l,s,s',h=>by
  simp only[ops,aa]at h;obtain⟨b,hb,h⟩:=h;cases b with
  |true=>
   simp only[aa]at h;obtain⟨⟨v,s1⟩,WG,s2,Dh,h⟩:=h;have:=Qy hq l s2 s' h;rw[(FC Dh).1]at this;exact(KC hq WG).1.trans this
  |false=>
   simp only[aa]at h;obtain⟨s1,Dh,h⟩:=h;have:=Qy hq l s1 s' h;rw[(FC Dh).1]at this;exact this
theorem yV{s s':S}{o:Oper}{v:SV}{t:Yf}(hq:Nd call)(h:LR A call Ca t s o=some (v,s')):fe s.H s'.H:=by
 have xar:∀{s':S},(op A call Ca { s with H:={ s.H with wm:=s.H.bl.length } } o).map (λ(v,s')=>(v,{ s' with H:={ s'.H with wm:=s.H.wm } }))=some (v,s')->fe s.H s'.H:=λh=>by
  simp only[ja]at h;obtain⟨⟨u,s1⟩,h1,h⟩:=h;simp at h;obtain⟨_,rfl⟩:=h;obtain⟨q1,q2,q3⟩:=(KC hq h1).1;exact⟨rfl,q2,λb _ hl=>q3 b hl hl⟩
 unfold LR at h;split at h
 ·exact(KC hq h).1
 ·exact xar h
theorem zp{all:Array Oper}{b:List Nat}(hq:Nd call):∀(l:List Oper)(i:Nat)(s:S)(x:List Yf)(rs:List (Oper×List (Nat×SV)×SV))(s':S)(y:List Yf),Dl A call Ca n all b l i s x rs=some (s',y)->fe s.H s'.H
 |[],i,s,x,rs,s',y,h=>by simp[Dl]at h;obtain⟨rfl,_⟩:=h;exact .refl _
 |o::l,i,s,x,rs,s',y,h=>by
  simp only[Dl,aa]at h;obtain⟨b,hb,h⟩:=h;cases b with
  |true=>
   simp only at h;split at h
   ·simp only[aa]at h;obtain⟨⟨v,s1⟩,WG,h⟩:=h;split at h
    case isFalse=>simp at h
    simp only[aa]at h;obtain⟨s2,Dh,h⟩:=h;split at h
    case isFalse=>simp at h
    have:=zp hq l _ s2 _ _ s' y h;rw[(FC Dh).1]at this;exact this
   ·simp only[aa]at h;obtain⟨⟨v,s1⟩,WG,s2,Dh,h⟩:=h;split at h
    case isFalse=>simp at h
    have:=zp hq l _ s2 _ _ s' y h;rw[(FC Dh).1]at this;exact(yV hq WG).trans this
  |false=>
   simp only[aa]at h;obtain⟨s1,Dh,h⟩:=h;split at h
   case isFalse=>simp at h
   have:=zp hq l _ s1 _ _ s' y h;rw[(FC Dh).1]at this;exact this
theorem jI{s s':S}{os:Array Oper}{draw:Bool}(hq:Nd call)(h:region A call Ca n os draw s=some s'):fe s.H s'.H:=by
 unfold region at h;split at h
 ·split at h
  ·simp only[aa]at h;obtain⟨⟨s1,l⟩,h1,h⟩:=h;split at h
   ·simp at h;subst h;exact zp hq _ _ _ _ _ _ _ h1
   ·simp at h
  ·simp at h
 ·exact Qy hq _ _ _ h
theorem Gv(hq:Nd call){rf:Bool}:∀(c:Code)(s:S)(ex:Ex)(s':S),code A call rf Ca keep n c s=some (ex,s')->fe s.H s'.H:=by
 intro c;induction c with
 |skip=>intro s ex s' h;simp[code]at h;obtain⟨_,rfl⟩:=h;exact .refl _
 |label l=>intro s ex s' h;simp[code]at h;obtain⟨_,rfl⟩:=h;exact .refl _
 |exit id=>intro s ex s' h;simp[code]at h;obtain⟨_,rfl⟩:=h;exact .refl _
 |ret=>intro s ex s' h;simp[code]at h;obtain⟨_,rfl⟩:=h;exact .refl _
 |region id os draw=>
  intro s ex s' h;simp only[code,ja]at h;obtain⟨s1,h1,h⟩:=h;simp at h;obtain⟨_,rfl⟩:=h;exact jI hq h1
 |seq x y d_ ihy=>
  intro s ex s' h;simp only[code,aa]at h;obtain⟨⟨e1,s1⟩,h1,h⟩:=h;cases e1 with
  |normal=>exact(d_ _ _ _ h1).trans (ihy _ _ _ h)
  |exit id=>simp at h;obtain⟨_,rfl⟩:=h;exact d_ _ _ _ h1
  |ret=>simp at h;obtain⟨_,rfl⟩:=h;exact d_ _ _ _ h1
 |cond c x y d_ ihy=>
  intro s ex s' h;simp only[code,aa]at h;obtain⟨cv,_,h⟩:=h;split at h
  ·split at h
   ·exact d_ _ _ _ h
   ·exact ihy _ _ _ h
  ·simp at h
 |block id c ih=>
  intro s ex s' h;simp only[code,aa]at h;obtain⟨⟨e1,s1⟩,h1,h⟩:=h;have:=ih _ _ _ h1;cases e1 with
  |normal=>simp at h;obtain⟨_,rfl⟩:=h;exact this
  |ret=>simp at h;obtain⟨_,rfl⟩:=h;exact this
  |exit CF=>
   simp only at h;split at h<;>simp at h<;>obtain⟨_,rfl⟩:=h<;>exact this
 |loop c ih=>
  intro s ex s' h;simp only[code]at h;generalize qo=k at h;induction k generalizing s with
  |zero=>simp[su]at h
  |succ k ihk=>
   simp only[su,aa]at h;obtain⟨⟨e1,s1⟩,h1,h⟩:=h;have:=ih _ _ _ h1;cases e1 with
   |normal=>exact fe.trans (H:=s.H) this (ihk _ h)
   |exit id=>simp at h;obtain⟨_,rfl⟩:=h;exact this
   |ret=>simp at h;obtain⟨_,rfl⟩:=h;exact this
 |rangeFunc fx ps assign body=>
  intro s ex s' h;simp only[code]at h;split at h
  case isFalse=>simp at h
  simp only[aa]at h;obtain⟨fv,_,env,_,_,_,⟨r,H2⟩,Hg,h⟩:=h;split at h
  case h_2=>simp at h
  simp only[aa]at h;obtain⟨_,_,h⟩:=h;split at h
  case isFalse=>simp at h
  rename_i Th;simp only[ja]at h;obtain⟨oK,_,h⟩:=h;simp at h;obtain⟨_,rfl⟩:=h;exact((fe.push _ _).trans (hq _ _ _ _ _ Hg)).trans (.set Th _)
 |scope c ih=>intro s ex s' h;simp only[code]at h;exact ih _ _ _ h
 |goto=>intro s ex s' h;simp[code]at h
 |refuse=>intro s ex s' h;simp[code]at h
def Wo(A:Oi):Prop:=∀f h,A.ext f=some h->∀args H r H',h args H=some (r,H')->fe H H'
theorem bk(hE:Wo A):∀k,Nd (V.call A k)
 |0=>λfv args H r H' h=>by simp[V.call]at h
 |k+1=>λfv args H r H' h=>by
  cases fv
  case fn f Lh=>
   simp only[V.call]at h;split at h
   ·rename_i e he;exact hE f e he _ _ _ _ h
   ·split at h
    case h_1=>simp at h
    split at h
    case h_1=>simp at h
    split at h
    case isFalse=>simp at h
    simp only[aa]at h;obtain⟨⟨ex,s1⟩,zk,h⟩:=h;have hq:=Gv (bk hE k) _ _ _ _ zk;have CB:∀l,(if A.G_ f=true then freeze 8 s1.H (result l)else some (result l,s1.H))=some (r,H')->fe H H':=λl h=>by
     split at h
     ·exact fe.trans (H:=H) hq (wj _ _ _ _ _ h)
     ·simp at h;obtain⟨_,rfl⟩:=h;exact hq
    cases ex with
    |exit id=>simp at h
    |normal=>simp only[aa]at h;obtain⟨l,_,h⟩:=h;exact CB l h
    |ret=>simp only[aa]at h;obtain⟨l,_,h⟩:=h;exact CB l h
  case yl b=>
   simp only[V.call]at h;split at h
   case h_2=>simp at h
   split at h
   case isFalse=>simp at h
   rename_i hc;simp only[aa]at h;obtain⟨⟨ex1,s1⟩,WO,h⟩:=h;split at h
   case h_2=>simp at h
   rename_i heq;simp at heq;obtain⟨rfl,rfl⟩:=heq;split at h
   case h_2=>simp at h
   simp only[aa]at h;obtain⟨⟨oK,s2⟩,VO,h⟩:=h;split at h
   case h_2=>simp at h
   simp at h;obtain⟨_,rfl⟩:=h;have q1:=Gv (bk hE k) _ _ _ _ WO;have q2:=Gv (bk hE k) _ _ _ _ VO;have w1:s1.H.wm=H.wm:=q1.1;have w2:s2.H.wm=s1.H.wm:=q2.1;have k1:∀x,fe s1.H (Qa s1.H b x):=λx=>fe.set (by rw[w1];exact hc.2.1) x
   exact fe.trans (H:=H) (fe.trans (fe.trans q1 (k1 _)) q2) (.set (by show s2.H.wm<=b;rw[w2,w1];exact hc.2.1) _)
  all_goals simp[V.call]at h
end
end Go.V
namespace Go.V
open Go
variable [Inhabited Rn]
section
variable {A:Oi}{g:Gx}{f:Fx}{w:World}{s:S}{a:Act}{call:Callee}{Ca:List Nat}
theorem EC{s s':S}{n:Nat}{dst:Option Nat}{v:SV}(h:put s n dst v=some s'):s'.F=s.F/\s'.H=s.H/\((dst=none/\s'.e=s.e)\/∃d,dst=some d/\d<n/\s'.e=(d,v)::s.e):=by
 unfold put at h;split at h
 ·simp at h;subst h;exact⟨rfl,rfl,.inl ⟨rfl,rfl⟩⟩
 ·rename_i d;split at h
  ·rename_i hd;simp at h;subst h;exact⟨rfl,rfl,.inr ⟨d,rfl,hd,rfl⟩⟩
  ·simp at h
theorem Rw{tmps:Array Value}{d:Nat}{rv:Value}(t:Nat)(hd:d<tmps.size):(tmps.setIfInBounds d rv).getD t undef=if t=d then rv else tmps.getD t undef:=by
 simp only[ij,Array.getElem?_setIfInBounds];by_cases h:d=t
 ·subst h;simp[hd]
 ·rw[if_neg h,if_neg (λe=>h e.symm)]
theorem BU{s':S}{n:Nat}{dst:Option Nat}{v:SV}{rv:Value}(h:put s n dst v=some s')(he:Mf g f w s.e a.tmps)(hn:a.tmps.size=n)(hv:qf g f w v rv):Mf g f w s'.e (a.put dst rv).tmps/\(a.put dst rv).tmps.size=n/\(a.put dst rv).defers=a.defers:=by
 obtain⟨_,_,⟨rfl,h3⟩|⟨d,rfl,hd,h3⟩⟩:=EC h
 ·rw[h3];exact⟨he,hn,rfl⟩
 ·rw[h3];refine⟨λt=> ?_,by simp[Act.put,hn],rfl⟩;simp only[Act.put,get];rw[Rw t (by omega)];by_cases ht:t=d
  ·rw[if_pos ht,if_pos ht];exact hv
  ·rw[if_neg ht,if_neg ht];exact he t
theorem AG(g:Gx)(w:World):Cb g w (.Re []) undef:=Cb.Re [] [] rfl λi x v h=>by simp at h
theorem HA{all:Array Oper}{o:Oper}{b:Bool}(h:Bf all s o=some b)(he:Mf g f w s.e a.tmps):Region.wanted o (yielded all a.tmps)=b:=by
 unfold Bf at h;unfold Region.wanted;split at h
 ·rename_i hg;simp at h;subst h;simp[hg]
 ·rename_i j want hg;simp only[hg];split at h
  ·rename_i d hd;split at h
   ·rename_i b' Wd;simp at h;subst h;have:=he d;rw[Wd]at this;have hv:a.tmps.getD d undef= .bool b':=by
     generalize a.tmps.getD d undef=v at this;have wY:Cb g w (.bool b') v:=this;cases wY;rfl
    have h2:a.tmps[d]?=some (.bool b'):=by
     rw[ij]at hv;cases hx:a.tmps[d]? with
     |none=>rw[hx]at hv;simp[undef]at hv
     |some v=>rw[hx]at hv;simp at hv;rw[hv]
    have h3:yielded all a.tmps j=some b':=by simp[yielded,hd,h2]
    rw[h3];cases b'<;>cases want<;>rfl
   ·rename_i Wd;simp at h;subst h;have:=he d;rw[Wd]at this;have hv:a.tmps.getD d undef=undef:=by
     generalize a.tmps.getD d undef=v at this;have wY:Cb g w (.Re []) v:=this;cases wY with
     |Re _ vs hl _=>
      have:vs=[]:=Gb.1 hl;subst this;rfl
    have h3:yielded all a.tmps j=none:=by
     rw[ij]at hv;simp only[yielded,hd,da];cases hx:a.tmps[d]? with
     |none=>rfl
     |some v=>rw[hx]at hv;simp[undef]at hv;rw[hv]
    rw[h3];cases want<;>rfl
   ·simp at h
  ·simp at h
def M8(G:Nat->Option (List AV))(g:Gx)(f:Fx)(w:World)(s s':S)(n:Nat)(a:Act)(K:Act->World->Prop):Prop:=
 ∀g' f' a' w',St G g' f' s' n a' w'->Wg g f w s.H s.F g' f' w' s'.H s'.F->rG w a.defers a'.defers->K a' w'
theorem O7{g':Gx}{f':Fx}{w':World}{s':S}(hw:Jc A.Na g w s.H)(hf:ze g f w s.H s.F)(hx:Wg g f w s.H s.F g' f' w' s'.H s'.F)(he:Mf g f w s.e a.tmps):Mf g' f' w' s.e a.tmps:=
 λt=>(he t).mono (hx.le hw hf) hx.E
theorem Py{F:Fence}{m n:Nat}{all:Array Oper}{Q:Exit->Act->World->Prop}(hC:Ik A call)(hF:sy F):∀(l:List Oper)(i:Nat)(g:Gx)(f:Fx)(s s':S)(a:Act)(w:World),(∀k,l[k]?=all[i+k]?)->ops A call Ca n all l s=some s'->St A.Na g f s n a w->M8 A.Na g f w s s' n a (Q .normal)->
  wpOpsIn F m A.P all Q (List.range' i l.length) a w
 |[],i,g,f,s,s',a,w,_,h,Ec,hk=>by
  simp[ops]at h;subst h;exact hk g f a w Ec (.refl _ _ _ _ _) (.refl _ _)
 |o::l,i,g,f,s,s',a,w,hl,h,Ec,hk=>by
  have ho:all[i]?=some o:=by have:=hl 0;simpa using this.symm
  have Fg:∀k,l[k]?=all[i+1+k]?:=λk=>by have:=hl (k+1);rw[show i+1+k=i+(k+1)by omega,<- this];simp
  simp only[ops,aa]at h;obtain⟨b,hb,h⟩:=h;have ram:=HA hb Ec.he;rw[List.length_cons,List.range'_succ];simp only[wpOpsIn,ho,ram];cases b with
  |true=>
   simp only[aa]at h;obtain⟨⟨v,s1⟩,WG,s2,Dh,h⟩:=h;rw[if_pos rfl];refine rL hC WG Ec.hw Ec.hf Ec.he hF (λt x y ho i c hx=>Ec.hW i (by have:=ef hx Ec.hw Ec.he;exact this.1)) λhse g1 f1 w1 rv OV hf1 aj XX=> ?_
   obtain⟨e1,e2,e3⟩:=EC Dh;have he1:Mf g1 f1 w1 s1.e a.tmps:=by rw[hse];exact O7 Ec.hw Ec.hf aj Ec.he
   obtain⟨p1,p2,p3⟩:=BU Dh he1 Ec.hn XX;refine Py hC hF l (i+1) g1 f1 s2 s' (a.put o.dst rv) w1 Fg h ⟨by rw[e2];exact OV,by rw[e1,e2];exact hf1,p1,p2,by rw[p3];exact Ec.hm.step Ec.hw Ec.hf aj,aj.tak Ec.hW⟩ λg' f' a' w' h1 h2 h3=>hk g' f' a' w' h1 ?_ (rG.trans aj.size (by rw[p3];exact .refl _ _) h3)
   rw[e1,e2]at h2;exact aj.trans h2
  |false=>
   simp only[aa]at h;obtain⟨s1,Dh,h⟩:=h;rw[if_neg (by simp)];refine⟨λf _=>hF.fn f,?_⟩;obtain⟨e1,e2,e3⟩:=EC Dh;obtain⟨p1,p2,p3⟩:=BU (rv:=undef) Dh Ec.he Ec.hn (AG g w);refine Py hC hF l (i+1) g f s1 s' (a.put o.dst undef) w Fg h ⟨by rw[e2];exact Ec.hw,by rw[e1,e2];exact Ec.hf,p1,p2,by rw[p3];exact Ec.hm,Ec.hW⟩ λg' f' a' w' h1 h2 h3=>hk g' f' a' w' h1 (by rw[e1,e2]at h2;exact h2) (by rw[p3]at h3;exact h3)
theorem kI{F:Fence}{m n id:Nat}{all:Array Oper}{s':S}{Q:Exit->Act->World->Prop}(hC:Ik A call)(hF:sy F)(h:region A call Ca n all false s=some s')(Ec:St A.Na g f s n a w)(hk:M8 A.Na g f w s s' n a (Q .normal)):
  (Code.region id all false).wpIn F m A.P Q a w:=by
 refine wpIn_region ?_;have hs:mb all.size=List.range' 0 all.toList.length:=by simp[List.range_eq_range']
 rw[hs];exact Py hC hF all.toList 0 g f s s' a w (λk=>by simp) (by simpa[region]using h) Ec hk
end
end Go.V
namespace Go.V
open Go
variable [Inhabited Rn]
def Ex.N7:Ex->Exit
 | .normal=> .normal
 | .exit id=> .exit id
 | .ret=> .ret
def Km(A:Oi):Prop:=
 ∀(call:Callee)(Ca:List Nat),Ik A call->Nd call->∀(F:Fence)(m n id:Nat)(all:Array Oper)(g:Gx)(f:Fx)(s s':S)(a:Act)(w:World)(Q:Exit->Act->World->Prop),sy F->
  region A call Ca n all true s=some s'->St A.Na g f s n a w->M8 A.Na g f w s s' n a (Q .normal)->(Code.region id all true).wpIn F m A.P Q a w
section
variable {A:Oi}{call:Callee}{Ca keep:List Nat}
theorem jW(keep:List Nat)(e:List (Nat×SV))(t:Nat):get (keep.map λi=>(i,get e i)) t=get e t\/get (keep.map λi=>(i,get e i)) t= .v .Dc:=by
 induction keep with
 |nil=>exact .inr rfl
 |cons k ks ih=>
  simp only[He,get];by_cases h:t=k
  ·rw[if_pos h,h];exact .inl rfl
  ·rw[if_neg h];exact ih
theorem St.clean{g:Gx}{f:Fx}{s:S}{n:Nat}{a:Act}{w:World}(h:St A.Na g f s n a w):St A.Na g f (clean keep s) n a w:=
 ⟨h.hw,h.hf,λt=>by
  rcases jW keep s.e t with h1|h1
  ·show qf g f w (get (keep.map λi=>(i,get s.e i)) t) _;rw[h1];exact h.he t
  ·show qf g f w (get (keep.map λi=>(i,get s.e i)) t) _;rw[h1];exact Cb.Dc _,h.hn,h.hm,h.hW⟩
def vy(A:Oi):Prop:=∀f fn,A.fns f=some fn->A.P.funcs[f]?=some fn/\(fn.name== "runtime.NumGoroutine")=false
theorem qp(FB:vy A){f:FuncId}{fn:Func}(h:A.fns f=some fn)(hb:fn.body.isSome=true)(args:Array Value)(w:World):(callFunc f args).run A.P w= .ok (.enter f args) w:=by
 obtain⟨h1,h2⟩:=FB f fn h;have hn:fn.body.isNone=false:=by cases hx:fn.body<;>simp_all
 unfold callFunc;simp only[program,Sem.run_bind,Sem.run,h1,Result.andThen,h2,hn];rfl
theorem Ls(FB:vy A){f:FuncId}{fn:Func}(h:A.fns f=some fn)(hb:fn.body.isSome=true)(vs args:Array Value)(w:World):
  ((do let d <- Deferred.ofValue (.func (.func f) #[] vs) args;invoke d.target d.args:Sem Next).run A.P w)= .ok (.enter f (args++vs)) w:=by
 simp[Deferred.ofValue,invoke,go_sem,qp FB h hb]
theorem bH{e:List (Nat×SV)}:∀{is:List Nat}{env:List (Nat×AV)},gB e is=some env->∀t,get (kf env) t=get e t\/get (kf env) t= .v .Dc
 |[],env,h,t=>by simp[gB]at h;subst h;exact .inr rfl
 |i::is,env,h,t=>by
  simp only[gB,aa,ja]at h;obtain⟨a,ha,l,hl,rfl⟩:=h;simp only[kf,get];split
  ·rename_i e0;subst e0;split at ha
   ·rename_i b hb;simp at ha;subst ha;left;rw[hb]
   ·simp at ha;subst ha;exact .inr rfl
  ·exact bH hl t
theorem Marks.lt{g:Gx}{w:World}:∀{ds:List Deferred},Marks g w ds->∀d∈ds,∃r,d.target= .collected r/\r<w.heap.size
 |[],_,d,h=>by simp at h
 |d0::ds,⟨⟨r,h1,h2,h3,h4⟩,hm⟩,d,h=>by
  rcases me.1 h with rfl|h
  ·exact⟨r,h1,Za h2⟩
  ·exact hm.lt d h
theorem HV{p:Option Code}{ex:Ex}(h:EI p=some ex):p=ex.jump:=by
 unfold EI at h;split at h<;>simp at h<;>subst h<;>rfl
theorem KN{P:Program}{F:Fence}{m:Nat}{Q:Exit->Act->World->Prop}{a:Act}{w:World}{c:Code}(h:c.wpIn F m P (Exit.noGoto Q) a w):(Code.scope c).wpIn F m P Q a w:=by
 intro b k cs hro hb hr;have h0:(lone (b.atR a (.code (.scope c)::k)) cs w).fenced P F:=fenced_calm hb hr rfl;have s1:∀{a:Act}{k:List Item}{w:World},step P (lone (b.atR a (.code (.scope c)::k)) cs w)= .next (lone (b.atR a (.code c:: .inScope c::k)) cs w):=step_lone_go (by simp[stepG,stepG.exec,Frame.atR])
 have s2:∀{a:Act}{k:List Item}{w:World},step P (lone (b.atR a (.inScope c::k)) cs w)= .next (lone (b.atR a k) cs w):=step_lone_go (by simp[stepG,stepG.exec,Frame.atR])
 obtain⟨e,B8,qY,hq,fW⟩:=h b (.inScope c::k) cs hro hb hr;cases e with
 |normal=>exact⟨.normal,B8,qY,hq,.head h0 s1 (StepsIn.trans fW (.one (fenced_calm hb hr rfl) s2))⟩
 |exit CF=>
  have hx:exitTo CF (.inScope c::k)=exitTo CF k:=by simp[exitTo]
  exact⟨.exit CF,B8,qY,hq,λk' hk=> .head h0 s1 (fW.1 k' (by rw[hx];exact hk)),
   λbj hk=>let⟨k₁,h1,h2⟩:=fW.2 bj (by rw[hx];exact hk);⟨k₁,h1,.head h0 s1 h2⟩⟩
 |goto l=>exact hq.elim
 |ret=>exact⟨_,B8,qY,hq,.of_steps (.one h0 s1) fW⟩
 |panic ch=>exact⟨_,B8,qY,hq,.of_steps (.one h0 s1) fW⟩
 |outgrown=>exact⟨_,B8,qY,hq,.of_steps (.one h0 s1) fW⟩
theorem Ev(FB:vy A)(hC:Ik A call)(hCq:Nd call)(hD:Km A){rf:Bool}{F:Fence}(hF:sy F)(hro:rf=true->F.round=none){m n:Nat}:∀(c:Code)(g:Gx)(f:Fx)(s s':S)(ex:Ex)(a:Act)(w:World)(Q:Exit->Act->World->Prop),code A call rf Ca keep n c s=some (ex,s')->St A.Na g f s n a w->M8 A.Na g f w s s' n a (Q ex.N7)->
  c.wpIn F m A.P Q a w:=by
 intro c;induction c with
 |skip=>
  intro g f s s' ex a w Q h Ec hk;simp[code]at h;obtain⟨rfl,rfl⟩:=h;exact wpIn_skip (hk g f a w Ec (.refl _ _ _ _ _) (.refl _ _))
 |label l=>
  intro g f s s' ex a w Q h Ec hk;simp[code]at h;obtain⟨rfl,rfl⟩:=h;exact wpIn_label (hk g f a w Ec (.refl _ _ _ _ _) (.refl _ _))
 |region id os draw=>
  intro g f s s' ex a w Q h Ec hk;simp only[code,ja]at h;obtain⟨s1,h1,h⟩:=h;simp at h;obtain⟨rfl,rfl⟩:=h;cases draw with
  |true=>exact hD call Ca hC hCq F m n id os g f s s1 a w Q hF h1 Ec hk
  |false=>exact kI hC hF h1 Ec hk
 |seq x y d_ ihy=>
  intro g f s s' ex a w Q h Ec hk;simp only[code,aa]at h;obtain⟨⟨e1,s1⟩,h1,h⟩:=h;refine wpIn_seq (d_ g f s s1 e1 a w _ h1 Ec ?_);intro g1 f1 a1 w1 Sg aj FN;cases e1 with
  |normal=>exact ihy g1 f1 s1 s' ex a1 w1 Q h Sg λg2 f2 a2 w2 h2 jr hd2=>hk g2 f2 a2 w2 h2 (aj.trans jr) (rG.trans aj.size FN hd2)
  |exit id=>simp at h;obtain⟨rfl,rfl⟩:=h;exact hk g1 f1 a1 w1 Sg aj FN
  |ret=>simp at h;obtain⟨rfl,rfl⟩:=h;exact hk g1 f1 a1 w1 Sg aj FN
 |cond c x y d_ ihy=>
  intro g f s s' ex a w Q h Ec hk;simp only[code,aa]at h;obtain⟨cv,YZ,h⟩:=h;have hc:=Fc YZ Ec.hw Ec.he;split at h
  ·rename_i b;generalize DB:a.eval c=v at hc;cases hc;refine wpIn_cond DB ?_;cases b with
   |true=>exact d_ g f s s' ex a w Q (by simpa using h) Ec hk
   |false=>exact ihy g f s s' ex a w Q (by simpa using h) Ec hk
  ·simp at h
 |block id c ih=>
  intro g f s s' ex a w Q h Ec hk;simp only[code,aa]at h;obtain⟨⟨e1,s1⟩,h1,h⟩:=h;refine wpIn_block (ih g f s s1 e1 a w _ h1 Ec ?_);intro g1 f1 a1 w1 Sg aj FN;cases e1 with
  |normal=>simp at h;obtain⟨rfl,rfl⟩:=h;exact hk g1 f1 a1 w1 Sg aj FN
  |ret=>simp at h;obtain⟨rfl,rfl⟩:=h;exact hk g1 f1 a1 w1 Sg aj FN
  |exit CF=>
   simp only at h;simp only[Ex.N7,Exit.inBlock];split at h
   ·rename_i e;rw[if_pos e];simp at h;obtain⟨rfl,rfl⟩:=h;exact hk g1 f1 a1 w1 Sg aj FN
   ·rename_i e;rw[if_neg e];simp at h;obtain⟨rfl,rfl⟩:=h;exact hk g1 f1 a1 w1 Sg aj FN
 |loop c ih=>
  intro g f s s' ex a w Q h Ec hk;simp only[code]at h;refine wpIn_loop_rounds qo ?_;generalize qo=k at h ⊢;have key:∀(k:Nat)(g1:Gx)(f1:Fx)(s1:S)(a1:Act)(w1:World),su (λs=>code A call rf Ca keep n c (clean keep s)) k s1=some (ex,s')->St A.Na g1 f1 s1 n a1 w1->M8 A.Na g1 f1 w1 s1 s' n a1 (Q ex.N7)->Code.roundsIn F m A.P c Q k a1 w1:=by
   intro k;induction k with
   |zero=>intro g1 f1 s1 a1 w1 h;simp[su]at h
   |succ k ihk=>
    intro g1 f1 s1 a1 w1 h Sg b9;simp only[su,aa]at h;obtain⟨⟨e2,s2⟩,h2,h⟩:=h;rw[roundsIn_succ];refine ih g1 f1 (clean keep s1) s2 e2 a1 w1 _ h2 Sg.clean ?_;intro g2 f2 a2 w2 wB jr hd2;cases e2 with
    |normal=>exact ihk g2 f2 s2 a2 w2 h wB λg3 f3 a3 w3 h3 hx3 hd3=>b9 g3 f3 a3 w3 h3 (jr.trans hx3) (rG.trans jr.size hd2 hd3)
    |exit id=>simp at h;obtain⟨rfl,rfl⟩:=h;exact b9 g2 f2 a2 w2 wB jr hd2
    |ret=>simp at h;obtain⟨rfl,rfl⟩:=h;exact b9 g2 f2 a2 w2 wB jr hd2
  exact key k g f s a w h Ec hk
 |exit id=>
  intro g f s s' ex a w Q h Ec hk;simp[code]at h;obtain⟨rfl,rfl⟩:=h;exact wpIn_exit (hk g f a w Ec (.refl _ _ _ _ _) (.refl _ _))
 |ret=>
  intro g f s s' ex a w Q h Ec hk;simp[code]at h;obtain⟨rfl,rfl⟩:=h;exact wpIn_ret (hk g f a w Ec (.refl _ _ _ _ _) (.refl _ _))
 |rangeFunc fx ps assign body=>
  intro g f s s' ex a w Q h Ec hk;simp only[code]at h;split at h
  case isFalse=>simp at h
  case isTrue EO=>
  simp only[aa]at h;obtain⟨fv,cW,env,Tar,_,BB,⟨r,H2⟩,Hg,h⟩:=h;have cG:=Fc cW Ec.hw Ec.he;split at BB
  case h_2=>simp at BB
  rename_i ff Lh;split at BB
  case h_2=>simp at BB
  rename_i fn pan;split at BB
  case isFalse=>simp at BB
  rename_i FA;split at h
  case h_2=>simp at h
  rename_i n2 WR pK ps2 lC IU st xq Dy;simp only[aa]at h;obtain⟨_,yan,h⟩:=h;split at h
  case isFalse=>simp at h
  rename_i Th;simp only[ja]at h;obtain⟨oK,han,h⟩:=h;simp at h;obtain⟨rfl,rfl⟩:=h;obtain⟨vs,hev,PV,hvr⟩:∃vs:List Value,a.eval fx= .func (.func ff) #[] vs.toArray/\vs.length=Lh.length/\∀(i:Nat)(x:AV)(v:Value),Lh[i]?=some x->vs[i]?=some v->Cb g w x v:=by
   generalize a.eval fx=v at cG;cases cG with
   |fn _ _ vs hl hr=>exact⟨vs,rfl,hl,hr⟩
  refine wpIn_rangeFunc ?_;intro fn0 _;rw[hro EO];obtain⟨wa,hwa⟩:∃wa,wa=w.alloc (.deferred (some [])):=⟨_,rfl⟩;obtain⟨rec,Lw⟩:∃ rec:Loop,rec={ state:= .ready,pending:=none,fn:=fn0,tmps:=a.tmps,params:=ps,assign,body,defers:=w.heap.size }:=⟨_,rfl⟩;obtain⟨w1,OV⟩:∃w1,w1=wa.alloc (.loop rec):=⟨_,rfl⟩;have hsa:wa.heap.size=w.heap.size+1:=by rw[hwa];simp
  have AZ:w1.heap.size=w.heap.size+2:=by rw[OV];simp[hsa]
  have hoa:∀R,R<w.heap.size->wa.heap[R]?=w.heap[R]?:=λR hR=>by rw[hwa];show(w.heap.push _)[R]?=_;simp[Array.getElem?_push,Nat.ne_of_lt hR]
  have ho1:∀R,R<wa.heap.size->w1.heap[R]?=wa.heap[R]?:=λR hR=>by rw[OV];show(wa.heap.push _)[R]?=_;simp[Array.getElem?_push,Nat.ne_of_lt hR]
  have nS:w1.heap[w.heap.size+1]?=some (.loop rec):=by rw[OV,<- hsa];exact World.alloc_heap_new _ _
  have FN:wa.heap[w.heap.size]?=some (.deferred (some [])):=by rw[hwa];exact World.alloc_heap_new _ _
  obtain⟨pa,pb,pc⟩:=Ru (OB:=by subst hwa;exact⟨rfl,rfl⟩) Ec.hw Ec.hf (by omega) hoa;obtain⟨qa,qb,qc⟩:=Vs (x:= .loop n keep env ps.toList assign body .ready none) (l:=⟨w.heap.size+1,0,0,0⟩) pa pb (w':=w1) (OB:=by subst OV;exact⟨rfl,rfl⟩) (by omega) (by rw[hsa]) (by omega) ho1 (λhle=>by
   refine⟨rec,nS,λhz=> ?_,by rw[Lw],by rw[Lw],by rw[Lw],by rw[Lw],by rw[Lw],by rw[Lw];exact Ec.hn,λt x hx=> ?_⟩
   ·have:=Ec.hw.O8 hz;simp at this;omega
   ·rcases bH Tar t with h1|h1
    ·rw[h1]at hx;have:=Ec.he t;rw[hx]at this;rw[Lw];exact(Cb.mono (pc.le Ec.hw Ec.hf) this).mono hle
    ·rw[h1]at hx;simp at hx;subst hx;exact .Dc _)
  have hlen:((g.add s.H.bl.length ⟨w.heap.size+1,0,0,0⟩).ρ s.H.bl.length).R=w.heap.size+1:=by rw[Ng]
  have hDb:(g.add s.H.bl.length ⟨w.heap.size+1,0,0,0⟩).D s.H.bl.length:= .inr rfl;have AO:Cb (g.add s.H.bl.length ⟨w.heap.size+1,0,0,0⟩) w1 (.yl s.H.bl.length) (.func (.yield (w.heap.size+1)) #[] #[]):=by have:=Cb.yl (w:=w1) _ hDb;rw[hlen]at this;exact this
  have Vaf:=(pc.trans qc).le Ec.hw Ec.hf;have Mar:Cb (g.add s.H.bl.length ⟨w.heap.size+1,0,0,0⟩) w1 (.fn ff Lh) (.func (.func ff) #[] vs.toArray):= .fn ff Lh vs PV λi x v hx hv=>(hvr i x v hx hv).mono Vaf
  refine⟨w.heap.size+1,[{ target:= .collected w.heap.size,args:= #[] }],w1,{ target:= .fn (.func ff) vs.toArray,args:= #[.func (.yield (w.heap.size+1)) #[] #[]] },w1,ff,
   #[.func (.yield (w.heap.size+1)) #[] #[]]++vs.toArray,w1,?_,?_,λf' _=>hF.fn f',?_,λhd=>by rw[hF.depth]at hd;simp at hd,?_⟩
  ·rw[OV,hwa,Lw];exact run_enterLoop_outer _ _ _ _ _
  ·simp only[resolve,hev];simp[Deferred.ofValue,go_sem]
  ·simp[invoke,go_sem,qp FB pan FA]
  ·have Mw:=hC (.fn ff Lh) [.yl s.H.bl.length] _ _ _ Hg _ w1 _ [.func (.yield (w.heap.size+1)) #[] #[]] qa Mar rfl (λi x v hx hv=>by
    cases i with
    |zero=>simp at hx hv;subst hx;subst hv;exact AO
    |succ i=>simp at hx) F m { (default:Oper)with dst:=none } { a with defers:=[{ target:= .collected w.heap.size,args:= #[] }]++a.defers }
    (λ_ w3=>∃jump w4,(Instr.endLoop (w.heap.size+1)).run A.P w3= .ok jump w4/\(match jump with|none=>Q .normal { a with defers:=[{ target:= .collected w.heap.size,args:= #[] }]++a.defers } w4|some c=>c.wpIn F m A.P Q { a with defers:=[{ target:= .collected w.heap.size,args:= #[] }]++a.defers } w4)) Q hF (λg2 w2 rv hrv CO jr=> ?_)
   ·rw[Ls FB pan FA]at Mw;simp only[Oper.uponIn]at Mw;refine CallsIn.mono Mw.2 λe w3 he=> ?_
    cases e with
    |returned v=>exact he
    |panicked chain=>exact he
    |outgrown=>exact he
   ·obtain⟨hf2,man⟩:=DH qa qb jr;have hD2:=jr.D _ hDb;have LK:(g2.ρ s.H.bl.length).R=w.heap.size+1:=by rw[hD2.2];exact hlen
    obtain⟨r2,Eo,zO,wB,Ham,_⟩:=CO.Kf _ _ hD2.1 Dy;rw[LK]at Eo;have hnb:r2.state≠ .busy:=by rw[wB];intro e;subst e;simp at yan
    have Taf:live g2 H2 s.H.bl.length:=⟨hD2.1,_,Dy,rfl⟩;refine⟨r2.pending,_,run_endLoop Eo hnb,?_⟩;obtain⟨ra,rb,rc⟩:=Of (x:= .dead) (w':=w2.putObj (w.heap.size+1) (.loop { r2 with state:= .exhausted })) CO hf2 Taf Th (by simp) (λR hR=>World.putObj_heap_other (by rw[LK]at hR;exact hR)) (λ_=>trivial);have t_:=((pc.trans qc).trans man).trans rc;have hmk:Marks g wa ({ target:= .collected w.heap.size,args:= #[] }::a.defers):=by
     refine⟨⟨w.heap.size,rfl,FN,λhz=> ?_,λd' gY e=> ?_⟩,Ec.hm.step Ec.hw Ec.hf pc⟩
     ·have:=Ec.hw.O8 hz;omega
     ·obtain⟨r',e1,e2⟩:=Ec.hm.lt d' gY;rw[e]at e1;injection e1 with e1;omega
    have q_:=hk g2 f { a with defers:=[{ target:= .collected w.heap.size,args:= #[] }]++a.defers } (w2.putObj (w.heap.size+1) (.loop { r2 with state:= .exhausted }))
     ⟨ra,rb,λt=>(Ec.he t).mono (t_.le Ec.hw Ec.hf) t_.E,Ec.hn,((hmk.step pa pb qc).step qa qb man).step CO hf2 rc,t_.tak Ec.hW⟩ t_ (λd hd=>by
      rcases me.1 hd with rfl|hd
      ·exact .inr ⟨_,rfl,ya _⟩
      ·exact .inl hd)
    have hj:=HV han;have hpj:=Ham.trans hj;rw[hpj]at q_ ⊢;cases oK with
    |normal=>exact q_
    |exit id=>exact wpIn_exit q_
    |ret=>exact wpIn_ret q_
 |scope c ih=>
  intro g f s s' ex a w Q h Ec hk;simp only[code]at h;refine KN (ih g f s s' ex a w _ h Ec ?_);intro g1 f1 a1 w1 Sg aj FN;have:=hk g1 f1 a1 w1 Sg aj FN;cases ex<;>exact this
 |goto=>intro g f s s' ex a w Q h;simp[code]at h
 |refuse=>intro g f s s' ex a w Q h;simp[code]at h
end
end Go.V
namespace Go.V
open Go
variable [Inhabited Rn]
section
variable {A:Oi}{g g':Gx}{w w':World}
theorem pL{f:Fx}{H:AH}{F:List (List AV)}{r:Nat}(hw:Jc A.Na g w H)(hf:ze g f w H F)(Nj:w'.heap.size=w.heap.size)(Ae:∀R,R≠r->w'.heap[R]?=w.heap[R]?)
  (h1:¬Fp g H r) (h2:¬g.Z r) (h3:∀i,f.E i->f.φ i≠r):Jc A.Na g w' H/\ze g f w' H F/\g.Le w g w':=by
 have hle:g.Le w g w':=⟨λb hb=>⟨hb,rfl⟩,λR h=>⟨h,Ae R (λe=>h2 (e ▸ h))⟩⟩;refine⟨⟨λi row hg=>(hw.Na i row hg).mono hle,hw.Ff,λb y hd hy=>(hw.Kf b y hd hy).le hle (λhl=>Ae _ (λe=>h1 ⟨b,⟨hd,y,hy,hl⟩,e⟩)) (λhl=>hw.Dn ⟨hd,y,hy,hl⟩),hw.inj,λR h=>(hw.yF R h).le hle h⟩,⟨hf.Ff,λi row hi hr=> ?_,hf.inj,hf.apart⟩,hle⟩;obtain⟨cs,⟨T,fz,Ey,h4⟩,h5⟩:=hf.Kf i row hi hr;exact⟨cs,⟨T,fz,by rw[Ae _ (h3 i hi)];exact Ey,h4⟩,h5.mono hle⟩
theorem Gw{f:Fx}{H:AH}{F0:List (List AV)}{F:Fence}{n base:Nat}{fn:Func}{tmps:Array Value}{R:Ending->World->Prop}:∀(ds:List Deferred)(w:World),Jc A.Na g w H->ze g f w H F0->Marks g w ds->
  (∀d∈ds,∃r,d.target= .collected r/\base<=r)->
  (∀w',Jc A.Na g w' H->ze g f w' H F0->g.Le w g w'->w'.heap.size=w.heap.size->(∀R,R<base->w'.heap[R]?=w.heap[R]?)->(w'.os=w.os/\w'.output=w.output)->LeavesIn F n A.P fn tmps R [] .returning w')->
  LeavesInM F n A.P fn tmps R ds .returning w
 |[],w,hw,hf,_,_,hk=>hk w hw hf ⟨λ_ h=>⟨h,rfl⟩,λ_ h=>⟨h,rfl⟩⟩ rfl (λ_ _=>rfl) ⟨rfl,rfl⟩
 |d::ds,w,hw,hf,⟨⟨r,h1,h2,h3,h4⟩,hm⟩,hb,hk=>by
  obtain⟨r',e1,hbr⟩:=hb d (by simp);rw[h1]at e1;injection e1 with e1;subst e1
  have Ae:∀R,R≠r->(w.putObj r (.deferred none)).heap[R]?=w.heap[R]?:=λR hR=>World.putObj_heap_other hR
  obtain⟨a1,a2,a3⟩:=pL (w':=w.putObj r (.deferred none)) hw hf (by simp) Ae (hw.Rs h2) h3 (λi hi=>hf.Rs h2 hi);refine⟨by simp,.inl ⟨r,_,h1,run_takeDeferred h2,?_⟩⟩;have dz:∀{ds:List Deferred},Marks g w ds->(∀d'∈ds,d'.target≠ .collected r)->Marks g (w.putObj r (.deferred none)) ds:=by
   intro ds;induction ds with
   |nil=>intro _ _;trivial
   |cons d ds ih=>
    rintro⟨⟨q,k1,k2,k3,k4⟩,hm⟩ td
    exact⟨⟨q,k1,by rw[Ae q (λe=>td d (by simp) (e ▸ k1))];exact k2,k3,k4⟩,ih hm λd' gY=>td d' (Rb _ gY)⟩
  refine Gw ds _ a1 a2 (dz hm h4) (λd hd=>hb d (Rb _ hd)) λw' k1 k2 k3 k4 k5 k6=>hk w' k1 k2 ⟨λb hb=>⟨hb,rfl⟩,λR hR=>⟨hR,((k3.Z R hR).2).trans (a3.Z R hR).2⟩⟩ (k4.trans (by simp)) (λR hR=>(k5 R hR).trans (Ae R (by omega))) ⟨k6.1,k6.2⟩
def DC(tmps:Array Value):ResultVar->Sem Value
 | .tmp t=>pure (tmps.getD t undef)
 | .cell a t=>do loadVar t (<- asAddr (tmps.getD a undef))
theorem yC(tmps:Array Value)(t:Tmp)(P:Program):(DC tmps (.tmp t)).run P w= .ok (tmps.getD t undef) w:=rfl
theorem nB{tmps:Array Value}{p:Tmp}{t:TypeId}{P:Program}{ad:Addr}{v:Value}(h:tmps.getD p undef= .pointer (some ad))(hv:(loadVar t ad).run P w= .ok v w):(DC tmps (.cell p t)).run P w= .ok v w:=by
 unfold DC;simp only[h,asAddr,Sem.run_bind,Sem.run_pure,Result.andThen_ok,hv]
theorem xp{f:Fx}{s:S}{tmps:Array Value}(hw:Jc A.Na g w s.H)(hf:ze g f w s.H s.F)(he:Mf g f w s.e tmps):∀(rs:List ResultVar)(l:List AV),results A s rs=some l->
  ∃vs:List Value,(rs.mapM (DC tmps)).run A.P w= .ok vs w/\VL g w l vs
 |[],l,h=>by simp[results]at h;subst h;exact⟨[],rfl,trivial⟩
 | .tmp t::rs,l,h=>by
  simp only[results,aa]at h;obtain⟨a,ha,l',hl,h⟩:=h;simp at h;subst h;obtain⟨vs,h1,h2⟩:=xp hw hf he rs l' hl;have ht:=he t;split at ha
  ·rename_i b hb;simp at ha;subst ha;rw[hb]at ht;exact⟨tmps.getD t undef::vs,by simp only[List.mapM_cons,Sem.run_bind,yC,Sem.run_pure,Result.andThen_ok,h1],ht,h2⟩
  ·simp at ha
 | .cell p t::rs,l,h=>by
  simp only[results,aa]at h;obtain⟨a,ha,l',hl,h⟩:=h;simp at h;subst h;obtain⟨vs,h1,h2⟩:=xp hw hf he rs l' hl;obtain⟨ad,v,hp,hv,hr⟩:=DL ha hw hf (he p);exact⟨v::vs,by simp only[List.mapM_cons,Sem.run_bind,nB hp hv,Sem.run_pure,Result.andThen_ok,h1],hr,h2⟩
theorem UF{f:Fx}{s:S}{fn:Func}{tmps:Array Value}{l:List AV}(hw:Jc A.Na g w s.H)(hf:ze g f w s.H s.F)(he:Mf g f w s.e tmps)(h:results A s fn.results.toList=some l):
  ∃v,(Go.results fn tmps).run A.P w= .ok v w/\Cb g w (result l) v:=by
 obtain⟨vs,h1,h2⟩:=xp hw hf he _ _ h;refine⟨if h:vs.toArray.size=1 then vs.toArray[0]else .tuple vs.toArray,?_,?_⟩
 ·have e:Go.results fn tmps=(do let vs <- fn.results.mapM (DC tmps);pure (if h:vs.size=1 then vs[0]else .tuple vs)):=by
   unfold Go.results;congr 2
  rw[e,Sem.run_bind,Array.mapM_eq_mapM_toList,Sem.run_map,h1];rfl
 ·match l,vs,h2 with
  |[],[],_=>exact .Re [] [] rfl (λi x v h=>by simp at h)
  |[a],[v],h2=>exact h2.1
  |a::b::l,u::v::vs,h2=>
   obtain⟨k1,k2⟩:=Ok.1 h2;have:¬(u::v::vs).toArray.size=1:=by simp
   rw[dif_neg this];exact .Re _ _ k1 k2
def BN(A:Oi):Prop:=
 ∀f h,A.ext f=some h->∀args H r H',h args H=some (r,H')->∀(g:Gx)(w:World)(vs:List Value),Jc A.Na g w H->VL g w args vs->
  ∀(F:Fence)(n:Nat)(o:Oper)(a:Act)(next:Act->World->Prop)(Q:Exit->Act->World->Prop),sy F->
   (∀g' w' rv,Cb g' w' r rv->Jc A.Na g' w' H'->Ext g w H g' w' H'->next (a.put o.dst rv) w')->Oper.uponIn F n A.P o a next Q ((callFunc f vs.toArray).run A.P w)
theorem Wg.ext{f f':Fx}{H H':AH}{F F':List (List AV)}(h:Wg g f w H F g' f' w' H' F')(hE:∀i,¬f.E i):Ext g w H g' w' H':=
 ⟨h.D,h.KB,h.Z,h.Xr,h.fp,λR h1 h2=>h.Al R h1 h2 (λi hi=>absurd hi (hE i)),h.size,h.len,h.wm,h.quiet,h.still,h.io⟩
theorem VL.append:∀{xs ys:List AV}{us vs:List Value},VL g w xs us->VL g w ys vs->VL g w (xs++ys) (us++vs)
 |[],_,[],_,_,h=>h
 |_::_,_,_::_,_,⟨h1,h2⟩,h=>⟨h1,h2.append h⟩
 |[],_,_::_,_,h,_=>h.elim
 |_::_,_,[],_,h,_=>h.elim
theorem lD:∀(l:List AV)(i t:Nat),get (Uh l i) t=if t<i then .v .Dc else match l[t-i]? with|some a=> .v a|none=> .v .Dc
 |[],i,t=>by simp[Uh,get]
 |a::l,i,t=>by
  simp only[Uh,get];split
  ·rename_i e;subst e;simp
  ·rename_i td;rw[lD l (i+1) t];by_cases h1:t<i
   ·rw[if_pos (by omega),if_pos h1]
   ·rw[if_neg (by omega),if_neg h1];rw[show t-i=(t-(i+1))+1 by omega,Zi]
theorem P7{f:Fx}{l:List AV}{vs:List Value}{n:Nat}(h:VL g w l vs):Mf g f w (Uh l 0) (vs.toArray++Array.replicate n undef):=by
 intro t;obtain⟨h1,h2⟩:=Ok.1 h;rw[lD,if_neg (by omega),Nat.sub_zero];cases hl:l[t]? with
 |none=>exact .Dc _
 |some a=>
  have Mc:t<vs.length:=by have:=getElem?_lt' hl;omega
  have hv:vs[t]?=some vs[t]:=Da Mc;have:(vs.toArray++Array.replicate n undef).getD t undef=vs[t]:=by
   rw[ij,Qv (by simpa using Mc)];simp[hv]
  rw[this];exact h2 t a _ hl hv
theorem ZE{f:Fx}:∀(ps:List Nat)(as:List AV)(vs:List Value)(e:List (Nat×SV))(tmps:Array Value),VL g w as vs->(∀p∈ps,p<tmps.size)->Mf g f w e tmps->
  Mf g f w (Sj ps as e) ((ps.zip vs).foldl (λtmps(t,a)=>tmps.setIfInBounds t a) tmps)/\((ps.zip vs).foldl (λtmps(t,a)=>tmps.setIfInBounds t a) tmps).size=tmps.size
 |[],_,_,e,tmps,_,_,he=>by simp[Sj];exact he
 |p::ps,[],[],e,tmps,_,_,he=>by simp[Sj];exact he
 |p::ps,a::as,v::vs,e,tmps,⟨h1,h2⟩,hp,he=>by
  simp only[Sj,List.zip_cons_cons,List.foldl_cons];have w_:Mf g f w ((p,.v a)::e) (tmps.setIfInBounds p v):=λt=>by
   rw[Rw t (hp p (by simp))];simp only[get];split
   ·exact h1
   ·exact he t
  obtain⟨q1,q2⟩:=ZE ps as vs _ _ h2 (λq hq=>by simpa using hp q (Rb _ hq)) w_;exact⟨q1,by rw[q2];simp⟩
 |_::_,[],_::_,_,_,h,_,_=>h.elim
 |_::_,_::_,[],_,_,h,_,_=>h.elim
def qu:Fx:=⟨λ_=>False,λ_=>0,λ_=>True⟩
theorem fm{H:AH}:ze g qu w H []:=⟨λ_ h=>h.elim,λ_ _ h=>h.elim,λ_ _ h=>h.elim,λ_ h=>h.elim⟩
theorem Im(FB:vy A)(hE:BN A)(MK:Wo A)(hD:Km A):∀k,Ik A (call A k)
 |0=>λfv args H r H' h=>by simp[call]at h
 |k+1=>λfv args H r H' h g w N0 vs hw cW hlen jM F n o a next Q hF hk=>by
  have hVL:VL g w args vs:=Ok.2 ⟨hlen.symm,jM⟩;cases fv
  case fn f Lh=>
   obtain⟨cv,rfl,eW,hcr⟩:∃cv:List Value,N0= .func (.func f) #[] cv.toArray/\cv.length=Lh.length/\∀(i:Nat)(x:AV)(v:Value),Lh[i]?=some x->cv[i]?=some v->Cb g w x v:=by
    cases cW with
    |fn _ _ vs hl hr=>exact⟨vs,rfl,hl,hr⟩
   have xag:VL g w (args++Lh) (vs++cv):=hVL.append (Ok.2 ⟨eW,hcr⟩);simp only[call]at h;split at h
   ·rename_i e he;have:=hE f e he _ _ _ _ h g w _ hw xag F n o a next Q hF hk
    have ue:((do let d <- Deferred.ofValue (.func (.func f) #[] cv.toArray) vs.toArray;invoke d.target d.args:Sem Next).run A.P w)=(callFunc f (vs++cv).toArray).run A.P w:=by
     simp[Deferred.ofValue,invoke,go_sem]
    rw[ue];exact this
   ·rename_i he;split at h
    case h_1=>simp at h
    rename_i fn BB;split at h
    case h_1=>simp at h
    rename_i c FA;split at h
    case isFalse=>simp at h
    rename_i hnt;simp only[aa]at h;obtain⟨⟨ex,s1⟩,zk,h⟩:=h;rw[Ls FB BB (by rw[FA];rfl)];simp only[Oper.uponIn];refine⟨λhd=>by rw[hF.depth]at hd;simp at hd,?_⟩;have hFp:sy F.plain:=⟨hF.fn,hF.depth,hF.alive⟩;have sag:vs.toArray++cv.toArray=(vs++cv).toArray:=by simp
    rw[sag];have eg:((vs++cv).toArray++Array.replicate (fn.ntmps-(vs++cv).toArray.size) undef).size=fn.ntmps:=by
     have:=(Ok.1 xag).1;simp at this hnt ⊢;omega
    have Mw:∀R:Ending->World->Prop,(∀v w'',next (a.put o.dst v) w''->R (.returned v) w'')->CallsIn F.plain (n-1) A.P f (vs++cv).toArray w R:=by
     intro R hR;refine callsIn_of_wp_marks (FB f fn BB).1 FA (hF.fn f) ?_;refine Ev FB (Im FB hE MK hD k) (bk MK k) hD hFp (λ_=>rfl) c g qu ⟨Uh (args++Lh) 0,[],H⟩ s1 ex _ w _ zk ⟨hw,fm,P7 xag,eg,trivial,λ_ _=>trivial⟩ ?_;intro g1 f1 a1 w1 Sg aj FN;have az:=aj.ext (λi hi=>hi.elim);have CB:∀l,results A s1 fn.results.toList=some l->(if A.G_ f=true then freeze 8 s1.H (result l)else some (result l,s1.H))=some (r,H')->LeavesInM F.plain (n-1) A.P fn a1.tmps R a1.defers .returning w1:=by
      intro l hl cG;refine Gw (base:=w.heap.size) a1.defers w1 Sg.hw Sg.hf Sg.hm (λd hd=>(FN d hd).resolve_left (by simp)) λw2 k1 k2 k3 k4 k5 k6=> ?_
      obtain⟨v,hv,hrv⟩:=UF k1 k2 (λt=>(Sg.he t).mono k3 (λ_ h=>⟨h,rfl⟩)) hl;refine⟨v,hv,?_⟩;have jr:Ext g w H g1 w2 s1.H:=⟨az.D,az.KB,az.Z,az.Xr,az.fp,λR h1 h2=>(k5 R h1).trans (az.Al R h1 h2),by rw[k4];exact az.size,az.len,az.wm,az.quiet,λb hb hv=>(k5 _ (hw.lt hv)).trans (az.still b hb hv),⟨k6.1.trans az.io.1,k6.2.trans az.io.2⟩⟩;refine hR v w2 ?_;split at cG
      ·obtain⟨g2,m1,m2,m3⟩:=vj 8 _ _ _ _ cG g1 w2 v k1 hrv;exact hk g2 w2 v m3 m1 (jr.trans m2)
      ·simp at cG;obtain⟨rfl,rfl⟩:=cG;exact hk g1 w2 v hrv k1 jr
     cases ex with
     |exit id=>simp at h
     |normal=>
      simp only[aa]at h;obtain⟨l,hl,h⟩:=h;exact CB l hl h
     |ret=>
      simp only[aa]at h;obtain⟨l,hl,h⟩:=h;exact CB l hl h
    exact Mw _ λv w'' h=>h
  case yl b=>
   have hDb:g.D b:=by cases cW;assumption
   obtain rfl:N0= .func (.yield (g.ρ b).R) #[] #[]:=by cases cW;rfl
   simp only[call]at h;split at h
   case h_2=>simp at h
   rename_i nn keep env ps assign body xq hb;split at h
   case isFalse=>simp at h
   rename_i hc;obtain⟨TL,Th,cD⟩:=hc;simp only[aa]at h;obtain⟨⟨ex1,s1⟩,WO,h⟩:=h;split at h
   case h_2=>simp at h
   rename_i x s1' heq;simp at heq;obtain⟨rfl,rfl⟩:=heq;split at h
   case h_2=>simp at h
   rename_i n1 oZ SQ ps1 EK z8 PY nr;simp only[aa]at h;obtain⟨⟨oK,s2⟩,VO,h⟩:=h;split at h
   case h_2=>simp at h
   rename_i n2 WR pK ps2 lC IU st2 iau Dy;simp at h;obtain⟨rfl,rfl⟩:=h;obtain⟨rc,hrc,hz,Ec,j_,Kam,has,hbo,WV,hre⟩:=hw.Kf b _ hDb hb;have ue:((do let d <- Deferred.ofValue (.func (.yield (g.ρ b).R) #[] #[]) vs.toArray;invoke d.target d.args:Sem Next).run A.P w)=(Instr.yield (g.ρ b).R vs.toArray).run A.P w:=by
    simp[Deferred.ofValue,invoke,go_sem]
   have hpn:rc.params.size=ps.length:=by rw[<- Kam];simp
   rw[ue,run_yield hrc (by simp;omega)];simp only[Oper.uponIn];refine⟨λhd=>by rw[hF.depth]at hd;simp at hd,?_⟩;have hFr:sy (F.inRound (g.ρ b).R):=⟨hF.fn,hF.depth,hF.alive⟩;refine roundIn_of_wpIn (hF.fn _) ?_;rw[has,hbo];have Nw:(rc.params.zip vs.toArray).foldl (λtmps(t,a)=>tmps.setIfInBounds t a) rc.tmps=(ps.zip vs).foldl (λtmps(t,a)=>tmps.setIfInBounds t a) rc.tmps:=by
    rw[<- Array.foldl_toList,Array.toList_zip,Kam]
   rw[Nw];have KI:∀p∈ps,p<rc.tmps.size:=λp hp=>by rw[WV];have:=ec.1 cD p hp;simpa using this
   have he0:Mf g qu w (kf env) rc.tmps:=λt=>by
    cases hx:get (kf env) t with
    |v x=>exact hre t x hx
    |loc i c=>
     exfalso;have:∀(l:List (Nat×AV)),get (kf l) t≠ .loc i c:=by
      intro l;induction l with
      |nil=>simp[kf,get]
      |cons y l ih=>simp only[kf,get];split;simp;exact ih
     exact this env hx
   obtain⟨q1,q2⟩:=ZE (f:=qu) ps args vs _ _ hVL KI he0;refine Ev FB (Im FB hE MK hD k) (bk MK k) hD hFr (λh=>by simp at h) assign g qu _ s1 .normal _ w _ WO ⟨hw,fm,q1,q2.trans WV,trivial,λ_ _=>trivial⟩ ?_;intro g1 f1 a1 w1 Sg aj _;have hD1:=aj.D b hDb;obtain⟨r1,hr1,MV,AZ,kar,Jam,pas,las,qar,dar⟩:=Sg.hw.Kf b _ hD1.1 nr;have nS:live g1 s1.H b:=⟨hD1.1,_,nr,rfl⟩;have C_:(g1.ρ b).R=(g.ρ b).R:=by rw[hD1.2]
   rw[C_]at hr1;show ∃w2,_;refine⟨_,run_beginRound hr1 AZ,?_⟩;have Qaf:=Za hr1;obtain⟨ra,rb,rx⟩:=Of (x:= .loop n1 oZ SQ ps1 EK z8 .busy PY) (w':=w1.putObj (g.ρ b).R (.loop { r1 with state:= .busy })) Sg.hw Sg.hf nS (by rw[aj.wm];exact Th) (by simp) (λR hR=>World.putObj_heap_other (by rw[C_]at hR;exact hR)) (λhle=>by
    refine⟨{ r1 with state:= .busy },by rw[C_];exact World.putObj_heap_same Qaf,MV,rfl,kar,Jam,pas,las,qar,λt x hx=>(dar t x hx).mono hle⟩)
   refine Ev FB (Im FB hE MK hD k) (bk MK k) hD hFr (λh=>by simp at h) body g1 f1 _ s2 oK a1 _ _ VO ⟨ra,rb,λt=>(Sg.he t).mono (rx.le Sg.hw Sg.hf) (λ_ h=>⟨h,rfl⟩),Sg.hn,Sg.hm.step Sg.hw Sg.hf rx,rx.tak Sg.hW⟩ ?_;intro g2 f2 a2 w2 wB jr _;have hD2:=jr.D b hD1.1;obtain⟨r2,Eo,zO,ZX,Ham,Iam,oas,kas,oar,car⟩:=wB.hw.Kf b _ hD2.1 Dy;have XL:live g2 s2.H b:=⟨hD2.1,_,Dy,rfl⟩;have LK:(g2.ρ b).R=(g.ρ b).R:=by rw[hD2.2,C_]
   rw[LK]at Eo;have ZV:=Za Eo;have II:s2.H.wm<=b:=by rw[jr.wm];show s1.H.wm<=b;rw[aj.wm];exact Th
   have ez:∃v w3,(Instr.endRound (g.ρ b).R oK.jump).run A.P w2= .ok v w3/\next (a.put o.dst v) w3:=by
    refine⟨_,_,run_endRound _ Eo,?_⟩;obtain⟨ta,tb,tx⟩:=Of (x:= .loop n2 WR pK ps2 lC IU (if oK.Bh then .ready else .done) oK.jump) (w':=w2.putObj (g.ρ b).R (.loop { r2 with state:=if oK.jump.isNone then .ready else .done,pending:=oK.jump })) wB.hw wB.hf XL II (by simp) (λR hR=>World.putObj_heap_other (by rw[LK]at hR;exact hR)) (λhle=>by
     refine⟨{ r2 with state:=if oK.jump.isNone then .ready else .done,pending:=oK.jump },by rw[LK];exact World.putObj_heap_same ZV,zO,?_,rfl,Iam,oas,kas,oar,λt x hx=>(car t x hx).mono hle⟩;cases oK<;>rfl)
    have Wd:oK.jump.isNone=oK.Bh:=by cases oK<;>rfl
    refine hk g2 _ _ (by rw[Wd];exact .bool _) ta ((((aj.trans rx).trans jr).trans tx).ext (λi hi=>hi.elim))
   obtain⟨v,w3,e1,e2⟩:=ez;cases oK with
   |normal=>exact⟨v,w3,e1,e2⟩
   |ret=>exact⟨v,w3,e1,e2⟩
   |exit id=>exact⟨v,w3,e1,e2⟩
  all_goals simp[call]at h
end
end Go.V
namespace Go.V
open Go
variable [Inhabited Rn]
theorem cR{F:Fence}(hF:sy F){n:Nat}{P:Program}{f:FuncId}{args:Array Value}{w:World}{R:Ending->World->Prop}(h:Calls P f args w R):CallsIn F n P f args w R:=by
 have Rar:∀m:Machine,m.fenced P F:=λm g _=>⟨λh=>by rw[hF.alive]at h;simp at h,.inl (hF.fn _),λf _=>hF.fn f,λd hd=>by rw[hF.depth]at hd;simp at hd⟩
 have Ec:∀{m m'},Steps P m m'->StepsIn (Machine.fenced P F) P m m':=λh=>(StepsIn.of_steps h).mono λm _=>Rar m
 refine⟨hF.fn f,λcs _=> ?_⟩;obtain⟨e,w',fr,h1,h2,h3⟩:=h cs;refine⟨e,w',fr,h1,?_,h3⟩;cases e with
 |returned v=>exact Ec h2
 |panicked c=>exact Ec h2
 |outgrown=>exact h2
section
variable {A:Oi}
def xy(A:Oi)(f:FuncId)(h:List AV->AH->Option (AV×AH)):Prop:=
 ∀args H r H',h args H=some (r,H')->∀(g:Gx)(w:World)(vs:List Value),Jc A.Na g w H->VL g w args vs->
  Calls A.P f vs.toArray w λe w'=>∃rv g',e= .returned rv/\Cb g' w' r rv/\Jc A.Na g' w' H'/\Ext g w H g' w' H'
theorem L7(FB:vy A){f:FuncId}{fn:Func}(hf:A.fns f=some fn)(hb:fn.body.isSome=true){h:List AV->AH->Option (AV×AH)}(hg:xy A f h):
  ∀args H r H',h args H=some (r,H')->∀(g:Gx)(w:World)(vs:List Value),Jc A.Na g w H->VL g w args vs->
  ∀(F:Fence)(n:Nat)(o:Oper)(a:Act)(next:Act->World->Prop)(Q:Exit->Act->World->Prop),sy F->
   (∀g' w' rv,Cb g' w' r rv->Jc A.Na g' w' H'->Ext g w H g' w' H'->next (a.put o.dst rv) w')->Oper.uponIn F n A.P o a next Q ((callFunc f vs.toArray).run A.P w):=by
 intro args H r H' hh g w vs hw hv F n o a next Q hF hk
 rw[qp FB hf hb,Oper.uponIn_enter];refine⟨λhd=>by rw[hF.depth]at hd;simp at hd,cR hF ((hg args H r H' hh g w vs hw hv).mono ?_)⟩
 rintro e w' ⟨rv,g',rfl,h1,h2,h3⟩
 exact hk g' w' rv h1 h2 h3
def L_(args:List AV)(H:AH):Option (AV×AH):=
 match args with
 |[.int .i64 n,.int .i64 b]=>if -9223372036854775808<=n/\n<=9223372036854775807/\b=10 then some (.str ⟨(Lib.itoa n).toArray⟩,H)else none
 |_=>none
theorem K_{f:FuncId}(bas:∀(g:Gx)(w:World)(H:AH),Jc A.Na g w H->∀n:Int,-9223372036854775808<=n->n<=9223372036854775807->Calls A.P f #[.int .i64 n,.int .i64 10] w λe w'=>e= .returned (.string ⟨(Lib.itoa n).toArray⟩)/\∃k os,w'=Sort.grow (w.drewN k) os):xy A f L_:=by
 intro args H r H' hh g w vs hw hv;unfold L_ at hh;split at hh
 case h_2=>simp at hh
 rename_i n b;split at hh
 case isFalse=>simp at hh
 rename_i hc;simp at hh;obtain⟨rfl,rfl⟩:=hh;obtain⟨h1,h2,rfl⟩:=hc
 match vs,hv with
 |[v1,v2],⟨r1,r2,_⟩=>
  cases r1;cases r2;refine(bas g w H hw n h1 h2).mono ?_
  rintro e w' ⟨rfl,k,os,rfl⟩
  have hh:(w.drewN k).heap=w.heap:=rfl;have eg:w.heap.size<=(Sort.grow (w.drewN k) os).heap.size:=by simp[Sort.grow,hh]
  have hold:∀R,R<w.heap.size->(Sort.grow (w.drewN k) os).heap[R]?=w.heap[R]?:=λR hR=>by
   show(w.heap++os)[R]?=_;rw[Qv hR]
  obtain⟨q1,q2,q3⟩:=Ru (f:=qu) (F:=[]) hw fm eg hold (OB:=⟨rfl,rfl⟩);exact⟨_,g,rfl,.str _,q1,q3.ext λi h=>h⟩
def okp(p:AV)(x:Nat):Bool:=match p with| .Hf=>true| .ptr y 0 0=>y==x|_=>false
def ccX(bT:TypeId)(args:List AV)(H:AH):Option (AV×AH):=
 match args with
 |[.ptr x 0 0]=>
  match H.bl[x]? with
  |some (.cells [[p,q]] 2 (some (t,2)))=>if t=bT/\H.wm<=x/\okp p x=true then some (.Re [],Qa H x (.cells [[.ptr x 0 0,q]] 2 (some (bT,2))))else none
  |_=>none
 |_=>none
def tC:List (List AV)->Option (List UInt8)
 |[]=>some []
 |[.int .u8 z]::l=>if 0<=z/\z<256 then(tC l).map (UInt8.ofNat z.toNat:: ·)else none
 |_=>none
def SF(bT uT:TypeId)(args:List AV)(H:AH):Option (AV×AH):=
 match args with
 |[.ptr x 0 0]=>
  match H.bl[x]? with
  |some (.cells [[_,q]] 2 (some (t,2)))=>
   if t=bT then
    match q with
    | .Xa=>some (.str ⟨#[]⟩,H)
    | .sl y 0 n=>
     match H.bl[y]? with
     |some (.cells rows 1 (some (u,k)))=>if u=uT/\1<=k/\H.wm<=y/\(0<n/\n<=70368744177664)/\n<=rows.length then(tC (rows.take n)).map λl=>(.str ⟨l.toArray⟩,Qa H y .dead)else none
     |_=>none
    |_=>none
   else none
  |_=>none
 |_=>none
theorem MH{G:Nat->Option (List AV)}{g:Gx}{w:World}{H:AH}(hw:Jc G g w H){x:Nat}{p q:AV}{t:TypeId}(hD:g.D x)(hx:H.bl[x]?=some (.cells [[p,q]] 2 (some (t,2)))):
  (g.ρ x).o=0/\(g.ρ x).sz=2/\(g.ρ x).e=2/\∃v1 v2 fz,w.heap[(g.ρ x).R]?=some (.cells #[v1,v2] t fz)/\(∀ off,off<2->¬(fz.1<=off/\off<fz.2))/\¬g.Z (g.ρ x).R/\v1.oneCell'=true/\v2.oneCell'=true/\Cb g w p v1/\Cb g w q v2:=by
 obtain⟨⟨⟨o8,fz0,hR0⟩,ho,he⟩,_,eg,ez,cs,⟨T,fz,hR,hY,Tn,hZ⟩,de⟩:=hw.Kf x _ hD hx;rw[hR0]at hR;injection hR with hR;injection hR with e1 e2 e3
 subst e1;subst e2;subst e3;have ho:=ho (by omega);have he:=he (by omega);rw[eg]at he;rw[he]at hY;obtain⟨_,De⟩:=de 0 _ rfl;rw[ho]at De;obtain⟨v1,a1,a2,a3⟩:=De 0 p rfl;obtain⟨v2,b1,b2,b3⟩:=De 1 q rfl;have:o8= #[v1,v2]:=by
  apply Array.ext_getElem?;intro i
  match i with
  |0=>simpa using a1
  |1=>simpa using b1
  |i+2=>rw[wF (by omega)];simp
 subst this;exact⟨ho,eg,he,v1,v2,fz0,hR0,λoff h=>Tn off (by rw[he];exact h),hZ,a2,b2,a3,b3⟩
theorem Jab{f:FuncId}{bT:TypeId}
  (dag:∀(b:Nat)(w:World),w.cell? ⟨b,0,none⟩=some (.pointer none)->w.shape? b=some (bT,2)->w.frozen? ⟨b,0,none⟩=false->
   Calls A.P f #[.pointer (some ⟨b,0,none⟩)] w λe w'=>e= .returned (.tuple #[])/\w'=w.setCell ⟨b,0,none⟩ (.pointer (some ⟨b,0,none⟩)))
  (tam:∀(b:Nat)(w:World),w.cell? ⟨b,0,none⟩=some (.pointer (some ⟨b,0,none⟩))->Calls A.P f #[.pointer (some ⟨b,0,none⟩)] w λe w'=>e= .returned (.tuple #[])/\w'=w):xy A f (ccX bT):=by
 intro args H r H' hh g w vs hw hv;unfold ccX at hh;split at hh
 case h_2=>simp at hh
 rename_i x;split at hh
 case h_2=>simp at hh
 rename_i p q t hx;split at hh
 case isFalse=>simp at hh
 rename_i hc;simp at hh;obtain⟨rfl,rfl⟩:=hh;obtain⟨rfl,Th,hp⟩:=hc
 match vs,hv with
 |[v],⟨r1,_⟩=>
  cases r1 with
  |ptr _ _ _ hD=>
  obtain⟨ho,eg,he,v1,v2,fz,hR,Tn,hZ,a2,b2,a3,b3⟩:=MH hw hD hx;have Oe:live g H x:=⟨hD,_,hx,rfl⟩;have hv0:((some ⟨(g.ρ x).R,(g.ρ x).o+0 * (g.ρ x).sz+0,none⟩:Option Addr))=some ⟨(g.ρ x).R,0,none⟩:=by rw[ho];simp
  rw[hv0];have hc0:w.cell? ⟨(g.ρ x).R,0,none⟩=some v1:=by simp[World.cell?,hR]
  have gf:∀(w':World)(fz':Nat×Nat),(w'.heap[(g.ρ x).R]?=some (.cells #[.pointer (some ⟨(g.ρ x).R,0,none⟩),v2] t fz))->g.Le w g w'->Xg g w' (g.ρ x) (.cells [[.ptr x 0 0,q]] 2 (some (t,2))):=λw' _ Ey hle=>by
   refine⟨⟨⟨_,_,Ey⟩,λ_=>ho,λ_=>he.trans eg.symm⟩,by omega,eg,by rw[ho,he];simp,_,⟨t,fz,Ey,by rw[he];rfl,λoff h=>Tn off (by omega),hZ⟩,λr row hr=> ?_⟩
   match r,hr with
   |0,hr=>
    simp at hr;subst hr;refine⟨rfl,λc y hy=> ?_⟩;rw[ho]
    match c,hy with
    |0,hy=>
     simp at hy;subst hy;refine⟨_,rfl,rfl,?_⟩;have:=Cb.ptr (w:=w') x 0 0 hD;rw[ho]at this;simpa using this
    |1,hy=>simp at hy;subst hy;exact⟨v2,rfl,b2,b3.mono hle⟩
    |c+2,hy=>simp at hy
   |r+1,hr=>simp at hr
  unfold okp at hp;split at hp
  ·cases a3;have YX:w.shape? (g.ρ x).R=some (t,2):=by simp[World.shape?,hR]
   have Lar:w.frozen? ⟨(g.ρ x).R,0,none⟩=false:=by
    have:=Tn 0 (by omega);simp only[World.frozen?,hR];simp only[Bool.and_eq_false_iff,decide_eq_false_iff_not];by_cases h:fz.1<=0
    ·exact .inr λh'=>this ⟨h,h'⟩
    ·exact .inl h
   refine(dag _ w hc0 YX Lar).mono ?_
   rintro e w' ⟨rfl,rfl⟩
   have Mc:(g.ρ x).R<w.heap.size:=Za hR;have Ey:(w.setCell ⟨(g.ρ x).R,0,none⟩ (.pointer (some ⟨(g.ρ x).R,0,none⟩))).heap[(g.ρ x).R]?=some (.cells #[.pointer (some ⟨(g.ρ x).R,0,none⟩),v2] t fz):=by
    simp[World.setCell,vF,hR]
   obtain⟨q1,q2,q3⟩:=Of (f:=qu) (F:=[]) (w':=w.setCell ⟨(g.ρ x).R,0,none⟩ (.pointer (some ⟨(g.ρ x).R,0,none⟩))) (x:= .cells [[.ptr x 0 0,q]] 2 (some (t,2))) hw fm Oe Th (by simp[World.setCell])
    (λR td=>by simp only[World.setCell,vF];rw[if_neg (λe=>td e.symm)]) (gf _ fz Ey)
   exact⟨_,g,rfl,.Re [] [] rfl (λi x v h=>by simp at h),q1,q3.ext λi h=>h⟩
  ·rename_i y;have:y=x:=by simpa using hp
   subst this;cases a3 with
   |ptr _ _ _ _=>
   rw[hv0]at hc0 hR;refine(tam _ w hc0).mono ?_
   rintro e w' ⟨rfl,hww⟩
   subst hww;obtain⟨q1,q2,q3⟩:=Of (f:=qu) (F:=[]) (w':=w') (x:= .cells [[.ptr y 0 0,q]] 2 (some (t,2))) hw fm Oe Th rfl (λ_ _=>rfl) (gf _ fz hR);exact⟨_,g,rfl,.Re [] [] rfl (λi x v h=>by simp at h),q1,q3.ext λi h=>h⟩
  ·simp at hp
theorem yG:∀{rows:List (List AV)}{l:List UInt8},tC rows=some l->l.length=rows.length/\∀(j:Nat)(b:UInt8),l[j]?=some b->rows[j]?=some [.int .u8 (b.toNat:Int)]
 |[],l,h=>by simp[tC]at h;subst h;exact⟨rfl,λj b hb=>by simp at hb⟩
 |row::rows,l,h=>by
  unfold tC at h;split at h
  ·rename_i e;simp at e
  ·rename_i z l0 e;injection e with e1 e2;subst e1;subst e2
   split at h
   case isFalse=>simp at h
   rename_i hz;simp only[ja]at h;obtain⟨l1,h1,rfl⟩:=h;obtain⟨k1,k2⟩:=yG h1;refine⟨by simp[k1],λj b hb=> ?_⟩;cases j with
   |zero=>
    simp at hb;subst hb;have:(UInt8.ofNat z.toNat).toNat=z.toNat:=by
     rw[UInt8.toNat_ofNat'];exact Nat.mod_eq_of_lt (by omega)
    simp only[Vh,this];rw[Int.toNat_of_nonneg hz.1]
   |succ j=>simp at hb;simpa using k2 j b hb
  ·simp at h
theorem AY{f:FuncId}{bT uT:TypeId}
  (l_:∀(b:Nat)(w:World),w.cell? ⟨b,1,none⟩=some (.slice none 0 0)->Calls A.P f #[.pointer (some ⟨b,0,none⟩)] w λe w'=>e= .returned (.string ⟨#[]⟩)/\w'=w.drew)
  (yZ:∀(b gb cap n:Nat)(l:List UInt8)(w:World),l≠[]->l.length<=70368744177664->w.cell? ⟨b,1,none⟩=some (.slice (some ⟨gb,0,none⟩) l.length cap)->l.length<=cap->w.shape? gb=some (uT,n)->l.length<=n->(∀j x,l[j]?=some x->w.cell? ⟨gb,j,none⟩=some (.int .u8 x.toNat))->
   Calls A.P f #[.pointer (some ⟨b,0,none⟩)] w λe w'=>e= .returned (.string ⟨l.toArray⟩)/\w'=w.drew.freeze ⟨gb,0,none⟩ l.length):xy A f (SF bT uT):=by
 intro args H r H' hh g w vs hw hv;unfold SF at hh;split at hh
 case h_2=>simp at hh
 rename_i x;split at hh
 case h_2=>simp at hh
 rename_i p q t hx;split at hh
 case isFalse=>simp at hh
 rename_i hc;subst hc
 match vs,hv with
 |[v],⟨r1,_⟩=>
  cases r1 with
  |ptr _ _ _ hD=>
  obtain⟨ho,eg,he,v1,v2,fz,hR,Tn,hZ,a2,b2,a3,b3⟩:=MH hw hD hx;have hv0:((some ⟨(g.ρ x).R,(g.ρ x).o+0 * (g.ρ x).sz+0,none⟩:Option Addr))=some ⟨(g.ρ x).R,0,none⟩:=by rw[ho];simp
  rw[hv0];have hc1:w.cell? ⟨(g.ρ x).R,1,none⟩=some v2:=by simp[World.cell?,hR]
  split at hh
  ·simp at hh;obtain⟨rfl,rfl⟩:=hh;cases b3;refine(l_ _ w hc1).mono ?_
   rintro e w' ⟨rfl,rfl⟩
   exact⟨_,g,rfl,.str _,hw.heap rfl,(Wg.heap (w:=w) (w':=w.drew) (f:=qu) (F:=[]) rfl).ext λi h=>h⟩
  ·rename_i y n;split at hh
   case h_2=>simp at hh
   rename_i rows u k hy;split at hh
   case isFalse=>simp at hh
   rename_i ZZ;obtain⟨rfl,hk,Th,⟨JO,n_⟩,hnr⟩:=ZZ;simp only[ja]at hh;obtain⟨l,hl,hh⟩:=hh;simp at hh;obtain⟨rfl,rfl⟩:=hh;obtain⟨l1,l2⟩:=yG hl;have hll:l.length=n:=by rw[l1,je];omega
   cases b3 with
   |sR b r a hd=>omega
   |sl _ _ _ cap hDy au ez=>
   obtain⟨⟨⟨o8,fz0,hR0⟩,hoy,_⟩,_,Baw,san,cs,⟨T,fzy,hRy,fas,kax,hZy⟩,Haf⟩:=hw.Kf y _ hDy hy;rw[hR0]at hRy;injection hRy with hRy;injection hRy with e1 e2 e3
   subst e1;subst e2;subst e3;have hoy:=hoy hk;have WX:(some ⟨(g.ρ y).R,(g.ρ y).o+0 * (g.ρ y).sz,none⟩:Option Addr)=some ⟨(g.ρ y).R,0,none⟩:=by rw[hoy];simp
   rw[WX]at hc1;have Oe:live g H y:=⟨hDy,_,hy,rfl⟩;have YX:w.shape? (g.ρ y).R=some (u,o8.size):=by simp[World.shape?,hR0]
   have ei:∀j b,l[j]?=some b->w.cell? ⟨(g.ρ y).R,j,none⟩=some (.int .u8 b.toNat):=λj b hb=>by
    have h1:=l2 j b hb;have hj:j<n:=by rw[<- hll];exact getElem?_lt' hb
    rw[Jb,if_pos hj]at h1;obtain⟨_,h2⟩:=Haf j _ h1;obtain⟨v,g1,_,g3⟩:=h2 0 _ rfl;cases g3;rw[hoy]at g1;simp only[World.cell?,hR0]
    simpa using g1
   have zar:l≠[]:=by intro e;subst e;simp at hll;omega
   have gan:l.length<=o8.size:=by rw[fas,hll];rw[hoy]at san;omega
   refine(yZ (g.ρ x).R (g.ρ y).R cap o8.size l w zar (by omega) (by rw[hll];exact hc1) (by omega) YX gan ei).mono ?_
   rintro e w' ⟨rfl,rfl⟩
   have Ae:∀R,R≠(g.ρ y).R->(w.drew.freeze ⟨(g.ρ y).R,0,none⟩ l.length).heap[R]?=w.heap[R]?:=λR td=>by
    unfold World.freeze;split
    ·rfl
    ·simp only[vF];rw[if_neg (λe=>td e.symm)];rfl
   have Nj:(w.drew.freeze ⟨(g.ρ y).R,0,none⟩ l.length).heap.size=w.heap.size:=by
    unfold World.freeze;split
    ·rfl
    ·simp
   have OB:(w.drew.freeze ⟨(g.ρ y).R,0,none⟩ l.length).os=w.os/\(w.drew.freeze ⟨(g.ρ y).R,0,none⟩ l.length).output=w.output:=by
    unfold World.freeze;split<;>exact⟨rfl,rfl⟩
   obtain⟨q1,q2,q3⟩:=Of (f:=qu) (F:=[]) (w':=w.drew.freeze ⟨(g.ρ y).R,0,none⟩ l.length) (x:= .dead) hw fm Oe Th Nj Ae (λ_=>trivial) (OB:=OB);exact⟨_,g,rfl,.str _,q1,q3.ext λi h=>h⟩
  ·simp at hh
theorem mW{args:List AV}{H H':AH}{r:AV}(h:L_ args H=some (r,H')):fe H H':=by
 unfold L_ at h;split at h
 case h_2=>simp at h
 split at h
 case isFalse=>simp at h
 simp at h;rw[<- h.2];exact .refl _
theorem KX{bT:TypeId}{args:List AV}{H H':AH}{r:AV}(h:ccX bT args H=some (r,H')):fe H H':=by
 unfold ccX at h;split at h
 case h_2=>simp at h
 split at h
 case h_2=>simp at h
 split at h
 case isFalse=>simp at h
 rename_i hc;simp at h;rw[<- h.2];exact .set hc.2.1 _
theorem TN{bT uT:TypeId}{args:List AV}{H H':AH}{r:AV}(h:SF bT uT args H=some (r,H')):fe H H':=by
 unfold SF at h;split at h
 case h_2=>simp at h
 split at h
 case h_2=>simp at h
 split at h
 case isFalse=>simp at h
 split at h
 case h_3=>simp at h
 ·simp at h;rw[<- h.2];exact .refl _
 ·split at h
  case h_2=>simp at h
  split at h
  case isFalse=>simp at h
  rename_i hc;obtain⟨l,_,h⟩:=ja.1 h;simp at h;rw[<- h.2];exact .set hc.2.2.1 _
end
end Go.V
