/- An evaluator of the translated code and that it is right: each of its answers is an answer of the model. -/
import Derived.Test.YtjenflkegbmkkaaGreatDoorA1
import Derived.Test.YtjenflkegbmkkaaGreatDoorA3
import Derived.LoopNIn
import Derived.RangeFuncRecord
import Derived.Scope
import Derived.Sort.Grow
import Derived.Deep.Draws
import Derived.Lib.ItoaNum
import Derived.Lib.LaidTab
set_option linter.unusedVariables false
set_option linter.unusedSimpArgs false
set_option linter.unusedSectionVars false
open Array renaming getD_eq_getD_getElem?→ni,getElem?_append_left→Ow,getElem?_modify→Qm
open Bool renaming and_eq_true→Va,and_eq_false_iff→Xs
open List renaming getElem?_append_left→Ka,getElem?_set→Ob,mem_cons_of_mem→Wb,length_eq_zero_iff→Ja,length_cons→Jb,range→ua,map_cons→Pd,mem_cons→Yb,getElem?_cons_succ→We,getElem?_eq_getElem→Ba,foldl_cons→Ve,all_eq_true→tc,getElem?_cons_zero→He,length_take→ic,getElem?_take→Db
open Nat renaming le_refl→va,le_trans→Ib
open Option renaming bind_eq_some_iff→aa,map_eq_some_iff→ia,bind_some→ga,map_some→Oc
open Option.some renaming injEq→Dc
namespace Go.V
open Go
def Kc(H H':AH):Prop:=H'.wm=H.wm/\H.bl.length<=H'.bl.length/\∀b,b<H.wm->b<H.bl.length->H'.bl[b]?=H.bl[b]?
theorem Kc.refl(H:AH):Kc H H:=⟨rfl,va _,fun _ _ _=>rfl⟩
theorem Kc.trans{H H1 H2:AH}(h:Kc H H1)(h':Kc H1 H2):Kc H H2:=
 ⟨h'.1.trans h.1,Ib h.2.1 h'.2.1,fun b hb hl=>(h'.2.2 b (by rw[h.1];exact hb) (by have:=h.2.1;omega)).trans (h.2.2 b hb hl)⟩
theorem Kc.push(H:AH)(x:AB):Kc H (push H x):=⟨rfl,by simp[V.push],fun b _ hl=>by simp[V.push,Ka hl]⟩
theorem Kc.set{H:AH}{b:Nat}(h:H.wm<=b)(x:AB):Kc H (Ra H b x):=⟨rfl,by simp[Ra],fun b' hb _=>by
 simp only[Ra,Ob];rw[if_neg (by omega)]⟩
def Wc(call:Callee):Prop:=∀fv args H r H',call fv args H=some (r,H')->Kc H H'
section
variable {A:yh}{call:Callee}{Fa:List Nat}
theorem dI{H H':AH}{ts:Array TypeId}{x y v:AV}(h:append A H ts x y=some (v,H')):Kc H H':=by
 simp only[append,aa]at h;obtain⟨_,_,_,_,_,_,_,_,_,_,xs,_,ys,_,h⟩:=h;split at h
 case isFalse=>simp at h
 split at h
 ·simp at h;obtain⟨_,rfl⟩:=h;exact .refl _
 ·split at h
  ·simp at h;obtain⟨_,rfl⟩:=h;exact .push _ _
  ·simp at h;obtain⟨_,rfl⟩:=h;exact .push _ _
  ·split at h
   ·rename_i hc;simp at h;obtain⟨_,rfl⟩:=h;exact(Kc.set hc.1 .dead).trans (Kc.push _ _)
   ·simp at h
  ·simp at h
theorem Ay{H H':AH}{t:TypeId}{n:Nat}{ps:List (Nat×AV)}{v:AV}(h:buildSlice A H t n ps=some (v,H')):Kc H H':=by
 simp only[buildSlice,aa]at h;obtain⟨_,_,_,_,h⟩:=h;split at h
 case isFalse=>simp at h
 split at h
 ·simp at h;obtain⟨_,rfl⟩:=h;exact .refl _
 ·simp only[aa]at h;obtain⟨_,_,h⟩:=h;simp at h;obtain⟨_,rfl⟩:=h;exact .push _ _
theorem Bz{H H':AH}{t:TypeId}{l c v:AV}(h:makeSlice A H t l c=some (v,H')):Kc H H':=by
 unfold makeSlice at h;split at h
 ·simp only[aa]at h;obtain⟨_,_,_,_,_,_,h⟩:=h;split at h
  ·simp at h;obtain⟨_,rfl⟩:=h;exact .push _ _
  ·simp at h
 ·simp at h
theorem QD{H H':AH}{s d:TypeId}{x v:AV}(h:convert A H s d x=some (v,H')):Kc H H':=by
 unfold convert at h;split at h
 ·simp at h;obtain⟨_,rfl⟩:=h;exact .refl _
 ·simp at h;obtain⟨_,rfl⟩:=h;exact .refl _
 ·split at h
  ·split at h
   ·simp at h;obtain⟨_,rfl⟩:=h;exact .push _ _
   ·simp at h
  ·simp at h
 ·split at h
  ·simp only[aa,ia]at h;obtain⟨_,_,_,_,h⟩:=h;simp at h;obtain⟨_,rfl⟩:=h;exact .refl _
  ·simp at h
 ·simp at h
theorem Zo{H H':AH}{t:TypeId}{m k x:AV}(h:mapUpdate A H t m k x=some H'):Kc H H':=by
 unfold mapUpdate at h;split at h
 ·split at h
  ·rename_i hc;simp only[Va,decide_eq_true_eq]at hc;split at h
   ·simp only[ia]at h;obtain⟨_,_,rfl⟩:=h;exact .set hc.2 _
   ·simp at h
  ·simp at h
 ·simp at h
theorem zz{H H':AH}{t:TypeId}{m k:AV}(h:Ff A H t m k=some H'):Kc H H':=by
 unfold Ff at h;split at h
 ·split at h
  ·simp at h;subst h;exact .refl _
  ·simp at h
 ·split at h
  ·rename_i hc;simp only[Va,decide_eq_true_eq]at hc;split at h
   ·simp only[ia]at h;obtain⟨_,_,rfl⟩:=h;exact .set hc.2 _
   ·simp at h
  ·simp at h
 ·simp at h
theorem WD{H H':AH}{b:Builtin}{ts:Array TypeId}{args:List AV}{v:AV}(h:builtin A H b ts args=some (v,H')):Kc H H':=by
 unfold builtin at h;split at h
 ·exact dI h
 ·simp only[aa]at h;obtain⟨_,_,h⟩:=h;split at h
  all_goals first
   |(simp at h;obtain⟨_,rfl⟩:=h;exact .refl _)
   |(simp only[ia]at h;obtain⟨_,_,h⟩:=h;simp at h;obtain⟨_,rfl⟩:=h;exact .refl _)
   |simp at h
 ·simp only[ia]at h;obtain⟨_,_,h⟩:=h;simp at h;obtain⟨_,rfl⟩:=h;exact .refl _
 ·simp only[ia]at h;obtain⟨_,_,h⟩:=h;simp at h;obtain⟨_,rfl⟩:=h;exact .refl _
 ·simp only[aa,ia]at h;obtain⟨_,_,_,hd,h⟩:=h;simp at h;obtain⟨_,rfl⟩:=h;exact zz hd
 ·simp only[aa]at h;obtain⟨_,_,_,_,_,_,_,_,h⟩:=h;split at h
  ·simp at h;obtain⟨_,rfl⟩:=h;exact .refl _
  ·simp at h;obtain⟨_,rfl⟩:=h;exact .refl _
  ·split at h
   ·split at h
    ·rename_i hc;simp at h;obtain⟨_,rfl⟩:=h;exact .set hc.1 _
    ·simp at h
   ·simp at h
  ·simp at h
 ·simp at h
structure V2(U1:qf)(s s' t t':S):Prop where
 e1:s'.e=s.e
 e2:t'.e=t.e
 q:Kc s.H s'.H
 h:(U1.Fc=true->t'.H=s'.H)/\(U1.Fc=false->t'.H=t.H/\s'.H=s.H)
 f:(s'.F=s.F/\t'.F=t.F)\/(∃row,s'.F=s.F++[row]/\t'.F=t.F++[row]/\U1= .no)\/∃i row,U1= .box i true/\s'.F=s.F.set i row/\t'.F=t.F.set i row/\∀Bk,s.F[i]?=some Bk->row.length=Bk.length
theorem V2.same{U1:qf}{s t:S}(hH:U1.Fc=true->t.H=s.H):V2 U1 s s t t:=
 ⟨rfl,rfl,.refl _,⟨hH,fun _=>⟨rfl,rfl⟩⟩,.inl ⟨rfl,rfl⟩⟩
theorem V2.heap{w:Bool}{s t:S}{H:AH}(hq:Kc s.H H):V2 (.heap w) s { s with H:=H } t { t with H:=H }:=
 ⟨rfl,rfl,hq,⟨fun _=>rfl,fun h=>by simp[qf.Fc]at h⟩,.inl ⟨rfl,rfl⟩⟩
section
variable {s s' t:S}{o:Oper}
theorem Zw:∀{l:List Operand},(∀x∈l,operand A t.e x=operand A s.e x)->ah A t.e l=ah A s.e l
 |[],_=>rfl
 |x::l,h=>by
  simp only[ah,val,h x (by simp),Zw (l:=l) fun y hy=>h y (Wb _ hy)]
theorem iu:∀{l:List (Nat×Operand)},(∀x∈l.map (·.2),operand A t.e x=operand A s.e x)->parts A t.e l=parts A s.e l
 |[],_=>rfl
 |(i,x)::l,h=>by
  simp only[parts,val,h x (by simp),iu (l:=l) fun y hy=>h y (by simp at hy ⊢;exact .inr hy)]
theorem Ky{x:Option Operand}(h:∀y∈x.toArray,operand A t.e y=operand A s.e y):Qg A t.e x=Qg A s.e x:=by
 cases x with
 |none=>rfl
 |some x=>simp only[Qg,val,h x (by simp)]
theorem bh{x:Option AV}{v:SV}{U1:qf}(h:Uf s x=some (v,s'))(hH:U1.Fc=true->t.H=s.H):∃t',Uf t x=some (v,t')/\V2 U1 s s' t t':=by
 simp only[Uf,ia]at h;obtain⟨a,ha,h⟩:=h;simp at h;obtain⟨rfl,rfl⟩:=h;exact⟨t,by simp[Uf,ha],.same hH⟩
theorem fk{fz:AH->AV->Option (AV×AH)}(Rl:∀H x x' H',fz H x=some (x',H')->Kc H H'):∀(xs:List AV)(H:AH)(Pp:List AV)(H':AH),Xg fz H xs=some (Pp,H')->Kc H H'
 |[],H,Pp,H',h=>by simp[Xg]at h;obtain⟨_,rfl⟩:=h;exact .refl _
 |x::xs,H,Pp,H',h=>by
  simp only[Xg,aa]at h;obtain⟨⟨x1,H1⟩,h1,⟨xs1,H2⟩,h2,h⟩:=h;simp at h;obtain⟨_,rfl⟩:=h;exact(Rl _ _ _ _ h1).trans (fk Rl xs _ _ _ h2)
theorem Kv{fz:AH->AV->Option (AV×AH)}(Rl:∀H x x' H',fz H x=some (x',H')->Kc H H'):∀(xs:List (List AV))(H:AH)(Pp:List (List AV))(H':AH),Gh fz H xs=some (Pp,H')->Kc H H'
 |[],H,Pp,H',h=>by simp[Gh]at h;obtain⟨_,rfl⟩:=h;exact .refl _
 |x::xs,H,Pp,H',h=>by
  simp only[Gh,aa]at h;obtain⟨⟨x1,H1⟩,h1,⟨xs1,H2⟩,h2,h⟩:=h;simp at h;obtain⟨_,rfl⟩:=h;exact(fk Rl _ _ _ _ h1).trans (Kv Rl xs _ _ _ h2)
theorem Fi:∀(d:Nat)(H:AH)(x x':AV)(H':AH),freeze d H x=some (x',H')->Kc H H'
 |0,H,x,x',H',h=>by simp[freeze]at h
 |d+1,H,x,x',H',h=>by
  cases x
  case sl b r n=>
   simp only[freeze,aa]at h;obtain⟨rows,_,sz,_,h⟩:=h;split at h
   case isFalse=>simp at h
   rename_i ag;simp only[aa]at h;obtain⟨⟨Yd,H1⟩,mD,h⟩:=h;simp at h;obtain⟨_,rfl⟩:=h;exact(Kc.set ag _).trans (Kv (Fi d) _ _ _ _ mD)
  case agg cs=>
   simp only[freeze,aa]at h;obtain⟨⟨Jh,H1⟩,h1,h⟩:=h;simp at h;obtain⟨_,rfl⟩:=h;exact fk (Fi d) _ _ _ _ h1
  case Sc cs=>
   simp only[freeze,aa]at h;obtain⟨⟨Jh,H1⟩,h1,h⟩:=h;simp at h;obtain⟨_,rfl⟩:=h;exact fk (Fi d) _ _ _ _ h1
  all_goals simp[freeze]at h;obtain⟨_,rfl⟩:=h;exact .refl _
theorem Um{x:Option (AV×AH)}{v:SV}{w:Bool}(h:th s x=some (v,s'))(hq:∀a H,x=some (a,H)->Kc s.H H):∃t',th t x=some (v,t')/\V2 (.heap w) s s' t t':=by
 simp only[th,ia]at h;obtain⟨⟨a,H⟩,ha,h⟩:=h;simp at h;obtain⟨rfl,rfl⟩:=h;exact⟨{ t with H:=H },by simp[th,ha],.heap (hq a H ha)⟩
theorem BC{bt:TypeId}{b:Bool}{cs:List AV}{v:SV}(h:boxed s bt b cs=some (v,s'))(hH:b=false->t.H=s.H)(hl:t.F.length=s.F.length):∃t',boxed t bt b cs=some (v,t')/\V2 (if b then .no else .heap false) s s' t t':=by
 unfold boxed at h ⊢;split at h
 case isFalse=>simp at h
 rename_i hc;rw[if_pos hc];simp only[Dc]at h;cases b with
 |true=>
  simp[box]at h;obtain⟨rfl,rfl⟩:=h;refine⟨{ t with F:=t.F++[cs] },by simp[box,hl],⟨rfl,rfl,.refl _,⟨fun h=>by simp[qf.Fc]at h,fun _=>⟨rfl,rfl⟩⟩,.inr (.inl ⟨cs,rfl,rfl,rfl⟩)⟩⟩
 |false=>
  simp[box]at h;obtain⟨rfl,rfl⟩:=h;refine⟨{ t with H:=push s.H (.cells [cs] cs.length (some (bt,2))) },by simp[box,hH rfl],⟨rfl,rfl,.push _ _,⟨fun _=>rfl,fun h=>by simp[qf.Fc]at h⟩,.inl ⟨rfl,rfl⟩⟩⟩
theorem rR{ty:TypeId}{p:SV}{x:AV}(h:load A s ty p=some x)(hH:(tf false (some p)).Fc=true->t.H=s.H)(hB:∀i w,tf false (some p)= .box i w->t.F[i]?=s.F[i]?):load A t ty p=some x:=by
 unfold load at h ⊢;split at h
 ·rename_i i c;simp only[hB i false rfl];exact h
 ·rename_i b r c;simp only[hH rfl];exact h
 ·exact h
 ·simp at h
theorem jL{ty:TypeId}{p:SV}{x:AV}(h:store A s ty p x=some s')(hH:(tf true (some p)).Fc=true->t.H=s.H)(hB:∀i w,tf true (some p)= .box i w->t.F[i]?=s.F[i]?):
  ∃t',store A t ty p x=some t'/\V2 (tf true (some p)) s s' t t':=by
 simp only[store,aa]at h;obtain⟨cs,aj,n,hn,h⟩:=h;split at h
 case isFalse=>simp at h
 rename_i hlen;unfold store;simp only[aj,hn,ga];rw[if_pos hlen];split at h
 ·rename_i i c;simp only[aa]at h;obtain⟨row,hr,Lb,zf,h⟩:=h;simp at h;subst h;exact⟨{ t with F:=t.F.set i Lb },by simp[hB i true rfl,hr,zf],⟨rfl,rfl,.refl _,⟨fun h=>by simp[tf,qf.Fc]at h,fun _=>⟨rfl,rfl⟩⟩,.inr (.inr ⟨i,Lb,rfl,rfl,rfl,fun Bk ho=>by
   rw[hr]at ho;simp at ho;subst ho;unfold Bf at zf;split at zf
   ·simp at zf;subst zf;simp;omega
   ·simp at zf⟩)⟩⟩
 ·rename_i b r c;have hH':=hH rfl;split at h
  case h_2=>simp at h
  rename_i rows sz LC hb;split at h
  case isFalse=>simp at h
  rename_i ag;simp only[aa]at h;obtain⟨row,hr,Lb,zf,h⟩:=h;simp at h;subst h;refine⟨{ t with H:=Ra s.H b (.cells (rows.set r Lb) sz LC) },by simp[hH',hb,ag,hr,zf],⟨rfl,rfl,.set ag _,⟨fun _=>rfl,fun h=>by simp[tf,qf.Fc]at h⟩,.inl ⟨rfl,rfl⟩⟩⟩
 ·simp at h
theorem vB{H H':AH}{ty:TypeId}{p:SV}{i:Int}(h:(jr (some p)).Fc=true->H'=H):indexAddr A H' ty p i=indexAddr A H ty p i:=by
 unfold indexAddr;split
 ·rfl
 ·split
  ·rw[h rfl]
  ·rfl
  ·rfl
 ·rfl
def WN(A:yh)(H:AH)(t:TypeId)(x:AV):Option (AV×AH):=
 match A.P.underlying t,x with
 |some .string,.str s=>some (.int .i64 s.size,H)
 |some (.slice _),.Xa|some (.slice _),.Ud=>some (.int .i64 0,H)
 |some (.slice _),.lit _ rows=>some (.int .i64 rows.length,H)
 |some (.slice _),.sl _ _ n=>some (.int .i64 n,H)
 |some (.map _ _),m=>(mapOf H m).map fun es=>(.int .i64 es.length,H)
 |some (.array n _),_=>some (.int .i64 n,H)
 |_,_=>none
theorem YH{H H':AH}{b:Builtin}{ts:Array TypeId}{l:List AV}{v:AV}(hp:b= .max\/b= .min\/(b= .len/\∀m,l≠[.mp m]))(h:builtin A H b ts l=some (v,H')):H'=H/\∀H2,builtin A H2 b ts l=some (v,H2):=by
 rcases hp with rfl|rfl|⟨rfl,hp⟩
 ·unfold builtin at h ⊢;split at h<;>simp_all
  obtain⟨a,h1,h2,h3⟩:=h;exact⟨h3.symm,fun _=>by rw[h1,h2]⟩
 ·unfold builtin at h ⊢;split at h<;>simp_all
  obtain⟨a,h1,h2,h3⟩:=h;exact⟨h3.symm,fun _=>by rw[h1,h2]⟩
 ·unfold builtin at h;split at h<;>try (simp_all;done)
  rename_i x _;simp only[aa]at h;obtain⟨t,ht,h⟩:=h;have key:∀H2,builtin A H2 .len ts [x]=WN A H2 t x:=fun H2=>by simp only[builtin,ht,ga,WN];rfl
  have h:WN A H t x=some (v,H'):=h;unfold WN at key h;split at h
  all_goals first
   |(simp at h;done)
   |(simp at h;obtain⟨rfl,rfl⟩:=h;exact⟨rfl,fun H2=>by rw[key];simp_all⟩)
   |skip
  rename_i x _ _ _ _ hu _;simp only[ia]at h;obtain⟨es,he,h⟩:=h;simp at h;obtain⟨rfl,rfl⟩:=h;refine⟨rfl,fun H2=> ?_⟩;rw[key];have:mapOf H2 x=some es:=by
   cases x<;>first|(simp[mapOf]at he;done)|(exact absurd rfl (hp _))|(simpa[mapOf]using he)
  simp[hu,this]
theorem lG{q:Bool}{v:SV}(hq:Wc call)(h:op A call Fa s o=some (v,s'))(he:∀x∈o.op.operands,operand A t.e x=operand A s.e x)
  (hH:(Zc A Fa s o q).Fc=true->t.H=s.H) (hl:t.F.length=s.F.length) (hB:∀i w,Zc A Fa s o q= .box i w->t.F[i]?=s.F[i]?):
  ∃t',op A call Fa t o=some (v,t')/\V2 (Zc A Fa s o q) s s' t t':=by
 have hv:∀x∈o.op.operands,val A t.e x=val A s.e x:=fun x hx=>by simp only[val,he x hx]
 obtain⟨dst,o,type,pos,after,guard⟩:=o;simp only at he hv;cases o
 case move x=>
  simp only[op]at h ⊢;simp only[he x (by simp[Op.operands])];simp only[ia]at h ⊢;obtain⟨u,hu,h⟩:=h;simp at h;obtain⟨rfl,rfl⟩:=h;exact⟨t,⟨u,hu,rfl⟩,.same hH⟩
 case assign x=>
  simp only[op]at h ⊢;simp only[he x (by simp[Op.operands])];simp only[ia]at h ⊢;obtain⟨u,hu,h⟩:=h;simp at h;obtain⟨rfl,rfl⟩:=h;exact⟨t,⟨u,hu,rfl⟩,.same hH⟩
 case pick c a b=>
  simp only[op]at h ⊢;rw[hv c (by simp[Op.operands])];rw[he a (by simp[Op.operands]),he b (by simp[Op.operands])];simp only[aa]at h ⊢;obtain⟨u,hu,h⟩:=h;split at h
  ·simp only[ia]at h;obtain⟨x,hx,h⟩:=h;simp at h;obtain⟨rfl,rfl⟩:=h;exact⟨t,⟨_,hu,by simp[hx]⟩,.same hH⟩
  ·simp only[ia]at h;obtain⟨x,hx,h⟩:=h;simp at h;obtain⟨rfl,rfl⟩:=h;exact⟨t,⟨_,hu,by simp[hx]⟩,.same hH⟩
  ·simp at h
 case alloc ty=>
  simp only[op,aa]at h;obtain⟨z,hz,h⟩:=h;have:=BC (t:=t) h (fun hb=>hH (by have Ld:Vg Fa ⟨dst,.alloc ty,type,pos,after,guard⟩=false:=hb;simp only[Zc,Ld];rfl)) hl;simp only[op,hz,ga];exact this
 case box ty x=>
  simp only[op,aa]at h;obtain⟨u,hu,cs,aj,h⟩:=h;have:=BC (t:=t) h (fun hb=>hH (by have Ld:Vg Fa ⟨dst,.box ty x,type,pos,after,guard⟩=false:=hb;simp only[Zc,Ld];rfl)) hl;simp only[op,hv x (by simp[Op.operands]),hu,aj,ga];exact this
 case build ty ps=>
  simp only[op,aa]at h;obtain⟨l,BB,h⟩:=h;simp only[op,iu (s:=s) (t:=t) (l:=ps.toList) (fun x hx=>he x (by simpa[Op.operands]using hx)),BB,ga];exact bh h hH
 case buildSlice ty n ps=>
  simp only[op,aa]at h;obtain⟨l,BB,h⟩:=h;simp only[op,iu (s:=s) (t:=t) (l:=ps.toList) (fun x hx=>he x (by simpa[Op.operands]using hx)),BB,ga,hH rfl];refine Um h fun a H hx=> ?_
  simp only[aa]at hx;obtain⟨⟨x0,H0⟩,hx0,hx⟩:=hx;have h1:=Ay hx0;simp only at hx;split at hx
  ·exact h1.trans (Fi _ _ _ _ _ hx)
  ·simp at hx;obtain⟨_,rfl⟩:=hx;exact h1
 case load ty x=>
  simp only[op,aa]at h;obtain⟨p,hp,h⟩:=h;simp only[Zc,hp]at hH hB ⊢;simp only[op,he x (by simp[Op.operands]),hp,ga];cases bg:load A s ty p with
  |none=>rw[bg]at h;simp[Uf]at h
  |some y=>rw[rR bg hH hB];rw[bg]at h;exact bh h hH
 case store ty x y=>
  simp only[op,aa,ia]at h;obtain⟨p,hp,a,ha,s1,hs,h⟩:=h;simp at h;obtain⟨rfl,rfl⟩:=h;simp only[Zc,hp]at hH hB ⊢;obtain⟨t',h1,h2⟩:=jL hs hH hB;simp only[op,he x (by simp[Op.operands]),hv y (by simp[Op.operands]),hp,ha,h1,ga,Oc];exact⟨t',rfl,h2⟩
 case nilCheck x=>
  simp only[op,aa]at h;obtain⟨p,hp,h⟩:=h;simp only[op,he x (by simp[Op.operands]),hp,ga];split at h<;>first|(simp at h;obtain⟨rfl,rfl⟩:=h;exact⟨t,rfl,.same hH⟩)|simp at h
 case binOp b ty x y G7=>
  simp only[op,aa]at h;obtain⟨p,hp,q',hq',h⟩:=h;simp only[op,hv x (by simp[Op.operands]),hv y (by simp[Op.operands]),hp,hq',ga];exact bh h hH
 case unOp u ty x=>
  simp only[op,aa]at h;obtain⟨p,hp,h⟩:=h;simp only[op,hv x (by simp[Op.operands]),hp,ga];exact bh h hH
 case convert a b x=>
  simp only[op,aa]at h;obtain⟨p,hp,h⟩:=h;simp only[op,hv x (by simp[Op.operands]),hp,ga,hH rfl];exact Um h fun a H=>QD
 case makeFunc fx first fh=>
  cases fx with
  |func f=>
   simp only[op]at h ⊢;split at h
   ·rename_i h0;rw[if_pos h0];simp only[ia]at h;obtain⟨l,bg,h⟩:=h;simp at h;obtain⟨rfl,rfl⟩:=h;rw[Zw (s:=s) (t:=t) (l:=fh.toList) (fun x hx=>he x (by simp[Op.operands];exact .inr (by simpa using hx))),bg];exact⟨t,rfl,.same hH⟩
   ·simp at h
  |_=>simp[op]at h
 case makeMap ty r=>
  have uU:v= .v (.mp s.H.bl.length)/\s'={ s with H:=push s.H (.map []) }/\op A call Fa t ⟨dst,.makeMap ty r,type,pos,after,guard⟩=some (.v (.mp t.H.bl.length),{ t with H:=push t.H (.map []) }):=by
   simp only[op,aa]at h ⊢;obtain⟨_,h1,h⟩:=h;simp at h;obtain⟨rfl,rfl⟩:=h;refine⟨rfl,rfl,(),?_,trivial⟩;cases r with
   |none=>rfl
   |some x=>simp only[hv x (by simp[Op.operands])];exact h1
  obtain⟨rfl,rfl,h2⟩:=uU;rw[h2,hH rfl];exact⟨_,rfl,.heap (.push _ _)⟩
 case makeSlice ty l c=>
  simp only[op,aa]at h;obtain⟨p,hp,q',hq',h⟩:=h;simp only[op,hv l (by simp[Op.operands]),hv c (by simp[Op.operands]),hp,hq',ga,hH rfl];exact Um h fun a H=>Bz
 case slice ty x lo hi mx=>
  cases mx with
  |some m=>
   cases lo with
   |some _=>simp[op]at h
   |none=>
   cases hi with
   |none=>simp[op]at h
   |some hi=>
   simp only[op,aa]at h;obtain⟨p,hp,l,bg,u,hu,h⟩:=h;simp only[op,hv x (by simp[Op.operands]),hv hi (by simp[Op.operands]),hv m (by simp[Op.operands]),hp,bg,hu,ga];split at h
   ·rename_i hc;rw[if_pos hc];exact bh h hH
   ·simp at h
  |none=>
   simp only[op,aa]at h;obtain⟨p,hp,l,bg,u,hu,h⟩:=h;simp only[op,hv x (by simp[Op.operands]),Ky (s:=s) (t:=t) (x:=lo) (fun y hy=>he y (by simp[Op.operands]at hy ⊢;simp[hy])),Ky (s:=s) (t:=t) (x:=hi) (fun y hy=>he y (by simp[Op.operands]at hy ⊢;simp[hy])),hp,bg,hu,ga,hH rfl];exact bh h hH
 case fieldAddr ty x f=>
  simp only[op,aa]at h;obtain⟨p,hp,fd,qJ,n,hn,h⟩:=h;simp only[op,he x (by simp[Op.operands]),hp,qJ,hn,ga];split at h
  ·simp at h
  ·rename_i h0;rw[if_neg h0];simp only[ia]at h ⊢;obtain⟨u,hu,h⟩:=h;simp at h;obtain⟨rfl,rfl⟩:=h;exact⟨t,⟨u,hu,rfl⟩,.same hH⟩
 case field ty x f=>
  simp only[op,aa]at h;obtain⟨p,hp,h⟩:=h;simp only[op,hv x (by simp[Op.operands]),hp,ga];split at h
  ·simp only[aa]at h;obtain⟨fd,qJ,h⟩:=h;simp only[qJ,ga];exact bh h hH
  ·simp at h
 case indexAddr ty x i=>
  simp only[op,aa]at h;obtain⟨p,hp,u,hu,n,hn,h⟩:=h;simp only[Zc,hp]at hH hB ⊢;simp only[op,he x (by simp[Op.operands]),hv i (by simp[Op.operands]),hp,hu,hn,ga,vB hH];simp only[ia]at h ⊢;obtain⟨y,hy,h⟩:=h;simp at h;obtain⟨rfl,rfl⟩:=h;exact⟨t,⟨y,hy,rfl⟩,.same hH⟩
 case index ty x i=>
  simp only[op,aa]at h;obtain⟨p,hp,u,hu,n,hn,h⟩:=h;simp only[op,hv x (by simp[Op.operands]),hv i (by simp[Op.operands]),hp,hu,hn,ga];exact bh h hH
 case lookup ty x i ok=>
  simp only[op,aa]at h;obtain⟨p,hp,u,hu,h⟩:=h;simp only[op,hv x (by simp[Op.operands]),hv i (by simp[Op.operands]),hp,hu,ga,hH rfl];exact bh h hH
 case mapUpdate ty m k x=>
  simp only[op,aa,ia]at h;obtain⟨p,hp,u,hu,y,hy,H,hm,h⟩:=h;simp at h;obtain⟨rfl,rfl⟩:=h;simp only[op,hv m (by simp[Op.operands]),hv k (by simp[Op.operands]),hv x (by simp[Op.operands]),hp,hu,hy,hm,ga,Oc,hH rfl];exact⟨_,rfl,.heap (Zo hm)⟩
 case insert ty m k x=>
  simp only[op,aa,ia]at h;obtain⟨p,hp,u,hu,y,hy,H,hm,h⟩:=h;simp at h;obtain⟨rfl,rfl⟩:=h;simp only[op,hv m (by simp[Op.operands]),hv k (by simp[Op.operands]),hv x (by simp[Op.operands]),hp,hu,hy,hm,ga,Oc,hH rfl];exact⟨_,rfl,.heap (Zo hm)⟩
 case extract x i=>
  simp only[op,aa]at h;obtain⟨p,hp,h⟩:=h;simp only[op,hv x (by simp[Op.operands]),hp,ga];split at h
  ·simp only[ia]at h ⊢;obtain⟨y,hy,h⟩:=h;simp at h;obtain⟨rfl,rfl⟩:=h;exact⟨t,⟨y,hy,rfl⟩,.same hH⟩
  ·simp at h
 case call c=>
  obtain⟨callee,args,argTypes⟩:=c;simp only[op,aa]at h;obtain⟨l,bg,h⟩:=h;have T7:ah A t.e args.toList=some l:=by rw[<- bg];exact Zw fun x hx=>he x (by simp only[Op.operands];unfold Call.operands;cases callee<;>simp_all)
  have pure:∀(b:Builtin),callee= .builtin b->(b= .max\/b= .min\/(b= .len/\∀m,l≠[.mp m]))->∃t',op A call Fa t ⟨dst,.call ⟨callee,args,argTypes⟩,type,pos,after,guard⟩=some (v,t')/\V2 .no s s' t t':=fun b hb hp=>by
   subst hb;simp only[th,ia]at h;obtain⟨⟨a,H⟩,ha,h⟩:=h;simp at h;obtain⟨rfl,rfl⟩:=h;obtain⟨rfl,h2⟩:=YH hp ha;exact⟨t,by simp[op,T7,th,h2 t.H],.same (fun h=>by cases h)⟩
  by_cases hpb:(∃b,callee= .builtin b/\(b= .max\/b= .min\/(b= .len/\∀m,l≠[.mp m])))
  ·obtain⟨b,rfl,hp⟩:=hpb;have ht:Zc A Fa s ⟨dst,.call ⟨.builtin b,args,argTypes⟩,type,pos,after,guard⟩ q= .no:=by
    rcases hp with rfl|rfl|⟨rfl,hp⟩
    ·rfl
    ·rfl
    ·simp only[Zc,bg];unfold rh;split
     ·rename_i m e;simp at e;exact absurd e (hp m)
     ·rfl
     ·rename_i e;simp at e
   rw[ht];exact pure b rfl hp
  obtain⟨wr,S7⟩:∃wr,Zc A Fa s ⟨dst,.call ⟨callee,args,argTypes⟩,type,pos,after,guard⟩ q= .heap wr:=by
   cases callee with
   |builtin b=>
    cases b<;>first|exact⟨_,rfl⟩|(exact absurd ⟨_,rfl,.inl rfl⟩ hpb)|(exact absurd ⟨_,rfl,.inr (.inl rfl)⟩ hpb)|skip
    have:∃m,l=[.mp m]:=by
     rcases Classical.em (∃m,l=[.mp m])with h'|h'
     ·exact h'
     ·exact absurd ⟨_,rfl,.inr (.inr ⟨rfl,fun m e=>h' ⟨m,e⟩⟩)⟩ hpb
    obtain⟨m,rfl⟩:=this;exact⟨false,by simp only[Zc,bg,rh]⟩
   |_=>exact⟨_,rfl⟩
  rw[S7]at hH ⊢;simp only[op,T7,ga,hH rfl];cases callee with
  |value f=>
   simp only[aa]at h;obtain⟨gv,hg,h⟩:=h;simp only[hv f (by simp[Op.operands,Call.operands]),hg,ga];exact Um h fun a H=>hq _ _ _ _ _
  |builtin b=>exact Um h fun a H=>WD
  |_=>simp at h
 all_goals simp[op]at h
end
end
end Go.V
namespace Go.V
open Go
section
variable {A:yh}{call:Callee}{Fa keep:List Nat}{n:Nat}
theorem mB{s s':S}{o:Oper}{v:SV}(hq:Wc call)(h:op A call Fa s o=some (v,s')):Kc s.H s'.H/\s'.e=s.e:=by
 obtain⟨t',_,h2⟩:=lG (q:=false) (t:=s) hq h (fun _ _=>rfl) (fun _=>rfl) rfl (fun _ _ _=>rfl);exact⟨h2.q,h2.e1⟩
theorem dB{s s':S}{n:Nat}{dst:Option Nat}{v:SV}(h:put s n dst v=some s'):s'.H=s.H/\s'.F=s.F:=by
 unfold put at h;split at h
 ·simp at h;subst h;exact⟨rfl,rfl⟩
 ·split at h
  ·simp at h;subst h;exact⟨rfl,rfl⟩
  ·simp at h
theorem zx{all:Array Oper}(hq:Wc call):∀(l:List Oper)(s s':S),ops A call Fa n all l s=some s'->Kc s.H s'.H
 |[],s,s',h=>by simp[ops]at h;subst h;exact .refl _
 |o::l,s,s',h=>by
  simp only[ops,aa]at h;obtain⟨b,hb,h⟩:=h;cases b with
  |true=>
   simp only[aa]at h;obtain⟨⟨v,s1⟩,CB,s2,Wg,h⟩:=h;have:=zx hq l s2 s' h;rw[(dB Wg).1]at this;exact(mB hq CB).1.trans this
  |false=>
   simp only[aa]at h;obtain⟨s1,Wg,h⟩:=h;have:=zx hq l s1 s' h;rw[(dB Wg).1]at this;exact this
theorem lR{s s':S}{o:Oper}{v:SV}{t:qf}(hq:Wc call)(h:TN A call Fa t s o=some (v,s')):Kc s.H s'.H:=by
 have eak:∀{s':S},(op A call Fa { s with H:={ s.H with wm:=s.H.bl.length } } o).map (fun(v,s')=>(v,{ s' with H:={ s'.H with wm:=s.H.wm } }))=some (v,s')->Kc s.H s'.H:=fun h=>by
  simp only[ia]at h;obtain⟨⟨u,s1⟩,h1,h⟩:=h;simp at h;obtain⟨_,rfl⟩:=h;obtain⟨q1,q2,q3⟩:=(mB hq h1).1;exact⟨rfl,q2,fun b _ hl=>q3 b hl hl⟩
 unfold TN at h;split at h
 ·exact(mB hq h).1
 ·exact eak h
theorem Yn{all:Array Oper}{b:List Nat}(hq:Wc call):∀(l:List Oper)(i:Nat)(s:S)(x:List qf)(rs:List (Oper×List (Nat×SV)×SV))(s':S)(y:List qf),Xj A call Fa n all b l i s x rs=some (s',y)->Kc s.H s'.H
 |[],i,s,x,rs,s',y,h=>by simp[Xj]at h;obtain⟨rfl,_⟩:=h;exact .refl _
 |o::l,i,s,x,rs,s',y,h=>by
  simp only[Xj,aa]at h;obtain⟨b,hb,h⟩:=h;cases b with
  |true=>
   simp only at h;split at h
   ·simp only[aa]at h;obtain⟨⟨v,s1⟩,CB,h⟩:=h;split at h
    case isFalse=>simp at h
    simp only[aa]at h;obtain⟨s2,Wg,h⟩:=h;split at h
    case isFalse=>simp at h
    have:=Yn hq l _ s2 _ _ s' y h;rw[(dB Wg).1]at this;exact this
   ·simp only[aa]at h;obtain⟨⟨v,s1⟩,CB,s2,Wg,h⟩:=h;split at h
    case isFalse=>simp at h
    have:=Yn hq l _ s2 _ _ s' y h;rw[(dB Wg).1]at this;exact(lR hq CB).trans this
  |false=>
   simp only[aa]at h;obtain⟨s1,Wg,h⟩:=h;split at h
   case isFalse=>simp at h
   have:=Yn hq l _ s1 _ _ s' y h;rw[(dB Wg).1]at this;exact this
theorem fG{s s':S}{os:Array Oper}{draw:Bool}(hq:Wc call)(h:region A call Fa n os draw s=some s'):Kc s.H s'.H:=by
 unfold region at h;split at h
 ·split at h
  ·simp only[aa]at h;obtain⟨⟨s1,l⟩,h1,h⟩:=h;split at h
   ·simp at h;subst h;exact Yn hq _ _ _ _ _ _ _ h1
   ·simp at h
  ·simp at h
 ·exact zx hq _ _ _ h
theorem yu(hq:Wc call){rf:Bool}:∀(c:Code)(s:S)(ex:Ex)(s':S),code A call rf Fa keep n c s=some (ex,s')->Kc s.H s'.H:=by
 intro c;induction c with
 |skip=>intro s ex s' h;simp[code]at h;obtain⟨_,rfl⟩:=h;exact .refl _
 |label l=>intro s ex s' h;simp[code]at h;obtain⟨_,rfl⟩:=h;exact .refl _
 |exit id=>intro s ex s' h;simp[code]at h;obtain⟨_,rfl⟩:=h;exact .refl _
 |ret=>intro s ex s' h;simp[code]at h;obtain⟨_,rfl⟩:=h;exact .refl _
 |region id os draw=>
  intro s ex s' h;simp only[code,ia]at h;obtain⟨s1,h1,h⟩:=h;simp at h;obtain⟨_,rfl⟩:=h;exact fG hq h1
 |seq x y J4 Z_=>
  intro s ex s' h;simp only[code,aa]at h;obtain⟨⟨e1,s1⟩,h1,h⟩:=h;cases e1 with
  |normal=>exact(J4 _ _ _ h1).trans (Z_ _ _ _ h)
  |exit id=>simp at h;obtain⟨_,rfl⟩:=h;exact J4 _ _ _ h1
  |ret=>simp at h;obtain⟨_,rfl⟩:=h;exact J4 _ _ _ h1
 |cond c x y J4 Z_=>
  intro s ex s' h;simp only[code,aa]at h;obtain⟨cv,_,h⟩:=h;split at h
  ·split at h
   ·exact J4 _ _ _ h
   ·exact Z_ _ _ _ h
  ·simp at h
 |block id c ih=>
  intro s ex s' h;simp only[code,aa]at h;obtain⟨⟨e1,s1⟩,h1,h⟩:=h;have:=ih _ _ _ h1;cases e1 with
  |normal=>simp at h;obtain⟨_,rfl⟩:=h;exact this
  |ret=>simp at h;obtain⟨_,rfl⟩:=h;exact this
  |exit NC=>
   simp only at h;split at h<;>simp at h<;>obtain⟨_,rfl⟩:=h<;>exact this
 |loop c ih=>
  intro s ex s' h;simp only[code]at h;generalize Ym=k at h;induction k generalizing s with
  |zero=>simp[Gt]at h
  |succ k ihk=>
   simp only[Gt,aa]at h;obtain⟨⟨e1,s1⟩,h1,h⟩:=h;have:=ih _ _ _ h1;cases e1 with
   |normal=>exact Kc.trans (H:=s.H) this (ihk _ h)
   |exit id=>simp at h;obtain⟨_,rfl⟩:=h;exact this
   |ret=>simp at h;obtain⟨_,rfl⟩:=h;exact this
 |rangeFunc fx ps assign body=>
  intro s ex s' h;simp only[code]at h;split at h
  case isFalse=>simp at h
  simp only[aa]at h;obtain⟨fv,_,env,_,_,_,⟨r,H2⟩,Qf,h⟩:=h;split at h
  case h_2=>simp at h
  simp only[aa]at h;obtain⟨_,_,h⟩:=h;split at h
  case isFalse=>simp at h
  rename_i ag;simp only[ia]at h;obtain⟨JH,_,h⟩:=h;simp at h;obtain⟨_,rfl⟩:=h;exact((Kc.push _ _).trans (hq _ _ _ _ _ Qf)).trans (.set ag _)
 |scope c ih=>intro s ex s' h;simp only[code]at h;exact ih _ _ _ h
 |goto=>intro s ex s' h;simp[code]at h
 |refuse=>intro s ex s' h;simp[code]at h
def br(A:yh):Prop:=∀f h,A.ext f=some h->∀args H r H',h args H=some (r,H')->Kc H H'
theorem lj(hE:br A):∀k,Wc (V.call A k)
 |0=>fun fv args H r H' h=>by simp[V.call]at h
 |k+1=>fun fv args H r H' h=>by
  cases fv
  case fn f fh=>
   simp only[V.call]at h;split at h
   ·rename_i e he;exact hE f e he _ _ _ _ h
   ·split at h
    case h_1=>simp at h
    split at h
    case h_1=>simp at h
    split at h
    case isFalse=>simp at h
    simp only[aa]at h;obtain⟨⟨ex,s1⟩,zj,h⟩:=h;have hq:=yu (lj hE k) _ _ _ _ zj;have Jz:∀l,(if A.AU f=true then freeze 8 s1.H (result l)else some (result l,s1.H))=some (r,H')->Kc H H':=fun l h=>by
     split at h
     ·exact Kc.trans (H:=H) hq (Fi _ _ _ _ _ h)
     ·simp at h;obtain⟨_,rfl⟩:=h;exact hq
    cases ex with
    |exit id=>simp at h
    |normal=>simp only[aa]at h;obtain⟨l,_,h⟩:=h;exact Jz l h
    |ret=>simp only[aa]at h;obtain⟨l,_,h⟩:=h;exact Jz l h
  case yl b=>
   simp only[V.call]at h;split at h
   case h_2=>simp at h
   split at h
   case isFalse=>simp at h
   rename_i hc;simp only[aa]at h;obtain⟨⟨h_,s1⟩,fM,h⟩:=h;split at h
   case h_2=>simp at h
   rename_i heq;simp at heq;obtain⟨rfl,rfl⟩:=heq;split at h
   case h_2=>simp at h
   simp only[aa]at h;obtain⟨⟨JH,s2⟩,eM,h⟩:=h;split at h
   case h_2=>simp at h
   simp at h;obtain⟨_,rfl⟩:=h;have q1:=yu (lj hE k) _ _ _ _ fM;have q2:=yu (lj hE k) _ _ _ _ eM;have w1:s1.H.wm=H.wm:=q1.1;have w2:s2.H.wm=s1.H.wm:=q2.1;have k1:∀x,Kc s1.H (Ra s1.H b x):=fun x=>Kc.set (by rw[w1];exact hc.2.1) x
   exact Kc.trans (H:=H) (Kc.trans (Kc.trans q1 (k1 _)) q2) (.set (by show s2.H.wm<=b;rw[w2,w1];exact hc.2.1) _)
  all_goals simp[V.call]at h
end
end Go.V
namespace Go.V
open Go
section
variable {A:yh}{g:Gx}{f:Fx}{w:World}{s:S}{a:Act}{call:Callee}{Fa:List Nat}
theorem cB{s s':S}{n:Nat}{dst:Option Nat}{v:SV}(h:put s n dst v=some s'):s'.F=s.F/\s'.H=s.H/\((dst=none/\s'.e=s.e)\/∃d,dst=some d/\d<n/\s'.e=(d,v)::s.e):=by
 unfold put at h;split at h
 ·simp at h;subst h;exact⟨rfl,rfl,.inl ⟨rfl,rfl⟩⟩
 ·rename_i d;split at h
  ·rename_i hd;simp at h;subst h;exact⟨rfl,rfl,.inr ⟨d,rfl,hd,rfl⟩⟩
  ·simp at h
theorem Gv{tmps:Array Value}{d:Nat}{rv:Value}(t:Nat)(hd:d<tmps.size):(tmps.setIfInBounds d rv).getD t undef=if t=d then rv else tmps.getD t undef:=by
 simp only[ni,Array.getElem?_setIfInBounds];by_cases h:d=t
 ·subst h;simp[hd]
 ·rw[if_neg h,if_neg (fun e=>h e.symm)]
theorem mQ{s':S}{n:Nat}{dst:Option Nat}{v:SV}{rv:Value}(h:put s n dst v=some s')(he:Ze g f w s.e a.tmps)(hn:a.tmps.size=n)(hv:Fe g f w v rv):Ze g f w s'.e (a.put dst rv).tmps/\(a.put dst rv).tmps.size=n/\(a.put dst rv).defers=a.defers:=by
 obtain⟨_,_,⟨rfl,h3⟩|⟨d,rfl,hd,h3⟩⟩:=cB h
 ·rw[h3];exact⟨he,hn,rfl⟩
 ·rw[h3];refine⟨fun t=> ?_,by simp[Act.put,hn],rfl⟩;simp only[Act.put,get];rw[Gv t (by omega)];by_cases ht:t=d
  ·rw[if_pos ht,if_pos ht];exact hv
  ·rw[if_neg ht,if_neg ht];exact he t
theorem mE(g:Gx)(w:World):mb g w (.Sc []) undef:=mb.Sc [] [] rfl fun i x v h=>by simp at h
theorem Wy{all:Array Oper}{o:Oper}{b:Bool}(h:Yc all s o=some b)(he:Ze g f w s.e a.tmps):Region.wanted o (yielded all a.tmps)=b:=by
 unfold Yc at h;unfold Region.wanted;split at h
 ·rename_i hg;simp at h;subst h;simp[hg]
 ·rename_i j want hg;simp only[hg];split at h
  ·rename_i d hd;split at h
   ·rename_i b' Ld;simp at h;subst h;have:=he d;rw[Ld]at this;have hv:a.tmps.getD d undef= .bool b':=by
     generalize a.tmps.getD d undef=v at this;have Up:mb g w (.bool b') v:=this;cases Up;rfl
    have h2:a.tmps[d]?=some (.bool b'):=by
     rw[ni]at hv;cases hx:a.tmps[d]? with
     |none=>rw[hx]at hv;simp[undef]at hv
     |some v=>rw[hx]at hv;simp at hv;rw[hv]
    have h3:yielded all a.tmps j=some b':=by simp[yielded,hd,h2]
    rw[h3];cases b'<;>cases want<;>rfl
   ·rename_i Ld;simp at h;subst h;have:=he d;rw[Ld]at this;have hv:a.tmps.getD d undef=undef:=by
     generalize a.tmps.getD d undef=v at this;have Up:mb g w (.Sc []) v:=this;cases Up with
     |Sc _ vs hl _=>
      have:vs=[]:=Ja.1 hl;subst this;rfl
    have h3:yielded all a.tmps j=none:=by
     rw[ni]at hv;simp only[yielded,hd,ga];cases hx:a.tmps[d]? with
     |none=>rfl
     |some v=>rw[hx]at hv;simp[undef]at hv;rw[hv]
    rw[h3];cases want<;>rfl
   ·simp at h
  ·simp at h
def R1(G:Nat->Option (List AV))(g:Gx)(f:Fx)(w:World)(s s':S)(n:Nat)(a:Act)(K:Act->World->Prop):Prop:=
 ∀g' f' a' w',St G g' f' s' n a' w'->Bg g f w s.H s.F g' f' w' s'.H s'.F->YD w a.defers a'.defers->K a' w'
theorem B0{g':Gx}{f':Fx}{w':World}{s':S}(hw:dc A.Pa g w s.H)(hf:Td g f w s.H s.F)(hx:Bg g f w s.H s.F g' f' w' s'.H s'.F)(he:Ze g f w s.e a.tmps):Ze g' f' w' s.e a.tmps:=
 fun t=>(he t).mono (hx.le hw hf) hx.E
theorem yx{F:Fence}{m n:Nat}{all:Array Oper}{Q:Exit->Act->World->Prop}(hC:Gj A call)(hF:Hw F):∀(l:List Oper)(i:Nat)(g:Gx)(f:Fx)(s s':S)(a:Act)(w:World),(∀k,l[k]?=all[i+k]?)->ops A call Fa n all l s=some s'->St A.Pa g f s n a w->R1 A.Pa g f w s s' n a (Q .normal)->
  wpOpsIn F m A.P all Q (List.range' i l.length) a w
 |[],i,g,f,s,s',a,w,_,h,jc,hk=>by
  simp[ops]at h;subst h;exact hk g f a w jc (.refl _ _ _ _ _) (.refl _ _)
 |o::l,i,g,f,s,s',a,w,hl,h,jc,hk=>by
  have ho:all[i]?=some o:=by have:=hl 0;simpa using this.symm
  have bg:∀k,l[k]?=all[i+1+k]?:=fun k=>by have:=hl (k+1);rw[show i+1+k=i+(k+1)by omega,<- this];simp
  simp only[ops,aa]at h;obtain⟨b,hb,h⟩:=h;have maf:=Wy hb jc.he;rw[Jb,List.range'_succ];simp only[wpOpsIn,ho,maf];cases b with
  |true=>
   simp only[aa]at h;obtain⟨⟨v,s1⟩,CB,s2,Wg,h⟩:=h;rw[if_pos rfl];refine PI hC CB jc.hw jc.hf jc.he hF (fun t x y ho i c hx=>jc.hW i (by have:=ye hx jc.hw jc.he;exact this.1)) fun hse g1 f1 w1 rv ML hf1 xj W7=> ?_
   obtain⟨e1,e2,e3⟩:=cB Wg;have he1:Ze g1 f1 w1 s1.e a.tmps:=by rw[hse];exact B0 jc.hw jc.hf xj jc.he
   obtain⟨p1,p2,p3⟩:=mQ Wg he1 jc.hn W7;refine yx hC hF l (i+1) g1 f1 s2 s' (a.put o.dst rv) w1 bg h ⟨by rw[e2];exact ML,by rw[e1,e2];exact hf1,p1,p2,by rw[p3];exact jc.hm.step jc.hw jc.hf xj,xj.Nad jc.hW⟩ fun g' f' a' w' h1 h2 h3=>hk g' f' a' w' h1 ?_ (YD.trans xj.size (by rw[p3];exact .refl _ _) h3)
   rw[e1,e2]at h2;exact xj.trans h2
  |false=>
   simp only[aa]at h;obtain⟨s1,Wg,h⟩:=h;rw[if_neg (by simp)];refine⟨fun f _=>hF.fn f,?_⟩;obtain⟨e1,e2,e3⟩:=cB Wg;obtain⟨p1,p2,p3⟩:=mQ (rv:=undef) Wg jc.he jc.hn (mE g w);refine yx hC hF l (i+1) g f s1 s' (a.put o.dst undef) w bg h ⟨by rw[e2];exact jc.hw,by rw[e1,e2];exact jc.hf,p1,p2,by rw[p3];exact jc.hm,jc.hW⟩ fun g' f' a' w' h1 h2 h3=>hk g' f' a' w' h1 (by rw[e1,e2]at h2;exact h2) (by rw[p3]at h3;exact h3)
theorem gG{F:Fence}{m n id:Nat}{all:Array Oper}{s':S}{Q:Exit->Act->World->Prop}(hC:Gj A call)(hF:Hw F)(h:region A call Fa n all false s=some s')(jc:St A.Pa g f s n a w)(hk:R1 A.Pa g f w s s' n a (Q .normal)):
  (Code.region id all false).wpIn F m A.P Q a w:=by
 refine wpIn_region ?_;have hs:ua all.size=List.range' 0 all.toList.length:=by simp[List.range_eq_range']
 rw[hs];exact yx hC hF all.toList 0 g f s s' a w (fun k=>by simp) (by simpa[region]using h) jc hk
end
end Go.V
namespace Go.V
open Go
def Ex.u0:Ex->Exit
 | .normal=> .normal
 | .exit id=> .exit id
 | .ret=> .ret
def Jn(A:yh):Prop:=
 ∀(call:Callee)(Fa:List Nat),Gj A call->Wc call->∀(F:Fence)(m n id:Nat)(all:Array Oper)(g:Gx)(f:Fx)(s s':S)(a:Act)(w:World)(Q:Exit->Act->World->Prop),Hw F->
  region A call Fa n all true s=some s'->St A.Pa g f s n a w->R1 A.Pa g f w s s' n a (Q .normal)->(Code.region id all true).wpIn F m A.P Q a w
section
variable {A:yh}{call:Callee}{Fa keep:List Nat}
theorem SR(keep:List Nat)(e:List (Nat×SV))(t:Nat):get (keep.map fun i=>(i,get e i)) t=get e t\/get (keep.map fun i=>(i,get e i)) t= .v .Sb:=by
 induction keep with
 |nil=>exact .inr rfl
 |cons k ks ih=>
  simp only[Pd,get];by_cases h:t=k
  ·rw[if_pos h,h];exact .inl rfl
  ·rw[if_neg h];exact ih
theorem St.clean{g:Gx}{f:Fx}{s:S}{n:Nat}{a:Act}{w:World}(h:St A.Pa g f s n a w):St A.Pa g f (clean keep s) n a w:=
 ⟨h.hw,h.hf,fun t=>by
  rcases SR keep s.e t with h1|h1
  ·show Fe g f w (get (keep.map fun i=>(i,get s.e i)) t) _;rw[h1];exact h.he t
  ·show Fe g f w (get (keep.map fun i=>(i,get s.e i)) t) _;rw[h1];exact mb.Sb _,h.hn,h.hm,h.hW⟩
def rz(A:yh):Prop:=∀f fn,A.fns f=some fn->A.P.funcs[f]?=some fn/\(fn.name== "runtime.NumGoroutine")=false
theorem Vn(RC:rz A){f:FuncId}{fn:Func}(h:A.fns f=some fn)(hb:fn.body.isSome=true)(args:Array Value)(w:World):(callFunc f args).run A.P w= .ok (.enter f args) w:=by
 obtain⟨h1,h2⟩:=RC f fn h;have hn:fn.body.isNone=false:=by cases hx:fn.body<;>simp_all
 unfold callFunc;simp only[program,Sem.run_bind,Sem.run,h1,Result.andThen,h2,hn];rfl
theorem sx(RC:rz A){f:FuncId}{fn:Func}(h:A.fns f=some fn)(hb:fn.body.isSome=true)(vs args:Array Value)(w:World):
  ((do let d <- Deferred.ofValue (.func (.func f) #[] vs) args;invoke d.target d.args:Sem Next).run A.P w)= .ok (.enter f (args++vs)) w:=by
 simp[Deferred.ofValue,invoke,go_sem,Vn RC h hb]
theorem TE{e:List (Nat×SV)}:∀{is:List Nat}{env:List (Nat×AV)},oz e is=some env->∀t,get (De env) t=get e t\/get (De env) t= .v .Sb
 |[],env,h,t=>by simp[oz]at h;subst h;exact .inr rfl
 |i::is,env,h,t=>by
  simp only[oz,aa,ia]at h;obtain⟨a,ha,l,hl,rfl⟩:=h;simp only[De,get];split
  ·rename_i e0;subst e0;split at ha
   ·rename_i b hb;simp at ha;subst ha;left;rw[hb]
   ·simp at ha;subst ha;exact .inr rfl
  ·exact TE hl t
theorem Marks.lt{g:Gx}{w:World}:∀{ds:List Deferred},Marks g w ds->∀d∈ds,∃r,d.target= .collected r/\r<w.heap.size
 |[],_,d,h=>by simp at h
 |d0::ds,⟨⟨r,h1,h2,h3,h4⟩,hm⟩,d,h=>by
  rcases Yb.1 h with rfl|h
  ·exact⟨r,h1,Za h2⟩
  ·exact hm.lt d h
theorem wR{p:Option Code}{ex:Ex}(h:sG p=some ex):p=ex.jump:=by
 unfold sG at h;split at h<;>simp at h<;>subst h<;>rfl
theorem aL{P:Program}{F:Fence}{m:Nat}{Q:Exit->Act->World->Prop}{a:Act}{w:World}{c:Code}(h:c.wpIn F m P (Exit.noGoto Q) a w):(Code.scope c).wpIn F m P Q a w:=by
 intro b k cs I2 hb hr;have h0:(lone (b.atR a (.code (.scope c)::k)) cs w).fenced P F:=fenced_calm hb hr rfl;have s1:∀{a:Act}{k:List Item}{w:World},step P (lone (b.atR a (.code (.scope c)::k)) cs w)= .next (lone (b.atR a (.code c:: .inScope c::k)) cs w):=step_lone_go (by simp[stepG,stepG.exec,Frame.atR])
 have s2:∀{a:Act}{k:List Item}{w:World},step P (lone (b.atR a (.inScope c::k)) cs w)= .next (lone (b.atR a k) cs w):=step_lone_go (by simp[stepG,stepG.exec,Frame.atR])
 obtain⟨e,D1,GU,hq,PR⟩:=h b (.inScope c::k) cs I2 hb hr;cases e with
 |normal=>exact⟨.normal,D1,GU,hq,.head h0 s1 (StepsIn.trans PR (.one (fenced_calm hb hr rfl) s2))⟩
 |exit NC=>
  have hx:exitTo NC (.inScope c::k)=exitTo NC k:=by simp[exitTo]
  exact⟨.exit NC,D1,GU,hq,fun k' hk=> .head h0 s1 (PR.1 k' (by rw[hx];exact hk)),
   fun Ql hk=>let⟨k₁,h1,h2⟩:=PR.2 Ql (by rw[hx];exact hk);⟨k₁,h1,.head h0 s1 h2⟩⟩
 |goto l=>exact hq.elim
 |ret=>exact⟨_,D1,GU,hq,.of_steps (.one h0 s1) PR⟩
 |panic ch=>exact⟨_,D1,GU,hq,.of_steps (.one h0 s1) PR⟩
 |outgrown=>exact⟨_,D1,GU,hq,.of_steps (.one h0 s1) PR⟩
theorem xu(RC:rz A)(hC:Gj A call)(hCq:Wc call)(hD:Jn A){rf:Bool}{F:Fence}(hF:Hw F)(I2:rf=true->F.round=none){m n:Nat}:∀(c:Code)(g:Gx)(f:Fx)(s s':S)(ex:Ex)(a:Act)(w:World)(Q:Exit->Act->World->Prop),code A call rf Fa keep n c s=some (ex,s')->St A.Pa g f s n a w->R1 A.Pa g f w s s' n a (Q ex.u0)->
  c.wpIn F m A.P Q a w:=by
 intro c;induction c with
 |skip=>
  intro g f s s' ex a w Q h jc hk;simp[code]at h;obtain⟨rfl,rfl⟩:=h;exact wpIn_skip (hk g f a w jc (.refl _ _ _ _ _) (.refl _ _))
 |label l=>
  intro g f s s' ex a w Q h jc hk;simp[code]at h;obtain⟨rfl,rfl⟩:=h;exact wpIn_label (hk g f a w jc (.refl _ _ _ _ _) (.refl _ _))
 |region id os draw=>
  intro g f s s' ex a w Q h jc hk;simp only[code,ia]at h;obtain⟨s1,h1,h⟩:=h;simp at h;obtain⟨rfl,rfl⟩:=h;cases draw with
  |true=>exact hD call Fa hC hCq F m n id os g f s s1 a w Q hF h1 jc hk
  |false=>exact gG hC hF h1 jc hk
 |seq x y J4 Z_=>
  intro g f s s' ex a w Q h jc hk;simp only[code,aa]at h;obtain⟨⟨e1,s1⟩,h1,h⟩:=h;refine wpIn_seq (J4 g f s s1 e1 a w _ h1 jc ?_);intro g1 f1 a1 w1 tg xj QK;cases e1 with
  |normal=>exact Z_ g1 f1 s1 s' ex a1 w1 Q h tg fun g2 f2 a2 w2 h2 oq hd2=>hk g2 f2 a2 w2 h2 (xj.trans oq) (YD.trans xj.size QK hd2)
  |exit id=>simp at h;obtain⟨rfl,rfl⟩:=h;exact hk g1 f1 a1 w1 tg xj QK
  |ret=>simp at h;obtain⟨rfl,rfl⟩:=h;exact hk g1 f1 a1 w1 tg xj QK
 |cond c x y J4 Z_=>
  intro g f s s' ex a w Q h jc hk;simp only[code,aa]at h;obtain⟨cv,fW,h⟩:=h;have hc:=Ub fW jc.hw jc.he;split at h
  ·rename_i b;generalize Kz:a.eval c=v at hc;cases hc;refine wpIn_cond Kz ?_;cases b with
   |true=>exact J4 g f s s' ex a w Q (by simpa using h) jc hk
   |false=>exact Z_ g f s s' ex a w Q (by simpa using h) jc hk
  ·simp at h
 |block id c ih=>
  intro g f s s' ex a w Q h jc hk;simp only[code,aa]at h;obtain⟨⟨e1,s1⟩,h1,h⟩:=h;refine wpIn_block (ih g f s s1 e1 a w _ h1 jc ?_);intro g1 f1 a1 w1 tg xj QK;cases e1 with
  |normal=>simp at h;obtain⟨rfl,rfl⟩:=h;exact hk g1 f1 a1 w1 tg xj QK
  |ret=>simp at h;obtain⟨rfl,rfl⟩:=h;exact hk g1 f1 a1 w1 tg xj QK
  |exit NC=>
   simp only at h;simp only[Ex.u0,Exit.inBlock];split at h
   ·rename_i e;rw[if_pos e];simp at h;obtain⟨rfl,rfl⟩:=h;exact hk g1 f1 a1 w1 tg xj QK
   ·rename_i e;rw[if_neg e];simp at h;obtain⟨rfl,rfl⟩:=h;exact hk g1 f1 a1 w1 tg xj QK
 |loop c ih=>
  intro g f s s' ex a w Q h jc hk;simp only[code]at h;refine wpIn_loop_rounds Ym ?_;generalize Ym=k at h ⊢;have key:∀(k:Nat)(g1:Gx)(f1:Fx)(s1:S)(a1:Act)(w1:World),Gt (fun s=>code A call rf Fa keep n c (clean keep s)) k s1=some (ex,s')->St A.Pa g1 f1 s1 n a1 w1->R1 A.Pa g1 f1 w1 s1 s' n a1 (Q ex.u0)->Code.roundsIn F m A.P c Q k a1 w1:=by
   intro k;induction k with
   |zero=>intro g1 f1 s1 a1 w1 h;simp[Gt]at h
   |succ k ihk=>
    intro g1 f1 s1 a1 w1 h tg hk1;simp only[Gt,aa]at h;obtain⟨⟨e2,s2⟩,h2,h⟩:=h;rw[roundsIn_succ];refine ih g1 f1 (clean keep s1) s2 e2 a1 w1 _ h2 tg.clean ?_;intro g2 f2 a2 w2 Gz oq hd2;cases e2 with
    |normal=>exact ihk g2 f2 s2 a2 w2 h Gz fun g3 f3 a3 w3 h3 hx3 hd3=>hk1 g3 f3 a3 w3 h3 (oq.trans hx3) (YD.trans oq.size hd2 hd3)
    |exit id=>simp at h;obtain⟨rfl,rfl⟩:=h;exact hk1 g2 f2 a2 w2 Gz oq hd2
    |ret=>simp at h;obtain⟨rfl,rfl⟩:=h;exact hk1 g2 f2 a2 w2 Gz oq hd2
  exact key k g f s a w h jc hk
 |exit id=>
  intro g f s s' ex a w Q h jc hk;simp[code]at h;obtain⟨rfl,rfl⟩:=h;exact wpIn_exit (hk g f a w jc (.refl _ _ _ _ _) (.refl _ _))
 |ret=>
  intro g f s s' ex a w Q h jc hk;simp[code]at h;obtain⟨rfl,rfl⟩:=h;exact wpIn_ret (hk g f a w jc (.refl _ _ _ _ _) (.refl _ _))
 |rangeFunc fx ps assign body=>
  intro g f s s' ex a w Q h jc hk;simp only[code]at h;split at h
  case isFalse=>simp at h
  case isTrue OL=>
  simp only[aa]at h;obtain⟨fv,NR,env,yak,_,Ln,⟨r,H2⟩,Qf,h⟩:=h;have mD:=Ub NR jc.hw jc.he;split at Ln
  case h_2=>simp at Ln
  rename_i ff fh;split at Ln
  case h_2=>simp at Ln
  rename_i fn aag;split at Ln
  case isFalse=>simp at Ln
  rename_i Ty;split at h
  case h_2=>simp at h
  rename_i n2 cO KH ps2 BA rQ st eV uJ;simp only[aa]at h;obtain⟨_,kag,h⟩:=h;split at h
  case isFalse=>simp at h
  rename_i ag;simp only[ia]at h;obtain⟨JH,Taf,h⟩:=h;simp at h;obtain⟨rfl,rfl⟩:=h;obtain⟨vs,hev,DR,hvr⟩:∃vs:List Value,a.eval fx= .func (.func ff) #[] vs.toArray/\vs.length=fh.length/\∀(i:Nat)(x:AV)(v:Value),fh[i]?=some x->vs[i]?=some v->mb g w x v:=by
   generalize a.eval fx=v at mD;cases mD with
   |fn _ _ vs hl hr=>exact⟨vs,rfl,hl,hr⟩
  refine wpIn_rangeFunc ?_;intro fn0 _;rw[I2 OL];obtain⟨wa,hwa⟩:∃wa,wa=w.alloc (.deferred (some [])):=⟨_,rfl⟩;obtain⟨rec,jD⟩:∃ rec:Loop,rec={ state:= .ready,pending:=none,fn:=fn0,tmps:=a.tmps,params:=ps,assign,body,defers:=w.heap.size }:=⟨_,rfl⟩;obtain⟨w1,ML⟩:∃w1,w1=wa.alloc (.loop rec):=⟨_,rfl⟩;have hsa:wa.heap.size=w.heap.size+1:=by rw[hwa];simp
  have E2:w1.heap.size=w.heap.size+2:=by rw[ML];simp[hsa]
  have hoa:∀R,R<w.heap.size->wa.heap[R]?=w.heap[R]?:=fun R hR=>by rw[hwa];show(w.heap.push _)[R]?=_;simp[Array.getElem?_push,Nat.ne_of_lt hR]
  have yG:∀R,R<wa.heap.size->w1.heap[R]?=wa.heap[R]?:=fun R hR=>by rw[ML];show(wa.heap.push _)[R]?=_;simp[Array.getElem?_push,Nat.ne_of_lt hR]
  have NK:w1.heap[w.heap.size+1]?=some (.loop rec):=by rw[ML,<- hsa];exact World.alloc_heap_new _ _
  have QK:wa.heap[w.heap.size]?=some (.deferred (some [])):=by rw[hwa];exact World.alloc_heap_new _ _
  obtain⟨pa,pb,pc⟩:=fo (Qw:=by subst hwa;exact⟨rfl,rfl⟩) jc.hw jc.hf (by omega) hoa;obtain⟨qa,qb,qc⟩:=Hr (x:= .loop n keep env ps.toList assign body .ready none) (l:=⟨w.heap.size+1,0,0,0⟩) pa pb (w':=w1) (Qw:=by subst ML;exact⟨rfl,rfl⟩) (by omega) (by rw[hsa]) (by omega) yG (fun hle=>by
   refine⟨rec,NK,fun hz=> ?_,by rw[jD],by rw[jD],by rw[jD],by rw[jD],by rw[jD],by rw[jD];exact jc.hn,fun t x hx=> ?_⟩
   ·have:=jc.hw.Eu _ hz;simp at this;omega
   ·rcases TE yak t with h1|h1
    ·rw[h1]at hx;have:=jc.he t;rw[hx]at this;rw[jD];exact(mb.mono (pc.le jc.hw jc.hf) this).mono hle
    ·rw[h1]at hx;simp at hx;subst hx;exact .Sb _)
  have hlen:((g.add s.H.bl.length ⟨w.heap.size+1,0,0,0⟩).ρ s.H.bl.length).R=w.heap.size+1:=by rw[og]
  have hDb:(g.add s.H.bl.length ⟨w.heap.size+1,0,0,0⟩).D s.H.bl.length:= .inr rfl;have CR:mb (g.add s.H.bl.length ⟨w.heap.size+1,0,0,0⟩) w1 (.yl s.H.bl.length) (.func (.yield (w.heap.size+1)) #[] #[]):=by have:=mb.yl (w:=w1) _ hDb;rw[hlen]at this;exact this
  have Baa:=(pc.trans qc).le jc.hw jc.hf;have tak:mb (g.add s.H.bl.length ⟨w.heap.size+1,0,0,0⟩) w1 (.fn ff fh) (.func (.func ff) #[] vs.toArray):= .fn ff fh vs DR fun i x v hx hv=>(hvr i x v hx hv).mono Baa
  refine⟨w.heap.size+1,[{ target:= .collected w.heap.size,args:= #[] }],w1,{ target:= .fn (.func ff) vs.toArray,args:= #[.func (.yield (w.heap.size+1)) #[] #[]] },w1,ff,
   #[.func (.yield (w.heap.size+1)) #[] #[]]++vs.toArray,w1,?_,?_,fun f' _=>hF.fn f',?_,fun hd=>by rw[hF.depth]at hd;simp at hd,?_⟩
  ·rw[ML,hwa,jD];exact run_enterLoop_outer _ _ _ _ _
  ·simp only[resolve,hev];simp[Deferred.ofValue,go_sem]
  ·simp[invoke,go_sem,Vn RC aag Ty]
  ·have Ip:=hC (.fn ff fh) [.yl s.H.bl.length] _ _ _ Qf _ w1 _ [.func (.yield (w.heap.size+1)) #[] #[]] qa tak rfl (fun i x v hx hv=>by
    cases i with
    |zero=>simp at hx hv;subst hx;subst hv;exact CR
    |succ i=>simp at hx) F m { (default:Oper)with dst:=none } { a with defers:=[{ target:= .collected w.heap.size,args:= #[] }]++a.defers }
    (fun _ w3=>∃jump w4,(Instr.endLoop (w.heap.size+1)).run A.P w3= .ok jump w4/\(match jump with|none=>Q .normal { a with defers:=[{ target:= .collected w.heap.size,args:= #[] }]++a.defers } w4|some c=>c.wpIn F m A.P Q { a with defers:=[{ target:= .collected w.heap.size,args:= #[] }]++a.defers } w4)) Q hF (fun g2 w2 rv hrv M4 oq=> ?_)
   ·rw[sx RC aag Ty]at Ip;simp only[Oper.uponIn]at Ip;refine CallsIn.mono Ip.2 fun e w3 he=> ?_
    cases e with
    |returned v=>exact he
    |panicked chain=>exact he
    |outgrown=>exact he
   ·obtain⟨hf2,Yaf⟩:=zF qa qb oq;have hD2:=oq.D _ hDb;have mI:(g2.ρ s.H.bl.length).R=w.heap.size+1:=by rw[hD2.2];exact hlen
    obtain⟨r2,zB,gJ,Gz,Aaf,_⟩:=M4.Vc _ _ hD2.1 uJ;rw[mI]at zB;have hnb:r2.state≠ .busy:=by rw[Gz];intro e;subst e;simp at kag
    have zaa:live g2 H2 s.H.bl.length:=⟨hD2.1,_,uJ,rfl⟩;refine⟨r2.pending,_,run_endLoop zB hnb,?_⟩;obtain⟨ra,rb,rc⟩:=Be (x:= .dead) (w':=w2.putObj (w.heap.size+1) (.loop { r2 with state:= .exhausted })) M4 hf2 zaa ag (by simp) (fun R hR=>World.putObj_heap_other (by rw[mI]at hR;exact hR)) (fun _=>trivial);have l5:=((pc.trans qc).trans Yaf).trans rc;have hmk:Marks g wa ({ target:= .collected w.heap.size,args:= #[] }::a.defers):=by
     refine⟨⟨w.heap.size,rfl,QK,fun hz=> ?_,fun d' zU e=> ?_⟩,jc.hm.step jc.hw jc.hf pc⟩
     ·have:=jc.hw.Eu _ hz;omega
     ·obtain⟨r',e1,e2⟩:=jc.hm.lt d' zU;rw[e]at e1;injection e1 with e1;omega
    have wU:=hk g2 f { a with defers:=[{ target:= .collected w.heap.size,args:= #[] }]++a.defers } (w2.putObj (w.heap.size+1) (.loop { r2 with state:= .exhausted }))
     ⟨ra,rb,fun t=>(jc.he t).mono (l5.le jc.hw jc.hf) l5.E,jc.hn,((hmk.step pa pb qc).step qa qb Yaf).step M4 hf2 rc,l5.Nad jc.hW⟩ l5 (fun d hd=>by
      rcases Yb.1 hd with rfl|hd
      ·exact .inr ⟨_,rfl,va _⟩
      ·exact .inl hd)
    have hj:=wR Taf;have hpj:=Aaf.trans hj;rw[hpj]at wU ⊢;cases JH with
    |normal=>exact wU
    |exit id=>exact wpIn_exit wU
    |ret=>exact wpIn_ret wU
 |scope c ih=>
  intro g f s s' ex a w Q h jc hk;simp only[code]at h;refine aL (ih g f s s' ex a w _ h jc ?_);intro g1 f1 a1 w1 tg xj QK;have:=hk g1 f1 a1 w1 tg xj QK;cases ex<;>exact this
 |goto=>intro g f s s' ex a w Q h;simp[code]at h
 |refuse=>intro g f s s' ex a w Q h;simp[code]at h
end
end Go.V
namespace Go.V
open Go
section
variable {A:yh}{g g':Gx}{w w':World}
theorem OI{f:Fx}{H:AH}{F:List (List AV)}{r:Nat}(hw:dc A.Pa g w H)(hf:Td g f w H F)(gg:w'.heap.size=w.heap.size)(Nd:∀R,R≠r->w'.heap[R]?=w.heap[R]?)
  (h1:¬Fp g H r) (h2:¬g.Z r) (h3:∀i,f.E i->f.φ i≠r):dc A.Pa g w' H/\Td g f w' H F/\g.Le w g w':=by
 have hle:g.Le w g w':=⟨fun b hb=>⟨hb,rfl⟩,fun R h=>⟨h,Nd R (fun e=>h2 (e ▸ h))⟩⟩;refine⟨⟨fun i row hg=>(hw.Pa i row hg).mono hle,hw.Ie,fun b y hd hy=>(hw.Vc b y hd hy).le hle (fun hl=>Nd _ (fun e=>h1 ⟨b,⟨hd,y,hy,hl⟩,e⟩)) (fun hl=>hw.Vm ⟨hd,y,hy,hl⟩),hw.inj,fun R h=>by rw[gg];exact hw.Eu R h⟩,⟨hf.Ie,fun i row hi hr=> ?_,hf.inj,hf.apart⟩,hle⟩;obtain⟨cs,⟨T,fz,Vy,h4⟩,h5⟩:=hf.Vc i row hi hr;exact⟨cs,⟨T,fz,by rw[Nd _ (h3 i hi)];exact Vy,h4⟩,h5.mono hle⟩
theorem ov{f:Fx}{H:AH}{F0:List (List AV)}{F:Fence}{n base:Nat}{fn:Func}{tmps:Array Value}{R:Ending->World->Prop}:∀(ds:List Deferred)(w:World),dc A.Pa g w H->Td g f w H F0->Marks g w ds->
  (∀d∈ds,∃r,d.target= .collected r/\base<=r)->
  (∀w',dc A.Pa g w' H->Td g f w' H F0->g.Le w g w'->w'.heap.size=w.heap.size->(∀R,R<base->w'.heap[R]?=w.heap[R]?)->(w'.os=w.os/\w'.output=w.output)->LeavesIn F n A.P fn tmps R [] .returning w')->
  LeavesInM F n A.P fn tmps R ds .returning w
 |[],w,hw,hf,_,_,hk=>hk w hw hf ⟨fun _ h=>⟨h,rfl⟩,fun _ h=>⟨h,rfl⟩⟩ rfl (fun _ _=>rfl) ⟨rfl,rfl⟩
 |d::ds,w,hw,hf,⟨⟨r,h1,h2,h3,h4⟩,hm⟩,hb,hk=>by
  obtain⟨r',e1,hbr⟩:=hb d (by simp);rw[h1]at e1;injection e1 with e1;subst e1
  have Nd:∀R,R≠r->(w.putObj r (.deferred none)).heap[R]?=w.heap[R]?:=fun R hR=>World.putObj_heap_other hR
  obtain⟨a1,a2,a3⟩:=OI (w':=w.putObj r (.deferred none)) hw hf (by simp) Nd (hw.Dr h2) h3 (fun i hi=>hf.Dr h2 hi);refine⟨by simp,.inl ⟨r,_,h1,run_takeDeferred h2,?_⟩⟩;have hm':∀{ds:List Deferred},Marks g w ds->(∀d'∈ds,d'.target≠ .collected r)->Marks g (w.putObj r (.deferred none)) ds:=by
   intro ds;induction ds with
   |nil=>intro _ _;trivial
   |cons d ds ih=>
    rintro⟨⟨q,k1,k2,k3,k4⟩,hm⟩ Uc
    exact⟨⟨q,k1,by rw[Nd q (fun e=>Uc d (by simp) (e ▸ k1))];exact k2,k3,k4⟩,ih hm fun d' zU=>Uc d' (Wb _ zU)⟩
  refine ov ds _ a1 a2 (hm' hm h4) (fun d hd=>hb d (Wb _ hd)) fun w' k1 k2 k3 k4 k5 k6=>hk w' k1 k2 ⟨fun b hb=>⟨hb,rfl⟩,fun R hR=>⟨hR,((k3.Z R hR).2).trans (a3.Z R hR).2⟩⟩ (k4.trans (by simp)) (fun R hR=>(k5 R hR).trans (Nd R (by omega))) ⟨k6.1,k6.2⟩
def aB(tmps:Array Value):ResultVar->Sem Value
 | .tmp t=>pure (tmps.getD t undef)
 | .cell a t=>do loadVar t (<- asAddr (tmps.getD a undef))
theorem XA(tmps:Array Value)(t:Tmp)(P:Program):(aB tmps (.tmp t)).run P w= .ok (tmps.getD t undef) w:=rfl
theorem wz{tmps:Array Value}{p:Tmp}{t:TypeId}{P:Program}{ad:Addr}{v:Value}(h:tmps.getD p undef= .pointer (some ad))(hv:(loadVar t ad).run P w= .ok v w):(aB tmps (.cell p t)).run P w= .ok v w:=by
 unfold aB;simp only[h,asAddr,Sem.run_bind,Sem.run_pure,Result.andThen_ok,hv]
theorem Wn{f:Fx}{s:S}{tmps:Array Value}(hw:dc A.Pa g w s.H)(hf:Td g f w s.H s.F)(he:Ze g f w s.e tmps):∀(rs:List ResultVar)(l:List AV),results A s rs=some l->
  ∃vs:List Value,(rs.mapM (aB tmps)).run A.P w= .ok vs w/\VL g w l vs
 |[],l,h=>by simp[results]at h;subst h;exact⟨[],rfl,trivial⟩
 | .tmp t::rs,l,h=>by
  simp only[results,aa]at h;obtain⟨a,ha,l',hl,h⟩:=h;simp at h;subst h;obtain⟨vs,h1,h2⟩:=Wn hw hf he rs l' hl;have ht:=he t;split at ha
  ·rename_i b hb;simp at ha;subst ha;rw[hb]at ht;exact⟨tmps.getD t undef::vs,by simp only[List.mapM_cons,Sem.run_bind,XA,Sem.run_pure,Result.andThen_ok,h1],ht,h2⟩
  ·simp at ha
 | .cell p t::rs,l,h=>by
  simp only[results,aa]at h;obtain⟨a,ha,l',hl,h⟩:=h;simp at h;subst h;obtain⟨vs,h1,h2⟩:=Wn hw hf he rs l' hl;obtain⟨ad,v,hp,hv,hr⟩:=YI ha hw hf (he p);exact⟨v::vs,by simp only[List.mapM_cons,Sem.run_bind,wz hp hv,Sem.run_pure,Result.andThen_ok,h1],hr,h2⟩
theorem ZC{f:Fx}{s:S}{fn:Func}{tmps:Array Value}{l:List AV}(hw:dc A.Pa g w s.H)(hf:Td g f w s.H s.F)(he:Ze g f w s.e tmps)(h:results A s fn.results.toList=some l):
  ∃v,(Go.results fn tmps).run A.P w= .ok v w/\mb g w (result l) v:=by
 obtain⟨vs,h1,h2⟩:=Wn hw hf he _ _ h;refine⟨if h:vs.toArray.size=1 then vs.toArray[0]else .tuple vs.toArray,?_,?_⟩
 ·have e:Go.results fn tmps=(do let vs <- fn.results.mapM (aB tmps);pure (if h:vs.size=1 then vs[0]else .tuple vs)):=by
   unfold Go.results;congr 2
  rw[e,Sem.run_bind,Array.mapM_eq_mapM_toList,Sem.run_map,h1];rfl
 ·match l,vs,h2 with
  |[],[],_=>exact .Sc [] [] rfl (fun i x v h=>by simp at h)
  |[a],[v],h2=>exact h2.1
  |a::b::l,u::v::vs,h2=>
   obtain⟨k1,k2⟩:=Ij.1 h2;have:¬(u::v::vs).toArray.size=1:=by simp
   rw[dif_neg this];exact .Sc _ _ k1 k2
def yQ(A:yh):Prop:=
 ∀f h,A.ext f=some h->∀args H r H',h args H=some (r,H')->∀(g:Gx)(w:World)(vs:List Value),dc A.Pa g w H->VL g w args vs->
  ∀(F:Fence)(n:Nat)(o:Oper)(a:Act)(next:Act->World->Prop)(Q:Exit->Act->World->Prop),Hw F->
   (∀g' w' rv,mb g' w' r rv->dc A.Pa g' w' H'->Ext g w H g' w' H'->next (a.put o.dst rv) w')->Oper.uponIn F n A.P o a next Q ((callFunc f vs.toArray).run A.P w)
theorem Bg.ext{f f':Fx}{H H':AH}{F F':List (List AV)}(h:Bg g f w H F g' f' w' H' F')(hE:∀i,¬f.E i):Ext g w H g' w' H':=
 ⟨h.D,h.Pz,h.Z,h.Yq,h.fp,fun R h1 h2=>h.Fk R h1 h2 (fun i hi=>absurd hi (hE i)),h.size,h.len,h.wm,h.quiet,h.still,h.io⟩
theorem VL.append:∀{xs ys:List AV}{us vs:List Value},VL g w xs us->VL g w ys vs->VL g w (xs++ys) (us++vs)
 |[],_,[],_,_,h=>h
 |_::_,_,_::_,_,⟨h1,h2⟩,h=>⟨h1,h2.append h⟩
 |[],_,_::_,_,h,_=>h.elim
 |_::_,_,[],_,h,_=>h.elim
theorem HB:∀(l:List AV)(i t:Nat),get (ve l i) t=if t<i then .v .Sb else match l[t-i]? with|some a=> .v a|none=> .v .Sb
 |[],i,t=>by simp[ve,get]
 |a::l,i,t=>by
  simp only[ve,get];split
  ·rename_i e;subst e;simp
  ·rename_i Uc;rw[HB l (i+1) t];by_cases h1:t<i
   ·rw[if_pos (by omega),if_pos h1]
   ·rw[if_neg (by omega),if_neg h1];rw[show t-i=(t-(i+1))+1 by omega,We]
theorem C0{f:Fx}{l:List AV}{vs:List Value}{n:Nat}(h:VL g w l vs):Ze g f w (ve l 0) (vs.toArray++Array.replicate n undef):=by
 intro t;obtain⟨h1,h2⟩:=Ij.1 h;rw[HB,if_neg (by omega),Nat.sub_zero];cases hl:l[t]? with
 |none=>exact .Sb _
 |some a=>
  have Ac:t<vs.length:=by have:=getElem?_lt' hl;omega
  have hv:vs[t]?=some vs[t]:=Ba Ac;have:(vs.toArray++Array.replicate n undef).getD t undef=vs[t]:=by
   rw[ni,Ow (by simpa using Ac)];simp[hv]
  rw[this];exact h2 t a _ hl hv
theorem oC{f:Fx}:∀(ps:List Nat)(as:List AV)(vs:List Value)(e:List (Nat×SV))(tmps:Array Value),VL g w as vs->(∀p∈ps,p<tmps.size)->Ze g f w e tmps->
  Ze g f w (Yi ps as e) ((ps.zip vs).foldl (fun tmps(t,a)=>tmps.setIfInBounds t a) tmps)/\((ps.zip vs).foldl (fun tmps(t,a)=>tmps.setIfInBounds t a) tmps).size=tmps.size
 |[],_,_,e,tmps,_,_,he=>by simp[Yi];exact he
 |p::ps,[],[],e,tmps,_,_,he=>by simp[Yi];exact he
 |p::ps,a::as,v::vs,e,tmps,⟨h1,h2⟩,hp,he=>by
  simp only[Yi,List.zip_cons_cons,Ve];have he':Ze g f w ((p,.v a)::e) (tmps.setIfInBounds p v):=fun t=>by
   rw[Gv t (hp p (by simp))];simp only[get];split
   ·exact h1
   ·exact he t
  obtain⟨q1,q2⟩:=oC ps as vs _ _ h2 (fun q hq=>by simpa using hp q (Wb _ hq)) he';exact⟨q1,by rw[q2];simp⟩
 |_::_,[],_::_,_,_,h,_,_=>h.elim
 |_::_,_::_,[],_,_,h,_,_=>h.elim
def Xo:Fx:=⟨fun _=>False,fun _=>0,fun _=>True⟩
theorem Rh{H:AH}:Td g Xo w H []:=⟨fun _ h=>h.elim,fun _ _ h=>h.elim,fun _ _ h=>h.elim,fun _ h=>h.elim⟩
theorem Oo(RC:rz A)(hE:yQ A)(O2:br A)(hD:Jn A):∀k,Gj A (call A k)
 |0=>fun fv args H r H' h=>by simp[call]at h
 |k+1=>fun fv args H r H' h g w pW vs hw NR hlen wJ F n o a next Q hF hk=>by
  have hVL:VL g w args vs:=Ij.2 ⟨hlen.symm,wJ⟩;cases fv
  case fn f fh=>
   obtain⟨cv,rfl,OR,hcr⟩:∃cv:List Value,pW= .func (.func f) #[] cv.toArray/\cv.length=fh.length/\∀(i:Nat)(x:AV)(v:Value),fh[i]?=some x->cv[i]?=some v->mb g w x v:=by
    cases NR with
    |fn _ _ vs hl hr=>exact⟨vs,rfl,hl,hr⟩
   have aab:VL g w (args++fh) (vs++cv):=hVL.append (Ij.2 ⟨OR,hcr⟩);simp only[call]at h;split at h
   ·rename_i e he;have:=hE f e he _ _ _ _ h g w _ hw aab F n o a next Q hF hk
    have ee:((do let d <- Deferred.ofValue (.func (.func f) #[] cv.toArray) vs.toArray;invoke d.target d.args:Sem Next).run A.P w)=(callFunc f (vs++cv).toArray).run A.P w:=by
     simp[Deferred.ofValue,invoke,go_sem]
    rw[ee];exact this
   ·rename_i he;split at h
    case h_1=>simp at h
    rename_i fn Ln;split at h
    case h_1=>simp at h
    rename_i c Ty;split at h
    case isFalse=>simp at h
    rename_i hnt;simp only[aa]at h;obtain⟨⟨ex,s1⟩,zj,h⟩:=h;rw[sx RC Ln (by rw[Ty];rfl)];simp only[Oper.uponIn];refine⟨fun hd=>by rw[hF.depth]at hd;simp at hd,?_⟩;have hFp:Hw F.plain:=⟨hF.fn,hF.depth,hF.alive⟩;have Uaa:vs.toArray++cv.toArray=(vs++cv).toArray:=by simp
    rw[Uaa];have ue:((vs++cv).toArray++Array.replicate (fn.ntmps-(vs++cv).toArray.size) undef).size=fn.ntmps:=by
     have:=(Ij.1 aab).1;simp at this hnt ⊢;omega
    have Ip:∀R:Ending->World->Prop,(∀v w'',next (a.put o.dst v) w''->R (.returned v) w'')->CallsIn F.plain (n-1) A.P f (vs++cv).toArray w R:=by
     intro R hR;refine callsIn_of_wp_marks (RC f fn Ln).1 Ty (hF.fn f) ?_;refine xu RC (Oo RC hE O2 hD k) (lj O2 k) hD hFp (fun _=>rfl) c g Xo ⟨ve (args++fh) 0,[],H⟩ s1 ex _ w _ zj ⟨hw,Rh,C0 aab,ue,trivial,fun _ _=>trivial⟩ ?_;intro g1 f1 a1 w1 tg xj QK;have Ox:=xj.ext (fun i hi=>hi.elim);have Jz:∀l,results A s1 fn.results.toList=some l->(if A.AU f=true then freeze 8 s1.H (result l)else some (result l,s1.H))=some (r,H')->LeavesInM F.plain (n-1) A.P fn a1.tmps R a1.defers .returning w1:=by
      intro l hl mD;refine ov (base:=w.heap.size) a1.defers w1 tg.hw tg.hf tg.hm (fun d hd=>(QK d hd).resolve_left (by simp)) fun w2 k1 k2 k3 k4 k5 k6=> ?_
      obtain⟨v,hv,hrv⟩:=ZC k1 k2 (fun t=>(tg.he t).mono k3 (fun _ h=>⟨h,rfl⟩)) hl;refine⟨v,hv,?_⟩;have oq:Ext g w H g1 w2 s1.H:=⟨Ox.D,Ox.Pz,Ox.Z,Ox.Yq,Ox.fp,fun R h1 h2=>(k5 R h1).trans (Ox.Fk R h1 h2),by rw[k4];exact Ox.size,Ox.len,Ox.wm,Ox.quiet,fun b hb hv=>(k5 _ (hw.lt hv)).trans (Ox.still b hb hv),⟨k6.1.trans Ox.io.1,k6.2.trans Ox.io.2⟩⟩;refine hR v w2 ?_;split at mD
      ·obtain⟨g2,m1,m2,m3⟩:=Ei 8 _ _ _ _ mD g1 w2 v k1 hrv;exact hk g2 w2 v m3 m1 (oq.trans m2)
      ·simp at mD;obtain⟨rfl,rfl⟩:=mD;exact hk g1 w2 v hrv k1 oq
     cases ex with
     |exit id=>simp at h
     |normal=>
      simp only[aa]at h;obtain⟨l,hl,h⟩:=h;exact Jz l hl h
     |ret=>
      simp only[aa]at h;obtain⟨l,hl,h⟩:=h;exact Jz l hl h
    exact Ip _ fun v w'' h=>h
  case yl b=>
   have hDb:g.D b:=by cases NR;assumption
   obtain rfl:pW= .func (.yield (g.ρ b).R) #[] #[]:=by cases NR;rfl
   simp only[call]at h;split at h
   case h_2=>simp at h
   rename_i nn keep env ps assign body eV hb;split at h
   case isFalse=>simp at h
   rename_i hc;obtain⟨kD,ag,BB⟩:=hc;simp only[aa]at h;obtain⟨⟨h_,s1⟩,fM,h⟩:=h;split at h
   case h_2=>simp at h
   rename_i x s1' heq;simp at heq;obtain⟨rfl,rfl⟩:=heq;split at h
   case h_2=>simp at h
   rename_i n1 yV oN ps1 ZH B1 dV ep;simp only[aa]at h;obtain⟨⟨JH,s2⟩,eM,h⟩:=h;split at h
   case h_2=>simp at h
   rename_i n2 cO KH ps2 BA rQ st2 Tal uJ;simp at h;obtain⟨rfl,rfl⟩:=h;obtain⟨rc,hrc,hz,jc,hpe,Daf,has,hbo,hnn,b8⟩:=hw.Vc b _ hDb hb;have ee:((do let d <- Deferred.ofValue (.func (.yield (g.ρ b).R) #[] #[]) vs.toArray;invoke d.target d.args:Sem Next).run A.P w)=(Instr.yield (g.ρ b).R vs.toArray).run A.P w:=by
    simp[Deferred.ofValue,invoke,go_sem]
   have hpn:rc.params.size=ps.length:=by rw[<- Daf];simp
   rw[ee,run_yield hrc (by simp;omega)];simp only[Oper.uponIn];refine⟨fun hd=>by rw[hF.depth]at hd;simp at hd,?_⟩;have hFr:Hw (F.inRound (g.ρ b).R):=⟨hF.fn,hF.depth,hF.alive⟩;refine roundIn_of_wpIn (hF.fn _) ?_;rw[has,hbo];have Ev:(rc.params.zip vs.toArray).foldl (fun tmps(t,a)=>tmps.setIfInBounds t a) rc.tmps=(ps.zip vs).foldl (fun tmps(t,a)=>tmps.setIfInBounds t a) rc.tmps:=by
    rw[<- Array.foldl_toList,Array.toList_zip,Daf]
   rw[Ev];have xG:∀p∈ps,p<rc.tmps.size:=fun p hp=>by rw[hnn];have:=tc.1 BB p hp;simpa using this
   have he0:Ze g Xo w (De env) rc.tmps:=fun t=>by
    cases hx:get (De env) t with
    |v x=>exact b8 t x hx
    |loc i c=>
     exfalso;have:∀(l:List (Nat×AV)),get (De l) t≠ .loc i c:=by
      intro l;induction l with
      |nil=>simp[De,get]
      |cons y l ih=>simp only[De,get];split;simp;exact ih
     exact this env hx
   obtain⟨q1,q2⟩:=oC (f:=Xo) ps args vs _ _ hVL xG he0;refine xu RC (Oo RC hE O2 hD k) (lj O2 k) hD hFr (fun h=>by simp at h) assign g Xo _ s1 .normal _ w _ fM ⟨hw,Rh,q1,q2.trans hnn,trivial,fun _ _=>trivial⟩ ?_;intro g1 f1 a1 w1 tg xj _;have hD1:=xj.D b hDb;obtain⟨r1,hr1,qU,E2,Saj,Caf,Oak,Mak,Yaj,Maj⟩:=tg.hw.Vc b _ hD1.1 ep;have NK:live g1 s1.H b:=⟨hD1.1,_,ep,rfl⟩;have hR1:(g1.ρ b).R=(g.ρ b).R:=by rw[hD1.2]
   rw[hR1]at hr1;show ∃w2,_;refine⟨_,run_beginRound hr1 E2,?_⟩;have waa:=Za hr1;obtain⟨ra,rb,rx⟩:=Be (x:= .loop n1 yV oN ps1 ZH B1 .busy dV) (w':=w1.putObj (g.ρ b).R (.loop { r1 with state:= .busy })) tg.hw tg.hf NK (by rw[xj.wm];exact ag) (by simp) (fun R hR=>World.putObj_heap_other (by rw[hR1]at hR;exact hR)) (fun hle=>by
    refine⟨{ r1 with state:= .busy },by rw[hR1];exact World.putObj_heap_same waa,qU,rfl,Saj,Caf,Oak,Mak,Yaj,fun t x hx=>(Maj t x hx).mono hle⟩)
   refine xu RC (Oo RC hE O2 hD k) (lj O2 k) hD hFr (fun h=>by simp at h) body g1 f1 _ s2 JH a1 _ _ eM ⟨ra,rb,fun t=>(tg.he t).mono (rx.le tg.hw tg.hf) (fun _ h=>⟨h,rfl⟩),tg.hn,tg.hm.step tg.hw tg.hf rx,rx.Nad tg.hW⟩ ?_;intro g2 f2 a2 w2 Gz oq _;have hD2:=oq.D b hD1.1;obtain⟨r2,zB,gJ,tU,Aaf,Baf,Nak,Lak,Xaj,Laj⟩:=Gz.hw.Vc b _ hD2.1 uJ;have lJ:live g2 s2.H b:=⟨hD2.1,_,uJ,rfl⟩;have mI:(g2.ρ b).R=(g.ρ b).R:=by rw[hD2.2,hR1]
   rw[mI]at zB;have KR:=Za zB;have uG:s2.H.wm<=b:=by rw[oq.wm];show s1.H.wm<=b;rw[xj.wm];exact ag
   have Gp:∃v w3,(Instr.endRound (g.ρ b).R JH.jump).run A.P w2= .ok v w3/\next (a.put o.dst v) w3:=by
    refine⟨_,_,run_endRound _ zB,?_⟩;obtain⟨ta,tb,tx⟩:=Be (x:= .loop n2 cO KH ps2 BA rQ (if JH.Ug then .ready else .done) JH.jump) (w':=w2.putObj (g.ρ b).R (.loop { r2 with state:=if JH.jump.isNone then .ready else .done,pending:=JH.jump })) Gz.hw Gz.hf lJ uG (by simp) (fun R hR=>World.putObj_heap_other (by rw[mI]at hR;exact hR)) (fun hle=>by
     refine⟨{ r2 with state:=if JH.jump.isNone then .ready else .done,pending:=JH.jump },by rw[mI];exact World.putObj_heap_same KR,gJ,?_,rfl,Baf,Nak,Lak,Xaj,fun t x hx=>(Laj t x hx).mono hle⟩;cases JH<;>rfl)
    have Ld:JH.jump.isNone=JH.Ug:=by cases JH<;>rfl
    refine hk g2 _ _ (by rw[Ld];exact .bool _) ta ((((xj.trans rx).trans oq).trans tx).ext (fun i hi=>hi.elim))
   obtain⟨v,w3,e1,e2⟩:=Gp;cases JH with
   |normal=>exact⟨v,w3,e1,e2⟩
   |ret=>exact⟨v,w3,e1,e2⟩
   |exit id=>exact⟨v,w3,e1,e2⟩
  all_goals simp[call]at h
end
end Go.V
namespace Go.V
open Go
theorem yN{F:Fence}(hF:Hw F){n:Nat}{P:Program}{f:FuncId}{args:Array Value}{w:World}{R:Ending->World->Prop}(h:Calls P f args w R):CallsIn F n P f args w R:=by
 have wak:∀m:Machine,m.fenced P F:=fun m g _=>⟨fun h=>by rw[hF.alive]at h;simp at h,.inl (hF.fn _),fun f _=>hF.fn f,fun d hd=>by rw[hF.depth]at hd;simp at hd⟩
 have jc:∀{m m'},Steps P m m'->StepsIn (Machine.fenced P F) P m m':=fun h=>(StepsIn.of_steps h).mono fun m _=>wak m
 refine⟨hF.fn f,fun cs _=> ?_⟩;obtain⟨e,w',fr,h1,h2,h3⟩:=h cs;refine⟨e,w',fr,h1,?_,h3⟩;cases e with
 |returned v=>exact jc h2
 |panicked c=>exact jc h2
 |outgrown=>exact h2
section
variable {A:yh}
def ym(A:yh)(f:FuncId)(h:List AV->AH->Option (AV×AH)):Prop:=
 ∀args H r H',h args H=some (r,H')->∀(g:Gx)(w:World)(vs:List Value),dc A.Pa g w H->VL g w args vs->
  Calls A.P f vs.toArray w fun e w'=>∃rv g',e= .returned rv/\mb g' w' r rv/\dc A.Pa g' w' H'/\Ext g w H g' w' H'
theorem YZ(RC:rz A){f:FuncId}{fn:Func}(hf:A.fns f=some fn)(hb:fn.body.isSome=true){h:List AV->AH->Option (AV×AH)}(hg:ym A f h):
  ∀args H r H',h args H=some (r,H')->∀(g:Gx)(w:World)(vs:List Value),dc A.Pa g w H->VL g w args vs->
  ∀(F:Fence)(n:Nat)(o:Oper)(a:Act)(next:Act->World->Prop)(Q:Exit->Act->World->Prop),Hw F->
   (∀g' w' rv,mb g' w' r rv->dc A.Pa g' w' H'->Ext g w H g' w' H'->next (a.put o.dst rv) w')->Oper.uponIn F n A.P o a next Q ((callFunc f vs.toArray).run A.P w):=by
 intro args H r H' hh g w vs hw hv F n o a next Q hF hk
 rw[Vn RC hf hb,Oper.uponIn_enter];refine⟨fun hd=>by rw[hF.depth]at hd;simp at hd,yN hF ((hg args H r H' hh g w vs hw hv).mono ?_)⟩
 rintro e w' ⟨rv,g',rfl,h1,h2,h3⟩
 exact hk g' w' rv h1 h2 h3
def F5(args:List AV)(H:AH):Option (AV×AH):=
 match args with
 |[.int .i64 n,.int .i64 b]=>if -9223372036854775808<=n/\n<=9223372036854775807/\b=10 then some (.str ⟨(Lib.itoa n).toArray⟩,H)else none
 |_=>none
theorem E5{f:FuncId}(EB:∀(g:Gx)(w:World)(H:AH),dc A.Pa g w H->∀n:Int,-9223372036854775808<=n->n<=9223372036854775807->Calls A.P f #[.int .i64 n,.int .i64 10] w fun e w'=>e= .returned (.string ⟨(Lib.itoa n).toArray⟩)/\∃k os,w'=Sort.grow (w.drewN k) os):ym A f F5:=by
 intro args H r H' hh g w vs hw hv;unfold F5 at hh;split at hh
 case h_2=>simp at hh
 rename_i n b;split at hh
 case isFalse=>simp at hh
 rename_i hc;simp at hh;obtain⟨rfl,rfl⟩:=hh;obtain⟨h1,h2,rfl⟩:=hc
 match vs,hv with
 |[v1,v2],⟨r1,r2,_⟩=>
  cases r1;cases r2;refine(EB g w H hw n h1 h2).mono ?_
  rintro e w' ⟨rfl,k,os,rfl⟩
  have hh:(w.drewN k).heap=w.heap:=rfl;have ue:w.heap.size<=(Sort.grow (w.drewN k) os).heap.size:=by simp[Sort.grow,hh]
  have hold:∀R,R<w.heap.size->(Sort.grow (w.drewN k) os).heap[R]?=w.heap[R]?:=fun R hR=>by
   show(w.heap++os)[R]?=_;rw[Ow hR]
  obtain⟨q1,q2,q3⟩:=fo (f:=Xo) (F:=[]) hw Rh ue hold (Qw:=⟨rfl,rfl⟩);exact⟨_,g,rfl,.str _,q1,q3.ext fun i h=>h⟩
def okp(p:AV)(x:Nat):Bool:=match p with| .Oe=>true| .ptr y 0 0=>y==x|_=>false
def b7(bT:TypeId)(args:List AV)(H:AH):Option (AV×AH):=
 match args with
 |[.ptr x 0 0]=>
  match H.bl[x]? with
  |some (.cells [[p,q]] 2 (some (t,2)))=>if t=bT/\H.wm<=x/\okp p x=true then some (.Sc [],Ra H x (.cells [[.ptr x 0 0,q]] 2 (some (bT,2))))else none
  |_=>none
 |_=>none
def RA:List (List AV)->Option (List UInt8)
 |[]=>some []
 |[.int .u8 z]::l=>if 0<=z/\z<256 then(RA l).map (UInt8.ofNat z.toNat:: ·)else none
 |_=>none
def YC(bT uT:TypeId)(args:List AV)(H:AH):Option (AV×AH):=
 match args with
 |[.ptr x 0 0]=>
  match H.bl[x]? with
  |some (.cells [[_,q]] 2 (some (t,2)))=>
   if t=bT then
    match q with
    | .Xa=>some (.str ⟨#[]⟩,H)
    | .sl y 0 n=>
     match H.bl[y]? with
     |some (.cells rows 1 (some (u,k)))=>if u=uT/\1<=k/\H.wm<=y/\(0<n/\n<=70368744177664)/\n<=rows.length then(RA (rows.take n)).map fun l=>(.str ⟨l.toArray⟩,Ra H y .dead)else none
     |_=>none
    |_=>none
   else none
  |_=>none
 |_=>none
theorem HF{G:Nat->Option (List AV)}{g:Gx}{w:World}{H:AH}(hw:dc G g w H){x:Nat}{p q:AV}{t:TypeId}(hD:g.D x)(hx:H.bl[x]?=some (.cells [[p,q]] 2 (some (t,2)))):
  (g.ρ x).o=0/\(g.ρ x).sz=2/\(g.ρ x).e=2/\∃v1 v2 fz,w.heap[(g.ρ x).R]?=some (.cells #[v1,v2] t fz)/\(∀ off,off<2->¬(fz.1<=off/\off<fz.2))/\¬g.Z (g.ρ x).R/\v1.oneCell'=true/\v2.oneCell'=true/\mb g w p v1/\mb g w q v2:=by
 obtain⟨⟨⟨R0,fz0,E8⟩,ho,he⟩,_,ue,Gp,cs,⟨T,fz,hR,RK,Rl,hZ⟩,Pc⟩:=hw.Vc x _ hD hx;rw[E8]at hR;injection hR with hR;injection hR with e1 e2 e3
 subst e1;subst e2;subst e3;have ho:=ho (by omega);have he:=he (by omega);rw[ue]at he;rw[he]at RK;obtain⟨_,sd⟩:=Pc 0 _ rfl;rw[ho]at sd;obtain⟨v1,a1,a2,a3⟩:=sd 0 p rfl;obtain⟨v2,b1,b2,b3⟩:=sd 1 q rfl;have:R0= #[v1,v2]:=by
  apply Array.ext_getElem?;intro i
  match i with
  |0=>simpa using a1
  |1=>simpa using b1
  |i+2=>rw[Array.getElem?_eq_none (by omega)];simp
 subst this;exact⟨ho,ue,he,v1,v2,fz0,E8,fun off h=>Rl off (by rw[he];exact h),hZ,a2,b2,a3,b3⟩
theorem Z6{f:FuncId}{bT:TypeId}
  (Iaa:∀(b:Nat)(w:World),w.cell? ⟨b,0,none⟩=some (.pointer none)->w.shape? b=some (bT,2)->w.frozen? ⟨b,0,none⟩=false->
   Calls A.P f #[.pointer (some ⟨b,0,none⟩)] w fun e w'=>e= .returned (.tuple #[])/\w'=w.setCell ⟨b,0,none⟩ (.pointer (some ⟨b,0,none⟩)))
  (oaf:∀(b:Nat)(w:World),w.cell? ⟨b,0,none⟩=some (.pointer (some ⟨b,0,none⟩))->Calls A.P f #[.pointer (some ⟨b,0,none⟩)] w fun e w'=>e= .returned (.tuple #[])/\w'=w):ym A f (b7 bT):=by
 intro args H r H' hh g w vs hw hv;unfold b7 at hh;split at hh
 case h_2=>simp at hh
 rename_i x;split at hh
 case h_2=>simp at hh
 rename_i p q t hx;split at hh
 case isFalse=>simp at hh
 rename_i hc;simp at hh;obtain⟨rfl,rfl⟩:=hh;obtain⟨rfl,ag,hp⟩:=hc
 match vs,hv with
 |[v],⟨r1,_⟩=>
  cases r1 with
  |ptr _ _ _ hD=>
  obtain⟨ho,ue,he,v1,v2,fz,hR,Rl,hZ,a2,b2,a3,b3⟩:=HF hw hD hx;have ae:live g H x:=⟨hD,_,hx,rfl⟩;have hv0:((some ⟨(g.ρ x).R,(g.ρ x).o+0 * (g.ρ x).sz+0,none⟩:Option Addr))=some ⟨(g.ρ x).R,0,none⟩:=by rw[ho];simp
  rw[hv0];have hc0:w.cell? ⟨(g.ρ x).R,0,none⟩=some v1:=by simp[World.cell?,hR]
  have ze:∀(w':World)(fz':Nat×Nat),(w'.heap[(g.ρ x).R]?=some (.cells #[.pointer (some ⟨(g.ρ x).R,0,none⟩),v2] t fz))->g.Le w g w'->Cg g w' (g.ρ x) (.cells [[.ptr x 0 0,q]] 2 (some (t,2))):=fun w' _ Vy hle=>by
   refine⟨⟨⟨_,_,Vy⟩,fun _=>ho,fun _=>he.trans ue.symm⟩,by omega,ue,by rw[ho,he];simp,_,⟨t,fz,Vy,by rw[he];rfl,fun off h=>Rl off (by omega),hZ⟩,fun r row hr=> ?_⟩
   match r,hr with
   |0,hr=>
    simp at hr;subst hr;refine⟨rfl,fun c y hy=> ?_⟩;rw[ho]
    match c,hy with
    |0,hy=>
     simp at hy;subst hy;refine⟨_,rfl,rfl,?_⟩;have:=mb.ptr (w:=w') x 0 0 hD;rw[ho]at this;simpa using this
    |1,hy=>simp at hy;subst hy;exact⟨v2,rfl,b2,b3.mono hle⟩
    |c+2,hy=>simp at hy
   |r+1,hr=>simp at hr
  unfold okp at hp;split at hp
  ·cases a3;have sU:w.shape? (g.ρ x).R=some (t,2):=by simp[World.shape?,hR]
   have sak:w.frozen? ⟨(g.ρ x).R,0,none⟩=false:=by
    have:=Rl 0 (by omega);simp only[World.frozen?,hR];simp only[Xs,decide_eq_false_iff_not];by_cases h:fz.1<=0
    ·exact .inr fun h'=>this ⟨h,h'⟩
    ·exact .inl h
   refine(Iaa _ w hc0 sU sak).mono ?_
   rintro e w' ⟨rfl,rfl⟩
   have Ac:(g.ρ x).R<w.heap.size:=Za hR;have Vy:(w.setCell ⟨(g.ρ x).R,0,none⟩ (.pointer (some ⟨(g.ρ x).R,0,none⟩))).heap[(g.ρ x).R]?=some (.cells #[.pointer (some ⟨(g.ρ x).R,0,none⟩),v2] t fz):=by
    simp[World.setCell,Qm,hR]
   obtain⟨q1,q2,q3⟩:=Be (f:=Xo) (F:=[]) (w':=w.setCell ⟨(g.ρ x).R,0,none⟩ (.pointer (some ⟨(g.ρ x).R,0,none⟩))) (x:= .cells [[.ptr x 0 0,q]] 2 (some (t,2))) hw Rh ae ag (by simp[World.setCell])
    (fun R Uc=>by simp only[World.setCell,Qm];rw[if_neg (fun e=>Uc e.symm)]) (ze _ fz Vy)
   exact⟨_,g,rfl,.Sc [] [] rfl (fun i x v h=>by simp at h),q1,q3.ext fun i h=>h⟩
  ·rename_i y;have:y=x:=by simpa using hp
   subst this;cases a3 with
   |ptr _ _ _ _=>
   rw[hv0]at hc0 hR;refine(oaf _ w hc0).mono ?_
   rintro e w' ⟨rfl,hww⟩
   subst hww;obtain⟨q1,q2,q3⟩:=Be (f:=Xo) (F:=[]) (w':=w') (x:= .cells [[.ptr y 0 0,q]] 2 (some (t,2))) hw Rh ae ag rfl (fun _ _=>rfl) (ze _ fz hR);exact⟨_,g,rfl,.Sc [] [] rfl (fun i x v h=>by simp at h),q1,q3.ext fun i h=>h⟩
  ·simp at hp
theorem kE:∀{rows:List (List AV)}{l:List UInt8},RA rows=some l->l.length=rows.length/\∀(j:Nat)(b:UInt8),l[j]?=some b->rows[j]?=some [.int .u8 (b.toNat:Int)]
 |[],l,h=>by simp[RA]at h;subst h;exact⟨rfl,fun j b hb=>by simp at hb⟩
 |row::rows,l,h=>by
  unfold RA at h;split at h
  ·rename_i e;simp at e
  ·rename_i z l0 e;injection e with e1 e2;subst e1;subst e2
   split at h
   case isFalse=>simp at h
   rename_i hz;simp only[ia]at h;obtain⟨l1,h1,rfl⟩:=h;obtain⟨k1,k2⟩:=kE h1;refine⟨by simp[k1],fun j b hb=> ?_⟩;cases j with
   |zero=>
    simp at hb;subst hb;have:(UInt8.ofNat z.toNat).toNat=z.toNat:=by
     rw[UInt8.toNat_ofNat'];exact Nat.mod_eq_of_lt (by omega)
    simp only[He,this];rw[Int.toNat_of_nonneg hz.1]
   |succ j=>simp at hb;simpa using k2 j b hb
  ·simp at h
theorem PU{f:FuncId}{bT uT:TypeId}
  (U4:∀(b:Nat)(w:World),w.cell? ⟨b,1,none⟩=some (.slice none 0 0)->Calls A.P f #[.pointer (some ⟨b,0,none⟩)] w fun e w'=>e= .returned (.string ⟨#[]⟩)/\w'=w.drew)
  (JV:∀(b gb cap n:Nat)(l:List UInt8)(w:World),l≠[]->l.length<=70368744177664->w.cell? ⟨b,1,none⟩=some (.slice (some ⟨gb,0,none⟩) l.length cap)->l.length<=cap->w.shape? gb=some (uT,n)->l.length<=n->(∀j x,l[j]?=some x->w.cell? ⟨gb,j,none⟩=some (.int .u8 x.toNat))->
   Calls A.P f #[.pointer (some ⟨b,0,none⟩)] w fun e w'=>e= .returned (.string ⟨l.toArray⟩)/\w'=w.drew.freeze ⟨gb,0,none⟩ l.length):ym A f (YC bT uT):=by
 intro args H r H' hh g w vs hw hv;unfold YC at hh;split at hh
 case h_2=>simp at hh
 rename_i x;split at hh
 case h_2=>simp at hh
 rename_i p q t hx;split at hh
 case isFalse=>simp at hh
 rename_i hc;subst hc
 match vs,hv with
 |[v],⟨r1,_⟩=>
  cases r1 with
  |ptr _ _ _ hD=>
  obtain⟨ho,ue,he,v1,v2,fz,hR,Rl,hZ,a2,b2,a3,b3⟩:=HF hw hD hx;have hv0:((some ⟨(g.ρ x).R,(g.ρ x).o+0 * (g.ρ x).sz+0,none⟩:Option Addr))=some ⟨(g.ρ x).R,0,none⟩:=by rw[ho];simp
  rw[hv0];have x8:w.cell? ⟨(g.ρ x).R,1,none⟩=some v2:=by simp[World.cell?,hR]
  split at hh
  ·simp at hh;obtain⟨rfl,rfl⟩:=hh;cases b3;refine(U4 _ w x8).mono ?_
   rintro e w' ⟨rfl,rfl⟩
   exact⟨_,g,rfl,.str _,hw.heap rfl,(Bg.heap (w:=w) (w':=w.drew) (f:=Xo) (F:=[]) rfl).ext fun i h=>h⟩
  ·rename_i y n;split at hh
   case h_2=>simp at hh
   rename_i rows u k hy;split at hh
   case isFalse=>simp at hh
   rename_i hc2;obtain⟨rfl,hk,ag,⟨UL,hn1⟩,T4⟩:=hc2;simp only[ia]at hh;obtain⟨l,hl,hh⟩:=hh;simp at hh;obtain⟨rfl,rfl⟩:=hh;obtain⟨l1,l2⟩:=kE hl;have hll:l.length=n:=by rw[l1,ic];omega
   cases b3 with
   |BI b r a hd=>omega
   |sl _ _ _ cap hDy Ml Gp=>
   obtain⟨⟨⟨R0,fz0,E8⟩,hoy,_⟩,_,iao,dag,cs,⟨T,fzy,hRy,Hak,Nao,hZy⟩,laa⟩:=hw.Vc y _ hDy hy;rw[E8]at hRy;injection hRy with hRy;injection hRy with e1 e2 e3
   subst e1;subst e2;subst e3;have hoy:=hoy hk;have N4:(some ⟨(g.ρ y).R,(g.ρ y).o+0 * (g.ρ y).sz,none⟩:Option Addr)=some ⟨(g.ρ y).R,0,none⟩:=by rw[hoy];simp
   rw[N4]at x8;have ae:live g H y:=⟨hDy,_,hy,rfl⟩;have sU:w.shape? (g.ρ y).R=some (u,R0.size):=by simp[World.shape?,E8]
   have Di:∀j b,l[j]?=some b->w.cell? ⟨(g.ρ y).R,j,none⟩=some (.int .u8 b.toNat):=fun j b hb=>by
    have h1:=l2 j b hb;have hj:j<n:=by rw[<- hll];exact getElem?_lt' hb
    rw[Db,if_pos hj]at h1;obtain⟨_,h2⟩:=laa j _ h1;obtain⟨v,g1,_,g3⟩:=h2 0 _ rfl;cases g3;rw[hoy]at g1;simp only[World.cell?,E8]
    simpa using g1
   have iak:l≠[]:=by intro e;subst e;simp at hll;omega
   have Saf:l.length<=R0.size:=by rw[Hak,hll];rw[hoy]at dag;omega
   refine(JV (g.ρ x).R (g.ρ y).R cap R0.size l w iak (by omega) (by rw[hll];exact x8) (by omega) sU Saf Di).mono ?_
   rintro e w' ⟨rfl,rfl⟩
   have Nd:∀R,R≠(g.ρ y).R->(w.drew.freeze ⟨(g.ρ y).R,0,none⟩ l.length).heap[R]?=w.heap[R]?:=fun R Uc=>by
    unfold World.freeze;split
    ·rfl
    ·simp only[Qm];rw[if_neg (fun e=>Uc e.symm)];rfl
   have gg:(w.drew.freeze ⟨(g.ρ y).R,0,none⟩ l.length).heap.size=w.heap.size:=by
    unfold World.freeze;split
    ·rfl
    ·simp
   have Qw:(w.drew.freeze ⟨(g.ρ y).R,0,none⟩ l.length).os=w.os/\(w.drew.freeze ⟨(g.ρ y).R,0,none⟩ l.length).output=w.output:=by
    unfold World.freeze;split<;>exact⟨rfl,rfl⟩
   obtain⟨q1,q2,q3⟩:=Be (f:=Xo) (F:=[]) (w':=w.drew.freeze ⟨(g.ρ y).R,0,none⟩ l.length) (x:= .dead) hw Rh ae ag gg Nd (fun _=>trivial) (Qw:=Qw);exact⟨_,g,rfl,.str _,q1,q3.ext fun i h=>h⟩
  ·simp at hh
theorem VR{args:List AV}{H H':AH}{r:AV}(h:F5 args H=some (r,H')):Kc H H':=by
 unfold F5 at h;split at h
 case h_2=>simp at h
 split at h
 case isFalse=>simp at h
 simp at h;rw[<- h.2];exact .refl _
theorem eU{bT:TypeId}{args:List AV}{H H':AH}{r:AV}(h:b7 bT args H=some (r,H')):Kc H H':=by
 unfold b7 at h;split at h
 case h_2=>simp at h
 split at h
 case h_2=>simp at h
 split at h
 case isFalse=>simp at h
 rename_i hc;simp at h;rw[<- h.2];exact .set hc.2.1 _
theorem iL{bT uT:TypeId}{args:List AV}{H H':AH}{r:AV}(h:YC bT uT args H=some (r,H')):Kc H H':=by
 unfold YC at h;split at h
 case h_2=>simp at h
 split at h
 case h_2=>simp at h
 split at h
 case isFalse=>simp at h
 split at h
 case h_3=>simp at h
 ·simp at h;rw[<- h.2];exact .refl _
 ·split at h
  case h_2=>simp at h
  split at h
  case isFalse=>simp at h
  rename_i hc;obtain⟨l,_,h⟩:=ia.1 h;simp at h;rw[<- h.2];exact .set hc.2.2.1 _
end
end Go.V
