/- An evaluator of the translated code and that it is right: each of its answers is an answer of the model. -/
import Derived.Test.YtjenflkegbmkkaaGreatDoorA1
import Derived.Test.YtjenflkegbmkkaaGreatDoorA3
import Derived.LoopNIn
import Derived.RangeFuncRecord
import Derived.Scope
import Derived.Sort.Grow
import Derived.Deep.Draws
import Derived.Lib.ItoaNum
import Derived.Lib.LaidTab
set_option linter.unusedVariables false
set_option linter.unusedSimpArgs false
set_option linter.unusedSectionVars false
open Array renaming getD_eq_getD_getElem?→Th,getElem?_append_left→jv,getElem?_modify→Yl
open Bool renaming and_eq_true→Ia,and_eq_false_iff→Dr
open List renaming getElem?_append_left→Fa,getElem?_set→Kb,mem_cons_of_mem→Gb,length_eq_zero_iff→Da,range→ua,map_cons→Dd,mem_cons→oc,getElem?_cons_succ→Ke,getElem?_eq_getElem→ya,foldl_cons→vB,all_eq_true→Yb,getElem?_cons_zero→ze,length_take→dc,getElem?_take→Ab
open Nat renaming le_refl→oa,le_trans→Ib
open Option renaming bind_eq_some_iff→aa,map_eq_some_iff→ia,bind_some→da,map_some→Jc
open Option.some renaming injEq→yc
namespace Go.V
open Go
def Fc (H H':AH):Prop:=H'.wm=H.wm/\H.bl.length<=H'.bl.length/\∀ b,b<H.wm->b<H.bl.length->H'.bl[b]?=H.bl[b]?
theorem Fc.refl (H:AH):Fc H H:=⟨rfl,oa _,fun _ _ _=>rfl⟩
theorem Fc.trans {H H1 H2:AH} (h:Fc H H1) (h':Fc H1 H2):Fc H H2:=
 ⟨h'.1.trans h.1,Ib h.2.1 h'.2.1,fun b hb hl=>(h'.2.2 b (by rw [h.1];exact hb) (by have:=h.2.1;omega)).trans (h.2.2 b hb hl)⟩
theorem Fc.push (H:AH) (x:AB):Fc H (push H x):=⟨rfl,by simp [V.push],fun b _ hl=>by simp [V.push,Fa hl]⟩
theorem Fc.set {H:AH} {b:Nat} (h:H.wm<=b) (x:AB):Fc H (Ma H b x):=⟨rfl,by simp [Ma],fun b' hb _=>by
 simp only [Ma,Kb];rw [if_neg (by omega)]⟩
def Pc (call:Callee):Prop:=∀ fv args H r H',call fv args H=some (r,H')->Fc H H'
section
variable {A:oh} {call:Callee} {za:List Nat}
theorem AG {H H':AH} {ts:Array TypeId} {x y v:AV} (h:append A H ts x y=some (v,H')):Fc H H':=by
 simp only [append,aa] at h;obtain ⟨_,_,_,_,_,_,_,_,_,_,xs,_,ys,_,h⟩:=h;split at h
 case isFalse=>simp at h
 split at h
 · simp at h;obtain ⟨_,rfl⟩:=h;exact .refl _
 · split at h
   · simp at h;obtain ⟨_,rfl⟩:=h;exact .push _ _
   · simp at h;obtain ⟨_,rfl⟩:=h;exact .push _ _
   · split at h
     · rename_i hc;simp at h;obtain ⟨_,rfl⟩:=h;exact (Fc.set hc.1 .dead).trans (Fc.push _ _)
     · simp at h
   · simp at h
theorem Lw {H H':AH} {t:TypeId} {n:Nat} {ps:List (Nat×AV)} {v:AV} (h:buildSlice A H t n ps=some (v,H')):Fc H H':=by
 simp only [buildSlice,aa] at h;obtain ⟨_,_,_,_,h⟩:=h;split at h
 case isFalse=>simp at h
 split at h
 · simp at h;obtain ⟨_,rfl⟩:=h;exact .refl _
 · simp only [aa] at h;obtain ⟨_,_,h⟩:=h;simp at h;obtain ⟨_,rfl⟩:=h;exact .push _ _
theorem dy {H H':AH} {t:TypeId} {l c v:AV} (h:makeSlice A H t l c=some (v,H')):Fc H H':=by
 unfold makeSlice at h;split at h
 · simp only [aa] at h;obtain ⟨_,_,_,_,_,_,h⟩:=h;split at h
   · simp at h;obtain ⟨_,rfl⟩:=h;exact .push _ _
   · simp at h
 · simp at h
theorem bC {H H':AH} {s d:TypeId} {x v:AV} (h:convert A H s d x=some (v,H')):Fc H H':=by
 unfold convert at h;split at h
 · simp at h;obtain ⟨_,rfl⟩:=h;exact .refl _
 · simp at h;obtain ⟨_,rfl⟩:=h;exact .refl _
 · split at h
   · split at h
     · simp at h;obtain ⟨_,rfl⟩:=h;exact .push _ _
     · simp at h
   · simp at h
 · split at h
   · simp only [aa,ia] at h;obtain ⟨_,_,_,_,h⟩:=h;simp at h;obtain ⟨_,rfl⟩:=h;exact .refl _
   · simp at h
 · simp at h
theorem Xn {H H':AH} {t:TypeId} {m k x:AV} (h:mapUpdate A H t m k x=some H'):Fc H H':=by
 unfold mapUpdate at h;split at h
 · split at h
   · rename_i hc;simp only [Ia,decide_eq_true_eq] at hc;split at h
     · simp only [ia] at h;obtain ⟨_,_,rfl⟩:=h;exact .set hc.2 _
     · simp at h
   · simp at h
 · simp at h
theorem Zx {H H':AH} {t:TypeId} {m k:AV} (h:uf A H t m k=some H'):Fc H H':=by
 unfold uf at h;split at h
 · split at h
   · simp at h;subst h;exact .refl _
   · simp at h
 · split at h
   · rename_i hc;simp only [Ia,decide_eq_true_eq] at hc;split at h
     · simp only [ia] at h;obtain ⟨_,_,rfl⟩:=h;exact .set hc.2 _
     · simp at h
   · simp at h
 · simp at h
theorem jC {H H':AH} {b:Builtin} {ts:Array TypeId} {args:List AV} {v:AV} (h:builtin A H b ts args=some (v,H')):Fc H H':=by
 unfold builtin at h;split at h
 · exact AG h
 · simp only [aa] at h;obtain ⟨_,_,h⟩:=h;split at h
   all_goals first
     |(simp at h;obtain ⟨_,rfl⟩:=h;exact .refl _)
     |(simp only [ia] at h;obtain ⟨_,_,h⟩:=h;simp at h;obtain ⟨_,rfl⟩:=h;exact .refl _)
     |simp at h
 · simp only [ia] at h;obtain ⟨_,_,h⟩:=h;simp at h;obtain ⟨_,rfl⟩:=h;exact .refl _
 · simp only [ia] at h;obtain ⟨_,_,h⟩:=h;simp at h;obtain ⟨_,rfl⟩:=h;exact .refl _
 · simp only [aa,ia] at h;obtain ⟨_,_,_,hd,h⟩:=h;simp at h;obtain ⟨_,rfl⟩:=h;exact Zx hd
 · simp only [aa] at h;obtain ⟨_,_,_,_,_,_,_,_,h⟩:=h;split at h
   · simp at h;obtain ⟨_,rfl⟩:=h;exact .refl _
   · simp at h;obtain ⟨_,rfl⟩:=h;exact .refl _
   · split at h
     · split at h
       · rename_i hc;simp at h;obtain ⟨_,rfl⟩:=h;exact .set hc.1 _
       · simp at h
     · simp at h
   · simp at h
 · simp at h
structure wZ (cZ:Ze) (s s' t t':S):Prop where
 e1:s'.e=s.e
 e2:t'.e=t.e
 q:Fc s.H s'.H
 h:(cZ.Cc=true->t'.H=s'.H)/\(cZ.Cc=false->t'.H=t.H/\s'.H=s.H)
 f:(s'.F=s.F/\t'.F=t.F)\/(∃ row,s'.F=s.F++[row]/\t'.F=t.F++[row]/\cZ= .no)\/∃ i row,cZ= .box i true/\s'.F=s.F.set i row/\t'.F=t.F.set i row/\∀ gk,s.F[i]?=some gk->row.length=gk.length
theorem wZ.same {cZ:Ze} {s t:S} (hH:cZ.Cc=true->t.H=s.H):wZ cZ s s t t:=
 ⟨rfl,rfl,.refl _,⟨hH,fun _=>⟨rfl,rfl⟩⟩,.inl ⟨rfl,rfl⟩⟩
theorem wZ.heap {w:Bool} {s t:S} {H:AH} (hq:Fc s.H H):wZ (.heap w) s { s with H:=H } t { t with H:=H }:=
 ⟨rfl,rfl,hq,⟨fun _=>rfl,fun h=>by simp [Ze.Cc] at h⟩,.inl ⟨rfl,rfl⟩⟩
section
variable {s s' t:S} {o:Oper}
theorem Dv:∀ {l:List Operand},(∀ x∈l,operand A t.e x=operand A s.e x)->Pg A t.e l=Pg A s.e l
 |[],_=>rfl
 |x::l,h=>by
  simp only [Pg,val,h x (by simp),Dv (l:=l) fun y hy=>h y (Gb _ hy)]
theorem Js:∀ {l:List (Nat×Operand)},(∀ x∈l.map (·.2),operand A t.e x=operand A s.e x)->parts A t.e l=parts A s.e l
 |[],_=>rfl
 |(i,x)::l,h=>by
  simp only [parts,val,h x (by simp),Js (l:=l) fun y hy=>h y (by simp at hy ⊢;exact .inr hy)]
theorem Ww {x:Option Operand} (h:∀ y∈x.toArray,operand A t.e y=operand A s.e y):Bg A t.e x=Bg A s.e x:=by
 cases x with
 |none=>rfl
 |some x=>simp only [Bg,val,h x (by simp)]
theorem Sg {x:Option AV} {v:SV} {cZ:Ze} (h:Hf s x=some (v,s')) (hH:cZ.Cc=true->t.H=s.H):∃ t',Hf t x=some (v,t')/\wZ cZ s s' t t':=by
 simp only [Hf,ia] at h;obtain ⟨a,ha,h⟩:=h;simp at h;obtain ⟨rfl,rfl⟩:=h;exact ⟨t,by simp [Hf,ha],.same hH⟩
theorem Sj {fz:AH->AV->Option (AV×AH)} (Tk:∀ H x x' H',fz H x=some (x',H')->Fc H H'):∀ (xs:List AV) (H:AH) (Ho:List AV) (H':AH),Ig fz H xs=some (Ho,H')->Fc H H'
 |[],H,Ho,H',h=>by simp [Ig] at h;obtain ⟨_,rfl⟩:=h;exact .refl _
 |x::xs,H,Ho,H',h=>by
  simp only [Ig,aa] at h;obtain ⟨⟨x1,H1⟩,h1,⟨xs1,H2⟩,h2,h⟩:=h;simp at h;obtain ⟨_,rfl⟩:=h;exact (Tk _ _ _ _ h1).trans (Sj Tk xs _ _ _ h2)
theorem su {fz:AH->AV->Option (AV×AH)} (Tk:∀ H x x' H',fz H x=some (x',H')->Fc H H'):∀ (xs:List (List AV)) (H:AH) (Ho:List (List AV)) (H':AH),zh fz H xs=some (Ho,H')->Fc H H'
 |[],H,Ho,H',h=>by simp [zh] at h;obtain ⟨_,rfl⟩:=h;exact .refl _
 |x::xs,H,Ho,H',h=>by
  simp only [zh,aa] at h;obtain ⟨⟨x1,H1⟩,h1,⟨xs1,H2⟩,h2,h⟩:=h;simp at h;obtain ⟨_,rfl⟩:=h;exact (Sj Tk _ _ _ _ h1).trans (su Tk xs _ _ _ h2)
theorem di:∀ (d:Nat) (H:AH) (x x':AV) (H':AH),freeze d H x=some (x',H')->Fc H H'
 |0,H,x,x',H',h=>by simp [freeze] at h
 |d+1,H,x,x',H',h=>by
  cases x
  case sl b r n=>
   simp only [freeze,aa] at h;obtain ⟨rows,_,sz,_,h⟩:=h;split at h
   case isFalse=>simp at h
   rename_i Of;simp only [aa] at h;obtain ⟨⟨Qd,H1⟩,XB,h⟩:=h;simp at h;obtain ⟨_,rfl⟩:=h;exact (Fc.set Of _).trans (su (di d) _ _ _ _ XB)
  case agg cs=>
   simp only [freeze,aa] at h;obtain ⟨⟨Bh,H1⟩,h1,h⟩:=h;simp at h;obtain ⟨_,rfl⟩:=h;exact Sj (di d) _ _ _ _ h1
  case Rc cs=>
   simp only [freeze,aa] at h;obtain ⟨⟨Bh,H1⟩,h1,h⟩:=h;simp at h;obtain ⟨_,rfl⟩:=h;exact Sj (di d) _ _ _ _ h1
  all_goals simp [freeze] at h;obtain ⟨_,rfl⟩:=h;exact .refl _
theorem dm {x:Option (AV×AH)} {v:SV} {w:Bool} (h:fh s x=some (v,s')) (hq:∀ a H,x=some (a,H)->Fc s.H H):∃ t',fh t x=some (v,t')/\wZ (.heap w) s s' t t':=by
 simp only [fh,ia] at h;obtain ⟨⟨a,H⟩,ha,h⟩:=h;simp at h;obtain ⟨rfl,rfl⟩:=h;exact ⟨{ t with H:=H },by simp [fh,ha],.heap (hq a H ha)⟩
theorem mB {bt:TypeId} {b:Bool} {cs:List AV} {v:SV} (h:boxed s bt b cs=some (v,s')) (hH:b=false->t.H=s.H) (hl:t.F.length=s.F.length):∃ t',boxed t bt b cs=some (v,t')/\wZ (if b then .no else .heap false) s s' t t':=by
 unfold boxed at h ⊢;split at h
 case isFalse=>simp at h
 rename_i hc;rw [if_pos hc];simp only [yc] at h;cases b with
 |true=>
  simp [box] at h;obtain ⟨rfl,rfl⟩:=h;refine ⟨{ t with F:=t.F++[cs] },by simp [box,hl],⟨rfl,rfl,.refl _,⟨fun h=>by simp [Ze.Cc] at h,fun _=>⟨rfl,rfl⟩⟩,.inr (.inl ⟨cs,rfl,rfl,rfl⟩)⟩⟩
 |false=>
  simp [box] at h;obtain ⟨rfl,rfl⟩:=h;refine ⟨{ t with H:=push s.H (.cells [cs] cs.length (some (bt,2))) },by simp [box,hH rfl],⟨rfl,rfl,.push _ _,⟨fun _=>rfl,fun h=>by simp [Ze.Cc] at h⟩,.inl ⟨rfl,rfl⟩⟩⟩
theorem rP {ty:TypeId} {p:SV} {x:AV} (h:load A s ty p=some x) (hH:(af false (some p)).Cc=true->t.H=s.H) (hB:∀ i w,af false (some p)= .box i w->t.F[i]?=s.F[i]?):load A t ty p=some x:=by
 unfold load at h ⊢;split at h
 · rename_i i c;simp only [hB i false rfl];exact h
 · rename_i b r c;simp only [hH rfl];exact h
 · exact h
 · simp at h
theorem AJ {ty:TypeId} {p:SV} {x:AV} (h:store A s ty p x=some s') (hH:(af true (some p)).Cc=true->t.H=s.H) (hB:∀ i w,af true (some p)= .box i w->t.F[i]?=s.F[i]?):
   ∃ t',store A t ty p x=some t'/\wZ (af true (some p)) s s' t t':=by
 simp only [store,aa] at h;obtain ⟨cs,Si,n,hn,h⟩:=h;split at h
 case isFalse=>simp at h
 rename_i hlen;unfold store;simp only [Si,hn,da];rw [if_pos hlen];split at h
 · rename_i i c;simp only [aa] at h;obtain ⟨row,hr,Jb,jf,h⟩:=h;simp at h;subst h;exact ⟨{ t with F:=t.F.set i Jb },by simp [hB i true rfl,hr,jf],⟨rfl,rfl,.refl _,⟨fun h=>by simp [af,Ze.Cc] at h,fun _=>⟨rfl,rfl⟩⟩,.inr (.inr ⟨i,Jb,rfl,rfl,rfl,fun gk ho=>by
    rw [hr] at ho;simp at ho;subst ho;unfold kf at jf;split at jf
    · simp at jf;subst jf;simp;omega
    · simp at jf⟩)⟩⟩
 · rename_i b r c;have hH':=hH rfl;split at h
   case h_2=>simp at h
   rename_i rows sz xB hb;split at h
   case isFalse=>simp at h
   rename_i Of;simp only [aa] at h;obtain ⟨row,hr,Jb,jf,h⟩:=h;simp at h;subst h;refine ⟨{ t with H:=Ma s.H b (.cells (rows.set r Jb) sz xB) },by simp [hH',hb,Of,hr,jf],⟨rfl,rfl,.set Of _,⟨fun _=>rfl,fun h=>by simp [af,Ze.Cc] at h⟩,.inl ⟨rfl,rfl⟩⟩⟩
 · simp at h
theorem kA {H H':AH} {ty:TypeId} {p:SV} {i:Int} (h:(nq (some p)).Cc=true->H'=H):indexAddr A H' ty p i=indexAddr A H ty p i:=by
 unfold indexAddr;split
 · rfl
 · split
   · rw [h rfl]
   · rfl
   · rfl
 · rfl
def vM (A:oh) (H:AH) (t:TypeId) (x:AV):Option (AV×AH):=
 match A.P.underlying t,x with
 |some .string,.str s=>some (.int .i64 s.size,H)
 |some (.slice _),.Wa|some (.slice _),.Kd=>some (.int .i64 0,H)
 |some (.slice _),.lit _ rows=>some (.int .i64 rows.length,H)
 |some (.slice _),.sl _ _ n=>some (.int .i64 n,H)
 |some (.map _ _),m=>(mapOf H m).map fun es=>(.int .i64 es.length,H)
 |some (.array n _),_=>some (.int .i64 n,H)
 |_,_=>none
theorem vG {H H':AH} {b:Builtin} {ts:Array TypeId} {l:List AV} {v:AV} (hp:b= .max\/b= .min\/(b= .len/\∀ m,l≠[.mp m])) (h:builtin A H b ts l=some (v,H')):H'=H/\∀ H2,builtin A H2 b ts l=some (v,H2):=by
 rcases hp with rfl|rfl|⟨rfl,hp⟩
 · unfold builtin at h ⊢;split at h<;>simp_all
   obtain ⟨a,h1,h2,h3⟩:=h;exact ⟨h3.symm,fun _=>by rw [h1,h2]⟩
 · unfold builtin at h ⊢;split at h<;>simp_all
   obtain ⟨a,h1,h2,h3⟩:=h;exact ⟨h3.symm,fun _=>by rw [h1,h2]⟩
 · unfold builtin at h;split at h<;>try (simp_all;done)
   rename_i x _;simp only [aa] at h;obtain ⟨t,ht,h⟩:=h;have key:∀ H2,builtin A H2 .len ts [x]=vM A H2 t x:=fun H2=>by simp only [builtin,ht,da,vM];rfl
   have h:vM A H t x=some (v,H'):=h;unfold vM at key h;split at h
   all_goals first
    |(simp at h;done)
    |(simp at h;obtain ⟨rfl,rfl⟩:=h;exact ⟨rfl,fun H2=>by rw [key];simp_all⟩)
    |skip
   rename_i x _ _ _ _ hu _;simp only [ia] at h;obtain ⟨es,he,h⟩:=h;simp at h;obtain ⟨rfl,rfl⟩:=h;refine ⟨rfl,fun H2=> ?_⟩;rw [key];have:mapOf H2 x=some es:=by
    cases x<;>first|(simp [mapOf] at he;done)|(exact absurd rfl (hp _))|(simpa [mapOf] using he)
   simp [hu,this]
theorem CE {q:Bool} {v:SV} (hq:Pc call) (h:op A call za s o=some (v,s')) (he:∀ x∈o.op.operands,operand A t.e x=operand A s.e x)
  (hH:(Uc A za s o q).Cc=true->t.H=s.H) (hl:t.F.length=s.F.length) (hB:∀ i w,Uc A za s o q= .box i w->t.F[i]?=s.F[i]?):
  ∃ t',op A call za t o=some (v,t')/\wZ (Uc A za s o q) s s' t t':=by
 have hv:∀ x∈o.op.operands,val A t.e x=val A s.e x:=fun x hx=>by simp only [val,he x hx]
 obtain ⟨dst,o,type,pos,after,guard⟩:=o;simp only at he hv;cases o
 case move x=>
  simp only [op] at h ⊢;simp only [he x (by simp [Op.operands])];simp only [ia] at h ⊢;obtain ⟨u,hu,h⟩:=h;simp at h;obtain ⟨rfl,rfl⟩:=h;exact ⟨t,⟨u,hu,rfl⟩,.same hH⟩
 case assign x=>
  simp only [op] at h ⊢;simp only [he x (by simp [Op.operands])];simp only [ia] at h ⊢;obtain ⟨u,hu,h⟩:=h;simp at h;obtain ⟨rfl,rfl⟩:=h;exact ⟨t,⟨u,hu,rfl⟩,.same hH⟩
 case pick c a b=>
  simp only [op] at h ⊢;rw [hv c (by simp [Op.operands])];rw [he a (by simp [Op.operands]),he b (by simp [Op.operands])];simp only [aa] at h ⊢;obtain ⟨u,hu,h⟩:=h;split at h
  · simp only [ia] at h;obtain ⟨x,hx,h⟩:=h;simp at h;obtain ⟨rfl,rfl⟩:=h;exact ⟨t,⟨_,hu,by simp [hx]⟩,.same hH⟩
  · simp only [ia] at h;obtain ⟨x,hx,h⟩:=h;simp at h;obtain ⟨rfl,rfl⟩:=h;exact ⟨t,⟨_,hu,by simp [hx]⟩,.same hH⟩
  · simp at h
 case alloc ty=>
  simp only [op,aa] at h;obtain ⟨z,hz,h⟩:=h;have:=mB (t:=t) h (fun hb=>hH (by have zd:Gg za ⟨dst,.alloc ty,type,pos,after,guard⟩=false:=hb;simp only [Uc,zd];rfl)) hl;simp only [op,hz,da];exact this
 case box ty x=>
  simp only [op,aa] at h;obtain ⟨u,hu,cs,Si,h⟩:=h;have:=mB (t:=t) h (fun hb=>hH (by have zd:Gg za ⟨dst,.box ty x,type,pos,after,guard⟩=false:=hb;simp only [Uc,zd];rfl)) hl;simp only [op,hv x (by simp [Op.operands]),hu,Si,da];exact this
 case build ty ps=>
  simp only [op,aa] at h;obtain ⟨l,pA,h⟩:=h;simp only [op,Js (s:=s) (t:=t) (l:=ps.toList) (fun x hx=>he x (by simpa [Op.operands] using hx)),pA,da];exact Sg h hH
 case buildSlice ty n ps=>
  simp only [op,aa] at h;obtain ⟨l,pA,h⟩:=h;simp only [op,Js (s:=s) (t:=t) (l:=ps.toList) (fun x hx=>he x (by simpa [Op.operands] using hx)),pA,da,hH rfl];refine dm h fun a H hx=> ?_
  simp only [aa] at hx;obtain ⟨⟨x0,H0⟩,hx0,hx⟩:=hx;have h1:=Lw hx0;simp only at hx;split at hx
  · exact h1.trans (di _ _ _ _ _ hx)
  · simp at hx;obtain ⟨_,rfl⟩:=hx;exact h1
 case load ty x=>
  simp only [op,aa] at h;obtain ⟨p,hp,h⟩:=h;simp only [Uc,hp] at hH hB ⊢;simp only [op,he x (by simp [Op.operands]),hp,da];cases Pf:load A s ty p with
  |none=>rw [Pf] at h;simp [Hf] at h
  |some y=>rw [rP Pf hH hB];rw [Pf] at h;exact Sg h hH
 case store ty x y=>
  simp only [op,aa,ia] at h;obtain ⟨p,hp,a,ha,s1,hs,h⟩:=h;simp at h;obtain ⟨rfl,rfl⟩:=h;simp only [Uc,hp] at hH hB ⊢;obtain ⟨t',h1,h2⟩:=AJ hs hH hB;simp only [op,he x (by simp [Op.operands]),hv y (by simp [Op.operands]),hp,ha,h1,da,Jc];exact ⟨t',rfl,h2⟩
 case nilCheck x=>
  simp only [op,aa] at h;obtain ⟨p,hp,h⟩:=h;simp only [op,he x (by simp [Op.operands]),hp,da];split at h<;>first|(simp at h;obtain ⟨rfl,rfl⟩:=h;exact ⟨t,rfl,.same hH⟩)|simp at h
 case binOp b ty x y L4=>
  simp only [op,aa] at h;obtain ⟨p,hp,q',hq',h⟩:=h;simp only [op,hv x (by simp [Op.operands]),hv y (by simp [Op.operands]),hp,hq',da];exact Sg h hH
 case unOp u ty x=>
  simp only [op,aa] at h;obtain ⟨p,hp,h⟩:=h;simp only [op,hv x (by simp [Op.operands]),hp,da];exact Sg h hH
 case convert a b x=>
  simp only [op,aa] at h;obtain ⟨p,hp,h⟩:=h;simp only [op,hv x (by simp [Op.operands]),hp,da,hH rfl];exact dm h fun a H=>bC
 case makeFunc fx first Ug=>
  cases fx with
  |func f=>
    simp only [op] at h ⊢;split at h
    · rename_i h0;rw [if_pos h0];simp only [ia] at h;obtain ⟨l,Pf,h⟩:=h;simp at h;obtain ⟨rfl,rfl⟩:=h;rw [Dv (s:=s) (t:=t) (l:=Ug.toList) (fun x hx=>he x (by simp [Op.operands];exact .inr (by simpa using hx))),Pf];exact ⟨t,rfl,.same hH⟩
    · simp at h
  |_=>simp [op] at h
 case makeMap ty r=>
  have bS:v= .v (.mp s.H.bl.length)/\s'={ s with H:=push s.H (.map []) }/\op A call za t ⟨dst,.makeMap ty r,type,pos,after,guard⟩=some (.v (.mp t.H.bl.length),{ t with H:=push t.H (.map []) }):=by
    simp only [op,aa] at h ⊢;obtain ⟨_,h1,h⟩:=h;simp at h;obtain ⟨rfl,rfl⟩:=h;refine ⟨rfl,rfl,(),?_,trivial⟩;cases r with
    |none=>rfl
    |some x=>simp only [hv x (by simp [Op.operands])];exact h1
  obtain ⟨rfl,rfl,h2⟩:=bS;rw [h2,hH rfl];exact ⟨_,rfl,.heap (.push _ _)⟩
 case makeSlice ty l c=>
  simp only [op,aa] at h;obtain ⟨p,hp,q',hq',h⟩:=h;simp only [op,hv l (by simp [Op.operands]),hv c (by simp [Op.operands]),hp,hq',da,hH rfl];exact dm h fun a H=>dy
 case slice ty x lo hi mx=>
  cases mx with
  |some m=>
    cases lo with
    |some _=>simp [op] at h
    |none=>
    cases hi with
    |none=>simp [op] at h
    |some hi=>
    simp only [op,aa] at h;obtain ⟨p,hp,l,Pf,u,hu,h⟩:=h;simp only [op,hv x (by simp [Op.operands]),hv hi (by simp [Op.operands]),hv m (by simp [Op.operands]),hp,Pf,hu,da];split at h
    · rename_i hc;rw [if_pos hc];exact Sg h hH
    · simp at h
  |none=>
    simp only [op,aa] at h;obtain ⟨p,hp,l,Pf,u,hu,h⟩:=h;simp only [op,hv x (by simp [Op.operands]),Ww (s:=s) (t:=t) (x:=lo) (fun y hy=>he y (by simp [Op.operands] at hy ⊢;simp [hy])),Ww (s:=s) (t:=t) (x:=hi) (fun y hy=>he y (by simp [Op.operands] at hy ⊢;simp [hy])),hp,Pf,hu,da,hH rfl];exact Sg h hH
 case fieldAddr ty x f=>
  simp only [op,aa] at h;obtain ⟨p,hp,fd,FH,n,hn,h⟩:=h;simp only [op,he x (by simp [Op.operands]),hp,FH,hn,da];split at h
  · simp at h
  · rename_i h0;rw [if_neg h0];simp only [ia] at h ⊢;obtain ⟨u,hu,h⟩:=h;simp at h;obtain ⟨rfl,rfl⟩:=h;exact ⟨t,⟨u,hu,rfl⟩,.same hH⟩
 case field ty x f=>
  simp only [op,aa] at h;obtain ⟨p,hp,h⟩:=h;simp only [op,hv x (by simp [Op.operands]),hp,da];split at h
  · simp only [aa] at h;obtain ⟨fd,FH,h⟩:=h;simp only [FH,da];exact Sg h hH
  · simp at h
 case indexAddr ty x i=>
  simp only [op,aa] at h;obtain ⟨p,hp,u,hu,n,hn,h⟩:=h;simp only [Uc,hp] at hH hB ⊢;simp only [op,he x (by simp [Op.operands]),hv i (by simp [Op.operands]),hp,hu,hn,da,kA hH];simp only [ia] at h ⊢;obtain ⟨y,hy,h⟩:=h;simp at h;obtain ⟨rfl,rfl⟩:=h;exact ⟨t,⟨y,hy,rfl⟩,.same hH⟩
 case index ty x i=>
  simp only [op,aa] at h;obtain ⟨p,hp,u,hu,n,hn,h⟩:=h;simp only [op,hv x (by simp [Op.operands]),hv i (by simp [Op.operands]),hp,hu,hn,da];exact Sg h hH
 case lookup ty x i ok=>
  simp only [op,aa] at h;obtain ⟨p,hp,u,hu,h⟩:=h;simp only [op,hv x (by simp [Op.operands]),hv i (by simp [Op.operands]),hp,hu,da,hH rfl];exact Sg h hH
 case mapUpdate ty m k x=>
  simp only [op,aa,ia] at h;obtain ⟨p,hp,u,hu,y,hy,H,hm,h⟩:=h;simp at h;obtain ⟨rfl,rfl⟩:=h;simp only [op,hv m (by simp [Op.operands]),hv k (by simp [Op.operands]),hv x (by simp [Op.operands]),hp,hu,hy,hm,da,Jc,hH rfl];exact ⟨_,rfl,.heap (Xn hm)⟩
 case insert ty m k x=>
  simp only [op,aa,ia] at h;obtain ⟨p,hp,u,hu,y,hy,H,hm,h⟩:=h;simp at h;obtain ⟨rfl,rfl⟩:=h;simp only [op,hv m (by simp [Op.operands]),hv k (by simp [Op.operands]),hv x (by simp [Op.operands]),hp,hu,hy,hm,da,Jc,hH rfl];exact ⟨_,rfl,.heap (Xn hm)⟩
 case extract x i=>
  simp only [op,aa] at h;obtain ⟨p,hp,h⟩:=h;simp only [op,hv x (by simp [Op.operands]),hp,da];split at h
  · simp only [ia] at h ⊢;obtain ⟨y,hy,h⟩:=h;simp at h;obtain ⟨rfl,rfl⟩:=h;exact ⟨t,⟨y,hy,rfl⟩,.same hH⟩
  · simp at h
 case call c=>
  obtain ⟨callee,args,argTypes⟩:=c;simp only [op,aa] at h;obtain ⟨l,Pf,h⟩:=h;have p5:Pg A t.e args.toList=some l:=by rw [<- Pf];exact Dv fun x hx=>he x (by simp only [Op.operands];unfold Call.operands;cases callee<;>simp_all)
  have pure:∀ (b:Builtin),callee= .builtin b->(b= .max\/b= .min\/(b= .len/\∀ m,l≠[.mp m]))->∃ t',op A call za t ⟨dst,.call ⟨callee,args,argTypes⟩,type,pos,after,guard⟩=some (v,t')/\wZ .no s s' t t':=fun b hb hp=>by
    subst hb;simp only [fh,ia] at h;obtain ⟨⟨a,H⟩,ha,h⟩:=h;simp at h;obtain ⟨rfl,rfl⟩:=h;obtain ⟨rfl,h2⟩:=vG hp ha;exact ⟨t,by simp [op,p5,fh,h2 t.H],.same (fun h=>by cases h)⟩
  by_cases hpb:(∃ b,callee= .builtin b/\(b= .max\/b= .min\/(b= .len/\∀ m,l≠[.mp m])))
  · obtain ⟨b,rfl,hp⟩:=hpb;have ht:Uc A za s ⟨dst,.call ⟨.builtin b,args,argTypes⟩,type,pos,after,guard⟩ q= .no:=by
      rcases hp with rfl|rfl|⟨rfl,hp⟩
      · rfl
      · rfl
      · simp only [Uc,Pf];unfold dh;split
        · rename_i m e;simp at e;exact absurd e (hp m)
        · rfl
        · rename_i e;simp at e
    rw [ht];exact pure b rfl hp
  obtain ⟨wr,o5⟩:∃ wr,Uc A za s ⟨dst,.call ⟨callee,args,argTypes⟩,type,pos,after,guard⟩ q= .heap wr:=by
    cases callee with
    |builtin b=>
      cases b<;>first|exact ⟨_,rfl⟩|(exact absurd ⟨_,rfl,.inl rfl⟩ hpb)|(exact absurd ⟨_,rfl,.inr (.inl rfl)⟩ hpb)|skip
      have:∃ m,l=[.mp m]:=by
        rcases Classical.em (∃ m,l=[.mp m]) with h'|h'
        · exact h'
        · exact absurd ⟨_,rfl,.inr (.inr ⟨rfl,fun m e=>h' ⟨m,e⟩⟩)⟩ hpb
      obtain ⟨m,rfl⟩:=this;exact ⟨false,by simp only [Uc,Pf,dh]⟩
    |_=>exact ⟨_,rfl⟩
  rw [o5] at hH ⊢;simp only [op,p5,da,hH rfl];cases callee with
  |value f=>
    simp only [aa] at h;obtain ⟨gv,hg,h⟩:=h;simp only [hv f (by simp [Op.operands,Call.operands]),hg,da];exact dm h fun a H=>hq _ _ _ _ _
  |builtin b=>exact dm h fun a H=>jC
  |_=>simp at h
 all_goals simp [op] at h
end
end
end Go.V
namespace Go.V
open Go
section
variable {A:oh} {call:Callee} {za keep:List Nat} {n:Nat}
theorem Yz {s s':S} {o:Oper} {v:SV} (hq:Pc call) (h:op A call za s o=some (v,s')):Fc s.H s'.H/\s'.e=s.e:=by
 obtain ⟨t',_,h2⟩:=CE (q:=false) (t:=s) hq h (fun _ _=>rfl) (fun _=>rfl) rfl (fun _ _ _=>rfl);exact ⟨h2.q,h2.e1⟩
theorem Sz {s s':S} {n:Nat} {dst:Option Nat} {v:SV} (h:put s n dst v=some s'):s'.H=s.H/\s'.F=s.F:=by
 unfold put at h;split at h
 · simp at h;subst h;exact ⟨rfl,rfl⟩
 · split at h
   · simp at h;subst h;exact ⟨rfl,rfl⟩
   · simp at h
theorem Sv {all:Array Oper} (hq:Pc call):∀ (l:List Oper) (s s':S),ops A call za n all l s=some s'->Fc s.H s'.H
 |[],s,s',h=>by simp [ops] at h;subst h;exact .refl _
 |o::l,s,s',h=>by
  simp only [ops,aa] at h;obtain ⟨b,hb,h⟩:=h;cases b with
  |true=>
   simp only [aa] at h;obtain ⟨⟨v,s1⟩,qA,s2,Hg,h⟩:=h;have:=Sv hq l s2 s' h;rw [(Sz Hg).1] at this;exact (Yz hq qA).1.trans this
  |false=>
   simp only [aa] at h;obtain ⟨s1,Hg,h⟩:=h;have:=Sv hq l s1 s' h;rw [(Sz Hg).1] at this;exact this
theorem lP {s s':S} {o:Oper} {v:SV} {t:Ze} (hq:Pc call) (h:rM A call za t s o=some (v,s')):Fc s.H s'.H:=by
 have hah:∀ {s':S},(op A call za { s with H:={ s.H with wm:=s.H.bl.length } } o).map (fun (v,s')=>(v,{ s' with H:={ s'.H with wm:=s.H.wm } }))=some (v,s')->Fc s.H s'.H:=fun h=>by
   simp only [ia] at h;obtain ⟨⟨u,s1⟩,h1,h⟩:=h;simp at h;obtain ⟨_,rfl⟩:=h;obtain ⟨q1,q2,q3⟩:=(Yz hq h1).1;exact ⟨rfl,q2,fun b _ hl=>q3 b hl hl⟩
 unfold rM at h;split at h
 · exact (Yz hq h).1
 · exact hah h
theorem jn {all:Array Oper} {b:List Nat} (hq:Pc call):∀ (l:List Oper) (i:Nat) (s:S) (x:List Ze) (rs:List (Oper×List (Nat×SV)×SV)) (s':S) (y:List Ze),Lj A call za n all b l i s x rs=some (s',y)->Fc s.H s'.H
 |[],i,s,x,rs,s',y,h=>by simp [Lj] at h;obtain ⟨rfl,_⟩:=h;exact .refl _
 |o::l,i,s,x,rs,s',y,h=>by
  simp only [Lj,aa] at h;obtain ⟨b,hb,h⟩:=h;cases b with
  |true=>
   simp only at h;split at h
   · simp only [aa] at h;obtain ⟨⟨v,s1⟩,qA,h⟩:=h;split at h
     case isFalse=>simp at h
     simp only [aa] at h;obtain ⟨s2,Hg,h⟩:=h;split at h
     case isFalse=>simp at h
     have:=jn hq l _ s2 _ _ s' y h;rw [(Sz Hg).1] at this;exact this
   · simp only [aa] at h;obtain ⟨⟨v,s1⟩,qA,s2,Hg,h⟩:=h;split at h
     case isFalse=>simp at h
     have:=jn hq l _ s2 _ _ s' y h;rw [(Sz Hg).1] at this;exact (lP hq qA).trans this
  |false=>
   simp only [aa] at h;obtain ⟨s1,Hg,h⟩:=h;split at h
   case isFalse=>simp at h
   have:=jn hq l _ s1 _ _ s' y h;rw [(Sz Hg).1] at this;exact this
theorem wE {s s':S} {os:Array Oper} {draw:Bool} (hq:Pc call) (h:region A call za n os draw s=some s'):Fc s.H s'.H:=by
 unfold region at h;split at h
 · split at h
   · simp only [aa] at h;obtain ⟨⟨s1,l⟩,h1,h⟩:=h;split at h
     · simp at h;subst h;exact jn hq _ _ _ _ _ _ _ h1
     · simp at h
   · simp at h
 · exact Sv hq _ _ _ h
theorem Xs (hq:Pc call) {rf:Bool}:∀ (c:Code) (s:S) (ex:Ex) (s':S),code A call rf za keep n c s=some (ex,s')->Fc s.H s'.H:=by
 intro c;induction c with
 |skip=>intro s ex s' h;simp [code] at h;obtain ⟨_,rfl⟩:=h;exact .refl _
 |label l=>intro s ex s' h;simp [code] at h;obtain ⟨_,rfl⟩:=h;exact .refl _
 |exit id=>intro s ex s' h;simp [code] at h;obtain ⟨_,rfl⟩:=h;exact .refl _
 |ret=>intro s ex s' h;simp [code] at h;obtain ⟨_,rfl⟩:=h;exact .refl _
 |region id os draw=>
  intro s ex s' h;simp only [code,ia] at h;obtain ⟨s1,h1,h⟩:=h;simp at h;obtain ⟨_,rfl⟩:=h;exact wE hq h1
 |seq x y D0 N8=>
  intro s ex s' h;simp only [code,aa] at h;obtain ⟨⟨e1,s1⟩,h1,h⟩:=h;cases e1 with
  |normal=>exact (D0 _ _ _ h1).trans (N8 _ _ _ h)
  |exit id=>simp at h;obtain ⟨_,rfl⟩:=h;exact D0 _ _ _ h1
  |ret=>simp at h;obtain ⟨_,rfl⟩:=h;exact D0 _ _ _ h1
 |cond c x y D0 N8=>
  intro s ex s' h;simp only [code,aa] at h;obtain ⟨cv,_,h⟩:=h;split at h
  · split at h
    · exact D0 _ _ _ h
    · exact N8 _ _ _ h
  · simp at h
 |block id c ih=>
  intro s ex s' h;simp only [code,aa] at h;obtain ⟨⟨e1,s1⟩,h1,h⟩:=h;have:=ih _ _ _ h1;cases e1 with
  |normal=>simp at h;obtain ⟨_,rfl⟩:=h;exact this
  |ret=>simp at h;obtain ⟨_,rfl⟩:=h;exact this
  |exit zB=>
    simp only at h;split at h<;>simp at h<;>obtain ⟨_,rfl⟩:=h<;>exact this
 |loop c ih=>
  intro s ex s' h;simp only [code] at h;generalize qm=k at h;induction k generalizing s with
  |zero=>simp [Nr] at h
  |succ k ihk=>
    simp only [Nr,aa] at h;obtain ⟨⟨e1,s1⟩,h1,h⟩:=h;have:=ih _ _ _ h1;cases e1 with
    |normal=>exact Fc.trans (H:=s.H) this (ihk _ h)
    |exit id=>simp at h;obtain ⟨_,rfl⟩:=h;exact this
    |ret=>simp at h;obtain ⟨_,rfl⟩:=h;exact this
 |rangeFunc fx ps assign body=>
  intro s ex s' h;simp only [code] at h;split at h
  case isFalse=>simp at h
  simp only [aa] at h;obtain ⟨fv,_,env,_,_,_,⟨r,H2⟩,Sf,h⟩:=h;split at h
  case h_2=>simp at h
  simp only [aa] at h;obtain ⟨_,_,h⟩:=h;split at h
  case isFalse=>simp at h
  rename_i Of;simp only [ia] at h;obtain ⟨fG,_,h⟩:=h;simp at h;obtain ⟨_,rfl⟩:=h;exact ((Fc.push _ _).trans (hq _ _ _ _ _ Sf)).trans (.set Of _)
 |scope c ih=>intro s ex s' h;simp only [code] at h;exact ih _ _ _ h
 |goto=>intro s ex s' h;simp [code] at h
 |refuse=>intro s ex s' h;simp [code] at h
def iq (A:oh):Prop:=∀ f h,A.ext f=some h->∀ args H r H',h args H=some (r,H')->Fc H H'
theorem Wi (hE:iq A):∀ k,Pc (V.call A k)
 |0=>fun fv args H r H' h=>by simp [V.call] at h
 |k+1=>fun fv args H r H' h=>by
  cases fv
  case fn f Ug=>
   simp only [V.call] at h;split at h
   · rename_i e he;exact hE f e he _ _ _ _ h
   · split at h
     case h_1=>simp at h
     split at h
     case h_1=>simp at h
     split at h
     case isFalse=>simp at h
     simp only [aa] at h;obtain ⟨⟨ex,s1⟩,kj,h⟩:=h;have hq:=Xs (Wi hE k) _ _ _ _ kj;have sy:∀ l,(if A.jS f=true then freeze 8 s1.H (result l) else some (result l,s1.H))=some (r,H')->Fc H H':=fun l h=>by
      split at h
      · exact Fc.trans (H:=H) hq (di _ _ _ _ _ h)
      · simp at h;obtain ⟨_,rfl⟩:=h;exact hq
     cases ex with
     |exit id=>simp at h
     |normal=>simp only [aa] at h;obtain ⟨l,_,h⟩:=h;exact sy l h
     |ret=>simp only [aa] at h;obtain ⟨l,_,h⟩:=h;exact sy l h
  case yl b=>
   simp only [V.call] at h;split at h
   case h_2=>simp at h
   split at h
   case isFalse=>simp at h
   rename_i hc;simp only [aa] at h;obtain ⟨⟨H7,s1⟩,sK,h⟩:=h;split at h
   case h_2=>simp at h
   rename_i heq;simp at heq;obtain ⟨rfl,rfl⟩:=heq;split at h
   case h_2=>simp at h
   simp only [aa] at h;obtain ⟨⟨fG,s2⟩,rK,h⟩:=h;split at h
   case h_2=>simp at h
   simp at h;obtain ⟨_,rfl⟩:=h;have q1:=Xs (Wi hE k) _ _ _ _ sK;have q2:=Xs (Wi hE k) _ _ _ _ rK;have w1:s1.H.wm=H.wm:=q1.1;have w2:s2.H.wm=s1.H.wm:=q2.1;have k1:∀ x,Fc s1.H (Ma s1.H b x):=fun x=>Fc.set (by rw [w1];exact hc.2.1) x
   exact Fc.trans (H:=H) (Fc.trans (Fc.trans q1 (k1 _)) q2) (.set (by show s2.H.wm<=b;rw [w2,w1];exact hc.2.1) _)
  all_goals simp [V.call] at h
end
end Go.V
namespace Go.V
open Go
section
variable {A:oh} {g:Gx} {f:Fx} {w:World} {s:S} {a:Act} {call:Callee} {za:List Nat}
theorem Rz {s s':S} {n:Nat} {dst:Option Nat} {v:SV} (h:put s n dst v=some s'):s'.F=s.F/\s'.H=s.H/\((dst=none/\s'.e=s.e)\/∃ d,dst=some d/\d<n/\s'.e=(d,v)::s.e):=by
 unfold put at h;split at h
 · simp at h;subst h;exact ⟨rfl,rfl,.inl ⟨rfl,rfl⟩⟩
 · rename_i d;split at h
   · rename_i hd;simp at h;subst h;exact ⟨rfl,rfl,.inr ⟨d,rfl,hd,rfl⟩⟩
   · simp at h
theorem ou {tmps:Array Value} {d:Nat} {rv:Value} (t:Nat) (hd:d<tmps.size):(tmps.setIfInBounds d rv).getD t undef=if t=d then rv else tmps.getD t undef:=by
 simp only [Th,Array.getElem?_setIfInBounds];by_cases h:d=t
 · subst h;simp [hd]
 · rw [if_neg h,if_neg (fun e=>h e.symm)]
theorem qO {s':S} {n:Nat} {dst:Option Nat} {v:SV} {rv:Value} (h:put s n dst v=some s') (he:Pe g f w s.e a.tmps) (hn:a.tmps.size=n) (hv:we g f w v rv):Pe g f w s'.e (a.put dst rv).tmps/\(a.put dst rv).tmps.size=n/\(a.put dst rv).defers=a.defers:=by
 obtain ⟨_,_,⟨rfl,h3⟩|⟨d,rfl,hd,h3⟩⟩:=Rz h
 · rw [h3];exact ⟨he,hn,rfl⟩
 · rw [h3];refine ⟨fun t=> ?_,by simp [Act.put,hn],rfl⟩;simp only [Act.put,get];rw [ou t (by omega)];by_cases ht:t=d
   · rw [if_pos ht,if_pos ht];exact hv
   · rw [if_neg ht,if_neg ht];exact he t
theorem wC (g:Gx) (w:World):Ya g w (.Rc []) undef:=Ya.Rc [] [] rfl fun i x v h=>by simp at h
theorem xx {all:Array Oper} {o:Oper} {b:Bool} (h:Sc all s o=some b) (he:Pe g f w s.e a.tmps):Region.wanted o (yielded all a.tmps)=b:=by
 unfold Sc at h;unfold Region.wanted;split at h
 · rename_i hg;simp at h;subst h;simp [hg]
 · rename_i j want hg;simp only [hg];split at h
   · rename_i d hd;split at h
     · rename_i b' zd;simp at h;subst h;have:=he d;rw [zd] at this;have hv:a.tmps.getD d undef= .bool b':=by
        generalize a.tmps.getD d undef=v at this;have MG:Ya g w (.bool b') v:=this;cases MG;rfl
       have h2:a.tmps[d]?=some (.bool b'):=by
        rw [Th] at hv;cases hx:a.tmps[d]? with
        |none=>rw [hx] at hv;simp [undef] at hv
        |some v=>rw [hx] at hv;simp at hv;rw [hv]
       have h3:yielded all a.tmps j=some b':=by simp [yielded,hd,h2]
       rw [h3];cases b'<;>cases want<;>rfl
     · rename_i zd;simp at h;subst h;have:=he d;rw [zd] at this;have hv:a.tmps.getD d undef=undef:=by
        generalize a.tmps.getD d undef=v at this;have MG:Ya g w (.Rc []) v:=this;cases MG with
        |Rc _ vs hl _=>
         have:vs=[]:=Da.1 hl;subst this;rfl
       have h3:yielded all a.tmps j=none:=by
        rw [Th] at hv;simp only [yielded,hd,da];cases hx:a.tmps[d]? with
        |none=>rfl
        |some v=>rw [hx] at hv;simp [undef] at hv;rw [hv]
       rw [h3];cases want<;>rfl
     · simp at h
   · simp at h
def YY (G:Nat->Option (List AV)) (g:Gx) (f:Fx) (w:World) (s s':S) (n:Nat) (a:Act) (K:Act->World->Prop):Prop:=
 ∀ g' f' a' w',St G g' f' s' n a' w'->kg g f w s.H s.F g' f' w' s'.H s'.F->mC w a.defers a'.defers->K a' w'
theorem qY {g':Gx} {f':Fx} {w':World} {s':S} (hw:Ub A.La g w s.H) (hf:Jd g f w s.H s.F) (hx:kg g f w s.H s.F g' f' w' s'.H s'.F) (he:Pe g f w s.e a.tmps):Pe g' f' w' s.e a.tmps:=
 fun t=>(he t).mono (hx.le hw hf) hx.E
theorem Rv {F:Fence} {m n:Nat} {all:Array Oper} {Q:Exit->Act->World->Prop} (hC:xj A call) (hF:Tu F):∀ (l:List Oper) (i:Nat) (g:Gx) (f:Fx) (s s':S) (a:Act) (w:World),(∀ k,l[k]?=all[i+k]?)->ops A call za n all l s=some s'->St A.La g f s n a w->YY A.La g f w s s' n a (Q .normal)->
  wpOpsIn F m A.P all Q (List.range' i l.length) a w
 |[],i,g,f,s,s',a,w,_,h,Wb,hk=>by
  simp [ops] at h;subst h;exact hk g f a w Wb (.refl _ _ _ _ _) (.refl _ _)
 |o::l,i,g,f,s,s',a,w,hl,h,Wb,hk=>by
  have ho:all[i]?=some o:=by have:=hl 0;simpa using this.symm
  have Pf:∀ k,l[k]?=all[i+1+k]?:=fun k=>by have:=hl (k+1);rw [show i+1+k=i+(k+1) by omega,<- this];simp
  simp only [ops,aa] at h;obtain ⟨b,hb,h⟩:=h;have Cac:=xx hb Wb.he;rw [List.length_cons,List.range'_succ];simp only [wpOpsIn,ho,Cac];cases b with
  |true=>
   simp only [aa] at h;obtain ⟨⟨v,s1⟩,qA,s2,Hg,h⟩:=h;rw [if_pos rfl];refine eH hC qA Wb.hw Wb.hf Wb.he hF (fun t x y ho i c hx=>Wb.hW i (by have:=me hx Wb.hw Wb.he;exact this.1)) fun hse g1 f1 w1 rv cK hf1 dj x5=> ?_
   obtain ⟨e1,e2,e3⟩:=Rz Hg;have he1:Pe g1 f1 w1 s1.e a.tmps:=by rw [hse];exact qY Wb.hw Wb.hf dj Wb.he
   obtain ⟨p1,p2,p3⟩:=qO Hg he1 Wb.hn x5;refine Rv hC hF l (i+1) g1 f1 s2 s' (a.put o.dst rv) w1 Pf h ⟨by rw [e2];exact cK,by rw [e1,e2];exact hf1,p1,p2,by rw [p3];exact Wb.hm.step Wb.hw Wb.hf dj,dj.Xaa Wb.hW⟩ fun g' f' a' w' h1 h2 h3=>hk g' f' a' w' h1 ?_ (mC.trans dj.size (by rw [p3];exact .refl _ _) h3)
   rw [e1,e2] at h2;exact dj.trans h2
  |false=>
   simp only [aa] at h;obtain ⟨s1,Hg,h⟩:=h;rw [if_neg (by simp)];refine ⟨fun f _=>hF.fn f,?_⟩;obtain ⟨e1,e2,e3⟩:=Rz Hg;obtain ⟨p1,p2,p3⟩:=qO (rv:=undef) Hg Wb.he Wb.hn (wC g w);refine Rv hC hF l (i+1) g f s1 s' (a.put o.dst undef) w Pf h ⟨by rw [e2];exact Wb.hw,by rw [e1,e2];exact Wb.hf,p1,p2,by rw [p3];exact Wb.hm,Wb.hW⟩ fun g' f' a' w' h1 h2 h3=>hk g' f' a' w' h1 (by rw [e1,e2] at h2;exact h2) (by rw [p3] at h3;exact h3)
theorem xE {F:Fence} {m n id:Nat} {all:Array Oper} {s':S} {Q:Exit->Act->World->Prop} (hC:xj A call) (hF:Tu F) (h:region A call za n all false s=some s') (Wb:St A.La g f s n a w) (hk:YY A.La g f w s s' n a (Q .normal)):
  (Code.region id all false).wpIn F m A.P Q a w:=by
 refine wpIn_region ?_;have hs:ua all.size=List.range' 0 all.toList.length:=by simp [List.range_eq_range']
 rw [hs];exact Rv hC hF all.toList 0 g f s s' a w (fun k=>by simp) (by simpa [region] using h) Wb hk
end
end Go.V
namespace Go.V
open Go
def Ex.pY:Ex->Exit
 | .normal=> .normal
 | .exit id=> .exit id
 | .ret=> .ret
def Km (A:oh):Prop:=
 ∀ (call:Callee) (za:List Nat),xj A call->Pc call->∀ (F:Fence) (m n id:Nat) (all:Array Oper) (g:Gx) (f:Fx) (s s':S) (a:Act) (w:World) (Q:Exit->Act->World->Prop),Tu F->
  region A call za n all true s=some s'->St A.La g f s n a w->YY A.La g f w s s' n a (Q .normal)->(Code.region id all true).wpIn F m A.P Q a w
section
variable {A:oh} {call:Callee} {za keep:List Nat}
theorem OP (keep:List Nat) (e:List (Nat×SV)) (t:Nat):get (keep.map fun i=>(i,get e i)) t=get e t\/get (keep.map fun i=>(i,get e i)) t= .v .Qb:=by
 induction keep with
 |nil=>exact .inr rfl
 |cons k ks ih=>
  simp only [Dd,get];by_cases h:t=k
  · rw [if_pos h,h];exact .inl rfl
  · rw [if_neg h];exact ih
theorem St.clean {g:Gx} {f:Fx} {s:S} {n:Nat} {a:Act} {w:World} (h:St A.La g f s n a w):St A.La g f (clean keep s) n a w:=
 ⟨h.hw,h.hf,fun t=>by
  rcases OP keep s.e t with h1|h1
  · show we g f w (get (keep.map fun i=>(i,get s.e i)) t) _;rw [h1];exact h.he t
  · show we g f w (get (keep.map fun i=>(i,get s.e i)) t) _;rw [h1];exact Ya.Qb _,h.hn,h.hm,h.hW⟩
def Ux (A:oh):Prop:=∀ f fn,A.fns f=some fn->A.P.funcs[f]?=some fn/\(fn.name== "runtime.NumGoroutine")=false
theorem Ym (DB:Ux A) {f:FuncId} {fn:Func} (h:A.fns f=some fn) (hb:fn.body.isSome=true) (args:Array Value) (w:World):(callFunc f args).run A.P w= .ok (.enter f args) w:=by
 obtain ⟨h1,h2⟩:=DB f fn h;have hn:fn.body.isNone=false:=by cases hx:fn.body<;>simp_all
 unfold callFunc;simp only [program,Sem.run_bind,Sem.run,h1,Result.andThen,h2,hn];rfl
theorem Mv (DB:Ux A) {f:FuncId} {fn:Func} (h:A.fns f=some fn) (hb:fn.body.isSome=true) (vs args:Array Value) (w:World):
  ((do let d <- Deferred.ofValue (.func (.func f) #[] vs) args;invoke d.target d.args:Sem Next).run A.P w)= .ok (.enter f (args++vs)) w:=by
 simp [Deferred.ofValue,invoke,go_sem,Ym DB h hb]
theorem dD {e:List (Nat×SV)}:∀ {is:List Nat} {env:List (Nat×AV)},Px e is=some env->∀ t,get (ve env) t=get e t\/get (ve env) t= .v .Qb
 |[],env,h,t=>by simp [Px] at h;subst h;exact .inr rfl
 |i::is,env,h,t=>by
  simp only [Px,aa,ia] at h;obtain ⟨a,ha,l,hl,rfl⟩:=h;simp only [ve,get];split
  · rename_i e0;subst e0;split at ha
    · rename_i b hb;simp at ha;subst ha;left;rw [hb]
    · simp at ha;subst ha;exact .inr rfl
  · exact dD hl t
theorem Marks.lt {g:Gx} {w:World}:∀ {ds:List Deferred},Marks g w ds->∀ d∈ds,∃ r,d.target= .collected r/\r<w.heap.size
 |[],_,d,h=>by simp at h
 |d0::ds,⟨⟨r,h1,h2,h3,h4⟩,hm⟩,d,h=>by
  rcases oc.1 h with rfl|h
  · exact ⟨r,h1,Ua h2⟩
  · exact hm.lt d h
theorem vP {p:Option Code} {ex:Ex} (h:OE p=some ex):p=ex.jump:=by
 unfold OE at h;split at h<;>simp at h<;>subst h<;>rfl
theorem uJ {P:Program} {F:Fence} {m:Nat} {Q:Exit->Act->World->Prop} {a:Act} {w:World} {c:Code} (h:c.wpIn F m P (Exit.noGoto Q) a w):(Code.scope c).wpIn F m P Q a w:=by
 intro b k cs mZ hb hr;have h0:(lone (b.atR a (.code (.scope c)::k)) cs w).fenced P F:=fenced_calm hb hr rfl;have s1:∀ {a:Act} {k:List Item} {w:World},step P (lone (b.atR a (.code (.scope c)::k)) cs w)= .next (lone (b.atR a (.code c:: .inScope c::k)) cs w):=step_lone_go (by simp [stepG,stepG.exec,Frame.atR])
 have s2:∀ {a:Act} {k:List Item} {w:World},step P (lone (b.atR a (.inScope c::k)) cs w)= .next (lone (b.atR a k) cs w):=step_lone_go (by simp [stepG,stepG.exec,Frame.atR])
 obtain ⟨e,OY,qS,hq,MP⟩:=h b (.inScope c::k) cs mZ hb hr;cases e with
 |normal=>exact ⟨.normal,OY,qS,hq,.head h0 s1 (StepsIn.trans MP (.one (fenced_calm hb hr rfl) s2))⟩
 |exit zB=>
  have hx:exitTo zB (.inScope c::k)=exitTo zB k:=by simp [exitTo]
  exact ⟨.exit zB,OY,qS,hq,fun k' hk=> .head h0 s1 (MP.1 k' (by rw [hx];exact hk)),
   fun Rk hk=>let ⟨k₁,h1,h2⟩:=MP.2 Rk (by rw [hx];exact hk);⟨k₁,h1,.head h0 s1 h2⟩⟩
 |goto l=>exact hq.elim
 |ret=>exact ⟨_,OY,qS,hq,.of_steps (.one h0 s1) MP⟩
 |panic ch=>exact ⟨_,OY,qS,hq,.of_steps (.one h0 s1) MP⟩
 |outgrown=>exact ⟨_,OY,qS,hq,.of_steps (.one h0 s1) MP⟩
theorem Ws (DB:Ux A) (hC:xj A call) (hCq:Pc call) (hD:Km A) {rf:Bool} {F:Fence} (hF:Tu F) (mZ:rf=true->F.round=none) {m n:Nat}:∀ (c:Code) (g:Gx) (f:Fx) (s s':S) (ex:Ex) (a:Act) (w:World) (Q:Exit->Act->World->Prop),code A call rf za keep n c s=some (ex,s')->St A.La g f s n a w->YY A.La g f w s s' n a (Q ex.pY)->
  c.wpIn F m A.P Q a w:=by
 intro c;induction c with
 |skip=>
  intro g f s s' ex a w Q h Wb hk;simp [code] at h;obtain ⟨rfl,rfl⟩:=h;exact wpIn_skip (hk g f a w Wb (.refl _ _ _ _ _) (.refl _ _))
 |label l=>
  intro g f s s' ex a w Q h Wb hk;simp [code] at h;obtain ⟨rfl,rfl⟩:=h;exact wpIn_label (hk g f a w Wb (.refl _ _ _ _ _) (.refl _ _))
 |region id os draw=>
  intro g f s s' ex a w Q h Wb hk;simp only [code,ia] at h;obtain ⟨s1,h1,h⟩:=h;simp at h;obtain ⟨rfl,rfl⟩:=h;cases draw with
  |true=>exact hD call za hC hCq F m n id os g f s s1 a w Q hF h1 Wb hk
  |false=>exact xE hC hF h1 Wb hk
 |seq x y D0 N8=>
  intro g f s s' ex a w Q h Wb hk;simp only [code,aa] at h;obtain ⟨⟨e1,s1⟩,h1,h⟩:=h;refine wpIn_seq (D0 g f s s1 e1 a w _ h1 Wb ?_);intro g1 f1 a1 w1 bg dj lJ;cases e1 with
  |normal=>exact N8 g1 f1 s1 s' ex a1 w1 Q h bg fun g2 f2 a2 w2 h2 cp hd2=>hk g2 f2 a2 w2 h2 (dj.trans cp) (mC.trans dj.size lJ hd2)
  |exit id=>simp at h;obtain ⟨rfl,rfl⟩:=h;exact hk g1 f1 a1 w1 bg dj lJ
  |ret=>simp at h;obtain ⟨rfl,rfl⟩:=h;exact hk g1 f1 a1 w1 bg dj lJ
 |cond c x y D0 N8=>
  intro g f s s' ex a w Q h Wb hk;simp only [code,aa] at h;obtain ⟨cv,bU,h⟩:=h;have hc:=Pb bU Wb.hw Wb.he;split at h
  · rename_i b;generalize uy:a.eval c=v at hc;cases hc;refine wpIn_cond uy ?_;cases b with
    |true=>exact D0 g f s s' ex a w Q (by simpa using h) Wb hk
    |false=>exact N8 g f s s' ex a w Q (by simpa using h) Wb hk
  · simp at h
 |block id c ih=>
  intro g f s s' ex a w Q h Wb hk;simp only [code,aa] at h;obtain ⟨⟨e1,s1⟩,h1,h⟩:=h;refine wpIn_block (ih g f s s1 e1 a w _ h1 Wb ?_);intro g1 f1 a1 w1 bg dj lJ;cases e1 with
  |normal=>simp at h;obtain ⟨rfl,rfl⟩:=h;exact hk g1 f1 a1 w1 bg dj lJ
  |ret=>simp at h;obtain ⟨rfl,rfl⟩:=h;exact hk g1 f1 a1 w1 bg dj lJ
  |exit zB=>
    simp only at h;simp only [Ex.pY,Exit.inBlock];split at h
    · rename_i e;rw [if_pos e];simp at h;obtain ⟨rfl,rfl⟩:=h;exact hk g1 f1 a1 w1 bg dj lJ
    · rename_i e;rw [if_neg e];simp at h;obtain ⟨rfl,rfl⟩:=h;exact hk g1 f1 a1 w1 bg dj lJ
 |loop c ih=>
  intro g f s s' ex a w Q h Wb hk;simp only [code] at h;refine wpIn_loop_rounds qm ?_;generalize qm=k at h ⊢;have key:∀ (k:Nat) (g1:Gx) (f1:Fx) (s1:S) (a1:Act) (w1:World),Nr (fun s=>code A call rf za keep n c (clean keep s)) k s1=some (ex,s')->St A.La g1 f1 s1 n a1 w1->YY A.La g1 f1 w1 s1 s' n a1 (Q ex.pY)->Code.roundsIn F m A.P c Q k a1 w1:=by
    intro k;induction k with
    |zero=>intro g1 f1 s1 a1 w1 h;simp [Nr] at h
    |succ k ihk=>
      intro g1 f1 s1 a1 w1 h bg hk1;simp only [Nr,aa] at h;obtain ⟨⟨e2,s2⟩,h2,h⟩:=h;rw [roundsIn_succ];refine ih g1 f1 (clean keep s1) s2 e2 a1 w1 _ h2 bg.clean ?_;intro g2 f2 a2 w2 my cp hd2;cases e2 with
      |normal=>exact ihk g2 f2 s2 a2 w2 h my fun g3 f3 a3 w3 h3 hx3 hd3=>hk1 g3 f3 a3 w3 h3 (cp.trans hx3) (mC.trans cp.size hd2 hd3)
      |exit id=>simp at h;obtain ⟨rfl,rfl⟩:=h;exact hk1 g2 f2 a2 w2 my cp hd2
      |ret=>simp at h;obtain ⟨rfl,rfl⟩:=h;exact hk1 g2 f2 a2 w2 my cp hd2
  exact key k g f s a w h Wb hk
 |exit id=>
  intro g f s s' ex a w Q h Wb hk;simp [code] at h;obtain ⟨rfl,rfl⟩:=h;exact wpIn_exit (hk g f a w Wb (.refl _ _ _ _ _) (.refl _ _))
 |ret=>
  intro g f s s' ex a w Q h Wb hk;simp [code] at h;obtain ⟨rfl,rfl⟩:=h;exact wpIn_ret (hk g f a w Wb (.refl _ _ _ _ _) (.refl _ _))
 |rangeFunc fx ps assign body=>
  intro g f s s' ex a w Q h Wb hk;simp only [code] at h;split at h
  case isFalse=>simp at h
  case isTrue fK=>
  simp only [aa] at h;obtain ⟨fv,LP,env,Cah,_,Lm,⟨r,H2⟩,Sf,h⟩:=h;have XB:=Pb LP Wb.hw Wb.he;split at Lm
  case h_2=>simp at Lm
  rename_i ff Ug;split at Lm
  case h_2=>simp at Lm
  rename_i fn qad;split at Lm
  case isFalse=>simp at Lm
  rename_i sx;split at h
  case h_2=>simp at h
  rename_i n2 zM gG ps2 mz vO st NS aD;simp only [aa] at h;obtain ⟨_,zad,h⟩:=h;split at h
  case isFalse=>simp at h
  rename_i Of;simp only [ia] at h;obtain ⟨fG,iad,h⟩:=h;simp at h;obtain ⟨rfl,rfl⟩:=h;obtain ⟨vs,hev,CP,hvr⟩:∃ vs:List Value,a.eval fx= .func (.func ff) #[] vs.toArray/\vs.length=Ug.length/\∀ (i:Nat) (x:AV) (v:Value),Ug[i]?=some x->vs[i]?=some v->Ya g w x v:=by
    generalize a.eval fx=v at XB;cases XB with
    |fn _ _ vs hl hr=>exact ⟨vs,rfl,hl,hr⟩
  refine wpIn_rangeFunc ?_;intro fn0 _;rw [mZ fK];obtain ⟨wa,hwa⟩:∃ wa,wa=w.alloc (.deferred (some [])):=⟨_,rfl⟩;obtain ⟨rec,SB⟩:∃ rec:Loop,rec={ state:= .ready,pending:=none,fn:=fn0,tmps:=a.tmps,params:=ps,assign,body,defers:=w.heap.size }:=⟨_,rfl⟩;obtain ⟨w1,cK⟩:∃ w1,w1=wa.alloc (.loop rec):=⟨_,rfl⟩;have hsa:wa.heap.size=w.heap.size+1:=by rw [hwa];simp
  have kZ:w1.heap.size=w.heap.size+2:=by rw [cK];simp [hsa]
  have hoa:∀ R,R<w.heap.size->wa.heap[R]?=w.heap[R]?:=fun R hR=>by rw [hwa];show (w.heap.push _)[R]?=_;simp [Array.getElem?_push,Nat.ne_of_lt hR]
  have WE:∀ R,R<wa.heap.size->w1.heap[R]?=wa.heap[R]?:=fun R hR=>by rw [cK];show (wa.heap.push _)[R]?=_;simp [Array.getElem?_push,Nat.ne_of_lt hR]
  have kJ:w1.heap[w.heap.size+1]?=some (.loop rec):=by rw [cK,<- hsa];exact World.alloc_heap_new _ _
  have lJ:wa.heap[w.heap.size]?=some (.deferred (some [])):=by rw [hwa];exact World.alloc_heap_new _ _
  obtain ⟨pa,pb,pc⟩:=qn (ov:=by subst hwa;exact ⟨rfl,rfl⟩) Wb.hw Wb.hf (by omega) hoa;obtain ⟨qa,qb,qc⟩:=yq (x:= .loop n keep env ps.toList assign body .ready none) (l:=⟨w.heap.size+1,0,0,0⟩) pa pb (w':=w1) (ov:=by subst cK;exact ⟨rfl,rfl⟩) (by omega) (by rw [hsa]) (by omega) WE (fun hle=>by
    refine ⟨rec,kJ,fun hz=> ?_,by rw [SB],by rw [SB],by rw [SB],by rw [SB],by rw [SB],by rw [SB];exact Wb.hn,fun t x hx=> ?_⟩
    · have:=Wb.hw.vt _ hz;simp at this;omega
    · rcases dD Cah t with h1|h1
      · rw [h1] at hx;have:=Wb.he t;rw [hx] at this;rw [SB];exact (Ya.mono (pc.le Wb.hw Wb.hf) this).mono hle
      · rw [h1] at hx;simp at hx;subst hx;exact .Qb _)
  have hlen:((g.add s.H.bl.length ⟨w.heap.size+1,0,0,0⟩).ρ s.H.bl.length).R=w.heap.size+1:=by rw [Xf]
  have hDb:(g.add s.H.bl.length ⟨w.heap.size+1,0,0,0⟩).D s.H.bl.length:= .inr rfl;have BP:Ya (g.add s.H.bl.length ⟨w.heap.size+1,0,0,0⟩) w1 (.yl s.H.bl.length) (.func (.yield (w.heap.size+1)) #[] #[]):=by have:=Ya.yl (w:=w1) _ hDb;rw [hlen] at this;exact this
  have F9:=(pc.trans qc).le Wb.hw Wb.hf;have xah:Ya (g.add s.H.bl.length ⟨w.heap.size+1,0,0,0⟩) w1 (.fn ff Ug) (.func (.func ff) #[] vs.toArray):= .fn ff Ug vs CP fun i x v hx hv=>(hvr i x v hx hv).mono F9
  refine ⟨w.heap.size+1,[{ target:= .collected w.heap.size,args:= #[] }],w1,{ target:= .fn (.func ff) vs.toArray,args:= #[.func (.yield (w.heap.size+1)) #[] #[]] },w1,ff,
    #[.func (.yield (w.heap.size+1)) #[] #[]]++vs.toArray,w1,?_,?_,fun f' _=>hF.fn f',?_,fun hd=>by rw [hF.depth] at hd;simp at hd,?_⟩
  · rw [cK,hwa,SB];exact run_enterLoop_outer _ _ _ _ _
  · simp only [resolve,hev];simp [Deferred.ofValue,go_sem]
  · simp [invoke,go_sem,Ym DB qad sx]
  · have Bo:=hC (.fn ff Ug) [.yl s.H.bl.length] _ _ _ Sf _ w1 _ [.func (.yield (w.heap.size+1)) #[] #[]] qa xah rfl (fun i x v hx hv=>by
      cases i with
      |zero=>simp at hx hv;subst hx;subst hv;exact BP
      |succ i=>simp at hx) F m { (default:Oper) with dst:=none } { a with defers:=[{ target:= .collected w.heap.size,args:= #[] }]++a.defers }
      (fun _ w3=>∃ jump w4,(Instr.endLoop (w.heap.size+1)).run A.P w3= .ok jump w4/\(match jump with|none=>Q .normal { a with defers:=[{ target:= .collected w.heap.size,args:= #[] }]++a.defers } w4|some c=>c.wpIn F m A.P Q { a with defers:=[{ target:= .collected w.heap.size,args:= #[] }]++a.defers } w4)) Q hF (fun g2 w2 rv hrv I0 cp=> ?_)
    · rw [Mv DB qad sx] at Bo;simp only [Oper.uponIn] at Bo;refine CallsIn.mono Bo.2 fun e w3 he=> ?_
      cases e with
      |returned v=>exact he
      |panicked chain=>exact he
      |outgrown=>exact he
    · obtain ⟨hf2,nad⟩:=ID qa qb cp;have O':=cp.D _ hDb;have nJ:(g2.ρ s.H.bl.length).R=w.heap.size+1:=by rw [O'.2];exact hlen
      obtain ⟨r2,oA,vH,my,Qac,_⟩:=I0.Oc _ _ O'.1 aD;rw [nJ] at oA;have hnb:r2.state≠ .busy:=by rw [my];intro e;subst e;simp at zad
      have D9:live g2 H2 s.H.bl.length:=⟨O'.1,_,aD,rfl⟩;refine ⟨r2.pending,_,run_endLoop oA hnb,?_⟩;obtain ⟨ra,rb,rc⟩:=ue (x:= .dead) (w':=w2.putObj (w.heap.size+1) (.loop { r2 with state:= .exhausted })) I0 hf2 D9 Of (by simp) (fun R hR=>World.putObj_heap_other (by rw [nJ] at hR;exact hR)) (fun _=>trivial);have X0:=((pc.trans qc).trans nad).trans rc;have hmk:Marks g wa ({ target:= .collected w.heap.size,args:= #[] }::a.defers):=by
        refine ⟨⟨w.heap.size,rfl,lJ,fun hz=> ?_,fun d' iS e=> ?_⟩,Wb.hm.step Wb.hw Wb.hf pc⟩
        · have:=Wb.hw.vt _ hz;omega
        · obtain ⟨r',e1,e2⟩:=Wb.hm.lt d' iS;rw [e] at e1;injection e1 with e1;omega
      have dS:=hk g2 f { a with defers:=[{ target:= .collected w.heap.size,args:= #[] }]++a.defers } (w2.putObj (w.heap.size+1) (.loop { r2 with state:= .exhausted }))
        ⟨ra,rb,fun t=>(Wb.he t).mono (X0.le Wb.hw Wb.hf) X0.E,Wb.hn,((hmk.step pa pb qc).step qa qb nad).step I0 hf2 rc,X0.Xaa Wb.hW⟩ X0 (fun d hd=>by
          rcases oc.1 hd with rfl|hd
          · exact .inr ⟨_,rfl,oa _⟩
          · exact .inl hd)
      have hj:=vP iad;have hpj:=Qac.trans hj;rw [hpj] at dS ⊢;cases fG with
      |normal=>exact dS
      |exit id=>exact wpIn_exit dS
      |ret=>exact wpIn_ret dS
 |scope c ih=>
  intro g f s s' ex a w Q h Wb hk;simp only [code] at h;refine uJ (ih g f s s' ex a w _ h Wb ?_);intro g1 f1 a1 w1 bg dj lJ;have:=hk g1 f1 a1 w1 bg dj lJ;cases ex<;>exact this
 |goto=>intro g f s s' ex a w Q h;simp [code] at h
 |refuse=>intro g f s s' ex a w Q h;simp [code] at h
end
end Go.V
namespace Go.V
open Go
section
variable {A:oh} {g g':Gx} {w w':World}
theorem dH {f:Fx} {H:AH} {F:List (List AV)} {r:Nat} (hw:Ub A.La g w H) (hf:Jd g f w H F) (Rf:w'.heap.size=w.heap.size) (Cd:∀ R,R≠r->w'.heap[R]?=w.heap[R]?)
  (h1:¬ Fp g H r) (h2:¬ g.Z r) (h3:∀ i,f.E i->f.φ i≠r):Ub A.La g w' H/\Jd g f w' H F/\g.Le w g w':=by
 have hle:g.Le w g w':=⟨fun b hb=>⟨hb,rfl⟩,fun R h=>⟨h,Cd R (fun e=>h2 (e ▸ h))⟩⟩;refine ⟨⟨fun i row hg=>(hw.La i row hg).mono hle,hw.Ae,fun b y hd hy=>(hw.Oc b y hd hy).le hle (fun hl=>Cd _ (fun e=>h1 ⟨b,⟨hd,y,hy,hl⟩,e⟩)) (fun hl=>hw.fm ⟨hd,y,hy,hl⟩),hw.inj,fun R h=>by rw [Rf];exact hw.vt R h⟩,⟨hf.Ae,fun i row hi hr=> ?_,hf.inj,hf.apart⟩,hle⟩;obtain ⟨cs,⟨T,fz,vx,h4⟩,h5⟩:=hf.Oc i row hi hr;exact ⟨cs,⟨T,fz,by rw [Cd _ (h3 i hi)];exact vx,h4⟩,h5.mono hle⟩
theorem Yt {f:Fx} {H:AH} {F0:List (List AV)} {F:Fence} {n base:Nat} {fn:Func} {tmps:Array Value} {R:Ending->World->Prop}:∀ (ds:List Deferred) (w:World),Ub A.La g w H->Jd g f w H F0->Marks g w ds->
  (∀ d∈ds,∃ r,d.target= .collected r/\base<=r)->
  (∀ w',Ub A.La g w' H->Jd g f w' H F0->g.Le w g w'->w'.heap.size=w.heap.size->(∀ R,R<base->w'.heap[R]?=w.heap[R]?)->(w'.os=w.os/\w'.output=w.output)->LeavesIn F n A.P fn tmps R [] .returning w')->
  LeavesInM F n A.P fn tmps R ds .returning w
 |[],w,hw,hf,_,_,hk=>hk w hw hf ⟨fun _ h=>⟨h,rfl⟩,fun _ h=>⟨h,rfl⟩⟩ rfl (fun _ _=>rfl) ⟨rfl,rfl⟩
 |d::ds,w,hw,hf,⟨⟨r,h1,h2,h3,h4⟩,hm⟩,hb,hk=>by
  obtain ⟨r',e1,hbr⟩:=hb d (by simp);rw [h1] at e1;injection e1 with e1;subst e1
  have Cd:∀ R,R≠r->(w.putObj r (.deferred none)).heap[R]?=w.heap[R]?:=fun R hR=>World.putObj_heap_other hR
  obtain ⟨a1,a2,a3⟩:=dH (w':=w.putObj r (.deferred none)) hw hf (by simp) Cd (hw.vq h2) h3 (fun i hi=>hf.vq h2 hi);refine ⟨by simp,.inl ⟨r,_,h1,run_takeDeferred h2,?_⟩⟩;have x9:∀ {ds:List Deferred},Marks g w ds->(∀ d'∈ds,d'.target≠ .collected r)->Marks g (w.putObj r (.deferred none)) ds:=by
   intro ds;induction ds with
   |nil=>intro _ _;trivial
   |cons d ds ih=>
    rintro ⟨⟨q,k1,k2,k3,k4⟩,hm⟩ Nc
    exact ⟨⟨q,k1,by rw [Cd q (fun e=>Nc d (by simp) (e ▸ k1))];exact k2,k3,k4⟩,ih hm fun d' iS=>Nc d' (Gb _ iS)⟩
  refine Yt ds _ a1 a2 (x9 hm h4) (fun d hd=>hb d (Gb _ hd)) fun w' k1 k2 k3 k4 k5 k6=>hk w' k1 k2 ⟨fun b hb=>⟨hb,rfl⟩,fun R hR=>⟨hR,((k3.Z R hR).2).trans (a3.Z R hR).2⟩⟩ (k4.trans (by simp)) (fun R hR=>(k5 R hR).trans (Cd R (by omega))) ⟨k6.1,k6.2⟩
def Qz (tmps:Array Value):ResultVar->Sem Value
 | .tmp t=>pure (tmps.getD t undef)
 | .cell a t=>do loadVar t (<- asAddr (tmps.getD a undef))
theorem Nz (tmps:Array Value) (t:Tmp) (P:Program):(Qz tmps (.tmp t)).run P w= .ok (tmps.getD t undef) w:=rfl
theorem Xx {tmps:Array Value} {p:Tmp} {t:TypeId} {P:Program} {ad:Addr} {v:Value} (h:tmps.getD p undef= .pointer (some ad)) (hv:(loadVar t ad).run P w= .ok v w):(Qz tmps (.cell p t)).run P w= .ok v w:=by
 unfold Qz;simp only [h,asAddr,Sem.run_bind,Sem.run_pure,Result.andThen_ok,hv]
theorem Zm {f:Fx} {s:S} {tmps:Array Value} (hw:Ub A.La g w s.H) (hf:Jd g f w s.H s.F) (he:Pe g f w s.e tmps):∀ (rs:List ResultVar) (l:List AV),results A s rs=some l->
  ∃ vs:List Value,(rs.mapM (Qz tmps)).run A.P w= .ok vs w/\VL g w l vs
 |[],l,h=>by simp [results] at h;subst h;exact ⟨[],rfl,trivial⟩
 | .tmp t::rs,l,h=>by
  simp only [results,aa] at h;obtain ⟨a,ha,l',hl,h⟩:=h;simp at h;subst h;obtain ⟨vs,h1,h2⟩:=Zm hw hf he rs l' hl;have ht:=he t;split at ha
  · rename_i b hb;simp at ha;subst ha;rw [hb] at ht;exact ⟨tmps.getD t undef::vs,by simp only [List.mapM_cons,Sem.run_bind,Nz,Sem.run_pure,Result.andThen_ok,h1],ht,h2⟩
  · simp at ha
 | .cell p t::rs,l,h=>by
  simp only [results,aa] at h;obtain ⟨a,ha,l',hl,h⟩:=h;simp at h;subst h;obtain ⟨vs,h1,h2⟩:=Zm hw hf he rs l' hl;obtain ⟨ad,v,hp,hv,hr⟩:=oH ha hw hf (he p);exact ⟨v::vs,by simp only [List.mapM_cons,Sem.run_bind,Xx hp hv,Sem.run_pure,Result.andThen_ok,h1],hr,h2⟩
theorem LB {f:Fx} {s:S} {fn:Func} {tmps:Array Value} {l:List AV} (hw:Ub A.La g w s.H) (hf:Jd g f w s.H s.F) (he:Pe g f w s.e tmps) (h:results A s fn.results.toList=some l):
   ∃ v,(Go.results fn tmps).run A.P w= .ok v w/\Ya g w (result l) v:=by
 obtain ⟨vs,h1,h2⟩:=Zm hw hf he _ _ h;refine ⟨if h:vs.toArray.size=1 then vs.toArray[0] else .tuple vs.toArray,?_,?_⟩
 · have e:Go.results fn tmps=(do let vs <- fn.results.mapM (Qz tmps);pure (if h:vs.size=1 then vs[0] else .tuple vs)):=by
    unfold Go.results;congr 2
   rw [e,Sem.run_bind,Array.mapM_eq_mapM_toList,Sem.run_map,h1];rfl
 · match l,vs,h2 with
   |[],[],_=>exact .Rc [] [] rfl (fun i x v h=>by simp at h)
   |[a],[v],h2=>exact h2.1
   |a::b::l,u::v::vs,h2=>
    obtain ⟨k1,k2⟩:=zj.1 h2;have:¬ (u::v::vs).toArray.size=1:=by simp
    rw [dif_neg this];exact .Rc _ _ k1 k2
def CO (A:oh):Prop:=
 ∀ f h,A.ext f=some h->∀ args H r H',h args H=some (r,H')->∀ (g:Gx) (w:World) (vs:List Value),Ub A.La g w H->VL g w args vs->
  ∀ (F:Fence) (n:Nat) (o:Oper) (a:Act) (next:Act->World->Prop) (Q:Exit->Act->World->Prop),Tu F->
   (∀ g' w' rv,Ya g' w' r rv->Ub A.La g' w' H'->Ext g w H g' w' H'->next (a.put o.dst rv) w')->Oper.uponIn F n A.P o a next Q ((callFunc f vs.toArray).run A.P w)
theorem kg.ext {f f':Fx} {H H':AH} {F F':List (List AV)} (h:kg g f w H F g' f' w' H' F') (hE:∀ i,¬ f.E i):Ext g w H g' w' H':=
 ⟨h.D,h.Ay,h.Z,h.gq,h.fp,fun R h1 h2=>h.qk R h1 h2 (fun i hi=>absurd hi (hE i)),h.size,h.len,h.wm,h.quiet,h.still,h.io⟩
theorem VL.append:∀ {xs ys:List AV} {us vs:List Value},VL g w xs us->VL g w ys vs->VL g w (xs++ys) (us++vs)
 |[],_,[],_,_,h=>h
 |_::_,_,_::_,_,⟨h1,h2⟩,h=>⟨h1,h2.append h⟩
 |[],_,_::_,_,h,_=>h.elim
 |_::_,_,[],_,h,_=>h.elim
theorem yA:∀ (l:List AV) (i t:Nat),get (be l i) t=if t<i then .v .Qb else match l[t-i]? with|some a=> .v a|none=> .v .Qb
 |[],i,t=>by simp [be,get]
 |a::l,i,t=>by
  simp only [be,get];split
  · rename_i e;subst e;simp
  · rename_i Nc;rw [yA l (i+1) t];by_cases h1:t<i
    · rw [if_pos (by omega),if_pos h1]
    · rw [if_neg (by omega),if_neg h1];rw [show t-i=(t-(i+1))+1 by omega,Ke]
theorem rY {f:Fx} {l:List AV} {vs:List Value} {n:Nat} (h:VL g w l vs):Pe g f w (be l 0) (vs.toArray++Array.replicate n undef):=by
 intro t;obtain ⟨h1,h2⟩:=zj.1 h;rw [yA,if_neg (by omega),Nat.sub_zero];cases hl:l[t]? with
 |none=>exact .Qb _
 |some a=>
  have nc:t<vs.length:=by have:=getElem?_lt' hl;omega
  have hv:vs[t]?=some vs[t]:=ya nc;have:(vs.toArray++Array.replicate n undef).getD t undef=vs[t]:=by
   rw [Th,jv (by simpa using nc)];simp [hv]
  rw [this];exact h2 t a _ hl hv
theorem YA {f:Fx}:∀ (ps:List Nat) (as:List AV) (vs:List Value) (e:List (Nat×SV)) (tmps:Array Value),VL g w as vs->(∀ p∈ps,p<tmps.size)->Pe g f w e tmps->
  Pe g f w (Ni ps as e) ((ps.zip vs).foldl (fun tmps (t,a)=>tmps.setIfInBounds t a) tmps)/\((ps.zip vs).foldl (fun tmps (t,a)=>tmps.setIfInBounds t a) tmps).size=tmps.size
 |[],_,_,e,tmps,_,_,he=>by simp [Ni];exact he
 |p::ps,[],[],e,tmps,_,_,he=>by simp [Ni];exact he
 |p::ps,a::as,v::vs,e,tmps,⟨h1,h2⟩,hp,he=>by
  simp only [Ni,List.zip_cons_cons,vB];have he':Pe g f w ((p,.v a)::e) (tmps.setIfInBounds p v):=fun t=>by
   rw [ou t (hp p (by simp))];simp only [get];split
   · exact h1
   · exact he t
  obtain ⟨q1,q2⟩:=YA ps as vs _ _ h2 (fun q hq=>by simpa using hp q (Gb _ hq)) he';exact ⟨q1,by rw [q2];simp⟩
 |_::_,[],_::_,_,_,h,_,_=>h.elim
 |_::_,_::_,[],_,_,h,_,_=>h.elim
def Vn:Fx:=⟨fun _=>False,fun _=>0,fun _=>True⟩
theorem Jh {H:AH}:Jd g Vn w H []:=⟨fun _ h=>h.elim,fun _ _ h=>h.elim,fun _ _ h=>h.elim,fun _ h=>h.elim⟩
theorem Qn (DB:Ux A) (hE:CO A) (sZ:iq A) (hD:Km A):∀ k,xj A (call A k)
 |0=>fun fv args H r H' h=>by simp [call] at h
 |k+1=>fun fv args H r H' h g w lU vs hw LP hlen KH F n o a next Q hF hk=>by
  have hVL:VL g w args vs:=zj.2 ⟨hlen.symm,KH⟩;cases fv
  case fn f Ug=>
   obtain ⟨cv,rfl,tK,hcr⟩:∃ cv:List Value,lU= .func (.func f) #[] cv.toArray/\cv.length=Ug.length/\∀ (i:Nat) (x:AV) (v:Value),Ug[i]?=some x->cv[i]?=some v->Ya g w x v:=by
     cases LP with
     |fn _ _ vs hl hr=>exact ⟨vs,rfl,hl,hr⟩
   have J':VL g w (args++Ug) (vs++cv):=hVL.append (zj.2 ⟨tK,hcr⟩);simp only [call] at h;split at h
   · rename_i e he;have:=hE f e he _ _ _ _ h g w _ hw J' F n o a next Q hF hk
     have Wd:((do let d <- Deferred.ofValue (.func (.func f) #[] cv.toArray) vs.toArray;invoke d.target d.args:Sem Next).run A.P w)=(callFunc f (vs++cv).toArray).run A.P w:=by
      simp [Deferred.ofValue,invoke,go_sem]
     rw [Wd];exact this
   · rename_i he;split at h
     case h_1=>simp at h
     rename_i fn Lm;split at h
     case h_1=>simp at h
     rename_i c sx;split at h
     case isFalse=>simp at h
     rename_i hnt;simp only [aa] at h;obtain ⟨⟨ex,s1⟩,kj,h⟩:=h;rw [Mv DB Lm (by rw [sx];rfl)];simp only [Oper.uponIn];refine ⟨fun hd=>by rw [hF.depth] at hd;simp at hd,?_⟩;have hFp:Tu F.plain:=⟨hF.fn,hF.depth,hF.alive⟩;have W9:vs.toArray++cv.toArray=(vs++cv).toArray:=by simp
     rw [W9];have ae:((vs++cv).toArray++Array.replicate (fn.ntmps-(vs++cv).toArray.size) undef).size=fn.ntmps:=by
      have:=(zj.1 J').1;simp at this hnt ⊢;omega
     have Bo:∀ R:Ending->World->Prop,(∀ v w'',next (a.put o.dst v) w''->R (.returned v) w'')->CallsIn F.plain (n-1) A.P f (vs++cv).toArray w R:=by
      intro R hR;refine callsIn_of_wp_marks (DB f fn Lm).1 sx (hF.fn f) ?_;refine Ws DB (Qn DB hE sZ hD k) (Wi sZ k) hD hFp (fun _=>rfl) c g Vn ⟨be (args++Ug) 0,[],H⟩ s1 ex _ w _ kj ⟨hw,Jh,rY J',ae,trivial,fun _ _=>trivial⟩ ?_;intro g1 f1 a1 w1 bg dj lJ;have ew:=dj.ext (fun i hi=>hi.elim);have sy:∀ l,results A s1 fn.results.toList=some l->(if A.jS f=true then freeze 8 s1.H (result l) else some (result l,s1.H))=some (r,H')->LeavesInM F.plain (n-1) A.P fn a1.tmps R a1.defers .returning w1:=by
       intro l hl XB;refine Yt (base:=w.heap.size) a1.defers w1 bg.hw bg.hf bg.hm (fun d hd=>(lJ d hd).resolve_left (by simp)) fun w2 k1 k2 k3 k4 k5 k6=> ?_
       obtain ⟨v,hv,hrv⟩:=LB k1 k2 (fun t=>(bg.he t).mono k3 (fun _ h=>⟨h,rfl⟩)) hl;refine ⟨v,hv,?_⟩;have cp:Ext g w H g1 w2 s1.H:=⟨ew.D,ew.Ay,ew.Z,ew.gq,ew.fp,fun R h1 h2=>(k5 R h1).trans (ew.qk R h1 h2),by rw [k4];exact ew.size,ew.len,ew.wm,ew.quiet,fun b hb hv=>(k5 _ (hw.lt hv)).trans (ew.still b hb hv),⟨k6.1.trans ew.io.1,k6.2.trans ew.io.2⟩⟩;refine hR v w2 ?_;split at XB
       · obtain ⟨g2,m1,m2,m3⟩:=ai 8 _ _ _ _ XB g1 w2 v k1 hrv;exact hk g2 w2 v m3 m1 (cp.trans m2)
       · simp at XB;obtain ⟨rfl,rfl⟩:=XB;exact hk g1 w2 v hrv k1 cp
      cases ex with
      |exit id=>simp at h
      |normal=>
       simp only [aa] at h;obtain ⟨l,hl,h⟩:=h;exact sy l hl h
      |ret=>
       simp only [aa] at h;obtain ⟨l,hl,h⟩:=h;exact sy l hl h
     exact Bo _ fun v w'' h=>h
  case yl b=>
   have hDb:g.D b:=by cases LP;assumption
   obtain rfl:lU= .func (.yield (g.ρ b).R) #[] #[]:=by cases LP;rfl
   simp only [call] at h;split at h
   case h_2=>simp at h
   rename_i nn keep env ps assign body NS hb;split at h
   case isFalse=>simp at h
   rename_i hc;obtain ⟨VB,Of,pA⟩:=hc;simp only [aa] at h;obtain ⟨⟨H7,s1⟩,sK,h⟩:=h;split at h
   case h_2=>simp at h
   rename_i x s1' heq;simp at heq;obtain ⟨rfl,rfl⟩:=heq;split at h
   case h_2=>simp at h
   rename_i n1 nT ML ps1 xG MY MS Om;simp only [aa] at h;obtain ⟨⟨fG,s2⟩,rK,h⟩:=h;split at h
   case h_2=>simp at h
   rename_i n2 zM gG ps2 mz vO st2 Tai aD;simp at h;obtain ⟨rfl,rfl⟩:=h;obtain ⟨rc,hrc,hz,Wb,hpe,Tac,has,hbo,hnn,hre⟩:=hw.Oc b _ hDb hb;have Wd:((do let d <- Deferred.ofValue (.func (.yield (g.ρ b).R) #[] #[]) vs.toArray;invoke d.target d.args:Sem Next).run A.P w)=(Instr.yield (g.ρ b).R vs.toArray).run A.P w:=by
     simp [Deferred.ofValue,invoke,go_sem]
   have hpn:rc.params.size=ps.length:=by rw [<- Tac];simp
   rw [Wd,run_yield hrc (by simp;omega)];simp only [Oper.uponIn];refine ⟨fun hd=>by rw [hF.depth] at hd;simp at hd,?_⟩;have hFr:Tu (F.inRound (g.ρ b).R):=⟨hF.fn,hF.depth,hF.alive⟩;refine roundIn_of_wpIn (hF.fn _) ?_;rw [has,hbo];have ju:(rc.params.zip vs.toArray).foldl (fun tmps (t,a)=>tmps.setIfInBounds t a) rc.tmps=(ps.zip vs).foldl (fun tmps (t,a)=>tmps.setIfInBounds t a) rc.tmps:=by
     rw [<- Array.foldl_toList,Array.toList_zip,Tac]
   rw [ju];have VE:∀ p∈ps,p<rc.tmps.size:=fun p hp=>by rw [hnn];have:=Yb.1 pA p hp;simpa using this
   have he0:Pe g Vn w (ve env) rc.tmps:=fun t=>by
     cases hx:get (ve env) t with
     |v x=>exact hre t x hx
     |loc i c=>
      exfalso;have:∀ (l:List (Nat×AV)),get (ve l) t≠ .loc i c:=by
       intro l;induction l with
       |nil=>simp [ve,get]
       |cons y l ih=>simp only [ve,get];split;simp;exact ih
      exact this env hx
   obtain ⟨q1,q2⟩:=YA (f:=Vn) ps args vs _ _ hVL VE he0;refine Ws DB (Qn DB hE sZ hD k) (Wi sZ k) hD hFr (fun h=>by simp at h) assign g Vn _ s1 .normal _ w _ sK ⟨hw,Jh,q1,q2.trans hnn,trivial,fun _ _=>trivial⟩ ?_;intro g1 f1 a1 w1 bg dj _;have hD1:=dj.D b hDb;obtain ⟨r1,hr1,YR,kZ,Uag,Sac,Tah,Rah,aah,Nag⟩:=bg.hw.Oc b _ hD1.1 Om;have kJ:live g1 s1.H b:=⟨hD1.1,_,Om,rfl⟩;have N':(g1.ρ b).R=(g.ρ b).R:=by rw [hD1.2]
   rw [N'] at hr1;show ∃ w2,_;refine ⟨_,run_beginRound hr1 kZ,?_⟩;have y9:=Ua hr1;obtain ⟨ra,rb,rx⟩:=ue (x:= .loop n1 nT ML ps1 xG MY .busy MS) (w':=w1.putObj (g.ρ b).R (.loop { r1 with state:= .busy })) bg.hw bg.hf kJ (by rw [dj.wm];exact Of) (by simp) (fun R hR=>World.putObj_heap_other (by rw [N'] at hR;exact hR)) (fun hle=>by
     refine ⟨{ r1 with state:= .busy },by rw [N'];exact World.putObj_heap_same y9,YR,rfl,Uag,Sac,Tah,Rah,aah,fun t x hx=>(Nag t x hx).mono hle⟩)
   refine Ws DB (Qn DB hE sZ hD k) (Wi sZ k) hD hFr (fun h=>by simp at h) body g1 f1 _ s2 fG a1 _ _ rK ⟨ra,rb,fun t=>(bg.he t).mono (rx.le bg.hw bg.hf) (fun _ h=>⟨h,rfl⟩),bg.hn,bg.hm.step bg.hw bg.hf rx,rx.Xaa bg.hW⟩ ?_;intro g2 f2 a2 w2 my cp _;have O':=cp.D b hD1.1;obtain ⟨r2,oA,vH,aS,Qac,Rac,Sah,Qah,Zag,Mag⟩:=my.hw.Oc b _ O'.1 aD;have BH:live g2 s2.H b:=⟨O'.1,_,aD,rfl⟩;have nJ:(g2.ρ b).R=(g.ρ b).R:=by rw [O'.2,N']
   rw [nJ] at oA;have IP:=Ua oA;have TE:s2.H.wm<=b:=by rw [cp.wm];show s1.H.wm<=b;rw [dj.wm];exact Of
   have zo:∃ v w3,(Instr.endRound (g.ρ b).R fG.jump).run A.P w2= .ok v w3/\next (a.put o.dst v) w3:=by
     refine ⟨_,_,run_endRound _ oA,?_⟩;obtain ⟨ta,tb,tx⟩:=ue (x:= .loop n2 zM gG ps2 mz vO (if fG.Fg then .ready else .done) fG.jump) (w':=w2.putObj (g.ρ b).R (.loop { r2 with state:=if fG.jump.isNone then .ready else .done,pending:=fG.jump })) my.hw my.hf BH TE (by simp) (fun R hR=>World.putObj_heap_other (by rw [nJ] at hR;exact hR)) (fun hle=>by
      refine ⟨{ r2 with state:=if fG.jump.isNone then .ready else .done,pending:=fG.jump },by rw [nJ];exact World.putObj_heap_same IP,vH,?_,rfl,Rac,Sah,Qah,Zag,fun t x hx=>(Mag t x hx).mono hle⟩;cases fG<;>rfl)
     have zd:fG.jump.isNone=fG.Fg:=by cases fG<;>rfl
     refine hk g2 _ _ (by rw [zd];exact .bool _) ta ((((dj.trans rx).trans cp).trans tx).ext (fun i hi=>hi.elim))
   obtain ⟨v,w3,e1,e2⟩:=zo;cases fG with
   |normal=>exact ⟨v,w3,e1,e2⟩
   |ret=>exact ⟨v,w3,e1,e2⟩
   |exit id=>exact ⟨v,w3,e1,e2⟩
  all_goals simp [call] at h
end
end Go.V
namespace Go.V
open Go
theorem XL {F:Fence} (hF:Tu F) {n:Nat} {P:Program} {f:FuncId} {args:Array Value} {w:World} {R:Ending->World->Prop} (h:Calls P f args w R):CallsIn F n P f args w R:=by
 have Aah:∀ m:Machine,m.fenced P F:=fun m g _=>⟨fun h=>by rw [hF.alive] at h;simp at h,.inl (hF.fn _),fun f _=>hF.fn f,fun d hd=>by rw [hF.depth] at hd;simp at hd⟩
 have Wb:∀ {m m'},Steps P m m'->StepsIn (Machine.fenced P F) P m m':=fun h=>(StepsIn.of_steps h).mono fun m _=>Aah m
 refine ⟨hF.fn f,fun cs _=> ?_⟩;obtain ⟨e,w',fr,h1,h2,h3⟩:=h cs;refine ⟨e,w',fr,h1,?_,h3⟩;cases e with
 |returned v=>exact Wb h2
 |panicked c=>exact Wb h2
 |outgrown=>exact h2
section
variable {A:oh}
def Il (A:oh) (f:FuncId) (h:List AV->AH->Option (AV×AH)):Prop:=
 ∀ args H r H',h args H=some (r,H')->∀ (g:Gx) (w:World) (vs:List Value),Ub A.La g w H->VL g w args vs->
  Calls A.P f vs.toArray w fun e w'=>∃ rv g',e= .returned rv/\Ya g' w' r rv/\Ub A.La g' w' H'/\Ext g w H g' w' H'
theorem mY (DB:Ux A) {f:FuncId} {fn:Func} (hf:A.fns f=some fn) (hb:fn.body.isSome=true) {h:List AV->AH->Option (AV×AH)} (hg:Il A f h):
  ∀ args H r H',h args H=some (r,H')->∀ (g:Gx) (w:World) (vs:List Value),Ub A.La g w H->VL g w args vs->
  ∀ (F:Fence) (n:Nat) (o:Oper) (a:Act) (next:Act->World->Prop) (Q:Exit->Act->World->Prop),Tu F->
   (∀ g' w' rv,Ya g' w' r rv->Ub A.La g' w' H'->Ext g w H g' w' H'->next (a.put o.dst rv) w')->Oper.uponIn F n A.P o a next Q ((callFunc f vs.toArray).run A.P w):=by
 intro args H r H' hh g w vs hw hv F n o a next Q hF hk
 rw [Ym DB hf hb,Oper.uponIn_enter];refine ⟨fun hd=>by rw [hF.depth] at hd;simp at hd,XL hF ((hg args H r H' hh g w vs hw hv).mono ?_)⟩
 rintro e w' ⟨rv,g',rfl,h1,h2,h3⟩
 exact hk g' w' rv h1 h2 h3
def Q1 (args:List AV) (H:AH):Option (AV×AH):=
 match args with
 |[.int .i64 n,.int .i64 b]=>if -9223372036854775808<=n/\n<=9223372036854775807/\b=10 then some (.str ⟨(Lib.itoa n).toArray⟩,H) else none
 |_=>none
theorem O1 {f:FuncId} (sA:∀ (g:Gx) (w:World) (H:AH),Ub A.La g w H->∀ n:Int,-9223372036854775808<=n->n<=9223372036854775807->Calls A.P f #[.int .i64 n,.int .i64 10] w fun e w'=>e= .returned (.string ⟨(Lib.itoa n).toArray⟩)/\∃ k os,w'=Sort.grow (w.drewN k) os):Il A f Q1:=by
 intro args H r H' hh g w vs hw hv;unfold Q1 at hh;split at hh
 case h_2=>simp at hh
 rename_i n b;split at hh
 case isFalse=>simp at hh
 rename_i hc;simp at hh;obtain ⟨rfl,rfl⟩:=hh;obtain ⟨h1,h2,rfl⟩:=hc
 match vs,hv with
 |[v1,v2],⟨r1,r2,_⟩=>
  cases r1;cases r2;refine (sA g w H hw n h1 h2).mono ?_
  rintro e w' ⟨rfl,k,os,rfl⟩
  have hh:(w.drewN k).heap=w.heap:=rfl;have ae:w.heap.size<=(Sort.grow (w.drewN k) os).heap.size:=by simp [Sort.grow,hh]
  have hold:∀ R,R<w.heap.size->(Sort.grow (w.drewN k) os).heap[R]?=w.heap[R]?:=fun R hR=>by
   show (w.heap++os)[R]?=_;rw [jv hR]
  obtain ⟨q1,q2,q3⟩:=qn (f:=Vn) (F:=[]) hw Jh ae hold (ov:=⟨rfl,rfl⟩);exact ⟨_,g,rfl,.str _,q1,q3.ext fun i h=>h⟩
def okp (p:AV) (x:Nat):Bool:=match p with| .De=>true| .ptr y 0 0=>y==x|_=>false
def Z3 (bT:TypeId) (args:List AV) (H:AH):Option (AV×AH):=
 match args with
 |[.ptr x 0 0]=>
  match H.bl[x]? with
  |some (.cells [[p,q]] 2 (some (t,2)))=>if t=bT/\H.wm<=x/\okp p x=true then some (.Rc [],Ma H x (.cells [[.ptr x 0 0,q]] 2 (some (bT,2)))) else none
  |_=>none
 |_=>none
def Gz:List (List AV)->Option (List UInt8)
 |[]=>some []
 |[.int .u8 z]::l=>if 0<=z/\z<256 then (Gz l).map (UInt8.ofNat z.toNat:: ·) else none
 |_=>none
def KB (bT uT:TypeId) (args:List AV) (H:AH):Option (AV×AH):=
 match args with
 |[.ptr x 0 0]=>
  match H.bl[x]? with
  |some (.cells [[_,q]] 2 (some (t,2)))=>
   if t=bT then
    match q with
    | .Wa=>some (.str ⟨#[]⟩,H)
    | .sl y 0 n=>
     match H.bl[y]? with
     |some (.cells rows 1 (some (u,k)))=>if u=uT/\1<=k/\H.wm<=y/\(0<n/\n<=70368744177664)/\n<=rows.length then (Gz (rows.take n)).map fun l=>(.str ⟨l.toArray⟩,Ma H y .dead) else none
     |_=>none
    |_=>none
   else none
  |_=>none
 |_=>none
theorem TD {G:Nat->Option (List AV)} {g:Gx} {w:World} {H:AH} (hw:Ub G g w H) {x:Nat} {p q:AV} {t:TypeId} (hD:g.D x) (hx:H.bl[x]?=some (.cells [[p,q]] 2 (some (t,2)))):
  (g.ρ x).o=0/\(g.ρ x).sz=2/\(g.ρ x).e=2/\∃ v1 v2 fz,w.heap[(g.ρ x).R]?=some (.cells #[v1,v2] t fz)/\(∀ off,off<2->¬ (fz.1<=off/\off<fz.2))/\¬ g.Z (g.ρ x).R/\v1.oneCell'=true/\v2.oneCell'=true/\Ya g w p v1/\Ya g w q v2:=by
 obtain ⟨⟨⟨FY,fz0,Q5⟩,ho,he⟩,_,ae,zo,cs,⟨T,fz,hR,mJ,Tk,hZ⟩,Kc⟩:=hw.Oc x _ hD hx;rw [Q5] at hR;injection hR with hR;injection hR with e1 e2 e3
 subst e1;subst e2;subst e3;have ho:=ho (by omega);have he:=he (by omega);rw [ae] at he;rw [he] at mJ;obtain ⟨_,Zc⟩:=Kc 0 _ rfl;rw [ho] at Zc;obtain ⟨v1,a1,a2,a3⟩:=Zc 0 p rfl;obtain ⟨v2,b1,b2,b3⟩:=Zc 1 q rfl;have:FY= #[v1,v2]:=by
  apply Array.ext_getElem?;intro i
  match i with
  |0=>simpa using a1
  |1=>simpa using b1
  |i+2=>rw [Array.getElem?_eq_none (by omega)];simp
 subst this;exact ⟨ho,ae,he,v1,v2,fz0,Q5,fun off h=>Tk off (by rw [he];exact h),hZ,a2,b2,a3,b3⟩
theorem X3 {f:FuncId} {bT:TypeId}
  (L9:∀ (b:Nat) (w:World),w.cell? ⟨b,0,none⟩=some (.pointer none)->w.shape? b=some (bT,2)->w.frozen? ⟨b,0,none⟩=false->
    Calls A.P f #[.pointer (some ⟨b,0,none⟩)] w fun e w'=>e= .returned (.tuple #[])/\w'=w.setCell ⟨b,0,none⟩ (.pointer (some ⟨b,0,none⟩)))
  (Eac:∀ (b:Nat) (w:World),w.cell? ⟨b,0,none⟩=some (.pointer (some ⟨b,0,none⟩))->Calls A.P f #[.pointer (some ⟨b,0,none⟩)] w fun e w'=>e= .returned (.tuple #[])/\w'=w):Il A f (Z3 bT):=by
 intro args H r H' hh g w vs hw hv;unfold Z3 at hh;split at hh
 case h_2=>simp at hh
 rename_i x;split at hh
 case h_2=>simp at hh
 rename_i p q t hx;split at hh
 case isFalse=>simp at hh
 rename_i hc;simp at hh;obtain ⟨rfl,rfl⟩:=hh;obtain ⟨rfl,Of,hp⟩:=hc
 match vs,hv with
 |[v],⟨r1,_⟩=>
  cases r1 with
  |ptr _ _ _ hD=>
  obtain ⟨ho,ae,he,v1,v2,fz,hR,Tk,hZ,a2,b2,a3,b3⟩:=TD hw hD hx;have Td:live g H x:=⟨hD,_,hx,rfl⟩;have hv0:((some ⟨(g.ρ x).R,(g.ρ x).o+0 * (g.ρ x).sz+0,none⟩:Option Addr))=some ⟨(g.ρ x).R,0,none⟩:=by rw [ho];simp
  rw [hv0];have hc0:w.cell? ⟨(g.ρ x).R,0,none⟩=some v1:=by simp [World.cell?,hR]
  have oe:∀ (w':World) (fz':Nat×Nat),(w'.heap[(g.ρ x).R]?=some (.cells #[.pointer (some ⟨(g.ρ x).R,0,none⟩),v2] t fz))->g.Le w g w'->lg g w' (g.ρ x) (.cells [[.ptr x 0 0,q]] 2 (some (t,2))):=fun w' _ vx hle=>by
    refine ⟨⟨⟨_,_,vx⟩,fun _=>ho,fun _=>he.trans ae.symm⟩,by omega,ae,by rw [ho,he];simp,_,⟨t,fz,vx,by rw [he];rfl,fun off h=>Tk off (by omega),hZ⟩,fun r row hr=> ?_⟩
    match r,hr with
    |0,hr=>
     simp at hr;subst hr;refine ⟨rfl,fun c y hy=> ?_⟩;rw [ho]
     match c,hy with
     |0,hy=>
       simp at hy;subst hy;refine ⟨_,rfl,rfl,?_⟩;have:=Ya.ptr (w:=w') x 0 0 hD;rw [ho] at this;simpa using this
     |1,hy=>simp at hy;subst hy;exact ⟨v2,rfl,b2,b3.mono hle⟩
     |c+2,hy=>simp at hy
    |r+1,hr=>simp at hr
  unfold okp at hp;split at hp
  · cases a3;have eK:w.shape? (g.ρ x).R=some (t,2):=by simp [World.shape?,hR]
    have wah:w.frozen? ⟨(g.ρ x).R,0,none⟩=false:=by
     have:=Tk 0 (by omega);simp only [World.frozen?,hR];simp only [Dr,decide_eq_false_iff_not];by_cases h:fz.1<=0
     · exact .inr fun h'=>this ⟨h,h'⟩
     · exact .inl h
    refine (L9 _ w hc0 eK wah).mono ?_
    rintro e w' ⟨rfl,rfl⟩
    have nc:(g.ρ x).R<w.heap.size:=Ua hR;have vx:(w.setCell ⟨(g.ρ x).R,0,none⟩ (.pointer (some ⟨(g.ρ x).R,0,none⟩))).heap[(g.ρ x).R]?=some (.cells #[.pointer (some ⟨(g.ρ x).R,0,none⟩),v2] t fz):=by
     simp [World.setCell,Yl,hR]
    obtain ⟨q1,q2,q3⟩:=ue (f:=Vn) (F:=[]) (w':=w.setCell ⟨(g.ρ x).R,0,none⟩ (.pointer (some ⟨(g.ρ x).R,0,none⟩))) (x:= .cells [[.ptr x 0 0,q]] 2 (some (t,2))) hw Jh Td Of (by simp [World.setCell])
     (fun R Nc=>by simp only [World.setCell,Yl];rw [if_neg (fun e=>Nc e.symm)]) (oe _ fz vx)
    exact ⟨_,g,rfl,.Rc [] [] rfl (fun i x v h=>by simp at h),q1,q3.ext fun i h=>h⟩
  · rename_i y;have:y=x:=by simpa using hp
    subst this;cases a3 with
    |ptr _ _ _ _=>
    rw [hv0] at hc0 hR;refine (Eac _ w hc0).mono ?_
    rintro e w' ⟨rfl,hww⟩
    subst hww;obtain ⟨q1,q2,q3⟩:=ue (f:=Vn) (F:=[]) (w':=w') (x:= .cells [[.ptr y 0 0,q]] 2 (some (t,2))) hw Jh Td Of rfl (fun _ _=>rfl) (oe _ fz hR);exact ⟨_,g,rfl,.Rc [] [] rfl (fun i x v h=>by simp at h),q1,q3.ext fun i h=>h⟩
  · simp at hp
theorem uC:∀ {rows:List (List AV)} {l:List UInt8},Gz rows=some l->l.length=rows.length/\∀ (j:Nat) (b:UInt8),l[j]?=some b->rows[j]?=some [.int .u8 (b.toNat:Int)]
 |[],l,h=>by simp [Gz] at h;subst h;exact ⟨rfl,fun j b hb=>by simp at hb⟩
 |row::rows,l,h=>by
  unfold Gz at h;split at h
  · rename_i e;simp at e
  · rename_i z l0 e;injection e with e1 e2;subst e1;subst e2
    split at h
    case isFalse=>simp at h
    rename_i hz;simp only [ia] at h;obtain ⟨l1,h1,rfl⟩:=h;obtain ⟨k1,k2⟩:=uC h1;refine ⟨by simp [k1],fun j b hb=> ?_⟩;cases j with
    |zero=>
     simp at hb;subst hb;have:(UInt8.ofNat z.toNat).toNat=z.toNat:=by
      rw [UInt8.toNat_ofNat'];exact Nat.mod_eq_of_lt (by omega)
     simp only [ze,this];rw [Int.toNat_of_nonneg hz.1]
    |succ j=>simp at hb;simpa using k2 j b hb
  · simp at h
theorem zS {f:FuncId} {bT uT:TypeId}
  (Q0:∀ (b:Nat) (w:World),w.cell? ⟨b,1,none⟩=some (.slice none 0 0)->Calls A.P f #[.pointer (some ⟨b,0,none⟩)] w fun e w'=>e= .returned (.string ⟨#[]⟩)/\w'=w.drew)
  (AT:∀ (b gb cap n:Nat) (l:List UInt8) (w:World),l≠[]->l.length<=70368744177664->w.cell? ⟨b,1,none⟩=some (.slice (some ⟨gb,0,none⟩) l.length cap)->l.length<=cap->w.shape? gb=some (uT,n)->l.length<=n->(∀ j x,l[j]?=some x->w.cell? ⟨gb,j,none⟩=some (.int .u8 x.toNat))->
    Calls A.P f #[.pointer (some ⟨b,0,none⟩)] w fun e w'=>e= .returned (.string ⟨l.toArray⟩)/\w'=w.drew.freeze ⟨gb,0,none⟩ l.length):Il A f (KB bT uT):=by
 intro args H r H' hh g w vs hw hv;unfold KB at hh;split at hh
 case h_2=>simp at hh
 rename_i x;split at hh
 case h_2=>simp at hh
 rename_i p q t hx;split at hh
 case isFalse=>simp at hh
 rename_i hc;subst hc
 match vs,hv with
 |[v],⟨r1,_⟩=>
  cases r1 with
  |ptr _ _ _ hD=>
  obtain ⟨ho,ae,he,v1,v2,fz,hR,Tk,hZ,a2,b2,a3,b3⟩:=TD hw hD hx;have hv0:((some ⟨(g.ρ x).R,(g.ρ x).o+0 * (g.ρ x).sz+0,none⟩:Option Addr))=some ⟨(g.ρ x).R,0,none⟩:=by rw [ho];simp
  rw [hv0];have L5:w.cell? ⟨(g.ρ x).R,1,none⟩=some v2:=by simp [World.cell?,hR]
  split at hh
  · simp at hh;obtain ⟨rfl,rfl⟩:=hh;cases b3;refine (Q0 _ w L5).mono ?_
    rintro e w' ⟨rfl,rfl⟩
    exact ⟨_,g,rfl,.str _,hw.heap rfl,(kg.heap (w:=w) (w':=w.drew) (f:=Vn) (F:=[]) rfl).ext fun i h=>h⟩
  · rename_i y n;split at hh
    case h_2=>simp at hh
    rename_i rows u k hy;split at hh
    case isFalse=>simp at hh
    rename_i hc2;obtain ⟨rfl,hk,Of,⟨jK,hn1⟩,P0⟩:=hc2;simp only [ia] at hh;obtain ⟨l,hl,hh⟩:=hh;simp at hh;obtain ⟨rfl,rfl⟩:=hh;obtain ⟨l1,l2⟩:=uC hl;have hll:l.length=n:=by rw [l1,dc];omega
    cases b3 with
    |TG b r a hd=>omega
    |sl _ _ _ cap hDy Kk zo=>
    obtain ⟨⟨⟨FY,fz0,Q5⟩,hoy,_⟩,_,Vak,tad,cs,⟨T,fzy,hRy,Mah,Fal,hZy⟩,c9⟩:=hw.Oc y _ hDy hy;rw [Q5] at hRy;injection hRy with hRy;injection hRy with e1 e2 e3
    subst e1;subst e2;subst e3;have hoy:=hoy hk;have J0:(some ⟨(g.ρ y).R,(g.ρ y).o+0 * (g.ρ y).sz,none⟩:Option Addr)=some ⟨(g.ρ y).R,0,none⟩:=by rw [hoy];simp
    rw [J0] at L5;have Td:live g H y:=⟨hDy,_,hy,rfl⟩;have eK:w.shape? (g.ρ y).R=some (u,FY.size):=by simp [World.shape?,Q5]
    have Zh:∀ j b,l[j]?=some b->w.cell? ⟨(g.ρ y).R,j,none⟩=some (.int .u8 b.toNat):=fun j b hb=>by
     have h1:=l2 j b hb;have hj:j<n:=by rw [<- hll];exact getElem?_lt' hb
     rw [Ab,if_pos hj] at h1;obtain ⟨_,h2⟩:=c9 j _ h1;obtain ⟨v,g1,_,g3⟩:=h2 0 _ rfl;cases g3;rw [hoy] at g1;simp only [World.cell?,Q5]
     simpa using g1
    have lah:l≠[]:=by intro e;subst e;simp at hll;omega
    have gad:l.length<=FY.size:=by rw [Mah,hll];rw [hoy] at tad;omega
    refine (AT (g.ρ x).R (g.ρ y).R cap FY.size l w lah (by omega) (by rw [hll];exact L5) (by omega) eK gad Zh).mono ?_
    rintro e w' ⟨rfl,rfl⟩
    have Cd:∀ R,R≠(g.ρ y).R->(w.drew.freeze ⟨(g.ρ y).R,0,none⟩ l.length).heap[R]?=w.heap[R]?:=fun R Nc=>by
     unfold World.freeze;split
     · rfl
     · simp only [Yl];rw [if_neg (fun e=>Nc e.symm)];rfl
    have Rf:(w.drew.freeze ⟨(g.ρ y).R,0,none⟩ l.length).heap.size=w.heap.size:=by
     unfold World.freeze;split
     · rfl
     · simp
    have ov:(w.drew.freeze ⟨(g.ρ y).R,0,none⟩ l.length).os=w.os/\(w.drew.freeze ⟨(g.ρ y).R,0,none⟩ l.length).output=w.output:=by
     unfold World.freeze;split<;>exact ⟨rfl,rfl⟩
    obtain ⟨q1,q2,q3⟩:=ue (f:=Vn) (F:=[]) (w':=w.drew.freeze ⟨(g.ρ y).R,0,none⟩ l.length) (x:= .dead) hw Jh Td Of Rf Cd (fun _=>trivial) (ov:=ov);exact ⟨_,g,rfl,.str _,q1,q3.ext fun i h=>h⟩
  · simp at hh
theorem TP {args:List AV} {H H':AH} {r:AV} (h:Q1 args H=some (r,H')):Fc H H':=by
 unfold Q1 at h;split at h
 case h_2=>simp at h
 split at h
 case isFalse=>simp at h
 simp at h;rw [<- h.2];exact .refl _
theorem NR {bT:TypeId} {args:List AV} {H H':AH} {r:AV} (h:Z3 bT args H=some (r,H')):Fc H H':=by
 unfold Z3 at h;split at h
 case h_2=>simp at h
 split at h
 case h_2=>simp at h
 split at h
 case isFalse=>simp at h
 rename_i hc;simp at h;rw [<- h.2];exact .set hc.2.1 _
theorem zJ {bT uT:TypeId} {args:List AV} {H H':AH} {r:AV} (h:KB bT uT args H=some (r,H')):Fc H H':=by
 unfold KB at h;split at h
 case h_2=>simp at h
 split at h
 case h_2=>simp at h
 split at h
 case isFalse=>simp at h
 split at h
 case h_3=>simp at h
 · simp at h;rw [<- h.2];exact .refl _
 · split at h
   case h_2=>simp at h
   split at h
   case isFalse=>simp at h
   rename_i hc;obtain ⟨l,_,h⟩:=ia.1 h;simp at h;rw [<- h.2];exact .set hc.2.2.1 _
end
end Go.V
