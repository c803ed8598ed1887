/- An evaluator of the translated code and that it is right: each of its answers is an answer of the model. -/
import Derived.Test.YtjenflkegbmkkaaGreatDoorA1
import Derived.Test.YtjenflkegbmkkaaGreatDoorA3
import Derived.LoopNIn
import Derived.RangeFuncRecord
import Derived.Scope
import Derived.Sort.Grow
import Derived.Deep.Draws
import Derived.Lib.ItoaNum
import Derived.Lib.LaidTab
set_option linter.unusedVariables false
set_option linter.unusedSimpArgs false
set_option linter.unusedSectionVars false
namespace Go.V
open Go
def Quiet (H H':AH):Prop:=H'.wm=H.wm/\H.bl.length<=H'.bl.length/\∀ b,b<H.wm->b<H.bl.length->H'.bl[b]?=H.bl[b]?
theorem Quiet.refl (H:AH):Quiet H H:=⟨rfl,Nat.le_refl _,fun _ _ _=>rfl⟩
theorem Quiet.trans {H H1 H2:AH} (h:Quiet H H1) (h':Quiet H1 H2):Quiet H H2:=
 ⟨h'.1.trans h.1,Nat.le_trans h.2.1 h'.2.1,fun b hb hl=>(h'.2.2 b (by rw [h.1];exact hb) (by have:=h.2.1;omega)).trans (h.2.2 b hb hl)⟩
theorem Quiet.push (H:AH) (x:AB):Quiet H (push H x):=⟨rfl,by simp [V.push],fun b _ hl=>by simp [V.push,List.getElem?_append_left hl]⟩
theorem Quiet.set {H:AH} {b:Nat} (h:H.wm<=b) (x:AB):Quiet H (setBl H b x):=⟨rfl,by simp [setBl],fun b' hb _=>by
 simp only [setBl,List.getElem?_set];rw [if_neg (by omega)]⟩
def CalleeQuiet (call:Callee):Prop:=∀ fv args H r H',call fv args H=some (r,H')->Quiet H H'
section
variable {A:Par} {call:Callee} {locs:List Nat}
theorem append_quiet {H H':AH} {ts:Array TypeId} {x y v:AV} (h:append A H ts x y=some (v,H')):Quiet H H':=by
 simp only [append,Option.bind_eq_some_iff] at h;obtain ⟨_,_,_,_,_,_,_,_,_,_,xs,_,ys,_,h⟩:=h;split at h
 case isFalse=>simp at h
 split at h
 · simp at h;obtain ⟨_,rfl⟩:=h;exact .refl _
 · split at h
   · simp at h;obtain ⟨_,rfl⟩:=h;exact .push _ _
   · simp at h;obtain ⟨_,rfl⟩:=h;exact .push _ _
   · split at h
     · rename_i hc;simp at h;obtain ⟨_,rfl⟩:=h;exact (Quiet.set hc.1 .dead).trans (Quiet.push _ _)
     · simp at h
   · simp at h
theorem buildSlice_quiet {H H':AH} {t:TypeId} {n:Nat} {ps:List (Nat×AV)} {v:AV} (h:buildSlice A H t n ps=some (v,H')):Quiet H H':=by
 simp only [buildSlice,Option.bind_eq_some_iff] at h;obtain ⟨_,_,_,_,h⟩:=h;split at h
 case isFalse=>simp at h
 split at h
 · simp at h;obtain ⟨_,rfl⟩:=h;exact .refl _
 · simp only [Option.bind_eq_some_iff] at h;obtain ⟨_,_,h⟩:=h;simp at h;obtain ⟨_,rfl⟩:=h;exact .push _ _
theorem makeSlice_quiet {H H':AH} {t:TypeId} {l c v:AV} (h:makeSlice A H t l c=some (v,H')):Quiet H H':=by
 unfold makeSlice at h;split at h
 · simp only [Option.bind_eq_some_iff] at h;obtain ⟨_,_,_,_,_,_,h⟩:=h;split at h
   · simp at h;obtain ⟨_,rfl⟩:=h;exact .push _ _
   · simp at h
 · simp at h
theorem convert_quiet {H H':AH} {s d:TypeId} {x v:AV} (h:convert A H s d x=some (v,H')):Quiet H H':=by
 unfold convert at h;split at h
 · simp at h;obtain ⟨_,rfl⟩:=h;exact .refl _
 · simp at h;obtain ⟨_,rfl⟩:=h;exact .refl _
 · split at h
   · split at h
     · simp at h;obtain ⟨_,rfl⟩:=h;exact .push _ _
     · simp at h
   · simp at h
 · split at h
   · simp only [Option.bind_eq_some_iff,Option.map_eq_some_iff] at h;obtain ⟨_,_,_,_,h⟩:=h;simp at h;obtain ⟨_,rfl⟩:=h;exact .refl _
   · simp at h
 · simp at h
theorem mapUpdate_quiet {H H':AH} {t:TypeId} {m k x:AV} (h:mapUpdate A H t m k x=some H'):Quiet H H':=by
 unfold mapUpdate at h;split at h
 · split at h
   · rename_i hc;simp only [Bool.and_eq_true,decide_eq_true_eq] at hc;split at h
     · simp only [Option.map_eq_some_iff] at h;obtain ⟨_,_,rfl⟩:=h;exact .set hc.2 _
     · simp at h
   · simp at h
 · simp at h
theorem mapDelete_quiet {H H':AH} {t:TypeId} {m k:AV} (h:mapDelete A H t m k=some H'):Quiet H H':=by
 unfold mapDelete at h;split at h
 · split at h
   · simp at h;subst h;exact .refl _
   · simp at h
 · split at h
   · rename_i hc;simp only [Bool.and_eq_true,decide_eq_true_eq] at hc;split at h
     · simp only [Option.map_eq_some_iff] at h;obtain ⟨_,_,rfl⟩:=h;exact .set hc.2 _
     · simp at h
   · simp at h
 · simp at h
theorem builtin_quiet {H H':AH} {b:Builtin} {ts:Array TypeId} {args:List AV} {v:AV} (h:builtin A H b ts args=some (v,H')):Quiet H H':=by
 unfold builtin at h;split at h
 · exact append_quiet h
 · simp only [Option.bind_eq_some_iff] at h;obtain ⟨_,_,h⟩:=h;split at h
   all_goals first
     |(simp at h;obtain ⟨_,rfl⟩:=h;exact .refl _)
     |(simp only [Option.map_eq_some_iff] at h;obtain ⟨_,_,h⟩:=h;simp at h;obtain ⟨_,rfl⟩:=h;exact .refl _)
     |simp at h
 · simp only [Option.map_eq_some_iff] at h;obtain ⟨_,_,h⟩:=h;simp at h;obtain ⟨_,rfl⟩:=h;exact .refl _
 · simp only [Option.map_eq_some_iff] at h;obtain ⟨_,_,h⟩:=h;simp at h;obtain ⟨_,rfl⟩:=h;exact .refl _
 · simp only [Option.bind_eq_some_iff,Option.map_eq_some_iff] at h;obtain ⟨_,_,_,hd,h⟩:=h;simp at h;obtain ⟨_,rfl⟩:=h;exact mapDelete_quiet hd
 · simp only [Option.bind_eq_some_iff] at h;obtain ⟨_,_,_,_,_,_,_,_,h⟩:=h;split at h
   · simp at h;obtain ⟨_,rfl⟩:=h;exact .refl _
   · simp at h;obtain ⟨_,rfl⟩:=h;exact .refl _
   · split at h
     · split at h
       · rename_i hc;simp at h;obtain ⟨_,rfl⟩:=h;exact .set hc.1 _
       · simp at h
     · simp at h
   · simp at h
 · simp at h
structure Stp (tch:Tch) (s s' t t':S):Prop where
 e1:s'.e=s.e
 e2:t'.e=t.e
 q:Quiet s.H s'.H
 h:(tch.isHeap=true->t'.H=s'.H)/\(tch.isHeap=false->t'.H=t.H/\s'.H=s.H)
 f:(s'.F=s.F/\t'.F=t.F)\/(∃ row,s'.F=s.F++[row]/\t'.F=t.F++[row]/\tch= .no)\/∃ i row,tch= .box i true/\s'.F=s.F.set i row/\t'.F=t.F.set i row/\∀ old,s.F[i]?=some old->row.length=old.length
theorem Stp.same {tch:Tch} {s t:S} (hH:tch.isHeap=true->t.H=s.H):Stp tch s s t t:=
 ⟨rfl,rfl,.refl _,⟨hH,fun _=>⟨rfl,rfl⟩⟩,.inl ⟨rfl,rfl⟩⟩
theorem Stp.heap {w:Bool} {s t:S} {H:AH} (hq:Quiet s.H H):Stp (.heap w) s { s with H:=H } t { t with H:=H }:=
 ⟨rfl,rfl,hq,⟨fun _=>rfl,fun h=>by simp [Tch.isHeap] at h⟩,.inl ⟨rfl,rfl⟩⟩
section
variable {s s' t:S} {o:Oper}
theorem vals_same:∀ {l:List Operand},(∀ x∈l,operand A t.e x=operand A s.e x)->vals A t.e l=vals A s.e l
 |[],_=>rfl
 |x::l,h=>by
  simp only [vals,val,h x (by simp),vals_same (l:=l) fun y hy=>h y (List.mem_cons_of_mem _ hy)]
theorem parts_same:∀ {l:List (Nat×Operand)},(∀ x∈l.map (·.2),operand A t.e x=operand A s.e x)->parts A t.e l=parts A s.e l
 |[],_=>rfl
 |(i,x)::l,h=>by
  simp only [parts,val,h x (by simp),parts_same (l:=l) fun y hy=>h y (by simp at hy ⊢;exact .inr hy)]
theorem optInt_same {x:Option Operand} (h:∀ y∈x.toArray,operand A t.e y=operand A s.e y):optInt A t.e x=optInt A s.e x:=by
 cases x with
 |none=>rfl
 |some x=>simp only [optInt,val,h x (by simp)]
theorem ret1_step {x:Option AV} {v:SV} {tch:Tch} (h:ret1 s x=some (v,s')) (hH:tch.isHeap=true->t.H=s.H):∃ t',ret1 t x=some (v,t')/\Stp tch s s' t t':=by
 simp only [ret1,Option.map_eq_some_iff] at h;obtain ⟨a,ha,h⟩:=h;simp at h;obtain ⟨rfl,rfl⟩:=h;exact ⟨t,by simp [ret1,ha],.same hH⟩
theorem frList_quiet {fz:AH->AV->Option (AV×AH)} (hfz:∀ H x x' H',fz H x=some (x',H')->Quiet H H'):∀ (xs:List AV) (H:AH) (xs':List AV) (H':AH),frList fz H xs=some (xs',H')->Quiet H H'
 |[],H,xs',H',h=>by simp [frList] at h;obtain ⟨_,rfl⟩:=h;exact .refl _
 |x::xs,H,xs',H',h=>by
  simp only [frList,Option.bind_eq_some_iff] at h;obtain ⟨⟨x1,H1⟩,h1,⟨xs1,H2⟩,h2,h⟩:=h;simp at h;obtain ⟨_,rfl⟩:=h;exact (hfz _ _ _ _ h1).trans (frList_quiet hfz xs _ _ _ h2)
theorem frRows_quiet {fz:AH->AV->Option (AV×AH)} (hfz:∀ H x x' H',fz H x=some (x',H')->Quiet H H'):∀ (xs:List (List AV)) (H:AH) (xs':List (List AV)) (H':AH),frRows fz H xs=some (xs',H')->Quiet H H'
 |[],H,xs',H',h=>by simp [frRows] at h;obtain ⟨_,rfl⟩:=h;exact .refl _
 |x::xs,H,xs',H',h=>by
  simp only [frRows,Option.bind_eq_some_iff] at h;obtain ⟨⟨x1,H1⟩,h1,⟨xs1,H2⟩,h2,h⟩:=h;simp at h;obtain ⟨_,rfl⟩:=h;exact (frList_quiet hfz _ _ _ _ h1).trans (frRows_quiet hfz xs _ _ _ h2)
theorem freeze_quiet:∀ (d:Nat) (H:AH) (x x':AV) (H':AH),freeze d H x=some (x',H')->Quiet H H'
 |0,H,x,x',H',h=>by simp [freeze] at h
 |d+1,H,x,x',H',h=>by
  cases x
  case sl b r n=>
   simp only [freeze,Option.bind_eq_some_iff] at h;obtain ⟨rows,_,sz,_,h⟩:=h;split at h
   case isFalse=>simp at h
   rename_i hwm;simp only [Option.bind_eq_some_iff] at h;obtain ⟨⟨rows',H1⟩,hfr,h⟩:=h;simp at h;obtain ⟨_,rfl⟩:=h;exact (Quiet.set hwm _).trans (frRows_quiet (freeze_quiet d) _ _ _ _ hfr)
  case agg cs=>
   simp only [freeze,Option.bind_eq_some_iff] at h;obtain ⟨⟨cs',H1⟩,h1,h⟩:=h;simp at h;obtain ⟨_,rfl⟩:=h;exact frList_quiet (freeze_quiet d) _ _ _ _ h1
  case tup cs=>
   simp only [freeze,Option.bind_eq_some_iff] at h;obtain ⟨⟨cs',H1⟩,h1,h⟩:=h;simp at h;obtain ⟨_,rfl⟩:=h;exact frList_quiet (freeze_quiet d) _ _ _ _ h1
  all_goals simp [freeze] at h;obtain ⟨_,rfl⟩:=h;exact .refl _
theorem retH_step {x:Option (AV×AH)} {v:SV} {w:Bool} (h:retH s x=some (v,s')) (hq:∀ a H,x=some (a,H)->Quiet s.H H):∃ t',retH t x=some (v,t')/\Stp (.heap w) s s' t t':=by
 simp only [retH,Option.map_eq_some_iff] at h;obtain ⟨⟨a,H⟩,ha,h⟩:=h;simp at h;obtain ⟨rfl,rfl⟩:=h;exact ⟨{ t with H:=H },by simp [retH,ha],.heap (hq a H ha)⟩
theorem boxed_step {bt:TypeId} {b:Bool} {cs:List AV} {v:SV} (h:boxed s bt b cs=some (v,s')) (hH:b=false->t.H=s.H) (hl:t.F.length=s.F.length):∃ t',boxed t bt b cs=some (v,t')/\Stp (if b then .no else .heap false) s s' t t':=by
 unfold boxed at h ⊢;split at h
 case isFalse=>simp at h
 rename_i hc;rw [if_pos hc];simp only [Option.some.injEq] at h;cases b with
 |true=>
  simp [box] at h;obtain ⟨rfl,rfl⟩:=h;refine ⟨{ t with F:=t.F++[cs] },by simp [box,hl],⟨rfl,rfl,.refl _,⟨fun h=>by simp [Tch.isHeap] at h,fun _=>⟨rfl,rfl⟩⟩,.inr (.inl ⟨cs,rfl,rfl,rfl⟩)⟩⟩
 |false=>
  simp [box] at h;obtain ⟨rfl,rfl⟩:=h;refine ⟨{ t with H:=push s.H (.cells [cs] cs.length (some (bt,2))) },by simp [box,hH rfl],⟨rfl,rfl,.push _ _,⟨fun _=>rfl,fun h=>by simp [Tch.isHeap] at h⟩,.inl ⟨rfl,rfl⟩⟩⟩
theorem load_step {ty:TypeId} {p:SV} {x:AV} (h:load A s ty p=some x) (hH:(touchAt false (some p)).isHeap=true->t.H=s.H) (hB:∀ i w,touchAt false (some p)= .box i w->t.F[i]?=s.F[i]?):load A t ty p=some x:=by
 unfold load at h ⊢;split at h
 · rename_i i c;simp only [hB i false rfl];exact h
 · rename_i b r c;simp only [hH rfl];exact h
 · exact h
 · simp at h
theorem store_step {ty:TypeId} {p:SV} {x:AV} (h:store A s ty p x=some s') (hH:(touchAt true (some p)).isHeap=true->t.H=s.H) (hB:∀ i w,touchAt true (some p)= .box i w->t.F[i]?=s.F[i]?):
   ∃ t',store A t ty p x=some t'/\Stp (touchAt true (some p)) s s' t t':=by
 simp only [store,Option.bind_eq_some_iff] at h;obtain ⟨cs,hcs,n,hn,h⟩:=h;split at h
 case isFalse=>simp at h
 rename_i hlen;unfold store;simp only [hcs,hn,Option.bind_some];rw [if_pos hlen];split at h
 · rename_i i c;simp only [Option.bind_eq_some_iff] at h;obtain ⟨row,hr,row',hsp,h⟩:=h;simp at h;subst h;exact ⟨{ t with F:=t.F.set i row' },by simp [hB i true rfl,hr,hsp],⟨rfl,rfl,.refl _,⟨fun h=>by simp [touchAt,Tch.isHeap] at h,fun _=>⟨rfl,rfl⟩⟩,.inr (.inr ⟨i,row',rfl,rfl,rfl,fun old ho=>by
    rw [hr] at ho;simp at ho;subst ho;unfold splice at hsp;split at hsp
    · simp at hsp;subst hsp;simp;omega
    · simp at hsp⟩)⟩⟩
 · rename_i b r c;have hH':=hH rfl;split at h
   case h_2=>simp at h
   rename_i rows sz ty0 hb;split at h
   case isFalse=>simp at h
   rename_i hwm;simp only [Option.bind_eq_some_iff] at h;obtain ⟨row,hr,row',hsp,h⟩:=h;simp at h;subst h;refine ⟨{ t with H:=setBl s.H b (.cells (rows.set r row') sz ty0) },by simp [hH',hb,hwm,hr,hsp],⟨rfl,rfl,.set hwm _,⟨fun _=>rfl,fun h=>by simp [touchAt,Tch.isHeap] at h⟩,.inl ⟨rfl,rfl⟩⟩⟩
 · simp at h
theorem indexAddr_step {H H':AH} {ty:TypeId} {p:SV} {i:Int} (h:(touchIx (some p)).isHeap=true->H'=H):indexAddr A H' ty p i=indexAddr A H ty p i:=by
 unfold indexAddr;split
 · rfl
 · split
   · rw [h rfl]
   · rfl
   · rfl
 · rfl
def lenAt (A:Par) (H:AH) (t:TypeId) (x:AV):Option (AV×AH):=
 match A.P.underlying t,x with
 |some .string,.str s=>some (.int .i64 s.size,H)
 |some (.slice _),.nils|some (.slice _),.emp=>some (.int .i64 0,H)
 |some (.slice _),.lit _ rows=>some (.int .i64 rows.length,H)
 |some (.slice _),.sl _ _ n=>some (.int .i64 n,H)
 |some (.map _ _),m=>(mapOf H m).map fun es=>(.int .i64 es.length,H)
 |some (.array n _),_=>some (.int .i64 n,H)
 |_,_=>none
theorem builtin_pure {H H':AH} {b:Builtin} {ts:Array TypeId} {l:List AV} {v:AV} (hp:b= .max\/b= .min\/(b= .len/\∀ m,l≠[.mp m])) (h:builtin A H b ts l=some (v,H')):H'=H/\∀ H2,builtin A H2 b ts l=some (v,H2):=by
 rcases hp with rfl|rfl|⟨rfl,hp⟩
 · unfold builtin at h ⊢;split at h<;>simp_all
   obtain ⟨a,h1,h2,h3⟩:=h;exact ⟨h3.symm,fun _=>by rw [h1,h2]⟩
 · unfold builtin at h ⊢;split at h<;>simp_all
   obtain ⟨a,h1,h2,h3⟩:=h;exact ⟨h3.symm,fun _=>by rw [h1,h2]⟩
 · unfold builtin at h;split at h<;>try (simp_all;done)
   rename_i x _;simp only [Option.bind_eq_some_iff] at h;obtain ⟨t,ht,h⟩:=h;have key:∀ H2,builtin A H2 .len ts [x]=lenAt A H2 t x:=fun H2=>by simp only [builtin,ht,Option.bind_some,lenAt];rfl
   have h:lenAt A H t x=some (v,H'):=h;unfold lenAt at key h;split at h
   all_goals first
    |(simp at h;done)
    |(simp at h;obtain ⟨rfl,rfl⟩:=h;exact ⟨rfl,fun H2=>by rw [key];simp_all⟩)
    |skip
   rename_i x _ _ _ _ hu _;simp only [Option.map_eq_some_iff] at h;obtain ⟨es,he,h⟩:=h;simp at h;obtain ⟨rfl,rfl⟩:=h;refine ⟨rfl,fun H2=> ?_⟩;rw [key];have:mapOf H2 x=some es:=by
    cases x<;>first|(simp [mapOf] at he;done)|(exact absurd rfl (hp _))|(simpa [mapOf] using he)
   simp [hu,this]
theorem op_step {q:Bool} {v:SV} (hq:CalleeQuiet call) (h:op A call locs s o=some (v,s')) (he:∀ x∈o.op.operands,operand A t.e x=operand A s.e x)
  (hH:(touch A locs s o q).isHeap=true->t.H=s.H) (hl:t.F.length=s.F.length) (hB:∀ i w,touch A locs s o q= .box i w->t.F[i]?=s.F[i]?):
  ∃ t',op A call locs t o=some (v,t')/\Stp (touch A locs s o q) s s' t t':=by
 have hv:∀ x∈o.op.operands,val A t.e x=val A s.e x:=fun x hx=>by simp only [val,he x hx]
 obtain ⟨dst,o,type,pos,after,guard⟩:=o;simp only at he hv;cases o
 case move x=>
  simp only [op] at h ⊢;simp only [he x (by simp [Op.operands])];simp only [Option.map_eq_some_iff] at h ⊢;obtain ⟨u,hu,h⟩:=h;simp at h;obtain ⟨rfl,rfl⟩:=h;exact ⟨t,⟨u,hu,rfl⟩,.same hH⟩
 case assign x=>
  simp only [op] at h ⊢;simp only [he x (by simp [Op.operands])];simp only [Option.map_eq_some_iff] at h ⊢;obtain ⟨u,hu,h⟩:=h;simp at h;obtain ⟨rfl,rfl⟩:=h;exact ⟨t,⟨u,hu,rfl⟩,.same hH⟩
 case pick c a b=>
  simp only [op] at h ⊢;rw [hv c (by simp [Op.operands])];rw [he a (by simp [Op.operands]),he b (by simp [Op.operands])];simp only [Option.bind_eq_some_iff] at h ⊢;obtain ⟨u,hu,h⟩:=h;split at h
  · simp only [Option.map_eq_some_iff] at h;obtain ⟨x,hx,h⟩:=h;simp at h;obtain ⟨rfl,rfl⟩:=h;exact ⟨t,⟨_,hu,by simp [hx]⟩,.same hH⟩
  · simp only [Option.map_eq_some_iff] at h;obtain ⟨x,hx,h⟩:=h;simp at h;obtain ⟨rfl,rfl⟩:=h;exact ⟨t,⟨_,hu,by simp [hx]⟩,.same hH⟩
  · simp at h
 case alloc ty=>
  simp only [op,Option.bind_eq_some_iff] at h;obtain ⟨z,hz,h⟩:=h;have:=boxed_step (t:=t) h (fun hb=>hH (by have hb':isLoc locs ⟨dst,.alloc ty,type,pos,after,guard⟩=false:=hb;simp only [touch,hb'];rfl)) hl;simp only [op,hz,Option.bind_some];exact this
 case box ty x=>
  simp only [op,Option.bind_eq_some_iff] at h;obtain ⟨u,hu,cs,hcs,h⟩:=h;have:=boxed_step (t:=t) h (fun hb=>hH (by have hb':isLoc locs ⟨dst,.box ty x,type,pos,after,guard⟩=false:=hb;simp only [touch,hb'];rfl)) hl;simp only [op,hv x (by simp [Op.operands]),hu,hcs,Option.bind_some];exact this
 case build ty ps=>
  simp only [op,Option.bind_eq_some_iff] at h;obtain ⟨l,hps,h⟩:=h;simp only [op,parts_same (s:=s) (t:=t) (l:=ps.toList) (fun x hx=>he x (by simpa [Op.operands] using hx)),hps,Option.bind_some];exact ret1_step h hH
 case buildSlice ty n ps=>
  simp only [op,Option.bind_eq_some_iff] at h;obtain ⟨l,hps,h⟩:=h;simp only [op,parts_same (s:=s) (t:=t) (l:=ps.toList) (fun x hx=>he x (by simpa [Op.operands] using hx)),hps,Option.bind_some,hH rfl];refine retH_step h fun a H hx=> ?_
  simp only [Option.bind_eq_some_iff] at hx;obtain ⟨⟨x0,H0⟩,hx0,hx⟩:=hx;have h1:=buildSlice_quiet hx0;simp only at hx;split at hx
  · exact h1.trans (freeze_quiet _ _ _ _ _ hx)
  · simp at hx;obtain ⟨_,rfl⟩:=hx;exact h1
 case load ty x=>
  simp only [op,Option.bind_eq_some_iff] at h;obtain ⟨p,hp,h⟩:=h;simp only [touch,hp] at hH hB ⊢;simp only [op,he x (by simp [Op.operands]),hp,Option.bind_some];cases hl':load A s ty p with
  |none=>rw [hl'] at h;simp [ret1] at h
  |some y=>rw [load_step hl' hH hB];rw [hl'] at h;exact ret1_step h hH
 case store ty x y=>
  simp only [op,Option.bind_eq_some_iff,Option.map_eq_some_iff] at h;obtain ⟨p,hp,a,ha,s1,hs,h⟩:=h;simp at h;obtain ⟨rfl,rfl⟩:=h;simp only [touch,hp] at hH hB ⊢;obtain ⟨t',h1,h2⟩:=store_step hs hH hB;simp only [op,he x (by simp [Op.operands]),hv y (by simp [Op.operands]),hp,ha,h1,Option.bind_some,Option.map_some];exact ⟨t',rfl,h2⟩
 case nilCheck x=>
  simp only [op,Option.bind_eq_some_iff] at h;obtain ⟨p,hp,h⟩:=h;simp only [op,he x (by simp [Op.operands]),hp,Option.bind_some];split at h<;>first|(simp at h;obtain ⟨rfl,rfl⟩:=h;exact ⟨t,rfl,.same hH⟩)|simp at h
 case binOp b ty x y ty'=>
  simp only [op,Option.bind_eq_some_iff] at h;obtain ⟨p,hp,q',hq',h⟩:=h;simp only [op,hv x (by simp [Op.operands]),hv y (by simp [Op.operands]),hp,hq',Option.bind_some];exact ret1_step h hH
 case unOp u ty x=>
  simp only [op,Option.bind_eq_some_iff] at h;obtain ⟨p,hp,h⟩:=h;simp only [op,hv x (by simp [Op.operands]),hp,Option.bind_some];exact ret1_step h hH
 case convert a b x=>
  simp only [op,Option.bind_eq_some_iff] at h;obtain ⟨p,hp,h⟩:=h;simp only [op,hv x (by simp [Op.operands]),hp,Option.bind_some,hH rfl];exact retH_step h fun a H=>convert_quiet
 case makeFunc fx first caps=>
  cases fx with
  |func f=>
    simp only [op] at h ⊢;split at h
    · rename_i h0;rw [if_pos h0];simp only [Option.map_eq_some_iff] at h;obtain ⟨l,hl',h⟩:=h;simp at h;obtain ⟨rfl,rfl⟩:=h;rw [vals_same (s:=s) (t:=t) (l:=caps.toList) (fun x hx=>he x (by simp [Op.operands];exact .inr (by simpa using hx))),hl'];exact ⟨t,rfl,.same hH⟩
    · simp at h
  |_=>simp [op] at h
 case makeMap ty r=>
  have hs':v= .v (.mp s.H.bl.length)/\s'={ s with H:=push s.H (.map []) }/\op A call locs t ⟨dst,.makeMap ty r,type,pos,after,guard⟩=some (.v (.mp t.H.bl.length),{ t with H:=push t.H (.map []) }):=by
    simp only [op,Option.bind_eq_some_iff] at h ⊢;obtain ⟨_,h1,h⟩:=h;simp at h;obtain ⟨rfl,rfl⟩:=h;refine ⟨rfl,rfl,(),?_,trivial⟩;cases r with
    |none=>rfl
    |some x=>simp only [hv x (by simp [Op.operands])];exact h1
  obtain ⟨rfl,rfl,h2⟩:=hs';rw [h2,hH rfl];exact ⟨_,rfl,.heap (.push _ _)⟩
 case makeSlice ty l c=>
  simp only [op,Option.bind_eq_some_iff] at h;obtain ⟨p,hp,q',hq',h⟩:=h;simp only [op,hv l (by simp [Op.operands]),hv c (by simp [Op.operands]),hp,hq',Option.bind_some,hH rfl];exact retH_step h fun a H=>makeSlice_quiet
 case slice ty x lo hi mx=>
  cases mx with
  |some m=>
    cases lo with
    |some _=>simp [op] at h
    |none=>
    cases hi with
    |none=>simp [op] at h
    |some hi=>
    simp only [op,Option.bind_eq_some_iff] at h;obtain ⟨p,hp,l,hl',u,hu,h⟩:=h;simp only [op,hv x (by simp [Op.operands]),hv hi (by simp [Op.operands]),hv m (by simp [Op.operands]),hp,hl',hu,Option.bind_some];split at h
    · rename_i hc;rw [if_pos hc];exact ret1_step h hH
    · simp at h
  |none=>
    simp only [op,Option.bind_eq_some_iff] at h;obtain ⟨p,hp,l,hl',u,hu,h⟩:=h;simp only [op,hv x (by simp [Op.operands]),optInt_same (s:=s) (t:=t) (x:=lo) (fun y hy=>he y (by simp [Op.operands] at hy ⊢;simp [hy])),optInt_same (s:=s) (t:=t) (x:=hi) (fun y hy=>he y (by simp [Op.operands] at hy ⊢;simp [hy])),hp,hl',hu,Option.bind_some,hH rfl];exact ret1_step h hH
 case fieldAddr ty x f=>
  simp only [op,Option.bind_eq_some_iff] at h;obtain ⟨p,hp,fd,hfd,n,hn,h⟩:=h;simp only [op,he x (by simp [Op.operands]),hp,hfd,hn,Option.bind_some];split at h
  · simp at h
  · rename_i h0;rw [if_neg h0];simp only [Option.map_eq_some_iff] at h ⊢;obtain ⟨u,hu,h⟩:=h;simp at h;obtain ⟨rfl,rfl⟩:=h;exact ⟨t,⟨u,hu,rfl⟩,.same hH⟩
 case field ty x f=>
  simp only [op,Option.bind_eq_some_iff] at h;obtain ⟨p,hp,h⟩:=h;simp only [op,hv x (by simp [Op.operands]),hp,Option.bind_some];split at h
  · simp only [Option.bind_eq_some_iff] at h;obtain ⟨fd,hfd,h⟩:=h;simp only [hfd,Option.bind_some];exact ret1_step h hH
  · simp at h
 case indexAddr ty x i=>
  simp only [op,Option.bind_eq_some_iff] at h;obtain ⟨p,hp,u,hu,n,hn,h⟩:=h;simp only [touch,hp] at hH hB ⊢;simp only [op,he x (by simp [Op.operands]),hv i (by simp [Op.operands]),hp,hu,hn,Option.bind_some,indexAddr_step hH];simp only [Option.map_eq_some_iff] at h ⊢;obtain ⟨y,hy,h⟩:=h;simp at h;obtain ⟨rfl,rfl⟩:=h;exact ⟨t,⟨y,hy,rfl⟩,.same hH⟩
 case index ty x i=>
  simp only [op,Option.bind_eq_some_iff] at h;obtain ⟨p,hp,u,hu,n,hn,h⟩:=h;simp only [op,hv x (by simp [Op.operands]),hv i (by simp [Op.operands]),hp,hu,hn,Option.bind_some];exact ret1_step h hH
 case lookup ty x i ok=>
  simp only [op,Option.bind_eq_some_iff] at h;obtain ⟨p,hp,u,hu,h⟩:=h;simp only [op,hv x (by simp [Op.operands]),hv i (by simp [Op.operands]),hp,hu,Option.bind_some,hH rfl];exact ret1_step h hH
 case mapUpdate ty m k x=>
  simp only [op,Option.bind_eq_some_iff,Option.map_eq_some_iff] at h;obtain ⟨p,hp,u,hu,y,hy,H,hm,h⟩:=h;simp at h;obtain ⟨rfl,rfl⟩:=h;simp only [op,hv m (by simp [Op.operands]),hv k (by simp [Op.operands]),hv x (by simp [Op.operands]),hp,hu,hy,hm,Option.bind_some,Option.map_some,hH rfl];exact ⟨_,rfl,.heap (mapUpdate_quiet hm)⟩
 case insert ty m k x=>
  simp only [op,Option.bind_eq_some_iff,Option.map_eq_some_iff] at h;obtain ⟨p,hp,u,hu,y,hy,H,hm,h⟩:=h;simp at h;obtain ⟨rfl,rfl⟩:=h;simp only [op,hv m (by simp [Op.operands]),hv k (by simp [Op.operands]),hv x (by simp [Op.operands]),hp,hu,hy,hm,Option.bind_some,Option.map_some,hH rfl];exact ⟨_,rfl,.heap (mapUpdate_quiet hm)⟩
 case extract x i=>
  simp only [op,Option.bind_eq_some_iff] at h;obtain ⟨p,hp,h⟩:=h;simp only [op,hv x (by simp [Op.operands]),hp,Option.bind_some];split at h
  · simp only [Option.map_eq_some_iff] at h ⊢;obtain ⟨y,hy,h⟩:=h;simp at h;obtain ⟨rfl,rfl⟩:=h;exact ⟨t,⟨y,hy,rfl⟩,.same hH⟩
  · simp at h
 case call c=>
  obtain ⟨callee,args,argTypes⟩:=c;simp only [op,Option.bind_eq_some_iff] at h;obtain ⟨l,hl',h⟩:=h;have hvs:vals A t.e args.toList=some l:=by rw [<- hl'];exact vals_same fun x hx=>he x (by simp only [Op.operands];unfold Call.operands;cases callee<;>simp_all)
  have pure:∀ (b:Builtin),callee= .builtin b->(b= .max\/b= .min\/(b= .len/\∀ m,l≠[.mp m]))->∃ t',op A call locs t ⟨dst,.call ⟨callee,args,argTypes⟩,type,pos,after,guard⟩=some (v,t')/\Stp .no s s' t t':=fun b hb hp=>by
    subst hb;simp only [retH,Option.map_eq_some_iff] at h;obtain ⟨⟨a,H⟩,ha,h⟩:=h;simp at h;obtain ⟨rfl,rfl⟩:=h;obtain ⟨rfl,h2⟩:=builtin_pure hp ha;exact ⟨t,by simp [op,hvs,retH,h2 t.H],.same (fun h=>by cases h)⟩
  by_cases hpb:(∃ b,callee= .builtin b/\(b= .max\/b= .min\/(b= .len/\∀ m,l≠[.mp m])))
  · obtain ⟨b,rfl,hp⟩:=hpb;have ht:touch A locs s ⟨dst,.call ⟨.builtin b,args,argTypes⟩,type,pos,after,guard⟩ q= .no:=by
      rcases hp with rfl|rfl|⟨rfl,hp⟩
      · rfl
      · rfl
      · simp only [touch,hl'];unfold touchLen;split
        · rename_i m e;simp at e;exact absurd e (hp m)
        · rfl
        · rename_i e;simp at e
    rw [ht];exact pure b rfl hp
  obtain ⟨wr,hwr⟩:∃ wr,touch A locs s ⟨dst,.call ⟨callee,args,argTypes⟩,type,pos,after,guard⟩ q= .heap wr:=by
    cases callee with
    |builtin b=>
      cases b<;>first|exact ⟨_,rfl⟩|(exact absurd ⟨_,rfl,.inl rfl⟩ hpb)|(exact absurd ⟨_,rfl,.inr (.inl rfl)⟩ hpb)|skip
      have:∃ m,l=[.mp m]:=by
        rcases Classical.em (∃ m,l=[.mp m]) with h'|h'
        · exact h'
        · exact absurd ⟨_,rfl,.inr (.inr ⟨rfl,fun m e=>h' ⟨m,e⟩⟩)⟩ hpb
      obtain ⟨m,rfl⟩:=this;exact ⟨false,by simp only [touch,hl',touchLen]⟩
    |_=>exact ⟨_,rfl⟩
  rw [hwr] at hH ⊢;simp only [op,hvs,Option.bind_some,hH rfl];cases callee with
  |value f=>
    simp only [Option.bind_eq_some_iff] at h;obtain ⟨gv,hg,h⟩:=h;simp only [hv f (by simp [Op.operands,Call.operands]),hg,Option.bind_some];exact retH_step h fun a H=>hq _ _ _ _ _
  |builtin b=>exact retH_step h fun a H=>builtin_quiet
  |_=>simp at h
 all_goals simp [op] at h
end
end
end Go.V
namespace Go.V
open Go
section
variable {A:Par} {call:Callee} {locs keep:List Nat} {n:Nat}
theorem op_quiet {s s':S} {o:Oper} {v:SV} (hq:CalleeQuiet call) (h:op A call locs s o=some (v,s')):Quiet s.H s'.H/\s'.e=s.e:=by
 obtain ⟨t',_,h2⟩:=op_step (q:=false) (t:=s) hq h (fun _ _=>rfl) (fun _=>rfl) rfl (fun _ _ _=>rfl);exact ⟨h2.q,h2.e1⟩
theorem put_HF {s s':S} {n:Nat} {dst:Option Nat} {v:SV} (h:put s n dst v=some s'):s'.H=s.H/\s'.F=s.F:=by
 unfold put at h;split at h
 · simp at h;subst h;exact ⟨rfl,rfl⟩
 · split at h
   · simp at h;subst h;exact ⟨rfl,rfl⟩
   · simp at h
theorem ops_quiet {all:Array Oper} (hq:CalleeQuiet call):∀ (l:List Oper) (s s':S),ops A call locs n all l s=some s'->Quiet s.H s'.H
 |[],s,s',h=>by simp [ops] at h;subst h;exact .refl _
 |o::l,s,s',h=>by
  simp only [ops,Option.bind_eq_some_iff] at h;obtain ⟨b,hb,h⟩:=h;cases b with
  |true=>
   simp only [Option.bind_eq_some_iff] at h;obtain ⟨⟨v,s1⟩,hop,s2,hput,h⟩:=h;have:=ops_quiet hq l s2 s' h;rw [(put_HF hput).1] at this;exact (op_quiet hq hop).1.trans this
  |false=>
   simp only [Option.bind_eq_some_iff] at h;obtain ⟨s1,hput,h⟩:=h;have:=ops_quiet hq l s1 s' h;rw [(put_HF hput).1] at this;exact this
theorem opD_quiet {s s':S} {o:Oper} {v:SV} {t:Tch} (hq:CalleeQuiet call) (h:opD A call locs t s o=some (v,s')):Quiet s.H s'.H:=by
 have hmap:∀ {s':S},(op A call locs { s with H:={ s.H with wm:=s.H.bl.length } } o).map (fun (v,s')=>(v,{ s' with H:={ s'.H with wm:=s.H.wm } }))=some (v,s')->Quiet s.H s'.H:=fun h=>by
   simp only [Option.map_eq_some_iff] at h;obtain ⟨⟨u,s1⟩,h1,h⟩:=h;simp at h;obtain ⟨_,rfl⟩:=h;obtain ⟨q1,q2,q3⟩:=(op_quiet hq h1).1;exact ⟨rfl,q2,fun b _ hl=>q3 b hl hl⟩
 unfold opD at h;split at h
 · exact (op_quiet hq h).1
 · exact hmap h
theorem opsD_quiet {all:Array Oper} {b:List Nat} (hq:CalleeQuiet call):∀ (l:List Oper) (i:Nat) (s:S) (x:List Tch) (rs:List (Oper×List (Nat×SV)×SV)) (s':S) (y:List Tch),opsD A call locs n all b l i s x rs=some (s',y)->Quiet s.H s'.H
 |[],i,s,x,rs,s',y,h=>by simp [opsD] at h;obtain ⟨rfl,_⟩:=h;exact .refl _
 |o::l,i,s,x,rs,s',y,h=>by
  simp only [opsD,Option.bind_eq_some_iff] at h;obtain ⟨b,hb,h⟩:=h;cases b with
  |true=>
   simp only at h;split at h
   · simp only [Option.bind_eq_some_iff] at h;obtain ⟨⟨v,s1⟩,hop,h⟩:=h;split at h
     case isFalse=>simp at h
     simp only [Option.bind_eq_some_iff] at h;obtain ⟨s2,hput,h⟩:=h;split at h
     case isFalse=>simp at h
     have:=opsD_quiet hq l _ s2 _ _ s' y h;rw [(put_HF hput).1] at this;exact this
   · simp only [Option.bind_eq_some_iff] at h;obtain ⟨⟨v,s1⟩,hop,s2,hput,h⟩:=h;split at h
     case isFalse=>simp at h
     have:=opsD_quiet hq l _ s2 _ _ s' y h;rw [(put_HF hput).1] at this;exact (opD_quiet hq hop).trans this
  |false=>
   simp only [Option.bind_eq_some_iff] at h;obtain ⟨s1,hput,h⟩:=h;split at h
   case isFalse=>simp at h
   have:=opsD_quiet hq l _ s1 _ _ s' y h;rw [(put_HF hput).1] at this;exact this
theorem region_quiet {s s':S} {os:Array Oper} {draw:Bool} (hq:CalleeQuiet call) (h:region A call locs n os draw s=some s'):Quiet s.H s'.H:=by
 unfold region at h;split at h
 · split at h
   · simp only [Option.bind_eq_some_iff] at h;obtain ⟨⟨s1,l⟩,h1,h⟩:=h;split at h
     · simp at h;subst h;exact opsD_quiet hq _ _ _ _ _ _ _ h1
     · simp at h
   · simp at h
 · exact ops_quiet hq _ _ _ h
theorem code_quiet (hq:CalleeQuiet call) {rf:Bool}:∀ (c:Code) (s:S) (ex:Ex) (s':S),code A call rf locs keep n c s=some (ex,s')->Quiet s.H s'.H:=by
 intro c;induction c with
 |skip=>intro s ex s' h;simp [code] at h;obtain ⟨_,rfl⟩:=h;exact .refl _
 |label l=>intro s ex s' h;simp [code] at h;obtain ⟨_,rfl⟩:=h;exact .refl _
 |exit id=>intro s ex s' h;simp [code] at h;obtain ⟨_,rfl⟩:=h;exact .refl _
 |ret=>intro s ex s' h;simp [code] at h;obtain ⟨_,rfl⟩:=h;exact .refl _
 |region id os draw=>
  intro s ex s' h;simp only [code,Option.map_eq_some_iff] at h;obtain ⟨s1,h1,h⟩:=h;simp at h;obtain ⟨_,rfl⟩:=h;exact region_quiet hq h1
 |seq x y ihx ihy=>
  intro s ex s' h;simp only [code,Option.bind_eq_some_iff] at h;obtain ⟨⟨e1,s1⟩,h1,h⟩:=h;cases e1 with
  |normal=>exact (ihx _ _ _ h1).trans (ihy _ _ _ h)
  |exit id=>simp at h;obtain ⟨_,rfl⟩:=h;exact ihx _ _ _ h1
  |ret=>simp at h;obtain ⟨_,rfl⟩:=h;exact ihx _ _ _ h1
 |cond c x y ihx ihy=>
  intro s ex s' h;simp only [code,Option.bind_eq_some_iff] at h;obtain ⟨cv,_,h⟩:=h;split at h
  · split at h
    · exact ihx _ _ _ h
    · exact ihy _ _ _ h
  · simp at h
 |block id c ih=>
  intro s ex s' h;simp only [code,Option.bind_eq_some_iff] at h;obtain ⟨⟨e1,s1⟩,h1,h⟩:=h;have:=ih _ _ _ h1;cases e1 with
  |normal=>simp at h;obtain ⟨_,rfl⟩:=h;exact this
  |ret=>simp at h;obtain ⟨_,rfl⟩:=h;exact this
  |exit id'=>
    simp only at h;split at h<;>simp at h<;>obtain ⟨_,rfl⟩:=h<;>exact this
 |loop c ih=>
  intro s ex s' h;simp only [code] at h;generalize loopMost=k at h;induction k generalizing s with
  |zero=>simp [loopN] at h
  |succ k ihk=>
    simp only [loopN,Option.bind_eq_some_iff] at h;obtain ⟨⟨e1,s1⟩,h1,h⟩:=h;have:=ih _ _ _ h1;cases e1 with
    |normal=>exact Quiet.trans (H:=s.H) this (ihk _ h)
    |exit id=>simp at h;obtain ⟨_,rfl⟩:=h;exact this
    |ret=>simp at h;obtain ⟨_,rfl⟩:=h;exact this
 |rangeFunc fx ps assign body=>
  intro s ex s' h;simp only [code] at h;split at h
  case isFalse=>simp at h
  simp only [Option.bind_eq_some_iff] at h;obtain ⟨fv,_,env,_,_,_,⟨r,H2⟩,hcall,h⟩:=h;split at h
  case h_2=>simp at h
  simp only [Option.bind_eq_some_iff] at h;obtain ⟨_,_,h⟩:=h;split at h
  case isFalse=>simp at h
  rename_i hwm;simp only [Option.map_eq_some_iff] at h;obtain ⟨ex2,_,h⟩:=h;simp at h;obtain ⟨_,rfl⟩:=h;exact ((Quiet.push _ _).trans (hq _ _ _ _ _ hcall)).trans (.set hwm _)
 |scope c ih=>intro s ex s' h;simp only [code] at h;exact ih _ _ _ h
 |goto=>intro s ex s' h;simp [code] at h
 |refuse=>intro s ex s' h;simp [code] at h
def ExtQuiet (A:Par):Prop:=∀ f h,A.ext f=some h->∀ args H r H',h args H=some (r,H')->Quiet H H'
theorem call_quiet (hE:ExtQuiet A):∀ k,CalleeQuiet (V.call A k)
 |0=>fun fv args H r H' h=>by simp [V.call] at h
 |k+1=>fun fv args H r H' h=>by
  cases fv
  case fn f caps=>
   simp only [V.call] at h;split at h
   · rename_i e he;exact hE f e he _ _ _ _ h
   · split at h
     case h_1=>simp at h
     split at h
     case h_1=>simp at h
     split at h
     case isFalse=>simp at h
     simp only [Option.bind_eq_some_iff] at h;obtain ⟨⟨ex,s1⟩,hcode,h⟩:=h;have hq:=code_quiet (call_quiet hE k) _ _ _ _ hcode;have hfin:∀ l,(if A.frz f=true then freeze 8 s1.H (result l) else some (result l,s1.H))=some (r,H')->Quiet H H':=fun l h=>by
      split at h
      · exact Quiet.trans (H:=H) hq (freeze_quiet _ _ _ _ _ h)
      · simp at h;obtain ⟨_,rfl⟩:=h;exact hq
     cases ex with
     |exit id=>simp at h
     |normal=>simp only [Option.bind_eq_some_iff] at h;obtain ⟨l,_,h⟩:=h;exact hfin l h
     |ret=>simp only [Option.bind_eq_some_iff] at h;obtain ⟨l,_,h⟩:=h;exact hfin l h
  case yl b=>
   simp only [V.call] at h;split at h
   case h_2=>simp at h
   split at h
   case isFalse=>simp at h
   rename_i hc;simp only [Option.bind_eq_some_iff] at h;obtain ⟨⟨ex1,s1⟩,hcode1,h⟩:=h;split at h
   case h_2=>simp at h
   rename_i heq;simp at heq;obtain ⟨rfl,rfl⟩:=heq;split at h
   case h_2=>simp at h
   simp only [Option.bind_eq_some_iff] at h;obtain ⟨⟨ex2,s2⟩,hcode2,h⟩:=h;split at h
   case h_2=>simp at h
   simp at h;obtain ⟨_,rfl⟩:=h;have q1:=code_quiet (call_quiet hE k) _ _ _ _ hcode1;have q2:=code_quiet (call_quiet hE k) _ _ _ _ hcode2;have w1:s1.H.wm=H.wm:=q1.1;have w2:s2.H.wm=s1.H.wm:=q2.1;have k1:∀ x,Quiet s1.H (setBl s1.H b x):=fun x=>Quiet.set (by rw [w1];exact hc.2.1) x
   exact Quiet.trans (H:=H) (Quiet.trans (Quiet.trans q1 (k1 _)) q2) (.set (by show s2.H.wm<=b;rw [w2,w1];exact hc.2.1) _)
  all_goals simp [V.call] at h
end
end Go.V
namespace Go.V
open Go
section
variable {A:Par} {g:Gx} {f:Fx} {w:World} {s:S} {a:Act} {call:Callee} {locs:List Nat}
theorem put_spec {s s':S} {n:Nat} {dst:Option Nat} {v:SV} (h:put s n dst v=some s'):s'.F=s.F/\s'.H=s.H/\((dst=none/\s'.e=s.e)\/∃ d,dst=some d/\d<n/\s'.e=(d,v)::s.e):=by
 unfold put at h;split at h
 · simp at h;subst h;exact ⟨rfl,rfl,.inl ⟨rfl,rfl⟩⟩
 · rename_i d;split at h
   · rename_i hd;simp at h;subst h;exact ⟨rfl,rfl,.inr ⟨d,rfl,hd,rfl⟩⟩
   · simp at h
theorem getD_set {tmps:Array Value} {d:Nat} {rv:Value} (t:Nat) (hd:d<tmps.size):(tmps.setIfInBounds d rv).getD t undef=if t=d then rv else tmps.getD t undef:=by
 simp only [Array.getD_eq_getD_getElem?,Array.getElem?_setIfInBounds];by_cases h:d=t
 · subst h;simp [hd]
 · rw [if_neg h,if_neg (fun e=>h e.symm)]
theorem env_put {s':S} {n:Nat} {dst:Option Nat} {v:SV} {rv:Value} (h:put s n dst v=some s') (he:EnvRel g f w s.e a.tmps) (hn:a.tmps.size=n) (hv:SVRel g f w v rv):EnvRel g f w s'.e (a.put dst rv).tmps/\(a.put dst rv).tmps.size=n/\(a.put dst rv).defers=a.defers:=by
 obtain ⟨_,_,⟨rfl,h3⟩|⟨d,rfl,hd,h3⟩⟩:=put_spec h
 · rw [h3];exact ⟨he,hn,rfl⟩
 · rw [h3];refine ⟨fun t=> ?_,by simp [Act.put,hn],rfl⟩;simp only [Act.put,get];rw [getD_set t (by omega)];by_cases ht:t=d
   · rw [if_pos ht,if_pos ht];exact hv
   · rw [if_neg ht,if_neg ht];exact he t
theorem undef_rel (g:Gx) (w:World):VRel g w (.tup []) undef:=VRel.tup [] [] rfl fun i x v h=>by simp at h
theorem guard_sound {all:Array Oper} {o:Oper} {b:Bool} (h:guardOn all s o=some b) (he:EnvRel g f w s.e a.tmps):Region.wanted o (yielded all a.tmps)=b:=by
 unfold guardOn at h;unfold Region.wanted;split at h
 · rename_i hg;simp at h;subst h;simp [hg]
 · rename_i j want hg;simp only [hg];split at h
   · rename_i d hd;split at h
     · rename_i b' hb';simp at h;subst h;have:=he d;rw [hb'] at this;have hv:a.tmps.getD d undef= .bool b':=by
        generalize a.tmps.getD d undef=v at this;have this':VRel g w (.bool b') v:=this;cases this';rfl
       have h2:a.tmps[d]?=some (.bool b'):=by
        rw [Array.getD_eq_getD_getElem?] at hv;cases hx:a.tmps[d]? with
        |none=>rw [hx] at hv;simp [undef] at hv
        |some v=>rw [hx] at hv;simp at hv;rw [hv]
       have h3:yielded all a.tmps j=some b':=by simp [yielded,hd,h2]
       rw [h3];cases b'<;>cases want<;>rfl
     · rename_i hb';simp at h;subst h;have:=he d;rw [hb'] at this;have hv:a.tmps.getD d undef=undef:=by
        generalize a.tmps.getD d undef=v at this;have this':VRel g w (.tup []) v:=this;cases this' with
        |tup _ vs hl _=>
         have:vs=[]:=List.length_eq_zero_iff.1 hl;subst this;rfl
       have h3:yielded all a.tmps j=none:=by
        rw [Array.getD_eq_getD_getElem?] at hv;simp only [yielded,hd,Option.bind_some];cases hx:a.tmps[d]? with
        |none=>rfl
        |some v=>rw [hx] at hv;simp [undef] at hv;rw [hv]
       rw [h3];cases want<;>rfl
     · simp at h
   · simp at h
def Goes (G:Nat->Option (List AV)) (g:Gx) (f:Fx) (w:World) (s s':S) (n:Nat) (a:Act) (K:Act->World->Prop):Prop:=
 ∀ g' f' a' w',St G g' f' s' n a' w'->FExt g f w s.H s.F g' f' w' s'.H s'.F->DExt w a.defers a'.defers->K a' w'
theorem env_mono {g':Gx} {f':Fx} {w':World} {s':S} (hw:WRel A.glob g w s.H) (hf:FRel g f w s.H s.F) (hx:FExt g f w s.H s.F g' f' w' s'.H s'.F) (he:EnvRel g f w s.e a.tmps):EnvRel g' f' w' s.e a.tmps:=
 fun t=>(he t).mono (hx.le hw hf) hx.E
theorem ops_sound {F:Fence} {m n:Nat} {all:Array Oper} {Q:Exit->Act->World->Prop} (hC:CallGoes A call) (hF:Wide F):∀ (l:List Oper) (i:Nat) (g:Gx) (f:Fx) (s s':S) (a:Act) (w:World),(∀ k,l[k]?=all[i+k]?)->ops A call locs n all l s=some s'->St A.glob g f s n a w->Goes A.glob g f w s s' n a (Q .normal)->
  wpOpsIn F m A.P all Q (List.range' i l.length) a w
 |[],i,g,f,s,s',a,w,_,h,hst,hk=>by
  simp [ops] at h;subst h;exact hk g f a w hst (.refl _ _ _ _ _) (.refl _ _)
 |o::l,i,g,f,s,s',a,w,hl,h,hst,hk=>by
  have ho:all[i]?=some o:=by have:=hl 0;simpa using this.symm
  have hl':∀ k,l[k]?=all[i+1+k]?:=fun k=>by have:=hl (k+1);rw [show i+1+k=i+(k+1) by omega,<- this];simp
  simp only [ops,Option.bind_eq_some_iff] at h;obtain ⟨b,hb,h⟩:=h;have hwant:=guard_sound hb hst.he;rw [List.length_cons,List.range'_succ];simp only [wpOpsIn,ho,hwant];cases b with
  |true=>
   simp only [Option.bind_eq_some_iff] at h;obtain ⟨⟨v,s1⟩,hop,s2,hput,h⟩:=h;rw [if_pos rfl];refine op_sound hC hop hst.hw hst.hf hst.he hF (fun t x y ho i c hx=>hst.hW i (by have:=operand_sound hx hst.hw hst.he;exact this.1)) fun hse g1 f1 w1 rv hw1 hf1 hx1 hv1=> ?_
   obtain ⟨e1,e2,e3⟩:=put_spec hput;have he1:EnvRel g1 f1 w1 s1.e a.tmps:=by rw [hse];exact env_mono hst.hw hst.hf hx1 hst.he
   obtain ⟨p1,p2,p3⟩:=env_put hput he1 hst.hn hv1;refine ops_sound hC hF l (i+1) g1 f1 s2 s' (a.put o.dst rv) w1 hl' h ⟨by rw [e2];exact hw1,by rw [e1,e2];exact hf1,p1,p2,by rw [p3];exact hst.hm.step hst.hw hst.hf hx1,hx1.allW hst.hW⟩ fun g' f' a' w' h1 h2 h3=>hk g' f' a' w' h1 ?_ (DExt.trans hx1.size (by rw [p3];exact .refl _ _) h3)
   rw [e1,e2] at h2;exact hx1.trans h2
  |false=>
   simp only [Option.bind_eq_some_iff] at h;obtain ⟨s1,hput,h⟩:=h;rw [if_neg (by simp)];refine ⟨fun f _=>hF.fn f,?_⟩;obtain ⟨e1,e2,e3⟩:=put_spec hput;obtain ⟨p1,p2,p3⟩:=env_put (rv:=undef) hput hst.he hst.hn (undef_rel g w);refine ops_sound hC hF l (i+1) g f s1 s' (a.put o.dst undef) w hl' h ⟨by rw [e2];exact hst.hw,by rw [e1,e2];exact hst.hf,p1,p2,by rw [p3];exact hst.hm,hst.hW⟩ fun g' f' a' w' h1 h2 h3=>hk g' f' a' w' h1 (by rw [e1,e2] at h2;exact h2) (by rw [p3] at h3;exact h3)
theorem region_plain {F:Fence} {m n id:Nat} {all:Array Oper} {s':S} {Q:Exit->Act->World->Prop} (hC:CallGoes A call) (hF:Wide F) (h:region A call locs n all false s=some s') (hst:St A.glob g f s n a w) (hk:Goes A.glob g f w s s' n a (Q .normal)):
  (Code.region id all false).wpIn F m A.P Q a w:=by
 refine wpIn_region ?_;have hs:List.range all.size=List.range' 0 all.toList.length:=by simp [List.range_eq_range']
 rw [hs];exact ops_sound hC hF all.toList 0 g f s s' a w (fun k=>by simp) (by simpa [region] using h) hst hk
end
end Go.V
namespace Go.V
open Go
def Ex.exit':Ex->Exit
 | .normal=> .normal
 | .exit id=> .exit id
 | .ret=> .ret
def DrawGoes (A:Par):Prop:=
 ∀ (call:Callee) (locs:List Nat),CallGoes A call->CalleeQuiet call->∀ (F:Fence) (m n id:Nat) (all:Array Oper) (g:Gx) (f:Fx) (s s':S) (a:Act) (w:World) (Q:Exit->Act->World->Prop),Wide F->
  region A call locs n all true s=some s'->St A.glob g f s n a w->Goes A.glob g f w s s' n a (Q .normal)->(Code.region id all true).wpIn F m A.P Q a w
section
variable {A:Par} {call:Callee} {locs keep:List Nat}
theorem get_clean (keep:List Nat) (e:List (Nat×SV)) (t:Nat):get (keep.map fun i=>(i,get e i)) t=get e t\/get (keep.map fun i=>(i,get e i)) t= .v .junk:=by
 induction keep with
 |nil=>exact .inr rfl
 |cons k ks ih=>
  simp only [List.map_cons,get];by_cases h:t=k
  · rw [if_pos h,h];exact .inl rfl
  · rw [if_neg h];exact ih
theorem St.clean {g:Gx} {f:Fx} {s:S} {n:Nat} {a:Act} {w:World} (h:St A.glob g f s n a w):St A.glob g f (clean keep s) n a w:=
 ⟨h.hw,h.hf,fun t=>by
  rcases get_clean keep s.e t with h1|h1
  · show SVRel g f w (get (keep.map fun i=>(i,get s.e i)) t) _;rw [h1];exact h.he t
  · show SVRel g f w (get (keep.map fun i=>(i,get s.e i)) t) _;rw [h1];exact VRel.junk _,h.hn,h.hm,h.hW⟩
def FnsOK (A:Par):Prop:=∀ f fn,A.fns f=some fn->A.P.funcs[f]?=some fn/\(fn.name== "runtime.NumGoroutine")=false
theorem run_callFunc (hFn:FnsOK A) {f:FuncId} {fn:Func} (h:A.fns f=some fn) (hb:fn.body.isSome=true) (args:Array Value) (w:World):(callFunc f args).run A.P w= .ok (.enter f args) w:=by
 obtain ⟨h1,h2⟩:=hFn f fn h;have hn:fn.body.isNone=false:=by cases hx:fn.body<;>simp_all
 unfold callFunc;simp only [program,Sem.run_bind,Sem.run,h1,Result.andThen,h2,hn];rfl
theorem run_enter (hFn:FnsOK A) {f:FuncId} {fn:Func} (h:A.fns f=some fn) (hb:fn.body.isSome=true) (vs args:Array Value) (w:World):
  ((do let d <- Deferred.ofValue (.func (.func f) #[] vs) args;invoke d.target d.args:Sem Next).run A.P w)= .ok (.enter f (args++vs)) w:=by
 simp [Deferred.ofValue,invoke,go_sem,run_callFunc hFn h hb]
theorem get_envIn {e:List (Nat×SV)}:∀ {is:List Nat} {env:List (Nat×AV)},envOf e is=some env->∀ t,get (envIn env) t=get e t\/get (envIn env) t= .v .junk
 |[],env,h,t=>by simp [envOf] at h;subst h;exact .inr rfl
 |i::is,env,h,t=>by
  simp only [envOf,Option.bind_eq_some_iff,Option.map_eq_some_iff] at h;obtain ⟨a,ha,l,hl,rfl⟩:=h;simp only [envIn,get];split
  · rename_i e0;subst e0;split at ha
    · rename_i b hb;simp at ha;subst ha;left;rw [hb]
    · simp at ha;subst ha;exact .inr rfl
  · exact get_envIn hl t
theorem Marks.lt {g:Gx} {w:World}:∀ {ds:List Deferred},Marks g w ds->∀ d∈ds,∃ r,d.target= .collected r/\r<w.heap.size
 |[],_,d,h=>by simp at h
 |d0::ds,⟨⟨r,h1,h2,h3,h4⟩,hm⟩,d,h=>by
  rcases List.mem_cons.1 h with rfl|h
  · exact ⟨r,h1,getElem?_lt h2⟩
  · exact hm.lt d h
theorem jumpOf_eq {p:Option Code} {ex:Ex} (h:jumpOf p=some ex):p=ex.jump:=by
 unfold jumpOf at h;split at h<;>simp at h<;>subst h<;>rfl
theorem wpIn_scope {P:Program} {F:Fence} {m:Nat} {Q:Exit->Act->World->Prop} {a:Act} {w:World} {c:Code} (h:c.wpIn F m P (Exit.noGoto Q) a w):(Code.scope c).wpIn F m P Q a w:=by
 intro b k cs hro hb hr;have h0:(lone (b.atR a (.code (.scope c)::k)) cs w).fenced P F:=fenced_calm hb hr rfl;have s1:∀ {a:Act} {k:List Item} {w:World},step P (lone (b.atR a (.code (.scope c)::k)) cs w)= .next (lone (b.atR a (.code c:: .inScope c::k)) cs w):=step_lone_go (by simp [stepG,stepG.exec,Frame.atR])
 have s2:∀ {a:Act} {k:List Item} {w:World},step P (lone (b.atR a (.inScope c::k)) cs w)= .next (lone (b.atR a k) cs w):=step_lone_go (by simp [stepG,stepG.exec,Frame.atR])
 obtain ⟨e,a₁,w₁,hq,harr⟩:=h b (.inScope c::k) cs hro hb hr;cases e with
 |normal=>exact ⟨.normal,a₁,w₁,hq,.head h0 s1 (StepsIn.trans harr (.one (fenced_calm hb hr rfl) s2))⟩
 |exit id'=>
  have hx:exitTo id' (.inScope c::k)=exitTo id' k:=by simp [exitTo]
  exact ⟨.exit id',a₁,w₁,hq,fun k' hk=> .head h0 s1 (harr.1 k' (by rw [hx];exact hk)),
   fun hr' hk=>let ⟨k₁,h1,h2⟩:=harr.2 hr' (by rw [hx];exact hk);⟨k₁,h1,.head h0 s1 h2⟩⟩
 |goto l=>exact hq.elim
 |ret=>exact ⟨_,a₁,w₁,hq,.of_steps (.one h0 s1) harr⟩
 |panic ch=>exact ⟨_,a₁,w₁,hq,.of_steps (.one h0 s1) harr⟩
 |outgrown=>exact ⟨_,a₁,w₁,hq,.of_steps (.one h0 s1) harr⟩
theorem code_sound (hFn:FnsOK A) (hC:CallGoes A call) (hCq:CalleeQuiet call) (hD:DrawGoes A) {rf:Bool} {F:Fence} (hF:Wide F) (hro:rf=true->F.round=none) {m n:Nat}:∀ (c:Code) (g:Gx) (f:Fx) (s s':S) (ex:Ex) (a:Act) (w:World) (Q:Exit->Act->World->Prop),code A call rf locs keep n c s=some (ex,s')->St A.glob g f s n a w->Goes A.glob g f w s s' n a (Q ex.exit')->
  c.wpIn F m A.P Q a w:=by
 intro c;induction c with
 |skip=>
  intro g f s s' ex a w Q h hst hk;simp [code] at h;obtain ⟨rfl,rfl⟩:=h;exact wpIn_skip (hk g f a w hst (.refl _ _ _ _ _) (.refl _ _))
 |label l=>
  intro g f s s' ex a w Q h hst hk;simp [code] at h;obtain ⟨rfl,rfl⟩:=h;exact wpIn_label (hk g f a w hst (.refl _ _ _ _ _) (.refl _ _))
 |region id os draw=>
  intro g f s s' ex a w Q h hst hk;simp only [code,Option.map_eq_some_iff] at h;obtain ⟨s1,h1,h⟩:=h;simp at h;obtain ⟨rfl,rfl⟩:=h;cases draw with
  |true=>exact hD call locs hC hCq F m n id os g f s s1 a w Q hF h1 hst hk
  |false=>exact region_plain hC hF h1 hst hk
 |seq x y ihx ihy=>
  intro g f s s' ex a w Q h hst hk;simp only [code,Option.bind_eq_some_iff] at h;obtain ⟨⟨e1,s1⟩,h1,h⟩:=h;refine wpIn_seq (ihx g f s s1 e1 a w _ h1 hst ?_);intro g1 f1 a1 w1 hst1 hx1 hd1;cases e1 with
  |normal=>exact ihy g1 f1 s1 s' ex a1 w1 Q h hst1 fun g2 f2 a2 w2 h2 hx2 hd2=>hk g2 f2 a2 w2 h2 (hx1.trans hx2) (DExt.trans hx1.size hd1 hd2)
  |exit id=>simp at h;obtain ⟨rfl,rfl⟩:=h;exact hk g1 f1 a1 w1 hst1 hx1 hd1
  |ret=>simp at h;obtain ⟨rfl,rfl⟩:=h;exact hk g1 f1 a1 w1 hst1 hx1 hd1
 |cond c x y ihx ihy=>
  intro g f s s' ex a w Q h hst hk;simp only [code,Option.bind_eq_some_iff] at h;obtain ⟨cv,hcv,h⟩:=h;have hc:=val_sound hcv hst.hw hst.he;split at h
  · rename_i b;generalize hcc:a.eval c=v at hc;cases hc;refine wpIn_cond hcc ?_;cases b with
    |true=>exact ihx g f s s' ex a w Q (by simpa using h) hst hk
    |false=>exact ihy g f s s' ex a w Q (by simpa using h) hst hk
  · simp at h
 |block id c ih=>
  intro g f s s' ex a w Q h hst hk;simp only [code,Option.bind_eq_some_iff] at h;obtain ⟨⟨e1,s1⟩,h1,h⟩:=h;refine wpIn_block (ih g f s s1 e1 a w _ h1 hst ?_);intro g1 f1 a1 w1 hst1 hx1 hd1;cases e1 with
  |normal=>simp at h;obtain ⟨rfl,rfl⟩:=h;exact hk g1 f1 a1 w1 hst1 hx1 hd1
  |ret=>simp at h;obtain ⟨rfl,rfl⟩:=h;exact hk g1 f1 a1 w1 hst1 hx1 hd1
  |exit id'=>
    simp only at h;simp only [Ex.exit',Exit.inBlock];split at h
    · rename_i e;rw [if_pos e];simp at h;obtain ⟨rfl,rfl⟩:=h;exact hk g1 f1 a1 w1 hst1 hx1 hd1
    · rename_i e;rw [if_neg e];simp at h;obtain ⟨rfl,rfl⟩:=h;exact hk g1 f1 a1 w1 hst1 hx1 hd1
 |loop c ih=>
  intro g f s s' ex a w Q h hst hk;simp only [code] at h;refine wpIn_loop_rounds loopMost ?_;generalize loopMost=k at h ⊢;have key:∀ (k:Nat) (g1:Gx) (f1:Fx) (s1:S) (a1:Act) (w1:World),loopN (fun s=>code A call rf locs keep n c (clean keep s)) k s1=some (ex,s')->St A.glob g1 f1 s1 n a1 w1->Goes A.glob g1 f1 w1 s1 s' n a1 (Q ex.exit')->Code.roundsIn F m A.P c Q k a1 w1:=by
    intro k;induction k with
    |zero=>intro g1 f1 s1 a1 w1 h;simp [loopN] at h
    |succ k ihk=>
      intro g1 f1 s1 a1 w1 h hst1 hk1;simp only [loopN,Option.bind_eq_some_iff] at h;obtain ⟨⟨e2,s2⟩,h2,h⟩:=h;rw [roundsIn_succ];refine ih g1 f1 (clean keep s1) s2 e2 a1 w1 _ h2 hst1.clean ?_;intro g2 f2 a2 w2 hst2 hx2 hd2;cases e2 with
      |normal=>exact ihk g2 f2 s2 a2 w2 h hst2 fun g3 f3 a3 w3 h3 hx3 hd3=>hk1 g3 f3 a3 w3 h3 (hx2.trans hx3) (DExt.trans hx2.size hd2 hd3)
      |exit id=>simp at h;obtain ⟨rfl,rfl⟩:=h;exact hk1 g2 f2 a2 w2 hst2 hx2 hd2
      |ret=>simp at h;obtain ⟨rfl,rfl⟩:=h;exact hk1 g2 f2 a2 w2 hst2 hx2 hd2
  exact key k g f s a w h hst hk
 |exit id=>
  intro g f s s' ex a w Q h hst hk;simp [code] at h;obtain ⟨rfl,rfl⟩:=h;exact wpIn_exit (hk g f a w hst (.refl _ _ _ _ _) (.refl _ _))
 |ret=>
  intro g f s s' ex a w Q h hst hk;simp [code] at h;obtain ⟨rfl,rfl⟩:=h;exact wpIn_ret (hk g f a w hst (.refl _ _ _ _ _) (.refl _ _))
 |rangeFunc fx ps assign body=>
  intro g f s s' ex a w Q h hst hk;simp only [code] at h;split at h
  case isFalse=>simp at h
  case isTrue hrf=>
  simp only [Option.bind_eq_some_iff] at h;obtain ⟨fv,hfv,env,henv,_,hfn,⟨r,H2⟩,hcall,h⟩:=h;have hfr:=val_sound hfv hst.hw hst.he;split at hfn
  case h_2=>simp at hfn
  rename_i ff caps;split at hfn
  case h_2=>simp at hfn
  rename_i fn hfn1;split at hfn
  case isFalse=>simp at hfn
  rename_i hbody;split at h
  case h_2=>simp at h
  rename_i n2 keep2 env2 ps2 assign2 body2 st pend hb2;simp only [Option.bind_eq_some_iff] at h;obtain ⟨_,hbusy,h⟩:=h;split at h
  case isFalse=>simp at h
  rename_i hwm;simp only [Option.map_eq_some_iff] at h;obtain ⟨ex2,hjump,h⟩:=h;simp at h;obtain ⟨rfl,rfl⟩:=h;obtain ⟨vs,hev,hvl,hvr⟩:∃ vs:List Value,a.eval fx= .func (.func ff) #[] vs.toArray/\vs.length=caps.length/\∀ (i:Nat) (x:AV) (v:Value),caps[i]?=some x->vs[i]?=some v->VRel g w x v:=by
    generalize a.eval fx=v at hfr;cases hfr with
    |fn _ _ vs hl hr=>exact ⟨vs,rfl,hl,hr⟩
  refine wpIn_rangeFunc ?_;intro fn0 _;rw [hro hrf];obtain ⟨wa,hwa⟩:∃ wa,wa=w.alloc (.deferred (some [])):=⟨_,rfl⟩;obtain ⟨rec,hrec⟩:∃ rec:Loop,rec={ state:= .ready,pending:=none,fn:=fn0,tmps:=a.tmps,params:=ps,assign,body,defers:=w.heap.size }:=⟨_,rfl⟩;obtain ⟨w1,hw1⟩:∃ w1,w1=wa.alloc (.loop rec):=⟨_,rfl⟩;have hsa:wa.heap.size=w.heap.size+1:=by rw [hwa];simp
  have hs1:w1.heap.size=w.heap.size+2:=by rw [hw1];simp [hsa]
  have hoa:∀ R,R<w.heap.size->wa.heap[R]?=w.heap[R]?:=fun R hR=>by rw [hwa];show (w.heap.push _)[R]?=_;simp [Array.getElem?_push,Nat.ne_of_lt hR]
  have ho1:∀ R,R<wa.heap.size->w1.heap[R]?=wa.heap[R]?:=fun R hR=>by rw [hw1];show (wa.heap.push _)[R]?=_;simp [Array.getElem?_push,Nat.ne_of_lt hR]
  have hl1:w1.heap[w.heap.size+1]?=some (.loop rec):=by rw [hw1,<- hsa];exact World.alloc_heap_new _ _
  have hd1:wa.heap[w.heap.size]?=some (.deferred (some [])):=by rw [hwa];exact World.alloc_heap_new _ _
  obtain ⟨pa,pb,pc⟩:=more_world (hio:=by subst hwa;exact ⟨rfl,rfl⟩) hst.hw hst.hf (by omega) hoa;obtain ⟨qa,qb,qc⟩:=new_block (x:= .loop n keep env ps.toList assign body .ready none) (l:=⟨w.heap.size+1,0,0,0⟩) pa pb (w':=w1) (hio:=by subst hw1;exact ⟨rfl,rfl⟩) (by omega) (by rw [hsa]) (by omega) ho1 (fun hle=>by
    refine ⟨rec,hl1,fun hz=> ?_,by rw [hrec],by rw [hrec],by rw [hrec],by rw [hrec],by rw [hrec],by rw [hrec];exact hst.hn,fun t x hx=> ?_⟩
    · have:=hst.hw.zlt _ hz;simp at this;omega
    · rcases get_envIn henv t with h1|h1
      · rw [h1] at hx;have:=hst.he t;rw [hx] at this;rw [hrec];exact (VRel.mono (pc.le hst.hw hst.hf) this).mono hle
      · rw [h1] at hx;simp at hx;subst hx;exact .junk _)
  have hlen:((g.add s.H.bl.length ⟨w.heap.size+1,0,0,0⟩).ρ s.H.bl.length).R=w.heap.size+1:=by rw [add_new]
  have hDb:(g.add s.H.bl.length ⟨w.heap.size+1,0,0,0⟩).D s.H.bl.length:= .inr rfl;have hyl:VRel (g.add s.H.bl.length ⟨w.heap.size+1,0,0,0⟩) w1 (.yl s.H.bl.length) (.func (.yield (w.heap.size+1)) #[] #[]):=by have:=VRel.yl (w:=w1) _ hDb;rw [hlen] at this;exact this
  have hle1:=(pc.trans qc).le hst.hw hst.hf;have hfv1:VRel (g.add s.H.bl.length ⟨w.heap.size+1,0,0,0⟩) w1 (.fn ff caps) (.func (.func ff) #[] vs.toArray):= .fn ff caps vs hvl fun i x v hx hv=>(hvr i x v hx hv).mono hle1
  refine ⟨w.heap.size+1,[{ target:= .collected w.heap.size,args:= #[] }],w1,{ target:= .fn (.func ff) vs.toArray,args:= #[.func (.yield (w.heap.size+1)) #[] #[]] },w1,ff,
    #[.func (.yield (w.heap.size+1)) #[] #[]]++vs.toArray,w1,?_,?_,fun f' _=>hF.fn f',?_,fun hd=>by rw [hF.depth] at hd;simp at hd,?_⟩
  · rw [hw1,hwa,hrec];exact run_enterLoop_outer _ _ _ _ _
  · simp only [resolve,hev];simp [Deferred.ofValue,go_sem]
  · simp [invoke,go_sem,run_callFunc hFn hfn1 hbody]
  · have hgo:=hC (.fn ff caps) [.yl s.H.bl.length] _ _ _ hcall _ w1 _ [.func (.yield (w.heap.size+1)) #[] #[]] qa hfv1 rfl (fun i x v hx hv=>by
      cases i with
      |zero=>simp at hx hv;subst hx;subst hv;exact hyl
      |succ i=>simp at hx) F m { (default:Oper) with dst:=none } { a with defers:=[{ target:= .collected w.heap.size,args:= #[] }]++a.defers }
      (fun _ w3=>∃ jump w4,(Instr.endLoop (w.heap.size+1)).run A.P w3= .ok jump w4/\(match jump with|none=>Q .normal { a with defers:=[{ target:= .collected w.heap.size,args:= #[] }]++a.defers } w4|some c=>c.wpIn F m A.P Q { a with defers:=[{ target:= .collected w.heap.size,args:= #[] }]++a.defers } w4)) Q hF (fun g2 w2 rv hrv hw2 hx2=> ?_)
    · rw [run_enter hFn hfn1 hbody] at hgo;simp only [Oper.uponIn] at hgo;refine CallsIn.mono hgo.2 fun e w3 he=> ?_
      cases e with
      |returned v=>exact he
      |panicked chain=>exact he
      |outgrown=>exact he
    · obtain ⟨hf2,hfx2⟩:=ext_frame qa qb hx2;have hD2:=hx2.D _ hDb;have hR2:(g2.ρ s.H.bl.length).R=w.heap.size+1:=by rw [hD2.2];exact hlen
      obtain ⟨r2,hr2,hz2,hst2,hpe2,_⟩:=hw2.blk _ _ hD2.1 hb2;rw [hR2] at hr2;have hnb:r2.state≠ .busy:=by rw [hst2];intro e;subst e;simp at hbusy
      have hlive2:live g2 H2 s.H.bl.length:=⟨hD2.1,_,hb2,rfl⟩;refine ⟨r2.pending,_,run_endLoop hr2 hnb,?_⟩;obtain ⟨ra,rb,rc⟩:=write_block (x:= .dead) (w':=w2.putObj (w.heap.size+1) (.loop { r2 with state:= .exhausted })) hw2 hf2 hlive2 hwm (by simp) (fun R hR=>World.putObj_heap_other (by rw [hR2] at hR;exact hR)) (fun _=>trivial);have hfx:=((pc.trans qc).trans hfx2).trans rc;have hmk:Marks g wa ({ target:= .collected w.heap.size,args:= #[] }::a.defers):=by
        refine ⟨⟨w.heap.size,rfl,hd1,fun hz=> ?_,fun d' hd' e=> ?_⟩,hst.hm.step hst.hw hst.hf pc⟩
        · have:=hst.hw.zlt _ hz;omega
        · obtain ⟨r',e1,e2⟩:=hst.hm.lt d' hd';rw [e] at e1;injection e1 with e1;omega
      have hk2:=hk g2 f { a with defers:=[{ target:= .collected w.heap.size,args:= #[] }]++a.defers } (w2.putObj (w.heap.size+1) (.loop { r2 with state:= .exhausted }))
        ⟨ra,rb,fun t=>(hst.he t).mono (hfx.le hst.hw hst.hf) hfx.E,hst.hn,((hmk.step pa pb qc).step qa qb hfx2).step hw2 hf2 rc,hfx.allW hst.hW⟩ hfx (fun d hd=>by
          rcases List.mem_cons.1 hd with rfl|hd
          · exact .inr ⟨_,rfl,Nat.le_refl _⟩
          · exact .inl hd)
      have hj:=jumpOf_eq hjump;have hpj:=hpe2.trans hj;rw [hpj] at hk2 ⊢;cases ex2 with
      |normal=>exact hk2
      |exit id=>exact wpIn_exit hk2
      |ret=>exact wpIn_ret hk2
 |scope c ih=>
  intro g f s s' ex a w Q h hst hk;simp only [code] at h;refine wpIn_scope (ih g f s s' ex a w _ h hst ?_);intro g1 f1 a1 w1 hst1 hx1 hd1;have:=hk g1 f1 a1 w1 hst1 hx1 hd1;cases ex<;>exact this
 |goto=>intro g f s s' ex a w Q h;simp [code] at h
 |refuse=>intro g f s s' ex a w Q h;simp [code] at h
end
end Go.V
namespace Go.V
open Go
section
variable {A:Par} {g g':Gx} {w w':World}
theorem other_world {f:Fx} {H:AH} {F:List (List AV)} {r:Nat} (hw:WRel A.glob g w H) (hf:FRel g f w H F) (hsize:w'.heap.size=w.heap.size) (hoth:∀ R,R≠r->w'.heap[R]?=w.heap[R]?)
  (h1:¬ Fp g H r) (h2:¬ g.Z r) (h3:∀ i,f.E i->f.φ i≠r):WRel A.glob g w' H/\FRel g f w' H F/\g.Le w g w':=by
 have hle:g.Le w g w':=⟨fun b hb=>⟨hb,rfl⟩,fun R h=>⟨h,hoth R (fun e=>h2 (e ▸ h))⟩⟩;refine ⟨⟨fun i row hg=>(hw.glob i row hg).mono hle,hw.dom,fun b y hd hy=>(hw.blk b y hd hy).le hle (fun hl=>hoth _ (fun e=>h1 ⟨b,⟨hd,y,hy,hl⟩,e⟩)) (fun hl=>hw.notZ ⟨hd,y,hy,hl⟩),hw.inj,fun R h=>by rw [hsize];exact hw.zlt R h⟩,⟨hf.dom,fun i row hi hr=> ?_,hf.inj,hf.apart⟩,hle⟩;obtain ⟨cs,⟨T,fz,hR',h4⟩,h5⟩:=hf.blk i row hi hr;exact ⟨cs,⟨T,fz,by rw [hoth _ (h3 i hi)];exact hR',h4⟩,h5.mono hle⟩
theorem leaves_sound {f:Fx} {H:AH} {F0:List (List AV)} {F:Fence} {n base:Nat} {fn:Func} {tmps:Array Value} {R:Ending->World->Prop}:∀ (ds:List Deferred) (w:World),WRel A.glob g w H->FRel g f w H F0->Marks g w ds->
  (∀ d∈ds,∃ r,d.target= .collected r/\base<=r)->
  (∀ w',WRel A.glob g w' H->FRel g f w' H F0->g.Le w g w'->w'.heap.size=w.heap.size->(∀ R,R<base->w'.heap[R]?=w.heap[R]?)->(w'.os=w.os/\w'.output=w.output)->LeavesIn F n A.P fn tmps R [] .returning w')->
  LeavesInM F n A.P fn tmps R ds .returning w
 |[],w,hw,hf,_,_,hk=>hk w hw hf ⟨fun _ h=>⟨h,rfl⟩,fun _ h=>⟨h,rfl⟩⟩ rfl (fun _ _=>rfl) ⟨rfl,rfl⟩
 |d::ds,w,hw,hf,⟨⟨r,h1,h2,h3,h4⟩,hm⟩,hb,hk=>by
  obtain ⟨r',e1,hbr⟩:=hb d (by simp);rw [h1] at e1;injection e1 with e1;subst e1
  have hoth:∀ R,R≠r->(w.putObj r (.deferred none)).heap[R]?=w.heap[R]?:=fun R hR=>World.putObj_heap_other hR
  obtain ⟨a1,a2,a3⟩:=other_world (w':=w.putObj r (.deferred none)) hw hf (by simp) hoth (hw.notMark h2) h3 (fun i hi=>hf.notMark h2 hi);refine ⟨by simp,.inl ⟨r,_,h1,run_takeDeferred h2,?_⟩⟩;have hm':∀ {ds:List Deferred},Marks g w ds->(∀ d'∈ds,d'.target≠ .collected r)->Marks g (w.putObj r (.deferred none)) ds:=by
   intro ds;induction ds with
   |nil=>intro _ _;trivial
   |cons d ds ih=>
    rintro ⟨⟨q,k1,k2,k3,k4⟩,hm⟩ hne
    exact ⟨⟨q,k1,by rw [hoth q (fun e=>hne d (by simp) (e ▸ k1))];exact k2,k3,k4⟩,ih hm fun d' hd'=>hne d' (List.mem_cons_of_mem _ hd')⟩
  refine leaves_sound ds _ a1 a2 (hm' hm h4) (fun d hd=>hb d (List.mem_cons_of_mem _ hd)) fun w' k1 k2 k3 k4 k5 k6=>hk w' k1 k2 ⟨fun b hb=>⟨hb,rfl⟩,fun R hR=>⟨hR,((k3.Z R hR).2).trans (a3.Z R hR).2⟩⟩ (k4.trans (by simp)) (fun R hR=>(k5 R hR).trans (hoth R (by omega))) ⟨k6.1,k6.2⟩
def resOne (tmps:Array Value):ResultVar->Sem Value
 | .tmp t=>pure (tmps.getD t undef)
 | .cell a t=>do loadVar t (<- asAddr (tmps.getD a undef))
theorem run_resOne_tmp (tmps:Array Value) (t:Tmp) (P:Program):(resOne tmps (.tmp t)).run P w= .ok (tmps.getD t undef) w:=rfl
theorem run_resOne_cell {tmps:Array Value} {p:Tmp} {t:TypeId} {P:Program} {ad:Addr} {v:Value} (h:tmps.getD p undef= .pointer (some ad)) (hv:(loadVar t ad).run P w= .ok v w):(resOne tmps (.cell p t)).run P w= .ok v w:=by
 unfold resOne;simp only [h,asAddr,Sem.run_bind,Sem.run_pure,Result.andThen_ok,hv]
theorem results_list {f:Fx} {s:S} {tmps:Array Value} (hw:WRel A.glob g w s.H) (hf:FRel g f w s.H s.F) (he:EnvRel g f w s.e tmps):∀ (rs:List ResultVar) (l:List AV),results A s rs=some l->
  ∃ vs:List Value,(rs.mapM (resOne tmps)).run A.P w= .ok vs w/\VL g w l vs
 |[],l,h=>by simp [results] at h;subst h;exact ⟨[],rfl,trivial⟩
 | .tmp t::rs,l,h=>by
  simp only [results,Option.bind_eq_some_iff] at h;obtain ⟨a,ha,l',hl,h⟩:=h;simp at h;subst h;obtain ⟨vs,h1,h2⟩:=results_list hw hf he rs l' hl;have ht:=he t;split at ha
  · rename_i b hb;simp at ha;subst ha;rw [hb] at ht;exact ⟨tmps.getD t undef::vs,by simp only [List.mapM_cons,Sem.run_bind,run_resOne_tmp,Sem.run_pure,Result.andThen_ok,h1],ht,h2⟩
  · simp at ha
 | .cell p t::rs,l,h=>by
  simp only [results,Option.bind_eq_some_iff] at h;obtain ⟨a,ha,l',hl,h⟩:=h;simp at h;subst h;obtain ⟨vs,h1,h2⟩:=results_list hw hf he rs l' hl;obtain ⟨ad,v,hp,hv,hr⟩:=load_ptr ha hw hf (he p);exact ⟨v::vs,by simp only [List.mapM_cons,Sem.run_bind,run_resOne_cell hp hv,Sem.run_pure,Result.andThen_ok,h1],hr,h2⟩
theorem results_sound {f:Fx} {s:S} {fn:Func} {tmps:Array Value} {l:List AV} (hw:WRel A.glob g w s.H) (hf:FRel g f w s.H s.F) (he:EnvRel g f w s.e tmps) (h:results A s fn.results.toList=some l):
   ∃ v,(Go.results fn tmps).run A.P w= .ok v w/\VRel g w (result l) v:=by
 obtain ⟨vs,h1,h2⟩:=results_list hw hf he _ _ h;refine ⟨if h:vs.toArray.size=1 then vs.toArray[0] else .tuple vs.toArray,?_,?_⟩
 · have e:Go.results fn tmps=(do let vs <- fn.results.mapM (resOne tmps);pure (if h:vs.size=1 then vs[0] else .tuple vs)):=by
    unfold Go.results;congr 2
   rw [e,Sem.run_bind,Array.mapM_eq_mapM_toList,Sem.run_map,h1];rfl
 · match l,vs,h2 with
   |[],[],_=>exact .tup [] [] rfl (fun i x v h=>by simp at h)
   |[a],[v],h2=>exact h2.1
   |a::b::l,u::v::vs,h2=>
    obtain ⟨k1,k2⟩:=vl_iff.1 h2;have:¬ (u::v::vs).toArray.size=1:=by simp
    rw [dif_neg this];exact .tup _ _ k1 k2
def ExtOK (A:Par):Prop:=
 ∀ f h,A.ext f=some h->∀ args H r H',h args H=some (r,H')->∀ (g:Gx) (w:World) (vs:List Value),WRel A.glob g w H->VL g w args vs->
  ∀ (F:Fence) (n:Nat) (o:Oper) (a:Act) (next:Act->World->Prop) (Q:Exit->Act->World->Prop),Wide F->
   (∀ g' w' rv,VRel g' w' r rv->WRel A.glob g' w' H'->Ext g w H g' w' H'->next (a.put o.dst rv) w')->Oper.uponIn F n A.P o a next Q ((callFunc f vs.toArray).run A.P w)
theorem FExt.ext {f f':Fx} {H H':AH} {F F':List (List AV)} (h:FExt g f w H F g' f' w' H' F') (hE:∀ i,¬ f.E i):Ext g w H g' w' H':=
 ⟨h.D,h.Dnew,h.Z,h.Znew,h.fp,fun R h1 h2=>h.unch R h1 h2 (fun i hi=>absurd hi (hE i)),h.size,h.len,h.wm,h.quiet,h.still,h.io⟩
theorem VL.append:∀ {xs ys:List AV} {us vs:List Value},VL g w xs us->VL g w ys vs->VL g w (xs++ys) (us++vs)
 |[],_,[],_,_,h=>h
 |_::_,_,_::_,_,⟨h1,h2⟩,h=>⟨h1,h2.append h⟩
 |[],_,_::_,_,h,_=>h.elim
 |_::_,_,[],_,h,_=>h.elim
theorem get_argEnv:∀ (l:List AV) (i t:Nat),get (argEnv l i) t=if t<i then .v .junk else match l[t-i]? with|some a=> .v a|none=> .v .junk
 |[],i,t=>by simp [argEnv,get]
 |a::l,i,t=>by
  simp only [argEnv,get];split
  · rename_i e;subst e;simp
  · rename_i hne;rw [get_argEnv l (i+1) t];by_cases h1:t<i
    · rw [if_pos (by omega),if_pos h1]
    · rw [if_neg (by omega),if_neg h1];rw [show t-i=(t-(i+1))+1 by omega,List.getElem?_cons_succ]
theorem env_args {f:Fx} {l:List AV} {vs:List Value} {n:Nat} (h:VL g w l vs):EnvRel g f w (argEnv l 0) (vs.toArray++Array.replicate n undef):=by
 intro t;obtain ⟨h1,h2⟩:=vl_iff.1 h;rw [get_argEnv,if_neg (by omega),Nat.sub_zero];cases hl:l[t]? with
 |none=>exact .junk _
 |some a=>
  have hlt:t<vs.length:=by have:=getElem?_lt' hl;omega
  have hv:vs[t]?=some vs[t]:=List.getElem?_eq_getElem hlt;have:(vs.toArray++Array.replicate n undef).getD t undef=vs[t]:=by
   rw [Array.getD_eq_getD_getElem?,Array.getElem?_append_left (by simpa using hlt)];simp [hv]
  rw [this];exact h2 t a _ hl hv
theorem env_putAll {f:Fx}:∀ (ps:List Nat) (as:List AV) (vs:List Value) (e:List (Nat×SV)) (tmps:Array Value),VL g w as vs->(∀ p∈ps,p<tmps.size)->EnvRel g f w e tmps->
  EnvRel g f w (putAll ps as e) ((ps.zip vs).foldl (fun tmps (t,a)=>tmps.setIfInBounds t a) tmps)/\((ps.zip vs).foldl (fun tmps (t,a)=>tmps.setIfInBounds t a) tmps).size=tmps.size
 |[],_,_,e,tmps,_,_,he=>by simp [putAll];exact he
 |p::ps,[],[],e,tmps,_,_,he=>by simp [putAll];exact he
 |p::ps,a::as,v::vs,e,tmps,⟨h1,h2⟩,hp,he=>by
  simp only [putAll,List.zip_cons_cons,List.foldl_cons];have he':EnvRel g f w ((p,.v a)::e) (tmps.setIfInBounds p v):=fun t=>by
   rw [getD_set t (hp p (by simp))];simp only [get];split
   · exact h1
   · exact he t
  obtain ⟨q1,q2⟩:=env_putAll ps as vs _ _ h2 (fun q hq=>by simpa using hp q (List.mem_cons_of_mem _ hq)) he';exact ⟨q1,by rw [q2];simp⟩
 |_::_,[],_::_,_,_,h,_,_=>h.elim
 |_::_,_::_,[],_,_,h,_,_=>h.elim
def noBox:Fx:=⟨fun _=>False,fun _=>0,fun _=>True⟩
theorem frel_none {H:AH}:FRel g noBox w H []:=⟨fun _ h=>h.elim,fun _ _ h=>h.elim,fun _ _ h=>h.elim,fun _ h=>h.elim⟩
theorem call_sound (hFn : FnsOK A) (hE : ExtOK A) (hEq : ExtQuiet A) (hD : DrawGoes A) : ∀ k, CallGoes A (call A k)
  | 0 => fun fv args H r H' h => by simp [call] at h
  | k + 1 => fun fv args H r H' h g w fval vs hw hfv hlen hargs F n o a next Q hF hk => by
    have hVL : VL g w args vs := vl_iff.2 ⟨hlen.symm, hargs⟩
    cases fv
    case fn f caps =>
      obtain ⟨cv, rfl, hcl, hcr⟩ : ∃ cv : List Value, fval = .func (.func f) #[] cv.toArray ∧ cv.length = caps.length ∧ ∀ (i : Nat) (x : AV) (v : Value), caps[i]? = some x → cv[i]? = some v → VRel g w x v := by
        cases hfv with
        | fn _ _ vs hl hr => exact ⟨vs, rfl, hl, hr⟩
      have hVLc : VL g w (args ++ caps) (vs ++ cv) := hVL.append (vl_iff.2 ⟨hcl, hcr⟩)
      simp only [call] at h
      split at h
      · rename_i e he
        have := hE f e he _ _ _ _ h g w _ hw hVLc F n o a next Q hF hk
        have hrun : ((do let d ← Deferred.ofValue (.func (.func f) #[] cv.toArray) vs.toArray; invoke d.target d.args : Sem Next).run A.P w) = (callFunc f (vs ++ cv).toArray).run A.P w := by
          simp [Deferred.ofValue, invoke, go_sem]
        rw [hrun]; exact this
      · rename_i he
        split at h
        case h_1 => simp at h
        rename_i fn hfn
        split at h
        case h_1 => simp at h
        rename_i c hbody
        split at h
        case isFalse => simp at h
        rename_i hnt
        simp only [Option.bind_eq_some_iff] at h
        obtain ⟨⟨ex, s1⟩, hcode, h⟩ := h
        rw [run_enter hFn hfn (by rw [hbody]; rfl)]
        simp only [Oper.uponIn]
        refine ⟨fun hd => by rw [hF.depth] at hd; simp at hd, ?_⟩
        have hFp : Wide F.plain := ⟨hF.fn, hF.depth, hF.alive⟩
        have hargs' : vs.toArray ++ cv.toArray = (vs ++ cv).toArray := by simp
        rw [hargs']
        have hsz : ((vs ++ cv).toArray ++ Array.replicate (fn.ntmps - (vs ++ cv).toArray.size) undef).size = fn.ntmps := by
          have := (vl_iff.1 hVLc).1
          simp at this hnt ⊢
          omega
        have hgo : ∀ R : Ending → World → Prop, (∀ v w'', next (a.put o.dst v) w'' → R (.returned v) w'') → CallsIn F.plain (n - 1) A.P f (vs ++ cv).toArray w R := by
          intro R hR
          refine callsIn_of_wp_marks (hFn f fn hfn).1 hbody (hF.fn f) ?_
          refine code_sound hFn (call_sound hFn hE hEq hD k) (call_quiet hEq k) hD hFp (fun _ => rfl) c g noBox ⟨argEnv (args ++ caps) 0, [], H⟩ s1 ex _ w _ hcode ⟨hw, frel_none, env_args hVLc, hsz, trivial, fun _ _ => trivial⟩ ?_
          intro g1 f1 a1 w1 hst1 hx1 hd1
          have hx1' := hx1.ext (fun i hi => hi.elim)
          have hfin : ∀ l, results A s1 fn.results.toList = some l → (if A.frz f = true then freeze 8 s1.H (result l) else some (result l, s1.H)) = some (r, H') → LeavesInM F.plain (n - 1) A.P fn a1.tmps R a1.defers .returning w1 := by
            intro l hl hfr
            refine leaves_sound (base := w.heap.size) a1.defers w1 hst1.hw hst1.hf hst1.hm (fun d hd => (hd1 d hd).resolve_left (by simp)) fun w2 k1 k2 k3 k4 k5 k6 => ?_
            obtain ⟨v, hv, hrv⟩ := results_sound k1 k2 (fun t => (hst1.he t).mono k3 (fun _ h => ⟨h, rfl⟩)) hl
            refine ⟨v, hv, ?_⟩
            have hx2 : Ext g w H g1 w2 s1.H := ⟨hx1'.D, hx1'.Dnew, hx1'.Z, hx1'.Znew, hx1'.fp, fun R h1 h2 => (k5 R h1).trans (hx1'.unch R h1 h2), by rw [k4]; exact hx1'.size, hx1'.len, hx1'.wm, hx1'.quiet, fun b hb hv => (k5 _ (hw.lt hv)).trans (hx1'.still b hb hv), ⟨k6.1.trans hx1'.io.1, k6.2.trans hx1'.io.2⟩⟩
            refine hR v w2 ?_
            split at hfr
            · obtain ⟨g2, m1, m2, m3⟩ := freeze_sound 8 _ _ _ _ hfr g1 w2 v k1 hrv
              exact hk g2 w2 v m3 m1 (hx2.trans m2)
            · simp at hfr; obtain ⟨rfl, rfl⟩ := hfr
              exact hk g1 w2 v hrv k1 hx2
          cases ex with
          | exit id => simp at h
          | normal =>
            simp only [Option.bind_eq_some_iff] at h
            obtain ⟨l, hl, h⟩ := h
            exact hfin l hl h
          | ret =>
            simp only [Option.bind_eq_some_iff] at h
            obtain ⟨l, hl, h⟩ := h
            exact hfin l hl h
        exact hgo _ fun v w'' h => h
    case yl b =>
      have hDb : g.D b := by cases hfv; assumption
      obtain rfl : fval = .func (.yield (g.ρ b).R) #[] #[] := by cases hfv; rfl
      simp only [call] at h
      split at h
      case h_2 => simp at h
      rename_i nn keep env ps assign body pend hb
      split at h
      case isFalse => simp at h
      rename_i hc
      obtain ⟨hpl, hwm, hps⟩ := hc
      simp only [Option.bind_eq_some_iff] at h
      obtain ⟨⟨ex1, s1⟩, hcode1, h⟩ := h
      split at h
      case h_2 => simp at h
      rename_i x s1' heq
      simp at heq; obtain ⟨rfl, rfl⟩ := heq
      split at h
      case h_2 => simp at h
      rename_i n1 keep1 env1 ps1 assign1 body1 pend1 hb1
      simp only [Option.bind_eq_some_iff] at h
      obtain ⟨⟨ex2, s2⟩, hcode2, h⟩ := h
      split at h
      case h_2 => simp at h
      rename_i n2 keep2 env2 ps2 assign2 body2 st2 pend2 hb2
      simp at h; obtain ⟨rfl, rfl⟩ := h
      obtain ⟨rc, hrc, hz, hst, hpe, hpar, has, hbo, hnn, hre⟩ := hw.blk b _ hDb hb
      have hrun : ((do let d ← Deferred.ofValue (.func (.yield (g.ρ b).R) #[] #[]) vs.toArray; invoke d.target d.args : Sem Next).run A.P w) = (Instr.yield (g.ρ b).R vs.toArray).run A.P w := by
        simp [Deferred.ofValue, invoke, go_sem]
      rw [hrun, run_yield hrc (by have : rc.params.size = ps.length := by rw [← hpar]; simp
                                  simp; omega)]
      simp only [Oper.uponIn]
      refine ⟨fun hd => by rw [hF.depth] at hd; simp at hd, ?_⟩
      have hFr : Wide (F.inRound (g.ρ b).R) := ⟨hF.fn, hF.depth, hF.alive⟩
      refine roundIn_of_wpIn (hF.fn _) ?_
      rw [has, hbo]
      have hfold : (rc.params.zip vs.toArray).foldl (fun tmps (t, a) => tmps.setIfInBounds t a) rc.tmps = (ps.zip vs).foldl (fun tmps (t, a) => tmps.setIfInBounds t a) rc.tmps := by
        rw [← Array.foldl_toList, Array.toList_zip, hpar]
      rw [hfold]
      have hps' : ∀ p ∈ ps, p < rc.tmps.size := fun p hp => by rw [hnn]; have := List.all_eq_true.1 hps p hp; simpa using this
      have he0 : EnvRel g noBox w (envIn env) rc.tmps := fun t => by
        cases hx : get (envIn env) t with
        | v x => exact hre t x hx
        | loc i c =>
          exfalso
          have : ∀ (l : List (Nat × AV)), get (envIn l) t ≠ .loc i c := by
            intro l; induction l with
            | nil => simp [envIn, get]
            | cons y l ih => simp only [envIn, get]; split; simp; exact ih
          exact this env hx
      obtain ⟨q1, q2⟩ := env_putAll (f := noBox) ps args vs _ _ hVL hps' he0
      refine code_sound hFn (call_sound hFn hE hEq hD k) (call_quiet hEq k) hD hFr (fun h => by simp at h) assign g noBox _ s1 .normal _ w _ hcode1 ⟨hw, frel_none, q1, q2.trans hnn, trivial, fun _ _ => trivial⟩ ?_
      intro g1 f1 a1 w1 hst1 hx1 _
      have hD1 := hx1.D b hDb
      obtain ⟨r1, hr1, hz1, hs1, hpe1, hpar1, has1, hbo1, hnn1, hre1⟩ := hst1.hw.blk b _ hD1.1 hb1
      have hl1 : live g1 s1.H b := ⟨hD1.1, _, hb1, rfl⟩
      have hR1 : (g1.ρ b).R = (g.ρ b).R := by rw [hD1.2]
      rw [hR1] at hr1
      show ∃ w2, _
      refine ⟨_, run_beginRound hr1 hs1, ?_⟩
      have hlt1 := getElem?_lt hr1
      obtain ⟨ra, rb, rx⟩ := write_block (x := .loop n1 keep1 env1 ps1 assign1 body1 .busy pend1) (w' := w1.putObj (g.ρ b).R (.loop { r1 with state := .busy })) hst1.hw hst1.hf hl1 (by rw [hx1.wm]; exact hwm) (by simp) (fun R hR => World.putObj_heap_other (by rw [hR1] at hR; exact hR)) (fun hle => by
        refine ⟨{ r1 with state := .busy }, by rw [hR1]; exact World.putObj_heap_same hlt1, hz1, rfl, hpe1, hpar1, has1, hbo1, hnn1, fun t x hx => (hre1 t x hx).mono hle⟩)
      refine code_sound hFn (call_sound hFn hE hEq hD k) (call_quiet hEq k) hD hFr (fun h => by simp at h) body g1 f1 _ s2 ex2 a1 _ _ hcode2 ⟨ra, rb, fun t => (hst1.he t).mono (rx.le hst1.hw hst1.hf) (fun _ h => ⟨h, rfl⟩), hst1.hn, hst1.hm.step hst1.hw hst1.hf rx, rx.allW hst1.hW⟩ ?_
      intro g2 f2 a2 w2 hst2 hx2 _
      have hD2 := hx2.D b hD1.1
      obtain ⟨r2, hr2, hz2, hs2, hpe2, hpar2, has2, hbo2, hnn2, hre2⟩ := hst2.hw.blk b _ hD2.1 hb2
      have hl2 : live g2 s2.H b := ⟨hD2.1, _, hb2, rfl⟩
      have hR2 : (g2.ρ b).R = (g.ρ b).R := by rw [hD2.2, hR1]
      rw [hR2] at hr2
      have hlt2 := getElem?_lt hr2
      have hwm2 : s2.H.wm ≤ b := by rw [hx2.wm]; show s1.H.wm ≤ b; rw [hx1.wm]; exact hwm
      have hend : ∃ v w3, (Instr.endRound (g.ρ b).R ex2.jump).run A.P w2 = .ok v w3 ∧ next (a.put o.dst v) w3 := by
        refine ⟨_, _, run_endRound _ hr2, ?_⟩
        obtain ⟨ta, tb, tx⟩ := write_block (x := .loop n2 keep2 env2 ps2 assign2 body2 (if ex2.isNormal then .ready else .done) ex2.jump) (w' := w2.putObj (g.ρ b).R (.loop { r2 with state := if ex2.jump.isNone then .ready else .done, pending := ex2.jump })) hst2.hw hst2.hf hl2 hwm2 (by simp) (fun R hR => World.putObj_heap_other (by rw [hR2] at hR; exact hR)) (fun hle => by
          refine ⟨{ r2 with state := if ex2.jump.isNone then .ready else .done, pending := ex2.jump }, by rw [hR2]; exact World.putObj_heap_same hlt2, hz2, ?_, rfl, hpar2, has2, hbo2, hnn2, fun t x hx => (hre2 t x hx).mono hle⟩
          cases ex2 <;> rfl)
        have hb' : ex2.jump.isNone = ex2.isNormal := by cases ex2 <;> rfl
        refine hk g2 _ _ (by rw [hb']; exact .bool _) ta ((((hx1.trans rx).trans hx2).trans tx).ext (fun i hi => hi.elim))
      obtain ⟨v, w3, e1, e2⟩ := hend
      cases ex2 with
      | normal => exact ⟨v, w3, e1, e2⟩
      | ret => exact ⟨v, w3, e1, e2⟩
      | exit id => exact ⟨v, w3, e1, e2⟩
    all_goals simp [call] at h
end
end Go.V
namespace Go.V
open Go
theorem callsIn_of {F:Fence} (hF:Wide F) {n:Nat} {P:Program} {f:FuncId} {args:Array Value} {w:World} {R:Ending->World->Prop} (h:Calls P f args w R):CallsIn F n P f args w R:=by
 have hfen:∀ m:Machine,m.fenced P F:=fun m g _=>⟨fun h=>by rw [hF.alive] at h;simp at h,.inl (hF.fn _),fun f _=>hF.fn f,fun d hd=>by rw [hF.depth] at hd;simp at hd⟩
 have hst:∀ {m m'},Steps P m m'->StepsIn (Machine.fenced P F) P m m':=fun h=>(StepsIn.of_steps h).mono fun m _=>hfen m
 refine ⟨hF.fn f,fun cs _=> ?_⟩;obtain ⟨e,w',fr,h1,h2,h3⟩:=h cs;refine ⟨e,w',fr,h1,?_,h3⟩;cases e with
 |returned v=>exact hst h2
 |panicked c=>exact hst h2
 |outgrown=>exact h2
section
variable {A:Par}
def ExtGoes (A:Par) (f:FuncId) (h:List AV->AH->Option (AV×AH)):Prop:=
 ∀ args H r H',h args H=some (r,H')->∀ (g:Gx) (w:World) (vs:List Value),WRel A.glob g w H->VL g w args vs->
  Calls A.P f vs.toArray w fun e w'=>∃ rv g',e= .returned rv/\VRel g' w' r rv/\WRel A.glob g' w' H'/\Ext g w H g' w' H'
theorem ext_upon (hFn:FnsOK A) {f:FuncId} {fn:Func} (hf:A.fns f=some fn) (hb:fn.body.isSome=true) {h:List AV->AH->Option (AV×AH)} (hg:ExtGoes A f h):
  ∀ args H r H',h args H=some (r,H')->∀ (g:Gx) (w:World) (vs:List Value),WRel A.glob g w H->VL g w args vs->
  ∀ (F:Fence) (n:Nat) (o:Oper) (a:Act) (next:Act->World->Prop) (Q:Exit->Act->World->Prop),Wide F->
   (∀ g' w' rv,VRel g' w' r rv->WRel A.glob g' w' H'->Ext g w H g' w' H'->next (a.put o.dst rv) w')->Oper.uponIn F n A.P o a next Q ((callFunc f vs.toArray).run A.P w):=by
 intro args H r H' hh g w vs hw hv F n o a next Q hF hk
 rw [run_callFunc hFn hf hb,Oper.uponIn_enter];refine ⟨fun hd=>by rw [hF.depth] at hd;simp at hd,callsIn_of hF ((hg args H r H' hh g w vs hw hv).mono ?_)⟩
 rintro e w' ⟨rv,g',rfl,h1,h2,h3⟩
 exact hk g' w' rv h1 h2 h3
def fiX (args:List AV) (H:AH):Option (AV×AH):=
 match args with
 |[.int .i64 n,.int .i64 b]=>if -9223372036854775808<=n/\n<=9223372036854775807/\b=10 then some (.str ⟨(Lib.itoa n).toArray⟩,H) else none
 |_=>none
theorem fi_goes {f:FuncId} (hcon:∀ (g:Gx) (w:World) (H:AH),WRel A.glob g w H->∀ n:Int,-9223372036854775808<=n->n<=9223372036854775807->Calls A.P f #[.int .i64 n,.int .i64 10] w fun e w'=>e= .returned (.string ⟨(Lib.itoa n).toArray⟩)/\∃ k os,w'=Sort.grow (w.drewN k) os):ExtGoes A f fiX:=by
 intro args H r H' hh g w vs hw hv;unfold fiX at hh;split at hh
 case h_2=>simp at hh
 rename_i n b;split at hh
 case isFalse=>simp at hh
 rename_i hc;simp at hh;obtain ⟨rfl,rfl⟩:=hh;obtain ⟨h1,h2,rfl⟩:=hc
 match vs,hv with
 |[v1,v2],⟨r1,r2,_⟩=>
  cases r1;cases r2;refine (hcon g w H hw n h1 h2).mono ?_
  rintro e w' ⟨rfl,k,os,rfl⟩
  have hh:(w.drewN k).heap=w.heap:=rfl;have hsz:w.heap.size<=(Sort.grow (w.drewN k) os).heap.size:=by simp [Sort.grow,hh]
  have hold:∀ R,R<w.heap.size->(Sort.grow (w.drewN k) os).heap[R]?=w.heap[R]?:=fun R hR=>by
   show (w.heap++os)[R]?=_;rw [Array.getElem?_append_left hR]
  obtain ⟨q1,q2,q3⟩:=more_world (f:=noBox) (F:=[]) hw frel_none hsz hold (hio:=⟨rfl,rfl⟩);exact ⟨_,g,rfl,.str _,q1,q3.ext fun i h=>h⟩
def okp (p:AV) (x:Nat):Bool:=match p with| .nilp=>true| .ptr y 0 0=>y==x|_=>false
def ccX (bT:TypeId) (args:List AV) (H:AH):Option (AV×AH):=
 match args with
 |[.ptr x 0 0]=>
  match H.bl[x]? with
  |some (.cells [[p,q]] 2 (some (t,2)))=>if t=bT/\H.wm<=x/\okp p x=true then some (.tup [],setBl H x (.cells [[.ptr x 0 0,q]] 2 (some (bT,2)))) else none
  |_=>none
 |_=>none
def unrow:List (List AV)->Option (List UInt8)
 |[]=>some []
 |[.int .u8 z]::l=>if 0<=z/\z<256 then (unrow l).map (UInt8.ofNat z.toNat:: ·) else none
 |_=>none
def strX (bT uT:TypeId) (args:List AV) (H:AH):Option (AV×AH):=
 match args with
 |[.ptr x 0 0]=>
  match H.bl[x]? with
  |some (.cells [[_,q]] 2 (some (t,2)))=>
   if t=bT then
    match q with
    | .nils=>some (.str ⟨#[]⟩,H)
    | .sl y 0 n=>
     match H.bl[y]? with
     |some (.cells rows 1 (some (u,k)))=>if u=uT/\1<=k/\H.wm<=y/\(0<n/\n<=70368744177664)/\n<=rows.length then (unrow (rows.take n)).map fun l=>(.str ⟨l.toArray⟩,setBl H y .dead) else none
     |_=>none
    |_=>none
   else none
  |_=>none
 |_=>none
theorem bld_cells {G:Nat->Option (List AV)} {g:Gx} {w:World} {H:AH} (hw:WRel G g w H) {x:Nat} {p q:AV} {t:TypeId} (hD:g.D x) (hx:H.bl[x]?=some (.cells [[p,q]] 2 (some (t,2)))):
  (g.ρ x).o=0/\(g.ρ x).sz=2/\(g.ρ x).e=2/\∃ v1 v2 fz,w.heap[(g.ρ x).R]?=some (.cells #[v1,v2] t fz)/\(∀ off,off<2->¬ (fz.1<=off/\off<fz.2))/\¬ g.Z (g.ρ x).R/\v1.oneCell'=true/\v2.oneCell'=true/\VRel g w p v1/\VRel g w q v2:=by
 obtain ⟨⟨⟨cs0,fz0,hR0⟩,ho,he⟩,_,hsz,hend,cs,⟨T,fz,hR,hce,hfz,hZ⟩,hrows⟩:=hw.blk x _ hD hx;rw [hR0] at hR;injection hR with hR;injection hR with e1 e2 e3
 subst e1;subst e2;subst e3;have ho:=ho (by omega);have he:=he (by omega);rw [hsz] at he;rw [he] at hce;obtain ⟨_,hrow⟩:=hrows 0 _ rfl;rw [ho] at hrow;obtain ⟨v1,a1,a2,a3⟩:=hrow 0 p rfl;obtain ⟨v2,b1,b2,b3⟩:=hrow 1 q rfl;have:cs0= #[v1,v2]:=by
  apply Array.ext_getElem?;intro i
  match i with
  |0=>simpa using a1
  |1=>simpa using b1
  |i+2=>rw [Array.getElem?_eq_none (by omega)];simp
 subst this;exact ⟨ho,hsz,he,v1,v2,fz0,hR0,fun off h=>hfz off (by rw [he];exact h),hZ,a2,b2,a3,b3⟩
theorem cc_goes {f:FuncId} {bT:TypeId}
  (hfresh:∀ (b:Nat) (w:World),w.cell? ⟨b,0,none⟩=some (.pointer none)->w.shape? b=some (bT,2)->w.frozen? ⟨b,0,none⟩=false->
    Calls A.P f #[.pointer (some ⟨b,0,none⟩)] w fun e w'=>e= .returned (.tuple #[])/\w'=w.setCell ⟨b,0,none⟩ (.pointer (some ⟨b,0,none⟩)))
  (hused:∀ (b:Nat) (w:World),w.cell? ⟨b,0,none⟩=some (.pointer (some ⟨b,0,none⟩))->Calls A.P f #[.pointer (some ⟨b,0,none⟩)] w fun e w'=>e= .returned (.tuple #[])/\w'=w):ExtGoes A f (ccX bT):=by
 intro args H r H' hh g w vs hw hv;unfold ccX at hh;split at hh
 case h_2=>simp at hh
 rename_i x;split at hh
 case h_2=>simp at hh
 rename_i p q t hx;split at hh
 case isFalse=>simp at hh
 rename_i hc;simp at hh;obtain ⟨rfl,rfl⟩:=hh;obtain ⟨rfl,hwm,hp⟩:=hc
 match vs,hv with
 |[v],⟨r1,_⟩=>
  cases r1 with
  |ptr _ _ _ hD=>
  obtain ⟨ho,hsz,he,v1,v2,fz,hR,hfz,hZ,a2,b2,a3,b3⟩:=bld_cells hw hD hx;have hlive:live g H x:=⟨hD,_,hx,rfl⟩;have hv0:((some ⟨(g.ρ x).R,(g.ρ x).o+0 * (g.ρ x).sz+0,none⟩:Option Addr))=some ⟨(g.ρ x).R,0,none⟩:=by rw [ho];simp
  rw [hv0];have hc0:w.cell? ⟨(g.ρ x).R,0,none⟩=some v1:=by simp [World.cell?,hR]
  have hnew:∀ (w':World) (fz':Nat×Nat),(w'.heap[(g.ρ x).R]?=some (.cells #[.pointer (some ⟨(g.ρ x).R,0,none⟩),v2] t fz))->g.Le w g w'->BlockRel g w' (g.ρ x) (.cells [[.ptr x 0 0,q]] 2 (some (t,2))):=fun w' _ hR' hle=>by
    refine ⟨⟨⟨_,_,hR'⟩,fun _=>ho,fun _=>he.trans hsz.symm⟩,by omega,hsz,by rw [ho,he];simp,_,⟨t,fz,hR',by rw [he];rfl,fun off h=>hfz off (by omega),hZ⟩,fun r row hr=> ?_⟩
    match r,hr with
    |0,hr=>
     simp at hr;subst hr;refine ⟨rfl,fun c y hy=> ?_⟩;rw [ho]
     match c,hy with
     |0,hy=>
       simp at hy;subst hy;refine ⟨_,rfl,rfl,?_⟩;have:=VRel.ptr (w:=w') x 0 0 hD;rw [ho] at this;simpa using this
     |1,hy=>simp at hy;subst hy;exact ⟨v2,rfl,b2,b3.mono hle⟩
     |c+2,hy=>simp at hy
    |r+1,hr=>simp at hr
  unfold okp at hp;split at hp
  · cases a3;have hsh:w.shape? (g.ρ x).R=some (t,2):=by simp [World.shape?,hR]
    have hfz0:w.frozen? ⟨(g.ρ x).R,0,none⟩=false:=by
     have:=hfz 0 (by omega);simp only [World.frozen?,hR];simp only [Bool.and_eq_false_iff,decide_eq_false_iff_not];by_cases h:fz.1<=0
     · exact .inr fun h'=>this ⟨h,h'⟩
     · exact .inl h
    refine (hfresh _ w hc0 hsh hfz0).mono ?_
    rintro e w' ⟨rfl,rfl⟩
    have hlt:(g.ρ x).R<w.heap.size:=getElem?_lt hR;have hR':(w.setCell ⟨(g.ρ x).R,0,none⟩ (.pointer (some ⟨(g.ρ x).R,0,none⟩))).heap[(g.ρ x).R]?=some (.cells #[.pointer (some ⟨(g.ρ x).R,0,none⟩),v2] t fz):=by
     simp [World.setCell,Array.getElem?_modify,hR]
    obtain ⟨q1,q2,q3⟩:=write_block (f:=noBox) (F:=[]) (w':=w.setCell ⟨(g.ρ x).R,0,none⟩ (.pointer (some ⟨(g.ρ x).R,0,none⟩))) (x:= .cells [[.ptr x 0 0,q]] 2 (some (t,2))) hw frel_none hlive hwm (by simp [World.setCell])
     (fun R hne=>by simp only [World.setCell,Array.getElem?_modify];rw [if_neg (fun e=>hne e.symm)]) (hnew _ fz hR')
    exact ⟨_,g,rfl,.tup [] [] rfl (fun i x v h=>by simp at h),q1,q3.ext fun i h=>h⟩
  · rename_i y;have:y=x:=by simpa using hp
    subst this;cases a3 with
    |ptr _ _ _ _=>
    rw [hv0] at hc0 hR;refine (hused _ w hc0).mono ?_
    rintro e w' ⟨rfl,hww⟩
    subst hww;obtain ⟨q1,q2,q3⟩:=write_block (f:=noBox) (F:=[]) (w':=w') (x:= .cells [[.ptr y 0 0,q]] 2 (some (t,2))) hw frel_none hlive hwm rfl (fun _ _=>rfl) (hnew _ fz hR);exact ⟨_,g,rfl,.tup [] [] rfl (fun i x v h=>by simp at h),q1,q3.ext fun i h=>h⟩
  · simp at hp
theorem unrow_get:∀ {rows:List (List AV)} {l:List UInt8},unrow rows=some l->l.length=rows.length/\∀ (j:Nat) (b:UInt8),l[j]?=some b->rows[j]?=some [.int .u8 (b.toNat:Int)]
 |[],l,h=>by simp [unrow] at h;subst h;exact ⟨rfl,fun j b hb=>by simp at hb⟩
 |row::rows,l,h=>by
  unfold unrow at h;split at h
  · rename_i e;simp at e
  · rename_i z l0 e;injection e with e1 e2;subst e1;subst e2
    split at h
    case isFalse=>simp at h
    rename_i hz;simp only [Option.map_eq_some_iff] at h;obtain ⟨l1,h1,rfl⟩:=h;obtain ⟨k1,k2⟩:=unrow_get h1;refine ⟨by simp [k1],fun j b hb=> ?_⟩;cases j with
    |zero=>
     simp at hb;subst hb;have:(UInt8.ofNat z.toNat).toNat=z.toNat:=by
      rw [UInt8.toNat_ofNat'];exact Nat.mod_eq_of_lt (by omega)
     simp only [List.getElem?_cons_zero,this];rw [Int.toNat_of_nonneg hz.1]
    |succ j=>simp at hb;simpa using k2 j b hb
  · simp at h
theorem str_goes {f:FuncId} {bT uT:TypeId}
  (hnil:∀ (b:Nat) (w:World),w.cell? ⟨b,1,none⟩=some (.slice none 0 0)->Calls A.P f #[.pointer (some ⟨b,0,none⟩)] w fun e w'=>e= .returned (.string ⟨#[]⟩)/\w'=w.drew)
  (hsome:∀ (b gb cap n:Nat) (l:List UInt8) (w:World),l≠[]->l.length<=70368744177664->w.cell? ⟨b,1,none⟩=some (.slice (some ⟨gb,0,none⟩) l.length cap)->l.length<=cap->w.shape? gb=some (uT,n)->l.length<=n->(∀ j x,l[j]?=some x->w.cell? ⟨gb,j,none⟩=some (.int .u8 x.toNat))->
    Calls A.P f #[.pointer (some ⟨b,0,none⟩)] w fun e w'=>e= .returned (.string ⟨l.toArray⟩)/\w'=w.drew.freeze ⟨gb,0,none⟩ l.length):ExtGoes A f (strX bT uT):=by
 intro args H r H' hh g w vs hw hv;unfold strX at hh;split at hh
 case h_2=>simp at hh
 rename_i x;split at hh
 case h_2=>simp at hh
 rename_i p q t hx;split at hh
 case isFalse=>simp at hh
 rename_i hc;subst hc
 match vs,hv with
 |[v],⟨r1,_⟩=>
  cases r1 with
  |ptr _ _ _ hD=>
  obtain ⟨ho,hsz,he,v1,v2,fz,hR,hfz,hZ,a2,b2,a3,b3⟩:=bld_cells hw hD hx;have hv0:((some ⟨(g.ρ x).R,(g.ρ x).o+0 * (g.ρ x).sz+0,none⟩:Option Addr))=some ⟨(g.ρ x).R,0,none⟩:=by rw [ho];simp
  rw [hv0];have hc1:w.cell? ⟨(g.ρ x).R,1,none⟩=some v2:=by simp [World.cell?,hR]
  split at hh
  · simp at hh;obtain ⟨rfl,rfl⟩:=hh;cases b3;refine (hnil _ w hc1).mono ?_
    rintro e w' ⟨rfl,rfl⟩
    exact ⟨_,g,rfl,.str _,hw.heap rfl,(FExt.heap (w:=w) (w':=w.drew) (f:=noBox) (F:=[]) rfl).ext fun i h=>h⟩
  · rename_i y n;split at hh
    case h_2=>simp at hh
    rename_i rows u k hy;split at hh
    case isFalse=>simp at hh
    rename_i hc2;obtain ⟨rfl,hk,hwm,⟨hn0,hn1⟩,hnr⟩:=hc2;simp only [Option.map_eq_some_iff] at hh;obtain ⟨l,hl,hh⟩:=hh;simp at hh;obtain ⟨rfl,rfl⟩:=hh;obtain ⟨l1,l2⟩:=unrow_get hl;have hll:l.length=n:=by rw [l1,List.length_take];omega
    cases b3 with
    |slz b r a hd=>omega
    |sl _ _ _ cap hDy hcap hend=>
    obtain ⟨⟨⟨cs0,fz0,hR0⟩,hoy,_⟩,_,hszy,hendy,cs,⟨T,fzy,hRy,hcey,hfzy,hZy⟩,hrowsy⟩:=hw.blk y _ hDy hy;rw [hR0] at hRy;injection hRy with hRy;injection hRy with e1 e2 e3
    subst e1;subst e2;subst e3;have hoy:=hoy hk;have hv2:(some ⟨(g.ρ y).R,(g.ρ y).o+0 * (g.ρ y).sz,none⟩:Option Addr)=some ⟨(g.ρ y).R,0,none⟩:=by rw [hoy];simp
    rw [hv2] at hc1;have hlive:live g H y:=⟨hDy,_,hy,rfl⟩;have hsh:w.shape? (g.ρ y).R=some (u,cs0.size):=by simp [World.shape?,hR0]
    have hcell:∀ j b,l[j]?=some b->w.cell? ⟨(g.ρ y).R,j,none⟩=some (.int .u8 b.toNat):=fun j b hb=>by
     have h1:=l2 j b hb;have hj:j<n:=by rw [<- hll];exact getElem?_lt' hb
     rw [List.getElem?_take,if_pos hj] at h1;obtain ⟨_,h2⟩:=hrowsy j _ h1;obtain ⟨v,g1,_,g3⟩:=h2 0 _ rfl;cases g3;rw [hoy] at g1;simp only [World.cell?,hR0]
     simpa using g1
    have hlne:l≠[]:=by intro e;subst e;simp at hll;omega
    have hle0:l.length<=cs0.size:=by rw [hcey,hll];rw [hoy] at hendy;omega
    refine (hsome (g.ρ x).R (g.ρ y).R cap cs0.size l w hlne (by omega) (by rw [hll];exact hc1) (by omega) hsh hle0 hcell).mono ?_
    rintro e w' ⟨rfl,rfl⟩
    have hoth:∀ R,R≠(g.ρ y).R->(w.drew.freeze ⟨(g.ρ y).R,0,none⟩ l.length).heap[R]?=w.heap[R]?:=fun R hne=>by
     unfold World.freeze;split
     · rfl
     · simp only [Array.getElem?_modify];rw [if_neg (fun e=>hne e.symm)];rfl
    have hsize:(w.drew.freeze ⟨(g.ρ y).R,0,none⟩ l.length).heap.size=w.heap.size:=by
     unfold World.freeze;split
     · rfl
     · simp
    have hio:(w.drew.freeze ⟨(g.ρ y).R,0,none⟩ l.length).os=w.os/\(w.drew.freeze ⟨(g.ρ y).R,0,none⟩ l.length).output=w.output:=by
     unfold World.freeze;split<;>exact ⟨rfl,rfl⟩
    obtain ⟨q1,q2,q3⟩:=write_block (f:=noBox) (F:=[]) (w':=w.drew.freeze ⟨(g.ρ y).R,0,none⟩ l.length) (x:= .dead) hw frel_none hlive hwm hsize hoth (fun _=>trivial) (hio:=hio);exact ⟨_,g,rfl,.str _,q1,q3.ext fun i h=>h⟩
  · simp at hh
theorem fiX_quiet {args:List AV} {H H':AH} {r:AV} (h:fiX args H=some (r,H')):Quiet H H':=by
 unfold fiX at h;split at h
 case h_2=>simp at h
 split at h
 case isFalse=>simp at h
 simp at h;rw [<- h.2];exact .refl _
theorem ccX_quiet {bT:TypeId} {args:List AV} {H H':AH} {r:AV} (h:ccX bT args H=some (r,H')):Quiet H H':=by
 unfold ccX at h;split at h
 case h_2=>simp at h
 split at h
 case h_2=>simp at h
 split at h
 case isFalse=>simp at h
 rename_i hc;simp at h;rw [<- h.2];exact .set hc.2.1 _
theorem strX_quiet {bT uT:TypeId} {args:List AV} {H H':AH} {r:AV} (h:strX bT uT args H=some (r,H')):Quiet H H':=by
 unfold strX at h;split at h
 case h_2=>simp at h
 split at h
 case h_2=>simp at h
 split at h
 case isFalse=>simp at h
 split at h
 case h_3=>simp at h
 · simp at h;rw [<- h.2];exact .refl _
 · split at h
   case h_2=>simp at h
   split at h
   case isFalse=>simp at h
   rename_i hc;obtain ⟨l,_,h⟩:=Option.map_eq_some_iff.1 h;simp at h;rw [<- h.2];exact .set hc.2.2.1 _
end
end Go.V
