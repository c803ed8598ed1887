/- An evaluator of the translated code and that it is right: each of its answers is an answer of the model. -/
import Derived.Test.YtjenflkegbmkkaaGreatDoorA1
import Derived.Test.YtjenflkegbmkkaaGreatDoorA3
import Derived.LoopNIn
import Derived.RangeFuncRecord
import Derived.Scope
import Derived.Sort.Grow
import Derived.Deep.Draws
import Derived.Lib.ItoaNum
import Derived.Lib.LaidTab
set_option linter.unusedVariables false
set_option linter.unusedSimpArgs false
set_option linter.unusedSectionVars false
open Array renaming getD_eq_getD_getElem?→Ai,getElem?_append_left→ax,getElem?_modify→vn
open Bool renaming and_eq_true→Na,and_eq_false_iff→Lt
open List renaming getElem?_append_left→La,getElem?_set→Ob,mem_cons_of_mem→Ib,length_eq_zero_iff→Ja,range→ua,map_cons→Ld,mem_cons→Vb,getElem?_cons_succ→We,getElem?_eq_getElem→Aa,foldl_cons→Og,all_eq_true→ic,getElem?_cons_zero→Ge,length_take→Nb,getElem?_take→Cb
open Nat renaming le_refl→va,le_trans→Gb
open Option renaming bind_eq_some_iff→aa,map_eq_some_iff→ia,bind_some→ga,map_some→Mc
open Option.some renaming injEq→zc
namespace Go.V
open Go
def Ic(H H':AH):Prop:=H'.wm=H.wm/\H.bl.length<=H'.bl.length/\∀b,b<H.wm->b<H.bl.length->H'.bl[b]?=H.bl[b]?
theorem Ic.refl(H:AH):Ic H H:=⟨rfl,va _,fun _ _ _=>rfl⟩
theorem Ic.trans{H H1 H2:AH}(h:Ic H H1)(h':Ic H1 H2):Ic H H2:=
 ⟨h'.1.trans h.1,Gb h.2.1 h'.2.1,fun b hb hl=>(h'.2.2 b (by rw[h.1];exact hb) (by have:=h.2.1;omega)).trans (h.2.2 b hb hl)⟩
theorem Ic.push(H:AH)(x:AB):Ic H (push H x):=⟨rfl,by simp[V.push],fun b _ hl=>by simp[V.push,La hl]⟩
theorem Ic.set{H:AH}{b:Nat}(h:H.wm<=b)(x:AB):Ic H (Sa H b x):=⟨rfl,by simp[Sa],fun b' hb _=>by
 simp only[Sa,Ob];rw[if_neg (by omega)]⟩
def Uc(call:Callee):Prop:=∀fv args H r H',call fv args H=some (r,H')->Ic H H'
section
variable {A:Eh}{call:Callee}{Fa:List Nat}
theorem LI{H H':AH}{ts:Array TypeId}{x y v:AV}(h:append A H ts x y=some (v,H')):Ic H H':=by
 simp only[append,aa]at h;obtain⟨_,_,_,_,_,_,_,_,_,_,xs,_,ys,_,h⟩:=h;split at h
 case isFalse=>simp at h
 split at h
 ·simp at h;obtain⟨_,rfl⟩:=h;exact .refl _
 ·split at h
  ·simp at h;obtain⟨_,rfl⟩:=h;exact .push _ _
  ·simp at h;obtain⟨_,rfl⟩:=h;exact .push _ _
  ·split at h
   ·rename_i hc;simp at h;obtain⟨_,rfl⟩:=h;exact(Ic.set hc.1 .dead).trans (Ic.push _ _)
   ·simp at h
  ·simp at h
theorem Ky{H H':AH}{t:TypeId}{n:Nat}{ps:List (Nat×AV)}{v:AV}(h:buildSlice A H t n ps=some (v,H')):Ic H H':=by
 simp only[buildSlice,aa]at h;obtain⟨_,_,_,_,h⟩:=h;split at h
 case isFalse=>simp at h
 split at h
 ·simp at h;obtain⟨_,rfl⟩:=h;exact .refl _
 ·simp only[aa]at h;obtain⟨_,_,h⟩:=h;simp at h;obtain⟨_,rfl⟩:=h;exact .push _ _
theorem Oz{H H':AH}{t:TypeId}{l c v:AV}(h:makeSlice A H t l c=some (v,H')):Ic H H':=by
 unfold makeSlice at h;split at h
 ·simp only[aa]at h;obtain⟨_,_,_,_,_,_,h⟩:=h;split at h
  ·simp at h;obtain⟨_,rfl⟩:=h;exact .push _ _
  ·simp at h
 ·simp at h
theorem pE{H H':AH}{s d:TypeId}{x v:AV}(h:convert A H s d x=some (v,H')):Ic H H':=by
 unfold convert at h;split at h
 ·simp at h;obtain⟨_,rfl⟩:=h;exact .refl _
 ·simp at h;obtain⟨_,rfl⟩:=h;exact .refl _
 ·split at h
  ·split at h
   ·simp at h;obtain⟨_,rfl⟩:=h;exact .push _ _
   ·simp at h
  ·simp at h
 ·split at h
  ·simp only[aa,ia]at h;obtain⟨_,_,_,_,h⟩:=h;simp at h;obtain⟨_,rfl⟩:=h;exact .refl _
  ·simp at h
 ·simp at h
theorem Hp{H H':AH}{t:TypeId}{m k x:AV}(h:mapUpdate A H t m k x=some H'):Ic H H':=by
 unfold mapUpdate at h;split at h
 ·split at h
  ·rename_i hc;simp only[Na,decide_eq_true_eq]at hc;split at h
   ·simp only[ia]at h;obtain⟨_,_,rfl⟩:=h;exact .set hc.2 _
   ·simp at h
  ·simp at h
 ·simp at h
theorem Mz{H H':AH}{t:TypeId}{m k:AV}(h:Bf A H t m k=some H'):Ic H H':=by
 unfold Bf at h;split at h
 ·split at h
  ·simp at h;subst h;exact .refl _
  ·simp at h
 ·split at h
  ·rename_i hc;simp only[Na,decide_eq_true_eq]at hc;split at h
   ·simp only[ia]at h;obtain⟨_,_,rfl⟩:=h;exact .set hc.2 _
   ·simp at h
  ·simp at h
 ·simp at h
theorem vE{H H':AH}{b:Builtin}{ts:Array TypeId}{args:List AV}{v:AV}(h:builtin A H b ts args=some (v,H')):Ic H H':=by
 unfold builtin at h;split at h
 ·exact LI h
 ·simp only[aa]at h;obtain⟨_,_,h⟩:=h;split at h
  all_goals first
   |(simp at h;obtain⟨_,rfl⟩:=h;exact .refl _)
   |(simp only[ia]at h;obtain⟨_,_,h⟩:=h;simp at h;obtain⟨_,rfl⟩:=h;exact .refl _)
   |simp at h
 ·simp only[ia]at h;obtain⟨_,_,h⟩:=h;simp at h;obtain⟨_,rfl⟩:=h;exact .refl _
 ·simp only[ia]at h;obtain⟨_,_,h⟩:=h;simp at h;obtain⟨_,rfl⟩:=h;exact .refl _
 ·simp only[aa,ia]at h;obtain⟨_,_,_,hd,h⟩:=h;simp at h;obtain⟨_,rfl⟩:=h;exact Mz hd
 ·simp only[aa]at h;obtain⟨_,_,_,_,_,_,_,_,h⟩:=h;split at h
  ·simp at h;obtain⟨_,rfl⟩:=h;exact .refl _
  ·simp at h;obtain⟨_,rfl⟩:=h;exact .refl _
  ·split at h
   ·split at h
    ·rename_i hc;simp at h;obtain⟨_,rfl⟩:=h;exact .set hc.1 _
    ·simp at h
   ·simp at h
  ·simp at h
 ·simp at h
structure U4(u4:kf)(s s' t t':S):Prop where
 e1:s'.e=s.e
 e2:t'.e=t.e
 q:Ic s.H s'.H
 h:(u4.Cc=true->t'.H=s'.H)/\(u4.Cc=false->t'.H=t.H/\s'.H=s.H)
 f:(s'.F=s.F/\t'.F=t.F)\/(∃row,s'.F=s.F++[row]/\t'.F=t.F++[row]/\u4= .no)\/∃i row,u4= .box i true/\s'.F=s.F.set i row/\t'.F=t.F.set i row/\∀Pk,s.F[i]?=some Pk->row.length=Pk.length
theorem U4.same{u4:kf}{s t:S}(hH:u4.Cc=true->t.H=s.H):U4 u4 s s t t:=
 ⟨rfl,rfl,.refl _,⟨hH,fun _=>⟨rfl,rfl⟩⟩,.inl ⟨rfl,rfl⟩⟩
theorem U4.heap{w:Bool}{s t:S}{H:AH}(hq:Ic s.H H):U4 (.heap w) s { s with H:=H } t { t with H:=H }:=
 ⟨rfl,rfl,hq,⟨fun _=>rfl,fun h=>by simp[kf.Cc]at h⟩,.inl ⟨rfl,rfl⟩⟩
section
variable {s s' t:S}{o:Oper}
theorem Ax:∀{l:List Operand},(∀x∈l,operand A t.e x=operand A s.e x)->dh A t.e l=dh A s.e l
 |[],_=>rfl
 |x::l,h=>by
  simp only[dh,val,h x (by simp),Ax (l:=l) fun y hy=>h y (Ib _ hy)]
theorem zu:∀{l:List (Nat×Operand)},(∀x∈l.map (·.2),operand A t.e x=operand A s.e x)->parts A t.e l=parts A s.e l
 |[],_=>rfl
 |(i,x)::l,h=>by
  simp only[parts,val,h x (by simp),zu (l:=l) fun y hy=>h y (by simp at hy ⊢;exact .inr hy)]
theorem Vy{x:Option Operand}(h:∀y∈x.toArray,operand A t.e y=operand A s.e y):Rg A t.e x=Rg A s.e x:=by
 cases x with
 |none=>rfl
 |some x=>simp only[Rg,val,h x (by simp)]
theorem fh{x:Option AV}{v:SV}{u4:kf}(h:Sf s x=some (v,s'))(hH:u4.Cc=true->t.H=s.H):∃t',Sf t x=some (v,t')/\U4 u4 s s' t t':=by
 simp only[Sf,ia]at h;obtain⟨a,ha,h⟩:=h;simp at h;obtain⟨rfl,rfl⟩:=h;exact⟨t,by simp[Sf,ha],.same hH⟩
theorem zk{fz:AH->AV->Option (AV×AH)}(fm:∀H x x' H',fz H x=some (x',H')->Ic H H'):∀(xs:List AV)(H:AH)(kq:List AV)(H':AH),Yg fz H xs=some (kq,H')->Ic H H'
 |[],H,kq,H',h=>by simp[Yg]at h;obtain⟨_,rfl⟩:=h;exact .refl _
 |x::xs,H,kq,H',h=>by
  simp only[Yg,aa]at h;obtain⟨⟨x1,H1⟩,h1,⟨xs1,H2⟩,h2,h⟩:=h;simp at h;obtain⟨_,rfl⟩:=h;exact(fm _ _ _ _ h1).trans (zk fm xs _ _ _ h2)
theorem cw{fz:AH->AV->Option (AV×AH)}(fm:∀H x x' H',fz H x=some (x',H')->Ic H H'):∀(xs:List (List AV))(H:AH)(kq:List (List AV))(H':AH),Lh fz H xs=some (kq,H')->Ic H H'
 |[],H,kq,H',h=>by simp[Lh]at h;obtain⟨_,rfl⟩:=h;exact .refl _
 |x::xs,H,kq,H',h=>by
  simp only[Lh,aa]at h;obtain⟨⟨x1,H1⟩,h1,⟨xs1,H2⟩,h2,h⟩:=h;simp at h;obtain⟨_,rfl⟩:=h;exact(zk fm _ _ _ _ h1).trans (cw fm xs _ _ _ h2)
theorem Ni:∀(d:Nat)(H:AH)(x x':AV)(H':AH),freeze d H x=some (x',H')->Ic H H'
 |0,H,x,x',H',h=>by simp[freeze]at h
 |d+1,H,x,x',H',h=>by
  cases x
  case sl b r n=>
   simp only[freeze,aa]at h;obtain⟨rows,_,sz,_,h⟩:=h;split at h
   case isFalse=>simp at h
   rename_i Yf;simp only[aa]at h;obtain⟨⟨Wd,H1⟩,GD,h⟩:=h;simp at h;obtain⟨_,rfl⟩:=h;exact(Ic.set Yf _).trans (cw (Ni d) _ _ _ _ GD)
  case agg cs=>
   simp only[freeze,aa]at h;obtain⟨⟨Oh,H1⟩,h1,h⟩:=h;simp at h;obtain⟨_,rfl⟩:=h;exact zk (Ni d) _ _ _ _ h1
  case Qc cs=>
   simp only[freeze,aa]at h;obtain⟨⟨Oh,H1⟩,h1,h⟩:=h;simp at h;obtain⟨_,rfl⟩:=h;exact zk (Ni d) _ _ _ _ h1
  all_goals simp[freeze]at h;obtain⟨_,rfl⟩:=h;exact .refl _
theorem Bn{x:Option (AV×AH)}{v:SV}{w:Bool}(h:zh s x=some (v,s'))(hq:∀a H,x=some (a,H)->Ic s.H H):∃t',zh t x=some (v,t')/\U4 (.heap w) s s' t t':=by
 simp only[zh,ia]at h;obtain⟨⟨a,H⟩,ha,h⟩:=h;simp at h;obtain⟨rfl,rfl⟩:=h;exact⟨{ t with H:=H },by simp[zh,ha],.heap (hq a H ha)⟩
theorem TC{bt:TypeId}{b:Bool}{cs:List AV}{v:SV}(h:boxed s bt b cs=some (v,s'))(hH:b=false->t.H=s.H)(hl:t.F.length=s.F.length):∃t',boxed t bt b cs=some (v,t')/\U4 (if b then .no else .heap false) s s' t t':=by
 unfold boxed at h ⊢;split at h
 case isFalse=>simp at h
 rename_i hc;rw[if_pos hc];simp only[zc]at h;cases b with
 |true=>
  simp[box]at h;obtain⟨rfl,rfl⟩:=h;refine⟨{ t with F:=t.F++[cs] },by simp[box,hl],⟨rfl,rfl,.refl _,⟨fun h=>by simp[kf.Cc]at h,fun _=>⟨rfl,rfl⟩⟩,.inr (.inl ⟨cs,rfl,rfl,rfl⟩)⟩⟩
 |false=>
  simp[box]at h;obtain⟨rfl,rfl⟩:=h;refine⟨{ t with H:=push s.H (.cells [cs] cs.length (some (bt,2))) },by simp[box,hH rfl],⟨rfl,rfl,.push _ _,⟨fun _=>rfl,fun h=>by simp[kf.Cc]at h⟩,.inl ⟨rfl,rfl⟩⟩⟩
theorem dS{ty:TypeId}{p:SV}{x:AV}(h:load A s ty p=some x)(hH:(nf false (some p)).Cc=true->t.H=s.H)(hB:∀i w,nf false (some p)= .box i w->t.F[i]?=s.F[i]?):load A t ty p=some x:=by
 unfold load at h ⊢;split at h
 ·rename_i i c;simp only[hB i false rfl];exact h
 ·rename_i b r c;simp only[hH rfl];exact h
 ·exact h
 ·simp at h
theorem ZL{ty:TypeId}{p:SV}{x:AV}(h:store A s ty p x=some s')(hH:(nf true (some p)).Cc=true->t.H=s.H)(hB:∀i w,nf true (some p)= .box i w->t.F[i]?=s.F[i]?):
  ∃t',store A t ty p x=some t'/\U4 (nf true (some p)) s s' t t':=by
 simp only[store,aa]at h;obtain⟨cs,mj,n,hn,h⟩:=h;split at h
 case isFalse=>simp at h
 rename_i hlen;unfold store;simp only[mj,hn,ga];rw[if_pos hlen];split at h
 ·rename_i i c;simp only[aa]at h;obtain⟨row,hr,Jb,uf,h⟩:=h;simp at h;subst h;exact⟨{ t with F:=t.F.set i Jb },by simp[hB i true rfl,hr,uf],⟨rfl,rfl,.refl _,⟨fun h=>by simp[nf,kf.Cc]at h,fun _=>⟨rfl,rfl⟩⟩,.inr (.inr ⟨i,Jb,rfl,rfl,rfl,fun Pk ho=>by
   rw[hr]at ho;simp at ho;subst ho;unfold yf at uf;split at uf
   ·simp at uf;subst uf;simp;omega
   ·simp at uf⟩)⟩⟩
 ·rename_i b r c;have hH':=hH rfl;split at h
  case h_2=>simp at h
  rename_i rows sz dD hb;split at h
  case isFalse=>simp at h
  rename_i Yf;simp only[aa]at h;obtain⟨row,hr,Jb,uf,h⟩:=h;simp at h;subst h;refine⟨{ t with H:=Sa s.H b (.cells (rows.set r Jb) sz dD) },by simp[hH',hb,Yf,hr,uf],⟨rfl,rfl,.set Yf _,⟨fun _=>rfl,fun h=>by simp[nf,kf.Cc]at h⟩,.inl ⟨rfl,rfl⟩⟩⟩
 ·simp at h
theorem GB{H H':AH}{ty:TypeId}{p:SV}{i:Int}(h:(Pr (some p)).Cc=true->H'=H):indexAddr A H' ty p i=indexAddr A H ty p i:=by
 unfold indexAddr;split
 ·rfl
 ·split
  ·rw[h rfl]
  ·rfl
  ·rfl
 ·rfl
def OO(A:Eh)(H:AH)(t:TypeId)(x:AV):Option (AV×AH):=
 match A.P.underlying t,x with
 |some .string,.str s=>some (.int .i64 s.size,H)
 |some (.slice _),.Ya|some (.slice _),.Pd=>some (.int .i64 0,H)
 |some (.slice _),.lit _ rows=>some (.int .i64 rows.length,H)
 |some (.slice _),.sl _ _ n=>some (.int .i64 n,H)
 |some (.map _ _),m=>(mapOf H m).map fun es=>(.int .i64 es.length,H)
 |some (.array n _),_=>some (.int .i64 n,H)
 |_,_=>none
theorem HI{H H':AH}{b:Builtin}{ts:Array TypeId}{l:List AV}{v:AV}(hp:b= .max\/b= .min\/(b= .len/\∀m,l≠[.mp m]))(h:builtin A H b ts l=some (v,H')):H'=H/\∀H2,builtin A H2 b ts l=some (v,H2):=by
 rcases hp with rfl|rfl|⟨rfl,hp⟩
 ·unfold builtin at h ⊢;split at h<;>simp_all
  obtain⟨a,h1,h2,h3⟩:=h;exact⟨h3.symm,fun _=>by rw[h1,h2]⟩
 ·unfold builtin at h ⊢;split at h<;>simp_all
  obtain⟨a,h1,h2,h3⟩:=h;exact⟨h3.symm,fun _=>by rw[h1,h2]⟩
 ·unfold builtin at h;split at h<;>try (simp_all;done)
  rename_i x _;simp only[aa]at h;obtain⟨t,ht,h⟩:=h;have key:∀H2,builtin A H2 .len ts [x]=OO A H2 t x:=fun H2=>by simp only[builtin,ht,ga,OO];rfl
  have h:OO A H t x=some (v,H'):=h;unfold OO at key h;split at h
  all_goals first
   |(simp at h;done)
   |(simp at h;obtain⟨rfl,rfl⟩:=h;exact⟨rfl,fun H2=>by rw[key];simp_all⟩)
   |skip
  rename_i x _ _ _ _ hu _;simp only[ia]at h;obtain⟨es,he,h⟩:=h;simp at h;obtain⟨rfl,rfl⟩:=h;refine⟨rfl,fun H2=> ?_⟩;rw[key];have:mapOf H2 x=some es:=by
   cases x<;>first|(simp[mapOf]at he;done)|(exact absurd rfl (hp _))|(simpa[mapOf]using he)
  simp[hu,this]
theorem LG{q:Bool}{v:SV}(hq:Uc call)(h:op A call Fa s o=some (v,s'))(he:∀x∈o.op.operands,operand A t.e x=operand A s.e x)
  (hH:(Wc A Fa s o q).Cc=true->t.H=s.H) (hl:t.F.length=s.F.length) (hB:∀i w,Wc A Fa s o q= .box i w->t.F[i]?=s.F[i]?):
  ∃t',op A call Fa t o=some (v,t')/\U4 (Wc A Fa s o q) s s' t t':=by
 have hv:∀x∈o.op.operands,val A t.e x=val A s.e x:=fun x hx=>by simp only[val,he x hx]
 obtain⟨dst,o,type,pos,after,guard⟩:=o;simp only at he hv;cases o
 case move x=>
  simp only[op]at h ⊢;simp only[he x (by simp[Op.operands])];simp only[ia]at h ⊢;obtain⟨u,hu,h⟩:=h;simp at h;obtain⟨rfl,rfl⟩:=h;exact⟨t,⟨u,hu,rfl⟩,.same hH⟩
 case assign x=>
  simp only[op]at h ⊢;simp only[he x (by simp[Op.operands])];simp only[ia]at h ⊢;obtain⟨u,hu,h⟩:=h;simp at h;obtain⟨rfl,rfl⟩:=h;exact⟨t,⟨u,hu,rfl⟩,.same hH⟩
 case pick c a b=>
  simp only[op]at h ⊢;rw[hv c (by simp[Op.operands])];rw[he a (by simp[Op.operands]),he b (by simp[Op.operands])];simp only[aa]at h ⊢;obtain⟨u,hu,h⟩:=h;split at h
  ·simp only[ia]at h;obtain⟨x,hx,h⟩:=h;simp at h;obtain⟨rfl,rfl⟩:=h;exact⟨t,⟨_,hu,by simp[hx]⟩,.same hH⟩
  ·simp only[ia]at h;obtain⟨x,hx,h⟩:=h;simp at h;obtain⟨rfl,rfl⟩:=h;exact⟨t,⟨_,hu,by simp[hx]⟩,.same hH⟩
  ·simp at h
 case alloc ty=>
  simp only[op,aa]at h;obtain⟨z,hz,h⟩:=h;have:=TC (t:=t) h (fun hb=>hH (by have ud:Wg Fa ⟨dst,.alloc ty,type,pos,after,guard⟩=false:=hb;simp only[Wc,ud];rfl)) hl;simp only[op,hz,ga];exact this
 case box ty x=>
  simp only[op,aa]at h;obtain⟨u,hu,cs,mj,h⟩:=h;have:=TC (t:=t) h (fun hb=>hH (by have ud:Wg Fa ⟨dst,.box ty x,type,pos,after,guard⟩=false:=hb;simp only[Wc,ud];rfl)) hl;simp only[op,hv x (by simp[Op.operands]),hu,mj,ga];exact this
 case build ty ps=>
  simp only[op,aa]at h;obtain⟨l,LB,h⟩:=h;simp only[op,zu (s:=s) (t:=t) (l:=ps.toList) (fun x hx=>he x (by simpa[Op.operands]using hx)),LB,ga];exact fh h hH
 case buildSlice ty n ps=>
  simp only[op,aa]at h;obtain⟨l,LB,h⟩:=h;simp only[op,zu (s:=s) (t:=t) (l:=ps.toList) (fun x hx=>he x (by simpa[Op.operands]using hx)),LB,ga,hH rfl];refine Bn h fun a H hx=> ?_
  simp only[aa]at hx;obtain⟨⟨x0,H0⟩,hx0,hx⟩:=hx;have h1:=Ky hx0;simp only at hx;split at hx
  ·exact h1.trans (Ni _ _ _ _ _ hx)
  ·simp at hx;obtain⟨_,rfl⟩:=hx;exact h1
 case load ty x=>
  simp only[op,aa]at h;obtain⟨p,hp,h⟩:=h;simp only[Wc,hp]at hH hB ⊢;simp only[op,he x (by simp[Op.operands]),hp,ga];cases Zf:load A s ty p with
  |none=>rw[Zf]at h;simp[Sf]at h
  |some y=>rw[dS Zf hH hB];rw[Zf]at h;exact fh h hH
 case store ty x y=>
  simp only[op,aa,ia]at h;obtain⟨p,hp,a,ha,s1,hs,h⟩:=h;simp at h;obtain⟨rfl,rfl⟩:=h;simp only[Wc,hp]at hH hB ⊢;obtain⟨t',h1,h2⟩:=ZL hs hH hB;simp only[op,he x (by simp[Op.operands]),hv y (by simp[Op.operands]),hp,ha,h1,ga,Mc];exact⟨t',rfl,h2⟩
 case nilCheck x=>
  simp only[op,aa]at h;obtain⟨p,hp,h⟩:=h;simp only[op,he x (by simp[Op.operands]),hp,ga];split at h<;>first|(simp at h;obtain⟨rfl,rfl⟩:=h;exact⟨t,rfl,.same hH⟩)|simp at h
 case binOp b ty x y Q8=>
  simp only[op,aa]at h;obtain⟨p,hp,q',hq',h⟩:=h;simp only[op,hv x (by simp[Op.operands]),hv y (by simp[Op.operands]),hp,hq',ga];exact fh h hH
 case unOp u ty x=>
  simp only[op,aa]at h;obtain⟨p,hp,h⟩:=h;simp only[op,hv x (by simp[Op.operands]),hp,ga];exact fh h hH
 case convert a b x=>
  simp only[op,aa]at h;obtain⟨p,hp,h⟩:=h;simp only[op,hv x (by simp[Op.operands]),hp,ga,hH rfl];exact Bn h fun a H=>pE
 case makeFunc fx first jh=>
  cases fx with
  |func f=>
   simp only[op]at h ⊢;split at h
   ·rename_i h0;rw[if_pos h0];simp only[ia]at h;obtain⟨l,Zf,h⟩:=h;simp at h;obtain⟨rfl,rfl⟩:=h;rw[Ax (s:=s) (t:=t) (l:=jh.toList) (fun x hx=>he x (by simp[Op.operands];exact .inr (by simpa using hx))),Zf];exact⟨t,rfl,.same hH⟩
   ·simp at h
  |_=>simp[op]at h
 case makeMap ty r=>
  have jV:v= .v (.mp s.H.bl.length)/\s'={ s with H:=push s.H (.map []) }/\op A call Fa t ⟨dst,.makeMap ty r,type,pos,after,guard⟩=some (.v (.mp t.H.bl.length),{ t with H:=push t.H (.map []) }):=by
   simp only[op,aa]at h ⊢;obtain⟨_,h1,h⟩:=h;simp at h;obtain⟨rfl,rfl⟩:=h;refine⟨rfl,rfl,(),?_,trivial⟩;cases r with
   |none=>rfl
   |some x=>simp only[hv x (by simp[Op.operands])];exact h1
  obtain⟨rfl,rfl,h2⟩:=jV;rw[h2,hH rfl];exact⟨_,rfl,.heap (.push _ _)⟩
 case makeSlice ty l c=>
  simp only[op,aa]at h;obtain⟨p,hp,q',hq',h⟩:=h;simp only[op,hv l (by simp[Op.operands]),hv c (by simp[Op.operands]),hp,hq',ga,hH rfl];exact Bn h fun a H=>Oz
 case slice ty x lo hi mx=>
  cases mx with
  |some m=>
   cases lo with
   |some _=>simp[op]at h
   |none=>
   cases hi with
   |none=>simp[op]at h
   |some hi=>
   simp only[op,aa]at h;obtain⟨p,hp,l,Zf,u,hu,h⟩:=h;simp only[op,hv x (by simp[Op.operands]),hv hi (by simp[Op.operands]),hv m (by simp[Op.operands]),hp,Zf,hu,ga];split at h
   ·rename_i hc;rw[if_pos hc];exact fh h hH
   ·simp at h
  |none=>
   simp only[op,aa]at h;obtain⟨p,hp,l,Zf,u,hu,h⟩:=h;simp only[op,hv x (by simp[Op.operands]),Vy (s:=s) (t:=t) (x:=lo) (fun y hy=>he y (by simp[Op.operands]at hy ⊢;simp[hy])),Vy (s:=s) (t:=t) (x:=hi) (fun y hy=>he y (by simp[Op.operands]at hy ⊢;simp[hy])),hp,Zf,hu,ga,hH rfl];exact fh h hH
 case fieldAddr ty x f=>
  simp only[op,aa]at h;obtain⟨p,hp,fd,YJ,n,hn,h⟩:=h;simp only[op,he x (by simp[Op.operands]),hp,YJ,hn,ga];split at h
  ·simp at h
  ·rename_i h0;rw[if_neg h0];simp only[ia]at h ⊢;obtain⟨u,hu,h⟩:=h;simp at h;obtain⟨rfl,rfl⟩:=h;exact⟨t,⟨u,hu,rfl⟩,.same hH⟩
 case field ty x f=>
  simp only[op,aa]at h;obtain⟨p,hp,h⟩:=h;simp only[op,hv x (by simp[Op.operands]),hp,ga];split at h
  ·simp only[aa]at h;obtain⟨fd,YJ,h⟩:=h;simp only[YJ,ga];exact fh h hH
  ·simp at h
 case indexAddr ty x i=>
  simp only[op,aa]at h;obtain⟨p,hp,u,hu,n,hn,h⟩:=h;simp only[Wc,hp]at hH hB ⊢;simp only[op,he x (by simp[Op.operands]),hv i (by simp[Op.operands]),hp,hu,hn,ga,GB hH];simp only[ia]at h ⊢;obtain⟨y,hy,h⟩:=h;simp at h;obtain⟨rfl,rfl⟩:=h;exact⟨t,⟨y,hy,rfl⟩,.same hH⟩
 case index ty x i=>
  simp only[op,aa]at h;obtain⟨p,hp,u,hu,n,hn,h⟩:=h;simp only[op,hv x (by simp[Op.operands]),hv i (by simp[Op.operands]),hp,hu,hn,ga];exact fh h hH
 case lookup ty x i ok=>
  simp only[op,aa]at h;obtain⟨p,hp,u,hu,h⟩:=h;simp only[op,hv x (by simp[Op.operands]),hv i (by simp[Op.operands]),hp,hu,ga,hH rfl];exact fh h hH
 case mapUpdate ty m k x=>
  simp only[op,aa,ia]at h;obtain⟨p,hp,u,hu,y,hy,H,hm,h⟩:=h;simp at h;obtain⟨rfl,rfl⟩:=h;simp only[op,hv m (by simp[Op.operands]),hv k (by simp[Op.operands]),hv x (by simp[Op.operands]),hp,hu,hy,hm,ga,Mc,hH rfl];exact⟨_,rfl,.heap (Hp hm)⟩
 case insert ty m k x=>
  simp only[op,aa,ia]at h;obtain⟨p,hp,u,hu,y,hy,H,hm,h⟩:=h;simp at h;obtain⟨rfl,rfl⟩:=h;simp only[op,hv m (by simp[Op.operands]),hv k (by simp[Op.operands]),hv x (by simp[Op.operands]),hp,hu,hy,hm,ga,Mc,hH rfl];exact⟨_,rfl,.heap (Hp hm)⟩
 case extract x i=>
  simp only[op,aa]at h;obtain⟨p,hp,h⟩:=h;simp only[op,hv x (by simp[Op.operands]),hp,ga];split at h
  ·simp only[ia]at h ⊢;obtain⟨y,hy,h⟩:=h;simp at h;obtain⟨rfl,rfl⟩:=h;exact⟨t,⟨y,hy,rfl⟩,.same hH⟩
  ·simp at h
 case call c=>
  obtain⟨callee,args,argTypes⟩:=c;simp only[op,aa]at h;obtain⟨l,Zf,h⟩:=h;have l9:dh A t.e args.toList=some l:=by rw[<- Zf];exact Ax fun x hx=>he x (by simp only[Op.operands];unfold Call.operands;cases callee<;>simp_all)
  have pure:∀(b:Builtin),callee= .builtin b->(b= .max\/b= .min\/(b= .len/\∀m,l≠[.mp m]))->∃t',op A call Fa t ⟨dst,.call ⟨callee,args,argTypes⟩,type,pos,after,guard⟩=some (v,t')/\U4 .no s s' t t':=fun b hb hp=>by
   subst hb;simp only[zh,ia]at h;obtain⟨⟨a,H⟩,ha,h⟩:=h;simp at h;obtain⟨rfl,rfl⟩:=h;obtain⟨rfl,h2⟩:=HI hp ha;exact⟨t,by simp[op,l9,zh,h2 t.H],.same (fun h=>by cases h)⟩
  by_cases hpb:(∃b,callee= .builtin b/\(b= .max\/b= .min\/(b= .len/\∀m,l≠[.mp m])))
  ·obtain⟨b,rfl,hp⟩:=hpb;have ht:Wc A Fa s ⟨dst,.call ⟨.builtin b,args,argTypes⟩,type,pos,after,guard⟩ q= .no:=by
    rcases hp with rfl|rfl|⟨rfl,hp⟩
    ·rfl
    ·rfl
    ·simp only[Wc,Zf];unfold yh;split
     ·rename_i m e;simp at e;exact absurd e (hp m)
     ·rfl
     ·rename_i e;simp at e
   rw[ht];exact pure b rfl hp
  obtain⟨wr,j9⟩:∃wr,Wc A Fa s ⟨dst,.call ⟨callee,args,argTypes⟩,type,pos,after,guard⟩ q= .heap wr:=by
   cases callee with
   |builtin b=>
    cases b<;>first|exact⟨_,rfl⟩|(exact absurd ⟨_,rfl,.inl rfl⟩ hpb)|(exact absurd ⟨_,rfl,.inr (.inl rfl)⟩ hpb)|skip
    have:∃m,l=[.mp m]:=by
     rcases Classical.em (∃m,l=[.mp m])with h'|h'
     ·exact h'
     ·exact absurd ⟨_,rfl,.inr (.inr ⟨rfl,fun m e=>h' ⟨m,e⟩⟩)⟩ hpb
    obtain⟨m,rfl⟩:=this;exact⟨false,by simp only[Wc,Zf,yh]⟩
   |_=>exact⟨_,rfl⟩
  rw[j9]at hH ⊢;simp only[op,l9,ga,hH rfl];cases callee with
  |value f=>
   simp only[aa]at h;obtain⟨gv,hg,h⟩:=h;simp only[hv f (by simp[Op.operands,Call.operands]),hg,ga];exact Bn h fun a H=>hq _ _ _ _ _
  |builtin b=>exact Bn h fun a H=>vE
  |_=>simp at h
 all_goals simp[op]at h
end
end
end Go.V
namespace Go.V
open Go
section
variable {A:Eh}{call:Callee}{Fa keep:List Nat}{n:Nat}
theorem wB{s s':S}{o:Oper}{v:SV}(hq:Uc call)(h:op A call Fa s o=some (v,s')):Ic s.H s'.H/\s'.e=s.e:=by
 obtain⟨t',_,h2⟩:=LG (q:=false) (t:=s) hq h (fun _ _=>rfl) (fun _=>rfl) rfl (fun _ _ _=>rfl);exact⟨h2.q,h2.e1⟩
theorem oB{s s':S}{n:Nat}{dst:Option Nat}{v:SV}(h:put s n dst v=some s'):s'.H=s.H/\s'.F=s.F:=by
 unfold put at h;split at h
 ·simp at h;subst h;exact⟨rfl,rfl⟩
 ·split at h
  ·simp at h;subst h;exact⟨rfl,rfl⟩
  ·simp at h
theorem Ox{all:Array Oper}(hq:Uc call):∀(l:List Oper)(s s':S),ops A call Fa n all l s=some s'->Ic s.H s'.H
 |[],s,s',h=>by simp[ops]at h;subst h;exact .refl _
 |o::l,s,s',h=>by
  simp only[ops,aa]at h;obtain⟨b,hb,h⟩:=h;cases b with
  |true=>
   simp only[aa]at h;obtain⟨⟨v,s1⟩,MB,s2,Xg,h⟩:=h;have:=Ox hq l s2 s' h;rw[(oB Xg).1]at this;exact(wB hq MB).1.trans this
  |false=>
   simp only[aa]at h;obtain⟨s1,Xg,h⟩:=h;have:=Ox hq l s1 s' h;rw[(oB Xg).1]at this;exact this
theorem WR{s s':S}{o:Oper}{v:SV}{t:kf}(hq:Uc call)(h:LO A call Fa t s o=some (v,s')):Ic s.H s'.H:=by
 have Tak:∀{s':S},(op A call Fa { s with H:={ s.H with wm:=s.H.bl.length } } o).map (fun(v,s')=>(v,{ s' with H:={ s'.H with wm:=s.H.wm } }))=some (v,s')->Ic s.H s'.H:=fun h=>by
  simp only[ia]at h;obtain⟨⟨u,s1⟩,h1,h⟩:=h;simp at h;obtain⟨_,rfl⟩:=h;obtain⟨q1,q2,q3⟩:=(wB hq h1).1;exact⟨rfl,q2,fun b _ hl=>q3 b hl hl⟩
 unfold LO at h;split at h
 ·exact(wB hq h).1
 ·exact Tak h
theorem Fo{all:Array Oper}{b:List Nat}(hq:Uc call):∀(l:List Oper)(i:Nat)(s:S)(x:List kf)(rs:List (Oper×List (Nat×SV)×SV))(s':S)(y:List kf),nk A call Fa n all b l i s x rs=some (s',y)->Ic s.H s'.H
 |[],i,s,x,rs,s',y,h=>by simp[nk]at h;obtain⟨rfl,_⟩:=h;exact .refl _
 |o::l,i,s,x,rs,s',y,h=>by
  simp only[nk,aa]at h;obtain⟨b,hb,h⟩:=h;cases b with
  |true=>
   simp only at h;split at h
   ·simp only[aa]at h;obtain⟨⟨v,s1⟩,MB,h⟩:=h;split at h
    case isFalse=>simp at h
    simp only[aa]at h;obtain⟨s2,Xg,h⟩:=h;split at h
    case isFalse=>simp at h
    have:=Fo hq l _ s2 _ _ s' y h;rw[(oB Xg).1]at this;exact this
   ·simp only[aa]at h;obtain⟨⟨v,s1⟩,MB,s2,Xg,h⟩:=h;split at h
    case isFalse=>simp at h
    have:=Fo hq l _ s2 _ _ s' y h;rw[(oB Xg).1]at this;exact(WR hq MB).trans this
  |false=>
   simp only[aa]at h;obtain⟨s1,Xg,h⟩:=h;split at h
   case isFalse=>simp at h
   have:=Fo hq l _ s1 _ _ s' y h;rw[(oB Xg).1]at this;exact this
theorem GG{s s':S}{os:Array Oper}{draw:Bool}(hq:Uc call)(h:region A call Fa n os draw s=some s'):Ic s.H s'.H:=by
 unfold region at h;split at h
 ·split at h
  ·simp only[aa]at h;obtain⟨⟨s1,l⟩,h1,h⟩:=h;split at h
   ·simp at h;subst h;exact Fo hq _ _ _ _ _ _ _ h1
   ·simp at h
  ·simp at h
 ·exact Ox hq _ _ _ h
theorem Lu(hq:Uc call){rf:Bool}:∀(c:Code)(s:S)(ex:Ex)(s':S),code A call rf Fa keep n c s=some (ex,s')->Ic s.H s'.H:=by
 intro c;induction c with
 |skip=>intro s ex s' h;simp[code]at h;obtain⟨_,rfl⟩:=h;exact .refl _
 |label l=>intro s ex s' h;simp[code]at h;obtain⟨_,rfl⟩:=h;exact .refl _
 |exit id=>intro s ex s' h;simp[code]at h;obtain⟨_,rfl⟩:=h;exact .refl _
 |ret=>intro s ex s' h;simp[code]at h;obtain⟨_,rfl⟩:=h;exact .refl _
 |region id os draw=>
  intro s ex s' h;simp only[code,ia]at h;obtain⟨s1,h1,h⟩:=h;simp at h;obtain⟨_,rfl⟩:=h;exact GG hq h1
 |seq x y Z5 ihy=>
  intro s ex s' h;simp only[code,aa]at h;obtain⟨⟨e1,s1⟩,h1,h⟩:=h;cases e1 with
  |normal=>exact(Z5 _ _ _ h1).trans (ihy _ _ _ h)
  |exit id=>simp at h;obtain⟨_,rfl⟩:=h;exact Z5 _ _ _ h1
  |ret=>simp at h;obtain⟨_,rfl⟩:=h;exact Z5 _ _ _ h1
 |cond c x y Z5 ihy=>
  intro s ex s' h;simp only[code,aa]at h;obtain⟨cv,_,h⟩:=h;split at h
  ·split at h
   ·exact Z5 _ _ _ h
   ·exact ihy _ _ _ h
  ·simp at h
 |block id c ih=>
  intro s ex s' h;simp only[code,aa]at h;obtain⟨⟨e1,s1⟩,h1,h⟩:=h;have:=ih _ _ _ h1;cases e1 with
  |normal=>simp at h;obtain⟨_,rfl⟩:=h;exact this
  |ret=>simp at h;obtain⟨_,rfl⟩:=h;exact this
  |exit gD=>
   simp only at h;split at h<;>simp at h<;>obtain⟨_,rfl⟩:=h<;>exact this
 |loop c ih=>
  intro s ex s' h;simp only[code]at h;generalize Kn=k at h;induction k generalizing s with
  |zero=>simp[Zt]at h
  |succ k ihk=>
   simp only[Zt,aa]at h;obtain⟨⟨e1,s1⟩,h1,h⟩:=h;have:=ih _ _ _ h1;cases e1 with
   |normal=>exact Ic.trans (H:=s.H) this (ihk _ h)
   |exit id=>simp at h;obtain⟨_,rfl⟩:=h;exact this
   |ret=>simp at h;obtain⟨_,rfl⟩:=h;exact this
 |rangeFunc fx ps assign body=>
  intro s ex s' h;simp only[code]at h;split at h
  case isFalse=>simp at h
  simp only[aa]at h;obtain⟨fv,_,env,_,_,_,⟨r,H2⟩,Nf,h⟩:=h;split at h
  case h_2=>simp at h
  simp only[aa]at h;obtain⟨_,_,h⟩:=h;split at h
  case isFalse=>simp at h
  rename_i Yf;simp only[ia]at h;obtain⟨qI,_,h⟩:=h;simp at h;obtain⟨_,rfl⟩:=h;exact((Ic.push _ _).trans (hq _ _ _ _ _ Nf)).trans (.set Yf _)
 |scope c ih=>intro s ex s' h;simp only[code]at h;exact ih _ _ _ h
 |goto=>intro s ex s' h;simp[code]at h
 |refuse=>intro s ex s' h;simp[code]at h
def Jr(A:Eh):Prop:=∀f h,A.ext f=some h->∀args H r H',h args H=some (r,H')->Ic H H'
theorem wj(hE:Jr A):∀k,Uc (V.call A k)
 |0=>fun fv args H r H' h=>by simp[V.call]at h
 |k+1=>fun fv args H r H' h=>by
  cases fv
  case fn f jh=>
   simp only[V.call]at h;split at h
   ·rename_i e he;exact hE f e he _ _ _ _ h
   ·split at h
    case h_1=>simp at h
    split at h
    case h_1=>simp at h
    split at h
    case isFalse=>simp at h
    simp only[aa]at h;obtain⟨⟨ex,s1⟩,Gj,h⟩:=h;have hq:=Lu (wj hE k) _ _ _ _ Gj;have Vz:∀l,(if A.pV f=true then freeze 8 s1.H (result l)else some (result l,s1.H))=some (r,H')->Ic H H':=fun l h=>by
     split at h
     ·exact Ic.trans (H:=H) hq (Ni _ _ _ _ _ h)
     ·simp at h;obtain⟨_,rfl⟩:=h;exact hq
    cases ex with
    |exit id=>simp at h
    |normal=>simp only[aa]at h;obtain⟨l,_,h⟩:=h;exact Vz l h
    |ret=>simp only[aa]at h;obtain⟨l,_,h⟩:=h;exact Vz l h
  case yl b=>
   simp only[V.call]at h;split at h
   case h_2=>simp at h
   split at h
   case isFalse=>simp at h
   rename_i hc;simp only[aa]at h;obtain⟨⟨V_,s1⟩,SM,h⟩:=h;split at h
   case h_2=>simp at h
   rename_i heq;simp at heq;obtain⟨rfl,rfl⟩:=heq;split at h
   case h_2=>simp at h
   simp only[aa]at h;obtain⟨⟨qI,s2⟩,RM,h⟩:=h;split at h
   case h_2=>simp at h
   simp at h;obtain⟨_,rfl⟩:=h;have q1:=Lu (wj hE k) _ _ _ _ SM;have q2:=Lu (wj hE k) _ _ _ _ RM;have w1:s1.H.wm=H.wm:=q1.1;have w2:s2.H.wm=s1.H.wm:=q2.1;have k1:∀x,Ic s1.H (Sa s1.H b x):=fun x=>Ic.set (by rw[w1];exact hc.2.1) x
   exact Ic.trans (H:=H) (Ic.trans (Ic.trans q1 (k1 _)) q2) (.set (by show s2.H.wm<=b;rw[w2,w1];exact hc.2.1) _)
  all_goals simp[V.call]at h
end
end Go.V
namespace Go.V
open Go
section
variable {A:Eh}{g:Gx}{f:Fx}{w:World}{s:S}{a:Act}{call:Callee}{Fa:List Nat}
theorem nB{s s':S}{n:Nat}{dst:Option Nat}{v:SV}(h:put s n dst v=some s'):s'.F=s.F/\s'.H=s.H/\((dst=none/\s'.e=s.e)\/∃d,dst=some d/\d<n/\s'.e=(d,v)::s.e):=by
 unfold put at h;split at h
 ·simp at h;subst h;exact⟨rfl,rfl,.inl ⟨rfl,rfl⟩⟩
 ·rename_i d;split at h
  ·rename_i hd;simp at h;subst h;exact⟨rfl,rfl,.inr ⟨d,rfl,hd,rfl⟩⟩
  ·simp at h
theorem Yv{tmps:Array Value}{d:Nat}{rv:Value}(t:Nat)(hd:d<tmps.size):(tmps.setIfInBounds d rv).getD t undef=if t=d then rv else tmps.getD t undef:=by
 simp only[Ai,Array.getElem?_setIfInBounds];by_cases h:d=t
 ·subst h;simp[hd]
 ·rw[if_neg h,if_neg (fun e=>h e.symm)]
theorem XQ{s':S}{n:Nat}{dst:Option Nat}{v:SV}{rv:Value}(h:put s n dst v=some s')(he:Ze g f w s.e a.tmps)(hn:a.tmps.size=n)(hv:Ee g f w v rv):Ze g f w s'.e (a.put dst rv).tmps/\(a.put dst rv).tmps.size=n/\(a.put dst rv).defers=a.defers:=by
 obtain⟨_,_,⟨rfl,h3⟩|⟨d,rfl,hd,h3⟩⟩:=nB h
 ·rw[h3];exact⟨he,hn,rfl⟩
 ·rw[h3];refine⟨fun t=> ?_,by simp[Act.put,hn],rfl⟩;simp only[Act.put,get];rw[Yv t (by omega)];by_cases ht:t=d
  ·rw[if_pos ht,if_pos ht];exact hv
  ·rw[if_neg ht,if_neg ht];exact he t
theorem IE(g:Gx)(w:World):jb g w (.Qc []) undef:=jb.Qc [] [] rfl fun i x v h=>by simp at h
theorem jz{all:Array Oper}{o:Oper}{b:Bool}(h:Vc all s o=some b)(he:Ze g f w s.e a.tmps):Region.wanted o (yielded all a.tmps)=b:=by
 unfold Vc at h;unfold Region.wanted;split at h
 ·rename_i hg;simp at h;subst h;simp[hg]
 ·rename_i j want hg;simp only[hg];split at h
  ·rename_i d hd;split at h
   ·rename_i b' ud;simp at h;subst h;have:=he d;rw[ud]at this;have hv:a.tmps.getD d undef= .bool b':=by
     generalize a.tmps.getD d undef=v at this;have Yu:jb g w (.bool b') v:=this;cases Yu;rfl
    have h2:a.tmps[d]?=some (.bool b'):=by
     rw[Ai]at hv;cases hx:a.tmps[d]? with
     |none=>rw[hx]at hv;simp[undef]at hv
     |some v=>rw[hx]at hv;simp at hv;rw[hv]
    have h3:yielded all a.tmps j=some b':=by simp[yielded,hd,h2]
    rw[h3];cases b'<;>cases want<;>rfl
   ·rename_i ud;simp at h;subst h;have:=he d;rw[ud]at this;have hv:a.tmps.getD d undef=undef:=by
     generalize a.tmps.getD d undef=v at this;have Yu:jb g w (.Qc []) v:=this;cases Yu with
     |Qc _ vs hl _=>
      have:vs=[]:=Ja.1 hl;subst this;rfl
    have h3:yielded all a.tmps j=none:=by
     rw[Ai]at hv;simp only[yielded,hd,ga];cases hx:a.tmps[d]? with
     |none=>rfl
     |some v=>rw[hx]at hv;simp[undef]at hv;rw[hv]
    rw[h3];cases want<;>rfl
   ·simp at h
  ·simp at h
def W3(G:Nat->Option (List AV))(g:Gx)(f:Fx)(w:World)(s s':S)(n:Nat)(a:Act)(K:Act->World->Prop):Prop:=
 ∀g' f' a' w',St G g' f' s' n a' w'->Ag g f w s.H s.F g' f' w' s'.H s'.F->xE w a.defers a'.defers->K a' w'
theorem L2{g':Gx}{f':Fx}{w':World}{s':S}(hw:Yb A.Ra g w s.H)(hf:Od g f w s.H s.F)(hx:Ag g f w s.H s.F g' f' w' s'.H s'.F)(he:Ze g f w s.e a.tmps):Ze g' f' w' s.e a.tmps:=
 fun t=>(he t).mono (hx.le hw hf) hx.E
theorem Nx{F:Fence}{m n:Nat}{all:Array Oper}{Q:Exit->Act->World->Prop}(hC:Pj A call)(hF:Uw F):∀(l:List Oper)(i:Nat)(g:Gx)(f:Fx)(s s':S)(a:Act)(w:World),(∀k,l[k]?=all[i+k]?)->ops A call Fa n all l s=some s'->St A.Ra g f s n a w->W3 A.Ra g f w s s' n a (Q .normal)->
  wpOpsIn F m A.P all Q (List.range' i l.length) a w
 |[],i,g,f,s,s',a,w,_,h,dc,hk=>by
  simp[ops]at h;subst h;exact hk g f a w dc (.refl _ _ _ _ _) (.refl _ _)
 |o::l,i,g,f,s,s',a,w,hl,h,dc,hk=>by
  have ho:all[i]?=some o:=by have:=hl 0;simpa using this.symm
  have Zf:∀k,l[k]?=all[i+1+k]?:=fun k=>by have:=hl (k+1);rw[show i+1+k=i+(k+1)by omega,<- this];simp
  simp only[ops,aa]at h;obtain⟨b,hb,h⟩:=h;have eag:=jz hb dc.he;rw[List.length_cons,List.range'_succ];simp only[wpOpsIn,ho,eag];cases b with
  |true=>
   simp only[aa]at h;obtain⟨⟨v,s1⟩,MB,s2,Xg,h⟩:=h;rw[if_pos rfl];refine xJ hC MB dc.hw dc.hf dc.he hF (fun t x y ho i c hx=>dc.hW i (by have:=ye hx dc.hw dc.he;exact this.1)) fun hse g1 f1 w1 rv DM hf1 Ej p9=> ?_
   obtain⟨e1,e2,e3⟩:=nB Xg;have he1:Ze g1 f1 w1 s1.e a.tmps:=by rw[hse];exact L2 dc.hw dc.hf Ej dc.he
   obtain⟨p1,p2,p3⟩:=XQ Xg he1 dc.hn p9;refine Nx hC hF l (i+1) g1 f1 s2 s' (a.put o.dst rv) w1 Zf h ⟨by rw[e2];exact DM,by rw[e1,e2];exact hf1,p1,p2,by rw[p3];exact dc.hm.step dc.hw dc.hf Ej,Ej.Dae dc.hW⟩ fun g' f' a' w' h1 h2 h3=>hk g' f' a' w' h1 ?_ (xE.trans Ej.size (by rw[p3];exact .refl _ _) h3)
   rw[e1,e2]at h2;exact Ej.trans h2
  |false=>
   simp only[aa]at h;obtain⟨s1,Xg,h⟩:=h;rw[if_neg (by simp)];refine⟨fun f _=>hF.fn f,?_⟩;obtain⟨e1,e2,e3⟩:=nB Xg;obtain⟨p1,p2,p3⟩:=XQ (rv:=undef) Xg dc.he dc.hn (IE g w);refine Nx hC hF l (i+1) g f s1 s' (a.put o.dst undef) w Zf h ⟨by rw[e2];exact dc.hw,by rw[e1,e2];exact dc.hf,p1,p2,by rw[p3];exact dc.hm,dc.hW⟩ fun g' f' a' w' h1 h2 h3=>hk g' f' a' w' h1 (by rw[e1,e2]at h2;exact h2) (by rw[p3]at h3;exact h3)
theorem HG{F:Fence}{m n id:Nat}{all:Array Oper}{s':S}{Q:Exit->Act->World->Prop}(hC:Pj A call)(hF:Uw F)(h:region A call Fa n all false s=some s')(dc:St A.Ra g f s n a w)(hk:W3 A.Ra g f w s s' n a (Q .normal)):
  (Code.region id all false).wpIn F m A.P Q a w:=by
 refine wpIn_region ?_;have hs:ua all.size=List.range' 0 all.toList.length:=by simp[List.range_eq_range']
 rw[hs];exact Nx hC hF all.toList 0 g f s s' a w (fun k=>by simp) (by simpa[region]using h) dc hk
end
end Go.V
namespace Go.V
open Go
def Ex.K2:Ex->Exit
 | .normal=> .normal
 | .exit id=> .exit id
 | .ret=> .ret
def jo(A:Eh):Prop:=
 ∀(call:Callee)(Fa:List Nat),Pj A call->Uc call->∀(F:Fence)(m n id:Nat)(all:Array Oper)(g:Gx)(f:Fx)(s s':S)(a:Act)(w:World)(Q:Exit->Act->World->Prop),Uw F->
  region A call Fa n all true s=some s'->St A.Ra g f s n a w->W3 A.Ra g f w s s' n a (Q .normal)->(Code.region id all true).wpIn F m A.P Q a w
section
variable {A:Eh}{call:Callee}{Fa keep:List Nat}
theorem ES(keep:List Nat)(e:List (Nat×SV))(t:Nat):get (keep.map fun i=>(i,get e i)) t=get e t\/get (keep.map fun i=>(i,get e i)) t= .v .Sb:=by
 induction keep with
 |nil=>exact .inr rfl
 |cons k ks ih=>
  simp only[Ld,get];by_cases h:t=k
  ·rw[if_pos h,h];exact .inl rfl
  ·rw[if_neg h];exact ih
theorem St.clean{g:Gx}{f:Fx}{s:S}{n:Nat}{a:Act}{w:World}(h:St A.Ra g f s n a w):St A.Ra g f (clean keep s) n a w:=
 ⟨h.hw,h.hf,fun t=>by
  rcases ES keep s.e t with h1|h1
  ·show Ee g f w (get (keep.map fun i=>(i,get s.e i)) t) _;rw[h1];exact h.he t
  ·show Ee g f w (get (keep.map fun i=>(i,get s.e i)) t) _;rw[h1];exact jb.Sb _,h.hn,h.hm,h.hW⟩
def Gz(A:Eh):Prop:=∀f fn,A.fns f=some fn->A.P.funcs[f]?=some fn/\(fn.name== "runtime.NumGoroutine")=false
theorem Bo(lD:Gz A){f:FuncId}{fn:Func}(h:A.fns f=some fn)(hb:fn.body.isSome=true)(args:Array Value)(w:World):(callFunc f args).run A.P w= .ok (.enter f args) w:=by
 obtain⟨h1,h2⟩:=lD f fn h;have hn:fn.body.isNone=false:=by cases hx:fn.body<;>simp_all
 unfold callFunc;simp only[program,Sem.run_bind,Sem.run,h1,Result.andThen,h2,hn];rfl
theorem Jx(lD:Gz A){f:FuncId}{fn:Func}(h:A.fns f=some fn)(hb:fn.body.isSome=true)(vs args:Array Value)(w:World):
  ((do let d <- Deferred.ofValue (.func (.func f) #[] vs) args;invoke d.target d.args:Sem Next).run A.P w)= .ok (.enter f (args++vs)) w:=by
 simp[Deferred.ofValue,invoke,go_sem,Bo lD h hb]
theorem qF{e:List (Nat×SV)}:∀{is:List Nat}{env:List (Nat×AV)},Cz e is=some env->∀t,get (Ce env) t=get e t\/get (Ce env) t= .v .Sb
 |[],env,h,t=>by simp[Cz]at h;subst h;exact .inr rfl
 |i::is,env,h,t=>by
  simp only[Cz,aa,ia]at h;obtain⟨a,ha,l,hl,rfl⟩:=h;simp only[Ce,get];split
  ·rename_i e0;subst e0;split at ha
   ·rename_i b hb;simp at ha;subst ha;left;rw[hb]
   ·simp at ha;subst ha;exact .inr rfl
  ·exact qF hl t
theorem Marks.lt{g:Gx}{w:World}:∀{ds:List Deferred},Marks g w ds->∀d∈ds,∃r,d.target= .collected r/\r<w.heap.size
 |[],_,d,h=>by simp at h
 |d0::ds,⟨⟨r,h1,h2,h3,h4⟩,hm⟩,d,h=>by
  rcases Vb.1 h with rfl|h
  ·exact⟨r,h1,Xa h2⟩
  ·exact hm.lt d h
theorem kS{p:Option Code}{ex:Ex}(h:UG p=some ex):p=ex.jump:=by
 unfold UG at h;split at h<;>simp at h<;>subst h<;>rfl
theorem SL{P:Program}{F:Fence}{m:Nat}{Q:Exit->Act->World->Prop}{a:Act}{w:World}{c:Code}(h:c.wpIn F m P (Exit.noGoto Q) a w):(Code.scope c).wpIn F m P Q a w:=by
 intro b k cs J4 hb hr;have h0:(lone (b.atR a (.code (.scope c)::k)) cs w).fenced P F:=fenced_calm hb hr rfl;have s1:∀{a:Act}{k:List Item}{w:World},step P (lone (b.atR a (.code (.scope c)::k)) cs w)= .next (lone (b.atR a (.code c:: .inScope c::k)) cs w):=step_lone_go (by simp[stepG,stepG.exec,Frame.atR])
 have s2:∀{a:Act}{k:List Item}{w:World},step P (lone (b.atR a (.inScope c::k)) cs w)= .next (lone (b.atR a k) cs w):=step_lone_go (by simp[stepG,stepG.exec,Frame.atR])
 obtain⟨e,M3,wV,hq,CS⟩:=h b (.inScope c::k) cs J4 hb hr;cases e with
 |normal=>exact⟨.normal,M3,wV,hq,.head h0 s1 (StepsIn.trans CS (.one (fenced_calm hb hr rfl) s2))⟩
 |exit gD=>
  have hx:exitTo gD (.inScope c::k)=exitTo gD k:=by simp[exitTo]
  exact⟨.exit gD,M3,wV,hq,fun k' hk=> .head h0 s1 (CS.1 k' (by rw[hx];exact hk)),
   fun dm hk=>let⟨k₁,h1,h2⟩:=CS.2 dm (by rw[hx];exact hk);⟨k₁,h1,.head h0 s1 h2⟩⟩
 |goto l=>exact hq.elim
 |ret=>exact⟨_,M3,wV,hq,.of_steps (.one h0 s1) CS⟩
 |panic ch=>exact⟨_,M3,wV,hq,.of_steps (.one h0 s1) CS⟩
 |outgrown=>exact⟨_,M3,wV,hq,.of_steps (.one h0 s1) CS⟩
theorem Ku(lD:Gz A)(hC:Pj A call)(hCq:Uc call)(hD:jo A){rf:Bool}{F:Fence}(hF:Uw F)(J4:rf=true->F.round=none){m n:Nat}:∀(c:Code)(g:Gx)(f:Fx)(s s':S)(ex:Ex)(a:Act)(w:World)(Q:Exit->Act->World->Prop),code A call rf Fa keep n c s=some (ex,s')->St A.Ra g f s n a w->W3 A.Ra g f w s s' n a (Q ex.K2)->
  c.wpIn F m A.P Q a w:=by
 intro c;induction c with
 |skip=>
  intro g f s s' ex a w Q h dc hk;simp[code]at h;obtain⟨rfl,rfl⟩:=h;exact wpIn_skip (hk g f a w dc (.refl _ _ _ _ _) (.refl _ _))
 |label l=>
  intro g f s s' ex a w Q h dc hk;simp[code]at h;obtain⟨rfl,rfl⟩:=h;exact wpIn_label (hk g f a w dc (.refl _ _ _ _ _) (.refl _ _))
 |region id os draw=>
  intro g f s s' ex a w Q h dc hk;simp only[code,ia]at h;obtain⟨s1,h1,h⟩:=h;simp at h;obtain⟨rfl,rfl⟩:=h;cases draw with
  |true=>exact hD call Fa hC hCq F m n id os g f s s1 a w Q hF h1 dc hk
  |false=>exact HG hC hF h1 dc hk
 |seq x y Z5 ihy=>
  intro g f s s' ex a w Q h dc hk;simp only[code,aa]at h;obtain⟨⟨e1,s1⟩,h1,h⟩:=h;refine wpIn_seq (Z5 g f s s1 e1 a w _ h1 dc ?_);intro g1 f1 a1 w1 sg Ej GL;cases e1 with
  |normal=>exact ihy g1 f1 s1 s' ex a1 w1 Q h sg fun g2 f2 a2 w2 h2 Dq hd2=>hk g2 f2 a2 w2 h2 (Ej.trans Dq) (xE.trans Ej.size GL hd2)
  |exit id=>simp at h;obtain⟨rfl,rfl⟩:=h;exact hk g1 f1 a1 w1 sg Ej GL
  |ret=>simp at h;obtain⟨rfl,rfl⟩:=h;exact hk g1 f1 a1 w1 sg Ej GL
 |cond c x y Z5 ihy=>
  intro g f s s' ex a w Q h dc hk;simp only[code,aa]at h;obtain⟨cv,YW,h⟩:=h;have hc:=Tb YW dc.hw dc.he;split at h
  ·rename_i b;generalize Wz:a.eval c=v at hc;cases hc;refine wpIn_cond Wz ?_;cases b with
   |true=>exact Z5 g f s s' ex a w Q (by simpa using h) dc hk
   |false=>exact ihy g f s s' ex a w Q (by simpa using h) dc hk
  ·simp at h
 |block id c ih=>
  intro g f s s' ex a w Q h dc hk;simp only[code,aa]at h;obtain⟨⟨e1,s1⟩,h1,h⟩:=h;refine wpIn_block (ih g f s s1 e1 a w _ h1 dc ?_);intro g1 f1 a1 w1 sg Ej GL;cases e1 with
  |normal=>simp at h;obtain⟨rfl,rfl⟩:=h;exact hk g1 f1 a1 w1 sg Ej GL
  |ret=>simp at h;obtain⟨rfl,rfl⟩:=h;exact hk g1 f1 a1 w1 sg Ej GL
  |exit gD=>
   simp only at h;simp only[Ex.K2,Exit.inBlock];split at h
   ·rename_i e;rw[if_pos e];simp at h;obtain⟨rfl,rfl⟩:=h;exact hk g1 f1 a1 w1 sg Ej GL
   ·rename_i e;rw[if_neg e];simp at h;obtain⟨rfl,rfl⟩:=h;exact hk g1 f1 a1 w1 sg Ej GL
 |loop c ih=>
  intro g f s s' ex a w Q h dc hk;simp only[code]at h;refine wpIn_loop_rounds Kn ?_;generalize Kn=k at h ⊢;have key:∀(k:Nat)(g1:Gx)(f1:Fx)(s1:S)(a1:Act)(w1:World),Zt (fun s=>code A call rf Fa keep n c (clean keep s)) k s1=some (ex,s')->St A.Ra g1 f1 s1 n a1 w1->W3 A.Ra g1 f1 w1 s1 s' n a1 (Q ex.K2)->Code.roundsIn F m A.P c Q k a1 w1:=by
   intro k;induction k with
   |zero=>intro g1 f1 s1 a1 w1 h;simp[Zt]at h
   |succ k ihk=>
    intro g1 f1 s1 a1 w1 h sg hk1;simp only[Zt,aa]at h;obtain⟨⟨e2,s2⟩,h2,h⟩:=h;rw[roundsIn_succ];refine ih g1 f1 (clean keep s1) s2 e2 a1 w1 _ h2 sg.clean ?_;intro g2 f2 a2 w2 Sz Dq hd2;cases e2 with
    |normal=>exact ihk g2 f2 s2 a2 w2 h Sz fun g3 f3 a3 w3 h3 hx3 hd3=>hk1 g3 f3 a3 w3 h3 (Dq.trans hx3) (xE.trans Dq.size hd2 hd3)
    |exit id=>simp at h;obtain⟨rfl,rfl⟩:=h;exact hk1 g2 f2 a2 w2 Sz Dq hd2
    |ret=>simp at h;obtain⟨rfl,rfl⟩:=h;exact hk1 g2 f2 a2 w2 Sz Dq hd2
  exact key k g f s a w h dc hk
 |exit id=>
  intro g f s s' ex a w Q h dc hk;simp[code]at h;obtain⟨rfl,rfl⟩:=h;exact wpIn_exit (hk g f a w dc (.refl _ _ _ _ _) (.refl _ _))
 |ret=>
  intro g f s s' ex a w Q h dc hk;simp[code]at h;obtain⟨rfl,rfl⟩:=h;exact wpIn_ret (hk g f a w dc (.refl _ _ _ _ _) (.refl _ _))
 |rangeFunc fx ps assign body=>
  intro g f s s' ex a w Q h dc hk;simp only[code]at h;split at h
  case isFalse=>simp at h
  case isTrue FM=>
  simp only[aa]at h;obtain⟨fv,AS,env,sal,_,mo,⟨r,H2⟩,Nf,h⟩:=h;have GD:=Tb AS dc.hw dc.he;split at mo
  case h_2=>simp at mo
  rename_i ff jh;split at mo
  case h_2=>simp at mo
  rename_i fn Vag;split at mo
  case isFalse=>simp at mo
  rename_i ez;split at h
  case h_2=>simp at h
  rename_i n2 TO rI ps2 KA dR st WV HD;simp only[aa]at h;obtain⟨_,eah,h⟩:=h;split at h
  case isFalse=>simp at h
  rename_i Yf;simp only[ia]at h;obtain⟨qI,Nag,h⟩:=h;simp at h;obtain⟨rfl,rfl⟩:=h;obtain⟨vs,hev,rS,hvr⟩:∃vs:List Value,a.eval fx= .func (.func ff) #[] vs.toArray/\vs.length=jh.length/\∀(i:Nat)(x:AV)(v:Value),jh[i]?=some x->vs[i]?=some v->jb g w x v:=by
   generalize a.eval fx=v at GD;cases GD with
   |fn _ _ vs hl hr=>exact⟨vs,rfl,hl,hr⟩
  refine wpIn_rangeFunc ?_;intro fn0 _;rw[J4 FM];obtain⟨wa,hwa⟩:∃wa,wa=w.alloc (.deferred (some [])):=⟨_,rfl⟩;obtain⟨rec,DD⟩:∃ rec:Loop,rec={ state:= .ready,pending:=none,fn:=fn0,tmps:=a.tmps,params:=ps,assign,body,defers:=w.heap.size }:=⟨_,rfl⟩;obtain⟨w1,DM⟩:∃w1,w1=wa.alloc (.loop rec):=⟨_,rfl⟩;have hsa:wa.heap.size=w.heap.size+1:=by rw[hwa];simp
  have G4:w1.heap.size=w.heap.size+2:=by rw[DM];simp[hsa]
  have hoa:∀R,R<w.heap.size->wa.heap[R]?=w.heap[R]?:=fun R hR=>by rw[hwa];show(w.heap.push _)[R]?=_;simp[Array.getElem?_push,Nat.ne_of_lt hR]
  have ZG:∀R,R<wa.heap.size->w1.heap[R]?=wa.heap[R]?:=fun R hR=>by rw[DM];show(wa.heap.push _)[R]?=_;simp[Array.getElem?_push,Nat.ne_of_lt hR]
  have EL:w1.heap[w.heap.size+1]?=some (.loop rec):=by rw[DM,<- hsa];exact World.alloc_heap_new _ _
  have GL:wa.heap[w.heap.size]?=some (.deferred (some [])):=by rw[hwa];exact World.alloc_heap_new _ _
  obtain⟨pa,pb,pc⟩:=Jo (dx:=by subst hwa;exact⟨rfl,rfl⟩) dc.hw dc.hf (by omega) hoa;obtain⟨qa,qb,qc⟩:=Cs (x:= .loop n keep env ps.toList assign body .ready none) (l:=⟨w.heap.size+1,0,0,0⟩) pa pb (w':=w1) (dx:=by subst DM;exact⟨rfl,rfl⟩) (by omega) (by rw[hsa]) (by omega) ZG (fun hle=>by
   refine⟨rec,EL,fun hz=> ?_,by rw[DD],by rw[DD],by rw[DD],by rw[DD],by rw[DD],by rw[DD];exact dc.hn,fun t x hx=> ?_⟩
   ·have:=dc.hw.Qu _ hz;simp at this;omega
   ·rcases qF sal t with h1|h1
    ·rw[h1]at hx;have:=dc.he t;rw[hx]at this;rw[DD];exact(jb.mono (pc.le dc.hw dc.hf) this).mono hle
    ·rw[h1]at hx;simp at hx;subst hx;exact .Sb _)
  have hlen:((g.add s.H.bl.length ⟨w.heap.size+1,0,0,0⟩).ρ s.H.bl.length).R=w.heap.size+1:=by rw[ng]
  have hDb:(g.add s.H.bl.length ⟨w.heap.size+1,0,0,0⟩).D s.H.bl.length:= .inr rfl;have qS:jb (g.add s.H.bl.length ⟨w.heap.size+1,0,0,0⟩) w1 (.yl s.H.bl.length) (.func (.yield (w.heap.size+1)) #[] #[]):=by have:=jb.yl (w:=w1) _ hDb;rw[hlen]at this;exact this
  have xab:=(pc.trans qc).le dc.hw dc.hf;have nal:jb (g.add s.H.bl.length ⟨w.heap.size+1,0,0,0⟩) w1 (.fn ff jh) (.func (.func ff) #[] vs.toArray):= .fn ff jh vs rS fun i x v hx hv=>(hvr i x v hx hv).mono xab
  refine⟨w.heap.size+1,[{ target:= .collected w.heap.size,args:= #[] }],w1,{ target:= .fn (.func ff) vs.toArray,args:= #[.func (.yield (w.heap.size+1)) #[] #[]] },w1,ff,
   #[.func (.yield (w.heap.size+1)) #[] #[]]++vs.toArray,w1,?_,?_,fun f' _=>hF.fn f',?_,fun hd=>by rw[hF.depth]at hd;simp at hd,?_⟩
  ·rw[DM,hwa,DD];exact run_enterLoop_outer _ _ _ _ _
  ·simp only[resolve,hev];simp[Deferred.ofValue,go_sem]
  ·simp[invoke,go_sem,Bo lD Vag ez]
  ·have fq:=hC (.fn ff jh) [.yl s.H.bl.length] _ _ _ Nf _ w1 _ [.func (.yield (w.heap.size+1)) #[] #[]] qa nal rfl (fun i x v hx hv=>by
    cases i with
    |zero=>simp at hx hv;subst hx;subst hv;exact qS
    |succ i=>simp at hx) F m { (default:Oper)with dst:=none } { a with defers:=[{ target:= .collected w.heap.size,args:= #[] }]++a.defers }
    (fun _ w3=>∃jump w4,(Instr.endLoop (w.heap.size+1)).run A.P w3= .ok jump w4/\(match jump with|none=>Q .normal { a with defers:=[{ target:= .collected w.heap.size,args:= #[] }]++a.defers } w4|some c=>c.wpIn F m A.P Q { a with defers:=[{ target:= .collected w.heap.size,args:= #[] }]++a.defers } w4)) Q hF (fun g2 w2 rv hrv o6 Dq=> ?_)
   ·rw[Jx lD Vag ez]at fq;simp only[Oper.uponIn]at fq;refine CallsIn.mono fq.2 fun e w3 he=> ?_
    cases e with
    |returned v=>exact he
    |panicked chain=>exact he
    |outgrown=>exact he
   ·obtain⟨hf2,Sag⟩:=bG qa qb Dq;have hD2:=Dq.D _ hDb;have TI:(g2.ρ s.H.bl.length).R=w.heap.size+1:=by rw[hD2.2];exact hlen
    obtain⟨r2,KB,OJ,Sz,vag,_⟩:=o6.Tc _ _ hD2.1 HD;rw[TI]at KB;have hnb:r2.state≠ .busy:=by rw[Sz];intro e;subst e;simp at eah
    have vab:live g2 H2 s.H.bl.length:=⟨hD2.1,_,HD,rfl⟩;refine⟨r2.pending,_,run_endLoop KB hnb,?_⟩;obtain⟨ra,rb,rc⟩:=Be (x:= .dead) (w':=w2.putObj (w.heap.size+1) (.loop { r2 with state:= .exhausted })) o6 hf2 vab Yf (by simp) (fun R hR=>World.putObj_heap_other (by rw[TI]at hR;exact hR)) (fun _=>trivial);have G6:=((pc.trans qc).trans Sag).trans rc;have hmk:Marks g wa ({ target:= .collected w.heap.size,args:= #[] }::a.defers):=by
     refine⟨⟨w.heap.size,rfl,GL,fun hz=> ?_,fun d' oV e=> ?_⟩,dc.hm.step dc.hw dc.hf pc⟩
     ·have:=dc.hw.Qu _ hz;omega
     ·obtain⟨r',e1,e2⟩:=dc.hm.lt d' oV;rw[e]at e1;injection e1 with e1;omega
    have lV:=hk g2 f { a with defers:=[{ target:= .collected w.heap.size,args:= #[] }]++a.defers } (w2.putObj (w.heap.size+1) (.loop { r2 with state:= .exhausted }))
     ⟨ra,rb,fun t=>(dc.he t).mono (G6.le dc.hw dc.hf) G6.E,dc.hn,((hmk.step pa pb qc).step qa qb Sag).step o6 hf2 rc,G6.Dae dc.hW⟩ G6 (fun d hd=>by
      rcases Vb.1 hd with rfl|hd
      ·exact .inr ⟨_,rfl,va _⟩
      ·exact .inl hd)
    have hj:=kS Nag;have hpj:=vag.trans hj;rw[hpj]at lV ⊢;cases qI with
    |normal=>exact lV
    |exit id=>exact wpIn_exit lV
    |ret=>exact wpIn_ret lV
 |scope c ih=>
  intro g f s s' ex a w Q h dc hk;simp only[code]at h;refine SL (ih g f s s' ex a w _ h dc ?_);intro g1 f1 a1 w1 sg Ej GL;have:=hk g1 f1 a1 w1 sg Ej GL;cases ex<;>exact this
 |goto=>intro g f s s' ex a w Q h;simp[code]at h
 |refuse=>intro g f s s' ex a w Q h;simp[code]at h
end
end Go.V
namespace Go.V
open Go
section
variable {A:Eh}{g g':Gx}{w w':World}
theorem wJ{f:Fx}{H:AH}{F:List (List AV)}{r:Nat}(hw:Yb A.Ra g w H)(hf:Od g f w H F)(cg:w'.heap.size=w.heap.size)(Ed:∀R,R≠r->w'.heap[R]?=w.heap[R]?)
  (h1:¬Fp g H r) (h2:¬g.Z r) (h3:∀i,f.E i->f.φ i≠r):Yb A.Ra g w' H/\Od g f w' H F/\g.Le w g w':=by
 have hle:g.Le w g w':=⟨fun b hb=>⟨hb,rfl⟩,fun R h=>⟨h,Ed R (fun e=>h2 (e ▸ h))⟩⟩;refine⟨⟨fun i row hg=>(hw.Ra i row hg).mono hle,hw.He,fun b y hd hy=>(hw.Tc b y hd hy).le hle (fun hl=>Ed _ (fun e=>h1 ⟨b,⟨hd,y,hy,hl⟩,e⟩)) (fun hl=>hw.Cn ⟨hd,y,hy,hl⟩),hw.inj,fun R h=>by rw[cg];exact hw.Qu R h⟩,⟨hf.He,fun i row hi hr=> ?_,hf.inj,hf.apart⟩,hle⟩;obtain⟨cs,⟨T,fz,iz,h4⟩,h5⟩:=hf.Tc i row hi hr;exact⟨cs,⟨T,fz,by rw[Ed _ (h3 i hi)];exact iz,h4⟩,h5.mono hle⟩
theorem Jv{f:Fx}{H:AH}{F0:List (List AV)}{F:Fence}{n base:Nat}{fn:Func}{tmps:Array Value}{R:Ending->World->Prop}:∀(ds:List Deferred)(w:World),Yb A.Ra g w H->Od g f w H F0->Marks g w ds->
  (∀d∈ds,∃r,d.target= .collected r/\base<=r)->
  (∀w',Yb A.Ra g w' H->Od g f w' H F0->g.Le w g w'->w'.heap.size=w.heap.size->(∀R,R<base->w'.heap[R]?=w.heap[R]?)->(w'.os=w.os/\w'.output=w.output)->LeavesIn F n A.P fn tmps R [] .returning w')->
  LeavesInM F n A.P fn tmps R ds .returning w
 |[],w,hw,hf,_,_,hk=>hk w hw hf ⟨fun _ h=>⟨h,rfl⟩,fun _ h=>⟨h,rfl⟩⟩ rfl (fun _ _=>rfl) ⟨rfl,rfl⟩
 |d::ds,w,hw,hf,⟨⟨r,h1,h2,h3,h4⟩,hm⟩,hb,hk=>by
  obtain⟨r',e1,hbr⟩:=hb d (by simp);rw[h1]at e1;injection e1 with e1;subst e1
  have Ed:∀R,R≠r->(w.putObj r (.deferred none)).heap[R]?=w.heap[R]?:=fun R hR=>World.putObj_heap_other hR
  obtain⟨a1,a2,a3⟩:=wJ (w':=w.putObj r (.deferred none)) hw hf (by simp) Ed (hw.Zr h2) h3 (fun i hi=>hf.Zr h2 hi);refine⟨by simp,.inl ⟨r,_,h1,run_takeDeferred h2,?_⟩⟩;have hm':∀{ds:List Deferred},Marks g w ds->(∀d'∈ds,d'.target≠ .collected r)->Marks g (w.putObj r (.deferred none)) ds:=by
   intro ds;induction ds with
   |nil=>intro _ _;trivial
   |cons d ds ih=>
    rintro⟨⟨q,k1,k2,k3,k4⟩,hm⟩ Sc
    exact⟨⟨q,k1,by rw[Ed q (fun e=>Sc d (by simp) (e ▸ k1))];exact k2,k3,k4⟩,ih hm fun d' oV=>Sc d' (Ib _ oV)⟩
  refine Jv ds _ a1 a2 (hm' hm h4) (fun d hd=>hb d (Ib _ hd)) fun w' k1 k2 k3 k4 k5 k6=>hk w' k1 k2 ⟨fun b hb=>⟨hb,rfl⟩,fun R hR=>⟨hR,((k3.Z R hR).2).trans (a3.Z R hR).2⟩⟩ (k4.trans (by simp)) (fun R hR=>(k5 R hR).trans (Ed R (by omega))) ⟨k6.1,k6.2⟩
def lB(tmps:Array Value):ResultVar->Sem Value
 | .tmp t=>pure (tmps.getD t undef)
 | .cell a t=>do loadVar t (<- asAddr (tmps.getD a undef))
theorem iB(tmps:Array Value)(t:Tmp)(P:Program):(lB tmps (.tmp t)).run P w= .ok (tmps.getD t undef) w:=rfl
theorem Jz{tmps:Array Value}{p:Tmp}{t:TypeId}{P:Program}{ad:Addr}{v:Value}(h:tmps.getD p undef= .pointer (some ad))(hv:(loadVar t ad).run P w= .ok v w):(lB tmps (.cell p t)).run P w= .ok v w:=by
 unfold lB;simp only[h,asAddr,Sem.run_bind,Sem.run_pure,Result.andThen_ok,hv]
theorem Co{f:Fx}{s:S}{tmps:Array Value}(hw:Yb A.Ra g w s.H)(hf:Od g f w s.H s.F)(he:Ze g f w s.e tmps):∀(rs:List ResultVar)(l:List AV),results A s rs=some l->
  ∃vs:List Value,(rs.mapM (lB tmps)).run A.P w= .ok vs w/\VL g w l vs
 |[],l,h=>by simp[results]at h;subst h;exact⟨[],rfl,trivial⟩
 | .tmp t::rs,l,h=>by
  simp only[results,aa]at h;obtain⟨a,ha,l',hl,h⟩:=h;simp at h;subst h;obtain⟨vs,h1,h2⟩:=Co hw hf he rs l' hl;have ht:=he t;split at ha
  ·rename_i b hb;simp at ha;subst ha;rw[hb]at ht;exact⟨tmps.getD t undef::vs,by simp only[List.mapM_cons,Sem.run_bind,iB,Sem.run_pure,Result.andThen_ok,h1],ht,h2⟩
  ·simp at ha
 | .cell p t::rs,l,h=>by
  simp only[results,aa]at h;obtain⟨a,ha,l',hl,h⟩:=h;simp at h;subst h;obtain⟨vs,h1,h2⟩:=Co hw hf he rs l' hl;obtain⟨ad,v,hp,hv,hr⟩:=GJ ha hw hf (he p);exact⟨v::vs,by simp only[List.mapM_cons,Sem.run_bind,Jz hp hv,Sem.run_pure,Result.andThen_ok,h1],hr,h2⟩
theorem vD{f:Fx}{s:S}{fn:Func}{tmps:Array Value}{l:List AV}(hw:Yb A.Ra g w s.H)(hf:Od g f w s.H s.F)(he:Ze g f w s.e tmps)(h:results A s fn.results.toList=some l):
  ∃v,(Go.results fn tmps).run A.P w= .ok v w/\jb g w (result l) v:=by
 obtain⟨vs,h1,h2⟩:=Co hw hf he _ _ h;refine⟨if h:vs.toArray.size=1 then vs.toArray[0]else .tuple vs.toArray,?_,?_⟩
 ·have e:Go.results fn tmps=(do let vs <- fn.results.mapM (lB tmps);pure (if h:vs.size=1 then vs[0]else .tuple vs)):=by
   unfold Go.results;congr 2
  rw[e,Sem.run_bind,Array.mapM_eq_mapM_toList,Sem.run_map,h1];rfl
 ·match l,vs,h2 with
  |[],[],_=>exact .Qc [] [] rfl (fun i x v h=>by simp at h)
  |[a],[v],h2=>exact h2.1
  |a::b::l,u::v::vs,h2=>
   obtain⟨k1,k2⟩:=Tj.1 h2;have:¬(u::v::vs).toArray.size=1:=by simp
   rw[dif_neg this];exact .Qc _ _ k1 k2
def lR(A:Eh):Prop:=
 ∀f h,A.ext f=some h->∀args H r H',h args H=some (r,H')->∀(g:Gx)(w:World)(vs:List Value),Yb A.Ra g w H->VL g w args vs->
  ∀(F:Fence)(n:Nat)(o:Oper)(a:Act)(next:Act->World->Prop)(Q:Exit->Act->World->Prop),Uw F->
   (∀g' w' rv,jb g' w' r rv->Yb A.Ra g' w' H'->Ext g w H g' w' H'->next (a.put o.dst rv) w')->Oper.uponIn F n A.P o a next Q ((callFunc f vs.toArray).run A.P w)
theorem Ag.ext{f f':Fx}{H H':AH}{F F':List (List AV)}(h:Ag g f w H F g' f' w' H' F')(hE:∀i,¬f.E i):Ext g w H g' w' H':=
 ⟨h.D,h.bA,h.Z,h.Hr,h.fp,fun R h1 h2=>h.Tk R h1 h2 (fun i hi=>absurd hi (hE i)),h.size,h.len,h.wm,h.quiet,h.still,h.io⟩
theorem VL.append:∀{xs ys:List AV}{us vs:List Value},VL g w xs us->VL g w ys vs->VL g w (xs++ys) (us++vs)
 |[],_,[],_,_,h=>h
 |_::_,_,_::_,_,⟨h1,h2⟩,h=>⟨h1,h2.append h⟩
 |[],_,_::_,_,h,_=>h.elim
 |_::_,_,[],_,h,_=>h.elim
theorem XB:∀(l:List AV)(i t:Nat),get (ue l i) t=if t<i then .v .Sb else match l[t-i]? with|some a=> .v a|none=> .v .Sb
 |[],i,t=>by simp[ue,get]
 |a::l,i,t=>by
  simp only[ue,get];split
  ·rename_i e;subst e;simp
  ·rename_i Sc;rw[XB l (i+1) t];by_cases h1:t<i
   ·rw[if_pos (by omega),if_pos h1]
   ·rw[if_neg (by omega),if_neg h1];rw[show t-i=(t-(i+1))+1 by omega,We]
theorem M2{f:Fx}{l:List AV}{vs:List Value}{n:Nat}(h:VL g w l vs):Ze g f w (ue l 0) (vs.toArray++Array.replicate n undef):=by
 intro t;obtain⟨h1,h2⟩:=Tj.1 h;rw[XB,if_neg (by omega),Nat.sub_zero];cases hl:l[t]? with
 |none=>exact .Sb _
 |some a=>
  have tc:t<vs.length:=by have:=getElem?_lt' hl;omega
  have hv:vs[t]?=some vs[t]:=Aa tc;have:(vs.toArray++Array.replicate n undef).getD t undef=vs[t]:=by
   rw[Ai,ax (by simpa using tc)];simp[hv]
  rw[this];exact h2 t a _ hl hv
theorem FC{f:Fx}:∀(ps:List Nat)(as:List AV)(vs:List Value)(e:List (Nat×SV))(tmps:Array Value),VL g w as vs->(∀p∈ps,p<tmps.size)->Ze g f w e tmps->
  Ze g f w (kj ps as e) ((ps.zip vs).foldl (fun tmps(t,a)=>tmps.setIfInBounds t a) tmps)/\((ps.zip vs).foldl (fun tmps(t,a)=>tmps.setIfInBounds t a) tmps).size=tmps.size
 |[],_,_,e,tmps,_,_,he=>by simp[kj];exact he
 |p::ps,[],[],e,tmps,_,_,he=>by simp[kj];exact he
 |p::ps,a::as,v::vs,e,tmps,⟨h1,h2⟩,hp,he=>by
  simp only[kj,List.zip_cons_cons,Og];have he':Ze g f w ((p,.v a)::e) (tmps.setIfInBounds p v):=fun t=>by
   rw[Yv t (hp p (by simp))];simp only[get];split
   ·exact h1
   ·exact he t
  obtain⟨q1,q2⟩:=FC ps as vs _ _ h2 (fun q hq=>by simpa using hp q (Ib _ hq)) he';exact⟨q1,by rw[q2];simp⟩
 |_::_,[],_::_,_,_,h,_,_=>h.elim
 |_::_,_::_,[],_,_,h,_,_=>h.elim
def Dp:Fx:=⟨fun _=>False,fun _=>0,fun _=>True⟩
theorem Xh{H:AH}:Od g Dp w H []:=⟨fun _ h=>h.elim,fun _ _ h=>h.elim,fun _ _ h=>h.elim,fun _ h=>h.elim⟩
theorem vp(lD:Gz A)(hE:lR A)(O4:Jr A)(hD:jo A):∀k,Pj A (call A k)
 |0=>fun fv args H r H' h=>by simp[call]at h
 |k+1=>fun fv args H r H' h g w lX vs hw AS hlen cK F n o a next Q hF hk=>by
  have hVL:VL g w args vs:=Tj.2 ⟨hlen.symm,cK⟩;cases fv
  case fn f jh=>
   obtain⟨cv,rfl,TM,hcr⟩:∃cv:List Value,lX= .func (.func f) #[] cv.toArray/\cv.length=jh.length/\∀(i:Nat)(x:AV)(v:Value),jh[i]?=some x->cv[i]?=some v->jb g w x v:=by
    cases AS with
    |fn _ _ vs hl hr=>exact⟨vs,rfl,hl,hr⟩
   have Vab:VL g w (args++jh) (vs++cv):=hVL.append (Tj.2 ⟨TM,hcr⟩);simp only[call]at h;split at h
   ·rename_i e he;have:=hE f e he _ _ _ _ h g w _ hw Vab F n o a next Q hF hk
    have de:((do let d <- Deferred.ofValue (.func (.func f) #[] cv.toArray) vs.toArray;invoke d.target d.args:Sem Next).run A.P w)=(callFunc f (vs++cv).toArray).run A.P w:=by
     simp[Deferred.ofValue,invoke,go_sem]
    rw[de];exact this
   ·rename_i he;split at h
    case h_1=>simp at h
    rename_i fn mo;split at h
    case h_1=>simp at h
    rename_i c ez;split at h
    case isFalse=>simp at h
    rename_i hnt;simp only[aa]at h;obtain⟨⟨ex,s1⟩,Gj,h⟩:=h;rw[Jx lD mo (by rw[ez];rfl)];simp only[Oper.uponIn];refine⟨fun hd=>by rw[hF.depth]at hd;simp at hd,?_⟩;have hFp:Uw F.plain:=⟨hF.fn,hF.depth,hF.alive⟩;have Pab:vs.toArray++cv.toArray=(vs++cv).toArray:=by simp
    rw[Pab];have se:((vs++cv).toArray++Array.replicate (fn.ntmps-(vs++cv).toArray.size) undef).size=fn.ntmps:=by
     have:=(Tj.1 Vab).1;simp at this hnt ⊢;omega
    have fq:∀R:Ending->World->Prop,(∀v w'',next (a.put o.dst v) w''->R (.returned v) w'')->CallsIn F.plain (n-1) A.P f (vs++cv).toArray w R:=by
     intro R hR;refine callsIn_of_wp_marks (lD f fn mo).1 ez (hF.fn f) ?_;refine Ku lD (vp lD hE O4 hD k) (wj O4 k) hD hFp (fun _=>rfl) c g Dp ⟨ue (args++jh) 0,[],H⟩ s1 ex _ w _ Gj ⟨hw,Xh,M2 Vab,se,trivial,fun _ _=>trivial⟩ ?_;intro g1 f1 a1 w1 sg Ej GL;have Zx:=Ej.ext (fun i hi=>hi.elim);have Vz:∀l,results A s1 fn.results.toList=some l->(if A.pV f=true then freeze 8 s1.H (result l)else some (result l,s1.H))=some (r,H')->LeavesInM F.plain (n-1) A.P fn a1.tmps R a1.defers .returning w1:=by
      intro l hl GD;refine Jv (base:=w.heap.size) a1.defers w1 sg.hw sg.hf sg.hm (fun d hd=>(GL d hd).resolve_left (by simp)) fun w2 k1 k2 k3 k4 k5 k6=> ?_
      obtain⟨v,hv,hrv⟩:=vD k1 k2 (fun t=>(sg.he t).mono k3 (fun _ h=>⟨h,rfl⟩)) hl;refine⟨v,hv,?_⟩;have Dq:Ext g w H g1 w2 s1.H:=⟨Zx.D,Zx.bA,Zx.Z,Zx.Hr,Zx.fp,fun R h1 h2=>(k5 R h1).trans (Zx.Tk R h1 h2),by rw[k4];exact Zx.size,Zx.len,Zx.wm,Zx.quiet,fun b hb hv=>(k5 _ (hw.lt hv)).trans (Zx.still b hb hv),⟨k6.1.trans Zx.io.1,k6.2.trans Zx.io.2⟩⟩;refine hR v w2 ?_;split at GD
      ·obtain⟨g2,m1,m2,m3⟩:=Mi 8 _ _ _ _ GD g1 w2 v k1 hrv;exact hk g2 w2 v m3 m1 (Dq.trans m2)
      ·simp at GD;obtain⟨rfl,rfl⟩:=GD;exact hk g1 w2 v hrv k1 Dq
     cases ex with
     |exit id=>simp at h
     |normal=>
      simp only[aa]at h;obtain⟨l,hl,h⟩:=h;exact Vz l hl h
     |ret=>
      simp only[aa]at h;obtain⟨l,hl,h⟩:=h;exact Vz l hl h
    exact fq _ fun v w'' h=>h
  case yl b=>
   have hDb:g.D b:=by cases AS;assumption
   obtain rfl:lX= .func (.yield (g.ρ b).R) #[] #[]:=by cases AS;rfl
   simp only[call]at h;split at h
   case h_2=>simp at h
   rename_i nn keep env ps assign body WV hb;split at h
   case isFalse=>simp at h
   rename_i hc;obtain⟨ED,Yf,LB⟩:=hc;simp only[aa]at h;obtain⟨⟨V_,s1⟩,SM,h⟩:=h;split at h
   case h_2=>simp at h
   rename_i x s1' heq;simp at heq;obtain⟨rfl,rfl⟩:=heq;split at h
   case h_2=>simp at h
   rename_i n1 tW bO ps1 II K3 VV Np;simp only[aa]at h;obtain⟨⟨qI,s2⟩,RM,h⟩:=h;split at h
   case h_2=>simp at h
   rename_i n2 TO rI ps2 KA dR st2 Ram HD;simp at h;obtain⟨rfl,rfl⟩:=h;obtain⟨rc,hrc,hz,dc,hpe,yag,has,hbo,hnn,u9⟩:=hw.Tc b _ hDb hb;have de:((do let d <- Deferred.ofValue (.func (.yield (g.ρ b).R) #[] #[]) vs.toArray;invoke d.target d.args:Sem Next).run A.P w)=(Instr.yield (g.ρ b).R vs.toArray).run A.P w:=by
    simp[Deferred.ofValue,invoke,go_sem]
   have hpn:rc.params.size=ps.length:=by rw[<- yag];simp
   rw[de,run_yield hrc (by simp;omega)];simp only[Oper.uponIn];refine⟨fun hd=>by rw[hF.depth]at hd;simp at hd,?_⟩;have hFr:Uw (F.inRound (g.ρ b).R):=⟨hF.fn,hF.depth,hF.alive⟩;refine roundIn_of_wpIn (hF.fn _) ?_;rw[has,hbo];have Tv:(rc.params.zip vs.toArray).foldl (fun tmps(t,a)=>tmps.setIfInBounds t a) rc.tmps=(ps.zip vs).foldl (fun tmps(t,a)=>tmps.setIfInBounds t a) rc.tmps:=by
    rw[<- Array.foldl_toList,Array.toList_zip,yag]
   rw[Tv];have YG:∀p∈ps,p<rc.tmps.size:=fun p hp=>by rw[hnn];have:=ic.1 LB p hp;simpa using this
   have he0:Ze g Dp w (Ce env) rc.tmps:=fun t=>by
    cases hx:get (Ce env) t with
    |v x=>exact u9 t x hx
    |loc i c=>
     exfalso;have:∀(l:List (Nat×AV)),get (Ce l) t≠ .loc i c:=by
      intro l;induction l with
      |nil=>simp[Ce,get]
      |cons y l ih=>simp only[Ce,get];split;simp;exact ih
     exact this env hx
   obtain⟨q1,q2⟩:=FC (f:=Dp) ps args vs _ _ hVL YG he0;refine Ku lD (vp lD hE O4 hD k) (wj O4 k) hD hFr (fun h=>by simp at h) assign g Dp _ s1 .normal _ w _ SM ⟨hw,Xh,q1,q2.trans hnn,trivial,fun _ _=>trivial⟩ ?_;intro g1 f1 a1 w1 sg Ej _;have hD1:=Ej.D b hDb;obtain⟨r1,hr1,dV,G4,Hak,xag,Kal,Ial,Nak,Bak⟩:=sg.hw.Tc b _ hD1.1 Np;have EL:live g1 s1.H b:=⟨hD1.1,_,Np,rfl⟩;have hR1:(g1.ρ b).R=(g.ρ b).R:=by rw[hD1.2]
   rw[hR1]at hr1;show ∃w2,_;refine⟨_,run_beginRound hr1 G4,?_⟩;have sab:=Xa hr1;obtain⟨ra,rb,rx⟩:=Be (x:= .loop n1 tW bO ps1 II K3 .busy VV) (w':=w1.putObj (g.ρ b).R (.loop { r1 with state:= .busy })) sg.hw sg.hf EL (by rw[Ej.wm];exact Yf) (by simp) (fun R hR=>World.putObj_heap_other (by rw[hR1]at hR;exact hR)) (fun hle=>by
    refine⟨{ r1 with state:= .busy },by rw[hR1];exact World.putObj_heap_same sab,dV,rfl,Hak,xag,Kal,Ial,Nak,fun t x hx=>(Bak t x hx).mono hle⟩)
   refine Ku lD (vp lD hE O4 hD k) (wj O4 k) hD hFr (fun h=>by simp at h) body g1 f1 _ s2 qI a1 _ _ RM ⟨ra,rb,fun t=>(sg.he t).mono (rx.le sg.hw sg.hf) (fun _ h=>⟨h,rfl⟩),sg.hn,sg.hm.step sg.hw sg.hf rx,rx.Dae sg.hW⟩ ?_;intro g2 f2 a2 w2 Sz Dq _;have hD2:=Dq.D b hD1.1;obtain⟨r2,KB,OJ,iV,vag,wag,Jal,Hal,Mak,Aak⟩:=Sz.hw.Tc b _ hD2.1 HD;have TJ:live g2 s2.H b:=⟨hD2.1,_,HD,rfl⟩;have TI:(g2.ρ b).R=(g.ρ b).R:=by rw[hD2.2,hR1]
   rw[TI]at KB;have xS:=Xa KB;have WG:s2.H.wm<=b:=by rw[Dq.wm];show s1.H.wm<=b;rw[Ej.wm];exact Yf
   have bq:∃v w3,(Instr.endRound (g.ρ b).R qI.jump).run A.P w2= .ok v w3/\next (a.put o.dst v) w3:=by
    refine⟨_,_,run_endRound _ KB,?_⟩;obtain⟨ta,tb,tx⟩:=Be (x:= .loop n2 TO rI ps2 KA dR (if qI.Vg then .ready else .done) qI.jump) (w':=w2.putObj (g.ρ b).R (.loop { r2 with state:=if qI.jump.isNone then .ready else .done,pending:=qI.jump })) Sz.hw Sz.hf TJ WG (by simp) (fun R hR=>World.putObj_heap_other (by rw[TI]at hR;exact hR)) (fun hle=>by
     refine⟨{ r2 with state:=if qI.jump.isNone then .ready else .done,pending:=qI.jump },by rw[TI];exact World.putObj_heap_same xS,OJ,?_,rfl,wag,Jal,Hal,Mak,fun t x hx=>(Aak t x hx).mono hle⟩;cases qI<;>rfl)
    have ud:qI.jump.isNone=qI.Vg:=by cases qI<;>rfl
    refine hk g2 _ _ (by rw[ud];exact .bool _) ta ((((Ej.trans rx).trans Dq).trans tx).ext (fun i hi=>hi.elim))
   obtain⟨v,w3,e1,e2⟩:=bq;cases qI with
   |normal=>exact⟨v,w3,e1,e2⟩
   |ret=>exact⟨v,w3,e1,e2⟩
   |exit id=>exact⟨v,w3,e1,e2⟩
  all_goals simp[call]at h
end
end Go.V
namespace Go.V
open Go
theorem kO{F:Fence}(hF:Uw F){n:Nat}{P:Program}{f:FuncId}{args:Array Value}{w:World}{R:Ending->World->Prop}(h:Calls P f args w R):CallsIn F n P f args w R:=by
 have qal:∀m:Machine,m.fenced P F:=fun m g _=>⟨fun h=>by rw[hF.alive]at h;simp at h,.inl (hF.fn _),fun f _=>hF.fn f,fun d hd=>by rw[hF.depth]at hd;simp at hd⟩
 have dc:∀{m m'},Steps P m m'->StepsIn (Machine.fenced P F) P m m':=fun h=>(StepsIn.of_steps h).mono fun m _=>qal m
 refine⟨hF.fn f,fun cs _=> ?_⟩;obtain⟨e,w',fr,h1,h2,h3⟩:=h cs;refine⟨e,w',fr,h1,?_,h3⟩;cases e with
 |returned v=>exact dc h2
 |panicked c=>exact dc h2
 |outgrown=>exact h2
section
variable {A:Eh}
def Qm(A:Eh)(f:FuncId)(h:List AV->AH->Option (AV×AH)):Prop:=
 ∀args H r H',h args H=some (r,H')->∀(g:Gx)(w:World)(vs:List Value),Yb A.Ra g w H->VL g w args vs->
  Calls A.P f vs.toArray w fun e w'=>∃rv g',e= .returned rv/\jb g' w' r rv/\Yb A.Ra g' w' H'/\Ext g w H g' w' H'
theorem G2(lD:Gz A){f:FuncId}{fn:Func}(hf:A.fns f=some fn)(hb:fn.body.isSome=true){h:List AV->AH->Option (AV×AH)}(hg:Qm A f h):
  ∀args H r H',h args H=some (r,H')->∀(g:Gx)(w:World)(vs:List Value),Yb A.Ra g w H->VL g w args vs->
  ∀(F:Fence)(n:Nat)(o:Oper)(a:Act)(next:Act->World->Prop)(Q:Exit->Act->World->Prop),Uw F->
   (∀g' w' rv,jb g' w' r rv->Yb A.Ra g' w' H'->Ext g w H g' w' H'->next (a.put o.dst rv) w')->Oper.uponIn F n A.P o a next Q ((callFunc f vs.toArray).run A.P w):=by
 intro args H r H' hh g w vs hw hv F n o a next Q hF hk
 rw[Bo lD hf hb,Oper.uponIn_enter];refine⟨fun hd=>by rw[hF.depth]at hd;simp at hd,kO hF ((hg args H r H' hh g w vs hw hv).mono ?_)⟩
 rintro e w' ⟨rv,g',rfl,h1,h2,h3⟩
 exact hk g' w' rv h1 h2 h3
def T6(args:List AV)(H:AH):Option (AV×AH):=
 match args with
 |[.int .i64 n,.int .i64 b]=>if -9223372036854775808<=n/\n<=9223372036854775807/\b=10 then some (.str ⟨(Lib.itoa n).toArray⟩,H)else none
 |_=>none
theorem S6{f:FuncId}(OB:∀(g:Gx)(w:World)(H:AH),Yb A.Ra g w H->∀n:Int,-9223372036854775808<=n->n<=9223372036854775807->Calls A.P f #[.int .i64 n,.int .i64 10] w fun e w'=>e= .returned (.string ⟨(Lib.itoa n).toArray⟩)/\∃k os,w'=Sort.grow (w.drewN k) os):Qm A f T6:=by
 intro args H r H' hh g w vs hw hv;unfold T6 at hh;split at hh
 case h_2=>simp at hh
 rename_i n b;split at hh
 case isFalse=>simp at hh
 rename_i hc;simp at hh;obtain⟨rfl,rfl⟩:=hh;obtain⟨h1,h2,rfl⟩:=hc
 match vs,hv with
 |[v1,v2],⟨r1,r2,_⟩=>
  cases r1;cases r2;refine(OB g w H hw n h1 h2).mono ?_
  rintro e w' ⟨rfl,k,os,rfl⟩
  have hh:(w.drewN k).heap=w.heap:=rfl;have se:w.heap.size<=(Sort.grow (w.drewN k) os).heap.size:=by simp[Sort.grow,hh]
  have hold:∀R,R<w.heap.size->(Sort.grow (w.drewN k) os).heap[R]?=w.heap[R]?:=fun R hR=>by
   show(w.heap++os)[R]?=_;rw[ax hR]
  obtain⟨q1,q2,q3⟩:=Jo (f:=Dp) (F:=[]) hw Xh se hold (dx:=⟨rfl,rfl⟩);exact⟨_,g,rfl,.str _,q1,q3.ext fun i h=>h⟩
def okp(p:AV)(x:Nat):Bool:=match p with| .Me=>true| .ptr y 0 0=>y==x|_=>false
def y8(bT:TypeId)(args:List AV)(H:AH):Option (AV×AH):=
 match args with
 |[.ptr x 0 0]=>
  match H.bl[x]? with
  |some (.cells [[p,q]] 2 (some (t,2)))=>if t=bT/\H.wm<=x/\okp p x=true then some (.Qc [],Sa H x (.cells [[.ptr x 0 0,q]] 2 (some (bT,2))))else none
  |_=>none
 |_=>none
def aB:List (List AV)->Option (List UInt8)
 |[]=>some []
 |[.int .u8 z]::l=>if 0<=z/\z<256 then(aB l).map (UInt8.ofNat z.toNat:: ·)else none
 |_=>none
def uD(bT uT:TypeId)(args:List AV)(H:AH):Option (AV×AH):=
 match args with
 |[.ptr x 0 0]=>
  match H.bl[x]? with
  |some (.cells [[_,q]] 2 (some (t,2)))=>
   if t=bT then
    match q with
    | .Ya=>some (.str ⟨#[]⟩,H)
    | .sl y 0 n=>
     match H.bl[y]? with
     |some (.cells rows 1 (some (u,k)))=>if u=uT/\1<=k/\H.wm<=y/\(0<n/\n<=70368744177664)/\n<=rows.length then(aB (rows.take n)).map fun l=>(.str ⟨l.toArray⟩,Sa H y .dead)else none
     |_=>none
    |_=>none
   else none
  |_=>none
 |_=>none
theorem kG{G:Nat->Option (List AV)}{g:Gx}{w:World}{H:AH}(hw:Yb G g w H){x:Nat}{p q:AV}{t:TypeId}(hD:g.D x)(hx:H.bl[x]?=some (.cells [[p,q]] 2 (some (t,2)))):
  (g.ρ x).o=0/\(g.ρ x).sz=2/\(g.ρ x).e=2/\∃v1 v2 fz,w.heap[(g.ρ x).R]?=some (.cells #[v1,v2] t fz)/\(∀ off,off<2->¬(fz.1<=off/\off<fz.2))/\¬g.Z (g.ρ x).R/\v1.oneCell'=true/\v2.oneCell'=true/\jb g w p v1/\jb g w q v2:=by
 obtain⟨⟨⟨y3,fz0,K9⟩,ho,he⟩,_,se,bq,cs,⟨T,fz,hR,HL,fm,hZ⟩,Nc⟩:=hw.Tc x _ hD hx;rw[K9]at hR;injection hR with hR;injection hR with e1 e2 e3
 subst e1;subst e2;subst e3;have ho:=ho (by omega);have he:=he (by omega);rw[se]at he;rw[he]at HL;obtain⟨_,jd⟩:=Nc 0 _ rfl;rw[ho]at jd;obtain⟨v1,a1,a2,a3⟩:=jd 0 p rfl;obtain⟨v2,b1,b2,b3⟩:=jd 1 q rfl;have:y3= #[v1,v2]:=by
  apply Array.ext_getElem?;intro i
  match i with
  |0=>simpa using a1
  |1=>simpa using b1
  |i+2=>rw[Array.getElem?_eq_none (by omega)];simp
 subst this;exact⟨ho,se,he,v1,v2,fz0,K9,fun off h=>fm off (by rw[he];exact h),hZ,a2,b2,a3,b3⟩
theorem x8{f:FuncId}{bT:TypeId}
  (Dab:∀(b:Nat)(w:World),w.cell? ⟨b,0,none⟩=some (.pointer none)->w.shape? b=some (bT,2)->w.frozen? ⟨b,0,none⟩=false->
   Calls A.P f #[.pointer (some ⟨b,0,none⟩)] w fun e w'=>e= .returned (.tuple #[])/\w'=w.setCell ⟨b,0,none⟩ (.pointer (some ⟨b,0,none⟩)))
  (gag:∀(b:Nat)(w:World),w.cell? ⟨b,0,none⟩=some (.pointer (some ⟨b,0,none⟩))->Calls A.P f #[.pointer (some ⟨b,0,none⟩)] w fun e w'=>e= .returned (.tuple #[])/\w'=w):Qm A f (y8 bT):=by
 intro args H r H' hh g w vs hw hv;unfold y8 at hh;split at hh
 case h_2=>simp at hh
 rename_i x;split at hh
 case h_2=>simp at hh
 rename_i p q t hx;split at hh
 case isFalse=>simp at hh
 rename_i hc;simp at hh;obtain⟨rfl,rfl⟩:=hh;obtain⟨rfl,Yf,hp⟩:=hc
 match vs,hv with
 |[v],⟨r1,_⟩=>
  cases r1 with
  |ptr _ _ _ hD=>
  obtain⟨ho,se,he,v1,v2,fz,hR,fm,hZ,a2,b2,a3,b3⟩:=kG hw hD hx;have Yd:live g H x:=⟨hD,_,hx,rfl⟩;have hv0:((some ⟨(g.ρ x).R,(g.ρ x).o+0 * (g.ρ x).sz+0,none⟩:Option Addr))=some ⟨(g.ρ x).R,0,none⟩:=by rw[ho];simp
  rw[hv0];have hc0:w.cell? ⟨(g.ρ x).R,0,none⟩=some v1:=by simp[World.cell?,hR]
  have ze:∀(w':World)(fz':Nat×Nat),(w'.heap[(g.ρ x).R]?=some (.cells #[.pointer (some ⟨(g.ρ x).R,0,none⟩),v2] t fz))->g.Le w g w'->Bg g w' (g.ρ x) (.cells [[.ptr x 0 0,q]] 2 (some (t,2))):=fun w' _ iz hle=>by
   refine⟨⟨⟨_,_,iz⟩,fun _=>ho,fun _=>he.trans se.symm⟩,by omega,se,by rw[ho,he];simp,_,⟨t,fz,iz,by rw[he];rfl,fun off h=>fm off (by omega),hZ⟩,fun r row hr=> ?_⟩
   match r,hr with
   |0,hr=>
    simp at hr;subst hr;refine⟨rfl,fun c y hy=> ?_⟩;rw[ho]
    match c,hy with
    |0,hy=>
     simp at hy;subst hy;refine⟨_,rfl,rfl,?_⟩;have:=jb.ptr (w:=w') x 0 0 hD;rw[ho]at this;simpa using this
    |1,hy=>simp at hy;subst hy;exact⟨v2,rfl,b2,b3.mono hle⟩
    |c+2,hy=>simp at hy
   |r+1,hr=>simp at hr
  unfold okp at hp;split at hp
  ·cases a3;have gV:w.shape? (g.ρ x).R=some (t,2):=by simp[World.shape?,hR]
   have mal:w.frozen? ⟨(g.ρ x).R,0,none⟩=false:=by
    have:=fm 0 (by omega);simp only[World.frozen?,hR];simp only[Lt,decide_eq_false_iff_not];by_cases h:fz.1<=0
    ·exact .inr fun h'=>this ⟨h,h'⟩
    ·exact .inl h
   refine(Dab _ w hc0 gV mal).mono ?_
   rintro e w' ⟨rfl,rfl⟩
   have tc:(g.ρ x).R<w.heap.size:=Xa hR;have iz:(w.setCell ⟨(g.ρ x).R,0,none⟩ (.pointer (some ⟨(g.ρ x).R,0,none⟩))).heap[(g.ρ x).R]?=some (.cells #[.pointer (some ⟨(g.ρ x).R,0,none⟩),v2] t fz):=by
    simp[World.setCell,vn,hR]
   obtain⟨q1,q2,q3⟩:=Be (f:=Dp) (F:=[]) (w':=w.setCell ⟨(g.ρ x).R,0,none⟩ (.pointer (some ⟨(g.ρ x).R,0,none⟩))) (x:= .cells [[.ptr x 0 0,q]] 2 (some (t,2))) hw Xh Yd Yf (by simp[World.setCell])
    (fun R Sc=>by simp only[World.setCell,vn];rw[if_neg (fun e=>Sc e.symm)]) (ze _ fz iz)
   exact⟨_,g,rfl,.Qc [] [] rfl (fun i x v h=>by simp at h),q1,q3.ext fun i h=>h⟩
  ·rename_i y;have:y=x:=by simpa using hp
   subst this;cases a3 with
   |ptr _ _ _ _=>
   rw[hv0]at hc0 hR;refine(gag _ w hc0).mono ?_
   rintro e w' ⟨rfl,hww⟩
   subst hww;obtain⟨q1,q2,q3⟩:=Be (f:=Dp) (F:=[]) (w':=w') (x:= .cells [[.ptr y 0 0,q]] 2 (some (t,2))) hw Xh Yd Yf rfl (fun _ _=>rfl) (ze _ fz hR);exact⟨_,g,rfl,.Qc [] [] rfl (fun i x v h=>by simp at h),q1,q3.ext fun i h=>h⟩
  ·simp at hp
theorem FE:∀{rows:List (List AV)}{l:List UInt8},aB rows=some l->l.length=rows.length/\∀(j:Nat)(b:UInt8),l[j]?=some b->rows[j]?=some [.int .u8 (b.toNat:Int)]
 |[],l,h=>by simp[aB]at h;subst h;exact⟨rfl,fun j b hb=>by simp at hb⟩
 |row::rows,l,h=>by
  unfold aB at h;split at h
  ·rename_i e;simp at e
  ·rename_i z l0 e;injection e with e1 e2;subst e1;subst e2
   split at h
   case isFalse=>simp at h
   rename_i hz;simp only[ia]at h;obtain⟨l1,h1,rfl⟩:=h;obtain⟨k1,k2⟩:=FE h1;refine⟨by simp[k1],fun j b hb=> ?_⟩;cases j with
   |zero=>
    simp at hb;subst hb;have:(UInt8.ofNat z.toNat).toNat=z.toNat:=by
     rw[UInt8.toNat_ofNat'];exact Nat.mod_eq_of_lt (by omega)
    simp only[Ge,this];rw[Int.toNat_of_nonneg hz.1]
   |succ j=>simp at hb;simpa using k2 j b hb
  ·simp at h
theorem FV{f:FuncId}{bT uT:TypeId}
  (C6:∀(b:Nat)(w:World),w.cell? ⟨b,1,none⟩=some (.slice none 0 0)->Calls A.P f #[.pointer (some ⟨b,0,none⟩)] w fun e w'=>e= .returned (.string ⟨#[]⟩)/\w'=w.drew)
  (FW:∀(b gb cap n:Nat)(l:List UInt8)(w:World),l≠[]->l.length<=70368744177664->w.cell? ⟨b,1,none⟩=some (.slice (some ⟨gb,0,none⟩) l.length cap)->l.length<=cap->w.shape? gb=some (uT,n)->l.length<=n->(∀j x,l[j]?=some x->w.cell? ⟨gb,j,none⟩=some (.int .u8 x.toNat))->
   Calls A.P f #[.pointer (some ⟨b,0,none⟩)] w fun e w'=>e= .returned (.string ⟨l.toArray⟩)/\w'=w.drew.freeze ⟨gb,0,none⟩ l.length):Qm A f (uD bT uT):=by
 intro args H r H' hh g w vs hw hv;unfold uD at hh;split at hh
 case h_2=>simp at hh
 rename_i x;split at hh
 case h_2=>simp at hh
 rename_i p q t hx;split at hh
 case isFalse=>simp at hh
 rename_i hc;subst hc
 match vs,hv with
 |[v],⟨r1,_⟩=>
  cases r1 with
  |ptr _ _ _ hD=>
  obtain⟨ho,se,he,v1,v2,fz,hR,fm,hZ,a2,b2,a3,b3⟩:=kG hw hD hx;have hv0:((some ⟨(g.ρ x).R,(g.ρ x).o+0 * (g.ρ x).sz+0,none⟩:Option Addr))=some ⟨(g.ρ x).R,0,none⟩:=by rw[ho];simp
  rw[hv0];have F9:w.cell? ⟨(g.ρ x).R,1,none⟩=some v2:=by simp[World.cell?,hR]
  split at hh
  ·simp at hh;obtain⟨rfl,rfl⟩:=hh;cases b3;refine(C6 _ w F9).mono ?_
   rintro e w' ⟨rfl,rfl⟩
   exact⟨_,g,rfl,.str _,hw.heap rfl,(Ag.heap (w:=w) (w':=w.drew) (f:=Dp) (F:=[]) rfl).ext fun i h=>h⟩
  ·rename_i y n;split at hh
   case h_2=>simp at hh
   rename_i rows u k hy;split at hh
   case isFalse=>simp at hh
   rename_i hc2;obtain⟨rfl,hk,Yf,⟨IM,hn1⟩,B6⟩:=hc2;simp only[ia]at hh;obtain⟨l,hl,hh⟩:=hh;simp at hh;obtain⟨rfl,rfl⟩:=hh;obtain⟨l1,l2⟩:=FE hl;have hll:l.length=n:=by rw[l1,Nb];omega
   cases b3 with
   |jJ b r a hd=>omega
   |sl _ _ _ cap hDy Xl bq=>
   obtain⟨⟨⟨y3,fz0,K9⟩,hoy,_⟩,_,dap,Yag,cs,⟨T,fzy,hRy,Dal,Nap,hZy⟩,fab⟩:=hw.Tc y _ hDy hy;rw[K9]at hRy;injection hRy with hRy;injection hRy with e1 e2 e3
   subst e1;subst e2;subst e3;have hoy:=hoy hk;have p6:(some ⟨(g.ρ y).R,(g.ρ y).o+0 * (g.ρ y).sz,none⟩:Option Addr)=some ⟨(g.ρ y).R,0,none⟩:=by rw[hoy];simp
   rw[p6]at F9;have Yd:live g H y:=⟨hDy,_,hy,rfl⟩;have gV:w.shape? (g.ρ y).R=some (u,y3.size):=by simp[World.shape?,K9]
   have Ki:∀j b,l[j]?=some b->w.cell? ⟨(g.ρ y).R,j,none⟩=some (.int .u8 b.toNat):=fun j b hb=>by
    have h1:=l2 j b hb;have hj:j<n:=by rw[<- hll];exact getElem?_lt' hb
    rw[Cb,if_pos hj]at h1;obtain⟨_,h2⟩:=fab j _ h1;obtain⟨v,g1,_,g3⟩:=h2 0 _ rfl;cases g3;rw[hoy]at g1;simp only[World.cell?,K9]
    simpa using g1
   have Xak:l≠[]:=by intro e;subst e;simp at hll;omega
   have Mag:l.length<=y3.size:=by rw[Dal,hll];rw[hoy]at Yag;omega
   refine(FW (g.ρ x).R (g.ρ y).R cap y3.size l w Xak (by omega) (by rw[hll];exact F9) (by omega) gV Mag Ki).mono ?_
   rintro e w' ⟨rfl,rfl⟩
   have Ed:∀R,R≠(g.ρ y).R->(w.drew.freeze ⟨(g.ρ y).R,0,none⟩ l.length).heap[R]?=w.heap[R]?:=fun R Sc=>by
    unfold World.freeze;split
    ·rfl
    ·simp only[vn];rw[if_neg (fun e=>Sc e.symm)];rfl
   have cg:(w.drew.freeze ⟨(g.ρ y).R,0,none⟩ l.length).heap.size=w.heap.size:=by
    unfold World.freeze;split
    ·rfl
    ·simp
   have dx:(w.drew.freeze ⟨(g.ρ y).R,0,none⟩ l.length).os=w.os/\(w.drew.freeze ⟨(g.ρ y).R,0,none⟩ l.length).output=w.output:=by
    unfold World.freeze;split<;>exact⟨rfl,rfl⟩
   obtain⟨q1,q2,q3⟩:=Be (f:=Dp) (F:=[]) (w':=w.drew.freeze ⟨(g.ρ y).R,0,none⟩ l.length) (x:= .dead) hw Xh Yd Yf cg Ed (fun _=>trivial) (dx:=dx);exact⟨_,g,rfl,.str _,q1,q3.ext fun i h=>h⟩
  ·simp at hh
theorem HS{args:List AV}{H H':AH}{r:AV}(h:T6 args H=some (r,H')):Ic H H':=by
 unfold T6 at h;split at h
 case h_2=>simp at h
 split at h
 case isFalse=>simp at h
 simp at h;rw[<- h.2];exact .refl _
theorem SU{bT:TypeId}{args:List AV}{H H':AH}{r:AV}(h:y8 bT args H=some (r,H')):Ic H H':=by
 unfold y8 at h;split at h
 case h_2=>simp at h
 split at h
 case h_2=>simp at h
 split at h
 case isFalse=>simp at h
 rename_i hc;simp at h;rw[<- h.2];exact .set hc.2.1 _
theorem YL{bT uT:TypeId}{args:List AV}{H H':AH}{r:AV}(h:uD bT uT args H=some (r,H')):Ic H H':=by
 unfold uD at h;split at h
 case h_2=>simp at h
 split at h
 case h_2=>simp at h
 split at h
 case isFalse=>simp at h
 split at h
 case h_3=>simp at h
 ·simp at h;rw[<- h.2];exact .refl _
 ·split at h
  case h_2=>simp at h
  split at h
  case isFalse=>simp at h
  rename_i hc;obtain⟨l,_,h⟩:=ia.1 h;simp at h;rw[<- h.2];exact .set hc.2.2.1 _
end
end Go.V
