/- An evaluator of the translated code and that it is right: each of its answers is an answer of the model. -/
import Derived.Test.YtjenflkegbmkkaaGreatDoorA2
import Derived.OrdersIn
set_option linter.unusedVariables false
set_option linter.unusedSimpArgs false
set_option linter.unusedSectionVars false
open Array renaming getElem?_append_left→Ow,size_map→KC,eq_empty_of_size_eq_zero→jh,length_toList→Se
open Bool renaming false_eq_true→Od,not_false→gf,and_eq_true→Va,or_eq_true→Yh
open Go renaming builtin→On
open List renaming getElem?_eq_getElem→Ba,range→ua,getElem?_toArray→oc,getElem?_cons_zero→He,getElem?_cons_succ→We,getElem?_append_left→Ka,getElem?_append_right→Na,all_eq_true→tc,getElem?_of_mem→me,length_take→ic,getElem?_take→Db,getElem?_drop→Ic,append_assoc→xd,length_nil→Bb,append_nil→Nn,length_append→qd,length_drop→qt,eq_nil_of_length_eq_zero→Vs,mem_of_getElem?→Nb
open Nat renaming add_assoc→Hf,add_zero→Je,le_refl→va,add_mul→Me,zero_add→Re,mul_le_mul_right→ec,zero_le→je,le_of_lt→ot
open Option renaming bind_eq_some_iff→aa,map_some→Oc,map_eq_some_iff→ia
open Option.some renaming injEq→Dc
namespace Go.V
open Go
section
variable {A:yh}{g:Gx}{f:Fx}{w:World}{s:S}{a:Act}
theorem bn{H:AH}{x:AV}{xv:Value}{rows:List (List AV)}{sz:Nat}(h:rowsOf H x=some rows)(hw:dc A.Pa g w H)(hx:mb g w x xv)(ue:∀row∈rows,row.length=sz):
  ∃ao cap cs,xv= .slice ao rows.length cap/\rows.length<=cap/\cs.size=rows.length * sz/\Fj g w sz rows cs/\(rows≠[]->ao≠none)/\(∀u∈cs.toList,u.oneCell'=true)/\∀(w':World),w'.heap=w.heap->(Builtin.firstCells sz rows.length xv).run A.P w'= .ok cs w':=by
 obtain⟨ao,cap,rfl,Ml,Ci⟩:=cg h hw hx;by_cases Uc:rows=[]
 ·subst Uc;refine⟨ao,cap,#[],rfl,Ml,by simp,⟨by simp,fun r row h=>by simp at h⟩,fun h=>absurd rfl h,fun u hu=>by simp at hu,fun w' vG=> ?_⟩;cases ao with
  |none=>simp[Builtin.firstCells]
  |some ad=>simp[Builtin.firstCells,loadCells,loadCellsFrom]
 ·obtain⟨ad,bx,rfl,hs,Uk⟩:=Ci Uc;have O4:bx=sz:=by
   cases rows with
   |nil=>exact absurd rfl Uc
   |cons row rest=>rw[<- (Uk 0 row rfl).1];exact ue row (by simp)
  subst O4;have Di:∀(i c:Nat)(row:List AV)(x:AV),rows[i]?=some row->row[c]?=some x->∃v,w.cell? (ad.add (i * bx+c))=some v/\v.oneCell'=true/\mb g w x v:=fun i c row x hi hx=>by
   obtain⟨v,e1,e2,e3⟩:=(Uk i row hi).2 c x hx;exact⟨v,by rw[Ak hs,Ag,<- Hf];exact e1,e2,e3⟩
  have zG:∀j,j<rows.length * bx->∃(row:List AV)(x:AV),rows[j/bx]?=some row/\row[j%bx]?=some x:=fun j hj=>by
   have Lf:0<bx:=by rcases Nat.eq_zero_or_pos bx with h|h;subst h;simp at hj;exact h
   have h1:j/bx<rows.length:=(Nat.div_lt_iff_lt_mul Lf).2 hj;have h2:j%bx<bx:=Nat.mod_lt _ Lf;have hr:=Ba h1;exact⟨_,_,hr,Ba (by rw[(Uk _ _ hr).1];exact h2)⟩
  have hdm:∀j,j/bx * bx+j%bx=j:=fun j=>by rw[Nat.mul_comm];exact Nat.div_add_mod j bx
  obtain⟨fv,NR⟩:∃fv:Nat->Value,∀j,j<rows.length * bx->w.cell? (ad.add j)=some (fv j)/\(fv j).oneCell'=true:=⟨fun j=>(w.cell? (ad.add j)).getD undef,fun j hj=>by
   obtain⟨row,x,h1,h2⟩:=zG j hj;obtain⟨v,e1,e2,_⟩:=Di _ _ row x h1 h2;rw[hdm]at e1;simp[e1,e2]⟩
  refine⟨some ad,cap,((ua (rows.length * bx)).map fv).toArray,rfl,Ml,by simp,⟨by simp,fun r row hr=>⟨(Uk r row hr).1,fun c x hx=> ?_⟩⟩,fun _=>by simp,fun u hu=> ?_,fun w' vG=> ?_⟩
  ·obtain⟨v,e1,e2,e3⟩:=Di r c row x hr hx;have Ac:r * bx+c<rows.length * bx:=Sg (getElem?_lt' hr) (by have:=getElem?_lt' hx;rw[(Uk r row hr).1]at this;exact this);have:=(NR _ Ac).1;rw[e1]at this;simp at this;exact⟨v,by simp[Ac,this],e2,e3⟩
  ·simp at hu;obtain⟨j,hj,rfl⟩:=hu;exact(NR j hj).2
  ·have:=run_loadCells (P:=A.P) w' ad (rows.length * bx) fv (fun j hj=>by rw[cell_of_heap (w:=w) (by rw[vG])];exact(NR j hj).1);simp[Builtin.firstCells,this]
theorem Pj{P:Program}{ts:Array TypeId}{t ty e:TypeId}{ad:Addr}{n m cap sz:Nat}{yv:Value}{news:Array Value}{w w':World}(uo:ts[0]?=some t)(hu:P.underlying t=some (.slice e))
  (hz:∀u,ts[1]?=some u->∃d,P.underlying u=some d/\∀k,d≠ .int k) (ue:(sizeOf e).run P w= .ok sz w)
  (hlen:(Builtin.lenOf yv).run P w= .ok m w) (ze:(Builtin.firstCells sz m yv).run P w= .ok news w) (Cv:n+m<=cap) (jc:(storeCells (ad.add (n * sz)) news.toList).run P w= .ok () w'):
  (Builtin.append_ ts ty #[.slice (some ad) n cap,yv]).run P w= .ok (.slice (some ad) (n+m) cap) w':=by
 simp only[Builtin.append_,uo];simp only[oc,He,We,Sem.run_bind,run_underlying hu,Result.andThen_ok,ue];cases h1:ts[1]? with
 |none=>simp only[Sem.run_pure,Result.andThen_ok,Od,if_false,hlen,if_pos Cv,gf,if_true,Sem.run_bind,ze,jc]
 |some u=>
  obtain⟨d,hd,Uc⟩:=hz u h1;simp only[Sem.run_bind,run_underlying hd,Result.andThen_ok];cases d<;>first
   |exact absurd rfl (Uc _)
   |simp only[Sem.run_pure,Result.andThen_ok,Od,if_false,hlen,if_pos Cv,gf,if_true,Sem.run_bind,ze,jc]
theorem Xp{P:Program}{ts:Array TypeId}{t ty e:TypeId}{sz:Nat}{yv:Value}{news:Array Value}{w:World}(uo:ts[0]?=some t)(hu:P.underlying t=some (.slice e))
  (hz:∀u,ts[1]?=some u->∃d,P.underlying u=some d/\∀k,d≠ .int k) (ue:(sizeOf e).run P w= .ok sz w)
  (hlen:(Builtin.lenOf yv).run P w= .ok 0 w) (ze:(Builtin.firstCells sz 0 yv).run P w= .ok news w):
  (Builtin.append_ ts ty #[.slice none 0 0,yv]).run P w= .ok (.slice none 0 0) w:=by
 simp only[Builtin.append_,uo];simp only[oc,He,We,Sem.run_bind,run_underlying hu,Result.andThen_ok,ue];cases h1:ts[1]? with
 |none=>simp only[Sem.run_pure,Result.andThen_ok,Od,if_false,hlen,Je,va,if_true,gf,Sem.run_bind,ze]
 |some u=>
  obtain⟨d,hd,Uc⟩:=hz u h1;simp only[Sem.run_bind,run_underlying hd,Result.andThen_ok];cases d<;>first
   |exact absurd rfl (Uc _)
   |simp only[Sem.run_pure,Result.andThen_ok,Od,if_false,hlen,Je,va,if_true,gf,Sem.run_bind,ze]
theorem nh{P : Program}{ts : Array TypeId}{t ty e : TypeId}{ao : Option Addr}{n m cap sz by_ : Nat}{yv zv : Value}{olds news : Array Value}{w : World}(uo : ts[0]? = some t)(hu : P.underlying t = some (.slice e))
    (hz : ∀u, ts[1]? = some u → ∃d, P.underlying u = some d ∧ ∀k, d ≠ .int k) (ue : ∀w', (sizeOf e).run P w' = .ok sz w') (N2 : ∃i, P.info? e = some i ∧ i.bytes = by_) (LL : ∀w', (zeroValue e).run P w' = .ok zv w')
    (hlen : (Builtin.lenOf yv).run P w = .ok m w) (hold : ∀w', w'.heap = w.heap → (Builtin.firstCells sz n (.slice ao n cap)).run P w' = .ok olds w') (ze : ∀w', w'.heap = w.heap → (Builtin.firstCells sz m yv).run P w' = .ok news w')
    (Cv : ¬n + m ≤ cap) (h63 : n + m < 9223372036854775808) (pJ : Builtin.nextslicecap (n + m) cap * by_ ≤ 281474976710656) (kap : by_ ≠ 0 ∨ True) :
    (Builtin.append_ ts ty #[.slice ao n cap, yv]).run P w =
      .ok (.slice (some ⟨w.heap.size, 0, none⟩) (n + m) (grownCap w (n + m) cap e)) (w.drew.alloc (.cells (olds ++ news ++ Builtin.zeroCells zv.cells (grownCap w (n + m) cap e - (n + m))) e)) := by
  obtain⟨i, hi, hib⟩ := N2
  have nD : ¬(((n + m : Nat) : Int) > IntKind.i64.max) := by
    have : IntKind.i64.max = 9223372036854775807 := by decide
    rw[this]; omega
  have Q2 : ¬(Builtin.nextslicecap (n + m) cap * i.bytes > 2 ^ 48) := by rw[hib]; omega
  have ho := hold w.drew rfl
  have hn := ze w.drew rfl
  have hch : (choose (.appendCap (n + m) cap e)).run P w = .ok (grownCap w (n + m) cap e) w.drew := by
    rw[run_choose]; rfl
  simp only[Builtin.append_, uo]
  simp only[oc, He, We, Sem.run_bind, run_underlying hu, Result.andThen_ok, ue]
  cases h1 : ts[1]? with
  | none =>
    simp only[Sem.run_pure, Result.andThen_ok, Od, if_false, hlen, if_neg Cv, nD, false_and, typeInfo, Sem.run_bind, run_program, hi, if_neg Q2, hch, run_askRoom, ho, hn, gf, if_true, LL, newRow, run_newObj]
    rfl
  | some u =>
    obtain⟨d, hd, Uc⟩ := hz u h1
    simp only[Sem.run_bind, run_underlying hd, Result.andThen_ok]
    cases d <;> first
      | exact absurd rfl (Uc _)
      | (simp only[Sem.run_pure, Result.andThen_ok, Od, if_false, hlen, if_neg Cv, nD, false_and, typeInfo, Sem.run_bind, run_program, hi, if_neg Q2, hch, run_askRoom, ho, hn, gf, if_true, LL, newRow, run_newObj]
         rfl)
end
end Go.V
namespace Go.V
open Go
section
variable {G:Nat->Option (List AV)}{g:Gx}{f:Fx}{w:World}{H:AH}{F:List (List AV)}
theorem gL{w':World}{b:Nat}{x:AB}{l:Loc}(hw:dc G g w H)(hf:Td g f w H F)(hb:live g H b)(ag:H.wm<=b)
  (gg:w'.heap.size=w.heap.size) (Nd:∀R,R≠(g.ρ b).R->w'.heap[R]?=w.heap[R]?) (hR:l.R=(g.ρ b).R)
  (hx:g.Le w (g.add H.bl.length l) w'->Cg (g.add H.bl.length l) w' l x) (Qw:w'.os=w.os/\w'.output=w.output:=by first|exact⟨rfl,rfl⟩|assumption):
  dc G (g.add H.bl.length l) w' (push (Ra H b .dead) x)/\Td (g.add H.bl.length l) f w' (push (Ra H b .dead) x) F/\Bg g f w H F (g.add H.bl.length l) f w' (push (Ra H b .dead) x) F:=by
 have hlen:(Ra H b .dead).bl.length=H.bl.length:=by simp[Ra]
 have hold:∀b,g.D b->(g.add H.bl.length l).ρ b=g.ρ b:=fun b hb=>Mg (by have:=hw.Ie b hb;omega)
 have hle:g.Le w (g.add H.bl.length l) w':=⟨fun b hb=>⟨.inl hb,hold b hb⟩,fun R h=>⟨h,Nd R (fun e=>hw.Vm hb (e ▸ h))⟩⟩;have fag:∀b',g.D b'->b'<(Ra H b .dead).bl.length:=fun b' Ld=>by rw[hlen];exact hw.Ie b' Ld
 have XL:∀b',live (g.add H.bl.length l) (push (Ra H b .dead) x) b'->b'=H.bl.length\/(b'≠b/\live g H b'):=fun b' Ld=>by
  have:=nv (g:=g) (H:=Ra H b .dead) (l:=l) (x:=x) (b:=b') fag (by rw[hlen];exact Ld);rcases this with h|h
  ·left;rw[h,hlen]
  ·right;rcases Qk h with⟨_,h'⟩|h'
   ·simp[Zd]at h'
   ·exact h'
 have QC:∀R,Fp (g.add H.bl.length l) (push (Ra H b .dead) x) R->Fp g H R:=fun R⟨b',Ld,e⟩=>by
  rcases XL b' Ld with rfl|⟨_,h⟩
  ·exact⟨b,hb,by rw[<- e,og,hR]⟩
  ·exact⟨b',h,by rw[<- e,hold b' h.1]⟩
 refine⟨⟨fun i row hg=>(hw.Pa i row hg).mono hle,fun b' Ld=> ?_,fun b' y hd hy=> ?_,fun b1 b2 h1 h2 Uc=> ?_,fun R h=>by rw[gg];exact hw.Eu R h⟩,
  ⟨hf.Ie,fun i row hi hr=> ?_,hf.inj,fun i hi h=>hf.apart i hi (QC _ h)⟩,?_⟩
 ·rcases Ld with Ld|rfl
  ·have:=hw.Ie b' Ld;simp[push,Ra];omega
  ·simp[push,Ra]
 ·rcases hd with hd|rfl
  ·have xaa:=hw.Ie b' hd;rw[Nk,if_pos (by rw[hlen];exact xaa),Xi]at hy;rw[hold b' hd];split at hy
   ·rw[if_pos (by omega)]at hy;simp at hy;subst hy;trivial
   ·rename_i Uc;exact(hw.Vc b' y hd hy).le hle (fun hl=>Nd _ (hw.inj b' b ⟨hd,y,hy,hl⟩ hb (fun e=>Uc e.symm))) (fun hl=>hw.Vm ⟨hd,y,hy,hl⟩)
  ·rw[Nk,if_neg (by rw[hlen];omega),if_pos hlen.symm]at hy;simp at hy;subst hy;rw[og];exact hx hle
 ·rcases XL b1 h1 with rfl|⟨n1,l1⟩<;>rcases XL b2 h2 with rfl|⟨n2,l2⟩
  ·exact absurd rfl Uc
  ·rw[og,hold _ l2.1,hR];exact hw.inj b b2 hb l2 (fun e=>n2 e.symm)
  ·rw[og,hold _ l1.1,hR];exact hw.inj b1 b l1 hb n1
  ·rw[hold _ l1.1,hold _ l2.1];exact hw.inj _ _ l1 l2 Uc
 ·obtain⟨cs,⟨T,fz,Vy,h4⟩,h5⟩:=hf.Vc i row hi hr;exact⟨cs,⟨T,fz,by rw[Nd _ (fun e=>hf.apart i hi ⟨b,hb,e.symm⟩)];exact Vy,h4⟩,h5.mono hle⟩
 ·refine⟨fun b hb=>⟨.inl hb,hold b hb⟩,fun b hb=>hb.elim .inl (fun e=> .inr (by omega)),fun _ h=>h,fun _ h=> .inl h,
   fun R h=> .inl (QC R h),fun _ h=>⟨h,rfl⟩,fun _ h=> .inl h,fun _ h h'=>absurd h h',
   fun R hR _ _=>Nd R (fun e=>by rename_i hn _;exact hn ⟨b,hb,e.symm⟩),by rw[gg];exact va _,by simp[push,Ra],va _,rfl,fun b' Ld hl=> ?_,fun b' Ld hv=>Nd _ (hw.inj b' b hv hb (by omega)),fun _ _=>Iff.rfl,fun _ h h'=>absurd h h',fun i hi _=>Nd _ (fun e=>hf.apart i hi ⟨b,hb,e.symm⟩),Qw⟩
  rw[Nk,if_pos (by rw[hlen];exact hl),Xi,if_neg (by omega)]
theorem KL{b:Nat}(hw:dc G g w H)(hf:Td g f w H F)(hb:live g H b)(ag:H.wm<=b):
  dc G g w (Ra H b .dead)/\Td g f w (Ra H b .dead) F/\Bg g f w H F g f w (Ra H b .dead) F:=
 Be hw hf hb ag rfl (fun _ _=>rfl) (fun _=>trivial)
end
section
variable {A:yh}{g:Gx}{f:Fx}{w:World}{s:S}{a:Act}
theorem Fj.append{sz:Nat}{xs ys:List (List AV)}{cx cy rest:Array Value}(hx:Fj g w sz xs cx)(hy:Fj g w sz ys cy)(hcx:cx.size=xs.length * sz):Fj g w sz (xs++ys) (cx++cy++rest):=by
 have h1:=hx.1;have h2:=hy.1;refine⟨by simp[Me];omega,fun r row hr=> ?_⟩;by_cases Ac:r<xs.length
 ·rw[Ka Ac]at hr;obtain⟨hl,Tk⟩:=hx.2 r row hr;refine⟨hl,fun c x hxx=> ?_⟩;obtain⟨v,e1,e2,e3⟩:=Tk c x hxx;have:r * sz+c<xs.length * sz:=Sg Ac (by have:=getElem?_lt' hxx;omega);exact⟨v,by rw[Array.append_assoc,Ow (by omega)];exact e1,e2,e3⟩
 ·rw[Na (by omega)]at hr;obtain⟨hl,Tk⟩:=hy.2 _ row hr;refine⟨hl,fun c x hxx=> ?_⟩;obtain⟨v,e1,e2,e3⟩:=Tk c x hxx;have KR:(r-xs.length) * sz+c<ys.length * sz:=Sg (getElem?_lt' hr) (by have:=getElem?_lt' hxx;omega);have Ql:r * sz=xs.length * sz+(r-xs.length) * sz:=by rw[<- Me];congr 1;omega
  refine⟨v,?_,e2,e3⟩;rw[Array.append_assoc,Array.getElem?_append_right (by omega),Ow (by omega),<- e1];congr 1;omega
theorem ux{bty:Option (TypeId×Nat)}{H1:AH}{rows:List (List AV)}{sz:Nat}{cs:Array Value}{t:TypeId}{w':World}{v:AV}{rv:Value}{r:Result Next}{g1:Gx}(ML:dc A.Pa g w H1)(hf1:Td g f w H1 s.F)(xj:Bg g f w s.H s.F g f w H1 s.F)
  (Lf:0<sz) (hr:Fj g w sz rows cs) (Sy:w'.heap=w.heap.push (.cells cs t (0,0)))
  (hv:mb (g.add H1.bl.length ⟨w.heap.size,0,cs.size,sz⟩) w' v rv) (ee:r= .ok (.value rv) w') (Kak:bty=some (t,1)\/bty=none) (Qw:w'.os=w.os/\w'.output=w.output:=by first|exact⟨rfl,rfl⟩|assumption):
  VK A.Pa g f w s { s with H:=push H1 (.cells rows sz bty) } (.v v) r:=by
 obtain⟨rv',w2,g2,f2,q0,q1,q2,q3,q4⟩:=Iy (A:=A) (s:={ s with H:=H1 }) (fz:=(0,0)) ML hf1 Lf hr Sy (fun off _=>by simp) hv ee Kak;exact⟨rv',w2,g2,f2,q0,q1,q2,xj.trans q3,q4⟩
theorem bI{ts:Array TypeId}{x y v:AV}{xv yv:Value}{H':AH}{ty:TypeId}{r:Result Next}(h:append A s.H ts x y=some (v,H'))(hw:dc A.Pa g w s.H)(hf:Td g f w s.H s.F)(hx:mb g w x xv)(hy:mb g w y yv)
  (ee:r=((do pure (.value (<- Builtin.append_ ts ty #[xv,yv]))):Sem Next).run A.P w):VK A.Pa g f w s { s with H:=H' } (.v v) r:=by
 unfold append at h;simp only[aa]at h;obtain⟨t,uo,e,he,z,hz,n,hn,_,hu1,xs,Lr,ys,Nx,h⟩:=h;split at h
 case isFalse=>simp at h
 case isTrue hc=>
 obtain⟨ep,uJ,Lf,ue,Hg⟩:=hc;have hu:=kj he;have hzero:∀u,ts[1]?=some u->∃d,A.P.underlying u=some d/\∀k,d≠ .int k:=fun u h1=>by
  rw[h1]at hu1;simp only at hu1;split at hu1
  ·simp at hu1
  ·rename_i d Uc hd;exact⟨d,hd,fun k e=>Uc k e⟩
  ·simp at hu1
 have BO:∀row∈ys,row.length=z.length:=fun row sd=>by simpa using tc.1 Hg row sd
 obtain⟨i,hi,hib⟩:=zC hn;have LL:∃zv,∀w',(zeroValue e).run A.P w'= .ok zv w'/\zv.cells.size=z.length:=by
  unfold zero at hz;rw[hi]at hz;cases hzz:i.zero with
  |none=>simp[hzz]at hz
  |some zv=>
   simp[hzz]at hz;exact⟨zv,fun w'=>⟨by simp[zeroValue,typeInfo,hi,hzz],by have:=(dh (g:=g) (w:=w) hz).1;simpa using this⟩⟩
 obtain⟨zv,LL⟩:=LL;have ER:∀w',(sizeOf e).run A.P w'= .ok z.length w':=fun w'=>Tc ue
 obtain⟨news,qq,DB,hrY,hcY,Gaf⟩:∃news:Array Value,(Builtin.lenOf yv).run A.P w= .ok ys.length w/\(∀w',w'.heap=w.heap->(Builtin.firstCells z.length ys.length yv).run A.P w'= .ok news w')/\Fj g w z.length ys news/\news.size=ys.length * z.length/\∀u∈news.toList,u.oneCell'=true:=by
  split at Nx
  ·rename_i sb;simp at Nx;subst Nx;cases hy;have Hu:(uc sb).length=sb.size:=by simp[uc]
   rw[Hu];have Daj:∀row∈uc sb,row.length=1:=fun row hr=>by simp[uc]at hr;obtain⟨b,_,rfl⟩:=hr;rfl
   have Ep:(sb.extract 0 sb.size).data=sb.data:=by
    simp
   have Ci:∀(i:Nat)(b:UInt8),sb.data.toList[i]?=some b->(sb.data.map fun b=>Value.int .u8 (b.toNat:Int))[0+i]?=some (.int .u8 (b.toNat:Int)):=fun i b hb=>by
    simp at hb ⊢;exact⟨b,hb,rfl⟩
   refine⟨sb.data.map fun b=> .int .u8 b.toNat,by simp[Builtin.lenOf],fun w' _=>by simp[Builtin.firstCells,Ep],?_⟩;by_cases Uc:uc sb=[]
   ·have G2:sb.size=0:=by rw[<- Hu,Uc];rfl
    rw[Uc];have:sb.data.size=0:=G2;refine⟨⟨by simp,fun r row hr=>by simp at hr⟩,by rw[G2,Nat.zero_mul,KC];exact this,fun u hu=>by simp at hu;obtain⟨b,_,rfl⟩:=hu;rfl⟩
   ·have qU:z.length=1:=by
     cases hr:uc sb with
     |nil=>exact absurd hr Uc
     |cons row rest=>rw[<- BO row (by rw[hr];simp),Daj row (by rw[hr];simp)]
    rw[qU];refine⟨⟨by rw[Hu];simp,fun r row hr=> ?_⟩,by simp,fun u hu=>by simp at hu;obtain⟨b,_,rfl⟩:=hu;rfl⟩;have:=Gw (g:=g) (w:=w) sb.data.toList _ 0 Ci r row hr
    simpa using this
  ·obtain⟨ao,cap,cs,rfl,q1,q2,q3,_,q4,q5⟩:=bn Nx hw hy BO;exact⟨cs,by simp[Builtin.lenOf],q5,q3,q2,q4⟩
 have Ml:∀nB Bk e,nB<=grownCap w nB Bk e:=fun nB Bk e=>by simp[grownCap,Question.cut]
 by_cases hy0:ys.length=0
 ·
  rw[if_pos hy0]at h;simp at h;obtain⟨rfl,rfl⟩:=h;rw[hy0]at qq DB;obtain⟨ao,cap,rfl,hle,_⟩:=cg Lr hw hx;refine Ue hw hf (rv:= .slice ao xs.length cap) ?_ hx;rw[ee];have UL:news= #[]:=by apply jh;rw[hcY,hy0];simp
  cases ao with
  |none=>
   have hnn:∀q,mb g w x (.slice none q cap)->q=0/\cap=0:=by
    intro q h;cases h with
    |Xa=>exact⟨rfl,rfl⟩
    |Sb=>simp[rowsOf]at Lr
   have:=hnn _ hx;rw[this.1,this.2];simp[Xp (ty:=ty) uo hu hzero (ER w) qq (DB w rfl)]
  |some ad=>
   have:=Pj (ty:=ty) (ad:=ad) (n:=xs.length) (cap:=cap) (w':=w) uo hu hzero (ER w) qq (DB w rfl) (by omega) (by rw[UL];simp[storeCells]);simp[this]
 ·rw[if_neg hy0]at h;split at h
  ·
   simp at h;obtain⟨rfl,rfl⟩:=h;simp[rowsOf]at Lr;subst Lr;cases hx;have hgr:=nh (ty:=ty) (ao:=none) (n:=0) (cap:=0) (olds:= #[]) uo hu hzero ER ⟨i,hi,hib⟩ (fun w'=>(LL w').1) qq (fun w' _=>by simp[Builtin.firstCells]) DB (by omega) (by simpa using uJ)
    (growslice_fits (by omega) (by simp at ep ⊢;omega)) (.inr trivial)
   simp only[Re,Array.empty_append]at hgr;have hc:=Ml ys.length 0 e;have hzs:=(LL w).2;have gg:(news++Builtin.zeroCells zv.cells (grownCap w ys.length 0 e-ys.length)).size=grownCap w ys.length 0 e * z.length:=by
    simp only[Array.size_append,hcY,Builtin.zeroCells,KC,Array.size_range,hzs,<- Me];congr 1;omega
   refine ux (g1:=g) hw hf (.refl _ _ _ _ _) Lf (rows:=ys) (cs:=news++Builtin.zeroCells zv.cells (grownCap w ys.length 0 e-ys.length)) (t:=e) (w':=w.drew.alloc (.cells (news++Builtin.zeroCells zv.cells (grownCap w ys.length 0 e-ys.length)) e)) ?_ rfl
    (Rm hc (by rw[gg];exact va _) (Sl (by omega))) (by rw[ee];simp[hgr]) (.inl rfl)
   have:=Fj.append (rest:=Builtin.zeroCells zv.cells (grownCap w ys.length 0 e-ys.length)) (xs:=[]) (cx:= #[]) ⟨by simp,fun r row h=>by simp at h⟩ hrY (by simp)
   simpa using this
  ·
   simp at h;obtain⟨rfl,rfl⟩:=h;simp[rowsOf]at Lr;subst Lr;cases hx with
   |Ud ad0=>
   have hgr:=nh (ty:=ty) (ao:=some ad0) (n:=0) (cap:=0) (olds:= #[]) uo hu hzero ER ⟨i,hi,hib⟩ (fun w'=>(LL w').1) qq (fun w' _=>by simp[Builtin.firstCells,loadCells,loadCellsFrom]) DB (by omega) (by simpa using uJ)
    (growslice_fits (by omega) (by simp at ep ⊢;omega)) (.inr trivial)
   simp only[Re,Array.empty_append]at hgr;have hc:=Ml ys.length 0 e;have hzs:=(LL w).2;have gg:(news++Builtin.zeroCells zv.cells (grownCap w ys.length 0 e-ys.length)).size=grownCap w ys.length 0 e * z.length:=by
    simp only[Array.size_append,hcY,Builtin.zeroCells,KC,Array.size_range,hzs,<- Me];congr 1;omega
   refine ux (g1:=g) hw hf (.refl _ _ _ _ _) Lf (rows:=ys) (cs:=news++Builtin.zeroCells zv.cells (grownCap w ys.length 0 e-ys.length)) (t:=e) (w':=w.drew.alloc (.cells (news++Builtin.zeroCells zv.cells (grownCap w ys.length 0 e-ys.length)) e)) ?_ rfl
    (Rm hc (by rw[gg];exact va _) (Sl (by omega))) (by rw[ee];simp[hgr]) (.inl rfl)
   have:=Fj.append (rest:=Builtin.zeroCells zv.cells (grownCap w ys.length 0 e-ys.length)) (xs:=[]) (cx:= #[]) ⟨by simp,fun r row h=>by simp at h⟩ hrY (by simp)
   simpa using this
  ·rename_i b r0 k;split at h
   case isFalse=>simp at h
   case isTrue hk=>
   obtain⟨ag,NL⟩:=hk;simp at h;obtain⟨rfl,rfl⟩:=h;have Hu:∃Pg LC,s.H.bl[b]?=some (.cells Pg z.length LC)/\r0+k<=Pg.length/\xs=(Pg.drop r0).take k:=by
    unfold Jj at NL;split at NL
    ·rename_i Pg sz0 LC FB;simp at NL;subst NL;simp only[rowsOf,FB]at Lr;split at Lr
     ·rename_i hle;simp at Lr;exact⟨Pg,LC,FB,hle,Lr.symm⟩
     ·simp at Lr
    ·simp at NL
   obtain⟨Pg,LC,FB,Saf,daa⟩:=Hu;have gaa:TF s.H b=LC:=by simp[TF,FB]
   rw[gaa];have qaf:vz LC e r0=some (e,1)\/vz LC e r0=none:=by
    unfold vz;split
    ·split<;>simp
    ·simp
   have hD:g.D b:=by cases hx<;>assumption
   have ae:live g s.H b:=⟨hD,_,FB,rfl⟩;obtain⟨yaj,_,sO,dM,Jy,⟨T,fz,hR,RK,Rl,hZ⟩,Pc⟩:=hw.Vc b _ hD FB;have Ry:xs.length=k:=by rw[daa];simp;omega
   have qag:∀row∈xs,row.length=z.length:=fun row sd=>by
    rw[daa]at sd;obtain⟨q,hq⟩:=me (List.mem_of_mem_drop (List.mem_of_mem_take sd));exact(Pc q row hq).1
   obtain⟨ao,cap,cx,FV,q1,q2,q3,qne,q4,q5⟩:=bn Lr hw hx qag;by_cases Cv:xs.length+ys.length<=cap
   ·
    cases hx with
    |BI=>simp at FV;obtain⟨_,_,rfl⟩:=FV;omega
    |sl _ _ _ UD hd JR wam=>
     injection FV with e1 e2 e3
     subst e1;subst e3;rw[sO]at *
     have hm1:(r0+UD) * z.length=r0 * z.length+UD * z.length:=Me _ _ _;have hm2:(xs.length+ys.length) * z.length<=UD * z.length:=ec _ Cv;have hm3:(xs.length+ys.length) * z.length=xs.length * z.length+ys.length * z.length:=Me _ _ _;have jc:=jf A.P (g.ρ b).R ((g.ρ b).o+r0 * z.length+k * z.length) T fz news.toList 0 Jy w hR (by simp;rw[RK];rw[<- Ry];omega) (fun j hj=>Rl _ (by simp at hj;rw[<- Ry];omega)) Gaf;simp only[Je]at jc;have Tk:=Pj (ty:=ty) (ad:=⟨(g.ρ b).R,(g.ρ b).o+r0 * z.length,none⟩) (n:=k) (cap:=UD) uo hu hzero (ER w) qq (DB w rfl) (by omega) (by rw[Ag];exact jc);generalize taa:(Jy.toList.take ((g.ρ b).o+r0 * z.length+k * z.length)++news.toList++Jy.toList.drop ((g.ρ b).o+r0 * z.length+k * z.length+news.toList.length)).toArray=Q7 at Tk;have hN:(g.ρ b).o+r0 * z.length+k * z.length<=Jy.size:=by rw[RK,<- Ry];omega
     have htk:(Jy.toList.take ((g.ρ b).o+r0 * z.length+k * z.length)).length=(g.ρ b).o+r0 * z.length+k * z.length:=by
      rw[ic,Se];exact Nat.min_eq_left hN
     have Vaj:Q7.size=(g.ρ b).e:=by
      rw[<- taa];simp;rw[RK,hcY,<- Ry];omega
     obtain⟨p1,p2,p3⟩:=gL (w':=w.setRow (g.ρ b).R Q7) (l:=⟨(g.ρ b).R,(g.ρ b).o+r0 * z.length,(g.ρ b).e,z.length⟩) (x:= .cells (xs++ys) z.length (vz LC e r0)) hw hf ae ag (setRow_size _ _ _) (fun R Uc=>setRow_other _ _ _ _ Uc) rfl (fun hle=>by
      refine⟨?_,Lf,rfl,by simp;omega,Q7,⟨T,fz,setRow_heap w _ Jy Q7 T fz hR,Vaj,Rl,hZ⟩,fun r row hr=> ?_⟩
      ·cases LC with
       |none=>trivial
       |some p=>
        obtain⟨T0,k0⟩:=p;unfold vz;simp only;split
        ·rename_i Eak;obtain⟨rfl,rfl,hk0⟩:=Eak;obtain⟨⟨R0,fz0,v8⟩,ho0,_⟩:=yaj;exact⟨⟨Q7,fz0,setRow_heap w _ R0 Q7 _ fz0 v8⟩,fun _=>by simp[ho0 hk0],fun h=>by omega⟩
        ·trivial
      by_cases Ac:r<xs.length
      ·rw[Ka Ac]at hr;have zB:=hr;rw[daa,Db,if_pos (by omega),Ic]at zB;obtain⟨hl,qn⟩:=Pc _ _ zB;refine⟨hl,Ye.mono hle fun c x hx=> ?_⟩;obtain⟨v,e1,e2,e3⟩:=qn c x hx;refine⟨v,?_,e2,e3⟩;have hc2:=getElem?_lt' hx;have KR:r * z.length+c<k * z.length:=Sg (by omega) (by omega);have hm4:(r0+r) * z.length=r0 * z.length+r * z.length:=Me _ _ _;rw[<- taa];simp only[oc,xd];rw[Ka (by rw[htk];omega),Db,if_pos (by omega)];rw[hm4]at e1
       simpa[Hf]using e1
      ·rw[Na (by omega)]at hr;obtain⟨hl,qn⟩:=hrY.2 _ row hr;refine⟨hl,Ye.mono hle fun c x hx=> ?_⟩;obtain⟨v,e1,e2,e3⟩:=qn c x hx;refine⟨v,?_,e2,e3⟩;have hc2:=getElem?_lt' hx;have KR:(r-xs.length) * z.length+c<ys.length * z.length:=Sg (getElem?_lt' hr) (by omega);have hm4:r * z.length=xs.length * z.length+(r-xs.length) * z.length:=by rw[<- Me];congr 1;omega
       rw[<- taa];simp only[oc,xd];rw[Na (by rw[htk,<- Ry];omega),htk,Ka (by simp;rw[hcY,<- Ry];omega)];have aM:(g.ρ b).o+(r0 * z.length+(r * z.length+c))-((g.ρ b).o+r0 * z.length+k * z.length)=(r-xs.length) * z.length+c:=by rw[<- Ry];omega
       have e1':news.toList[(r-xs.length) * z.length+c]?=some v:=by simpa using e1
       rw[<- e1'];congr 1;simp only[Hf]at aM ⊢;omega)
     refine⟨.slice (some ⟨(g.ρ b).R,(g.ρ b).o+r0 * z.length,none⟩) (k+ys.length) UD,w.setRow (g.ρ b).R Q7,_,f,.inl (by rw[ee];simp[Tk]),p1,p2,p3,?_⟩;have:=mb.sl (g:=g.add s.H.bl.length ⟨(g.ρ b).R,(g.ρ b).o+r0 * z.length,(g.ρ b).e,z.length⟩) (w:=w.setRow (g.ρ b).R Q7) s.H.bl.length 0 (xs.length+ys.length) UD (.inr rfl) Cv (by rw[og];simp;omega) (by omega);rw[og]at this;simp only[Nat.zero_mul,Je]at this;rw[<- Ry];exact this
   ·
    obtain⟨p1,p2,p3⟩:=KL hw hf ae ag;have hgr:=nh (ty:=ty) (ao:=ao) (n:=xs.length) (cap:=cap) (olds:=cx) uo hu hzero ER ⟨i,hi,hib⟩ (fun w'=>(LL w').1) qq (fun w' vG=>by rw[<- FV];exact q5 w' vG) DB Cv (by omega)
     (growslice_fits (by omega) (by omega)) (.inr trivial)
    have hc:=Ml (xs.length+ys.length) cap e;have hzs:=(LL w).2;have gg:(cx++news++Builtin.zeroCells zv.cells (grownCap w (xs.length+ys.length) cap e-(xs.length+ys.length))).size=grownCap w (xs.length+ys.length) cap e * z.length:=by
     simp only[Array.size_append,q2,hcY,Builtin.zeroCells,KC,Array.size_range,hzs,<- Me];congr 1;omega
    have OC:s.H.bl.length=(Ra s.H b .dead).bl.length:=by simp[Ra]
    rw[OC];refine ux (g1:=g) (H1:=Ra s.H b .dead) p1 p2 p3 Lf (rows:=xs++ys) (cs:=cx++news++Builtin.zeroCells zv.cells (grownCap w (xs.length+ys.length) cap e-(xs.length+ys.length))) (t:=e) (w':=w.drew.alloc (.cells (cx++news++Builtin.zeroCells zv.cells (grownCap w (xs.length+ys.length) cap e-(xs.length+ys.length))) e)) (q3.append hrY q2) rfl
     (Rm hc (by rw[gg];exact va _) (Sl (by omega))) (by rw[ee,FV];simp[hgr]) qaf
  ·simp at h
end
end Go.V
namespace Go.V
open Go
section
variable {A:yh}{g:Gx}{f:Fx}{w:World}{s:S}{a:Act}
def oI(g:Gx)(w:World):List (AV×AV)->List MapEntry->Prop
 |[],[]=>True
 |(k,x)::es,e::ng=>AV.isKey k=true/\mb g w k e.key/\mb g w x e.val/\oI g w es ng
 |_,_=>False
theorem Ns{g:Gx}{w:World}:∀{es:List (AV×AV)}{ng:List MapEntry},oI g w es ng↔ng.length=es.length/\∀(i:Nat)(k x:AV)(e:MapEntry),es[i]?=some (k,x)->ng[i]?=some e->AV.isKey k=true/\mb g w k e.key/\mb g w x e.val
 |[],[]=>⟨fun _=>⟨rfl,fun i k x e h=>by simp at h⟩,fun _=>trivial⟩
 |(k,x)::es,e::ng=>by
  simp only[oI,Ns (es:=es) (ng:=ng)];constructor
  ·rintro⟨h1,h2,h3,h4,h5⟩
   refine⟨by simp[h4],fun i k' x' e' hi hj=> ?_⟩;cases i with
   |zero=>simp at hi hj;obtain⟨rfl,rfl⟩:=hi;subst hj;exact⟨h1,h2,h3⟩
   |succ i=>exact h5 i k' x' e' (by simpa using hi) (by simpa using hj)
  ·rintro⟨h4,h5⟩
   obtain⟨h1,h2,h3⟩:=h5 0 k x e rfl rfl;exact⟨h1,h2,h3,by simpa using h4,fun i k' x' e' hi hj=>h5 (i+1) k' x' e' (by simpa using hi) (by simpa using hj)⟩
 |[],_::_=>⟨fun h=>h.elim,fun h=>by simp at h⟩
 |_::_,[]=>⟨fun h=>h.elim,fun h=>by simp at h⟩
theorem lq{k k':AV}{kv kv':Value}{b:Bool}{d:TypeDesc}{t:TypeId}(h:tB k k'=some b)(hk:mb g w k kv)(s8:mb g w k' kv')(Qh:Ri A t k=true)(hd:A.P.underlying t=some d):
  Instr.sameNow d kv kv'=some b/\(b=true->Instr.sameBits 10000 kv' kv=true):=by
 unfold Ri at Qh;rw[hd]at Qh;unfold tB at h;split at h
 ·rename_i q x q' y;split at h
  case isFalse=>simp at h
  case isTrue e=>
   subst e;simp at h;subst h;cases hk;cases s8;split at Qh
   ·rename_i hh _;simp at hh;subst hh;refine⟨by simp[Instr.sameNow,BEq.beq],fun hb=> ?_⟩;have:x=y:=by simpa using hb
    subst this;simp[Instr.sameBits]
   ·rename_i h1 h2;simp at h2
   ·simp at Qh
 ·rename_i x y;simp at h;subst h;cases hk;cases s8;split at Qh
  ·rename_i h1 h2;simp at h2
  ·rename_i hh _;simp at hh;subst hh;refine⟨by simp[Instr.sameNow],fun hb=> ?_⟩;rw[beq_toListBytes]at hb;have Ld:x.toList=y.toList:=by simpa using hb
   simp[Instr.sameBits,beq_toListBytes,Ld]
  ·simp at Qh
 ·simp at h
theorem IB{k:AV}{kv:Value}{d:TypeDesc}{t:TypeId}(hk:mb g w k kv)(Qh:Ri A t k=true)(hd:A.P.underlying t=some d):∀{es:List (AV×AV)}{ng:List MapEntry}{r:Option AV}(i0:Nat),zi k es=some r->oI g w es ng->
  (r=none/\Instr.findNow d kv ng i0=some none)\/∃x i v,r=some x/\Instr.findNow d kv ng i0=some (some (i0+i,v))/\mb g w x v
 |[],[],r,i0,h,_=>by simp[zi]at h;subst h;exact .inl ⟨rfl,rfl⟩
 |(k',x)::es,e::ng,r,i0,h,he=>by
  obtain⟨h1,h2,h3,h4⟩:=he;simp only[zi,aa]at h;obtain⟨b,hb,h⟩:=h;obtain⟨hs,_⟩:=lq hb hk h2 Qh hd;cases b with
  |true=>
   simp at h;subst h;exact .inr ⟨x,0,e.val,rfl,by simp[Instr.findNow,hs],h3⟩
  |false=>
   simp only at h;rcases IB hk Qh hd (i0+1) h h4 with⟨rfl,hf⟩|⟨x',i,v,rfl,hf,hv⟩
   ·exact .inl ⟨rfl,by simp[Instr.findNow,hs,hf]⟩
   ·exact .inr ⟨x',i+1,v,rfl,by simp[Instr.findNow,hs,hf];omega,hv⟩
 |[],_::_,_,_,_,he=>he.elim
 |_::_,[],_,_,_,he=>by cases ‹AV×AV›;exact he.elim
theorem ig{e:Bool}{t:TypeId}{k:AV}{kv:Value}(Qh:Ri A t k=true)(hk:mb g w k kv):(Instr.checkKey e 10000 t kv).run A.P w= .ok () w:=by
 unfold Ri at Qh;have R2:(10000:Nat)=9999+1:=rfl;rw[R2];generalize 9999=n;split at Qh
 ·rename_i hu;cases hk;simp[Instr.checkKey,run_underlying hu]
 ·rename_i hu;cases hk;simp[Instr.checkKey,run_underlying hu]
 ·simp at Qh
theorem uv{t:TypeId}{k:AV}(Qh:Ri A t k=true):∃d,A.P.underlying t=some d:=by
 unfold Ri at Qh;split at Qh
 ·rename_i hu;exact⟨_,hu⟩
 ·rename_i hu;exact⟨_,hu⟩
 ·simp at Qh
theorem CJ{t:TypeId}{k:AV}{kv:Value}{es:List (AV×AV)}{ng:List MapEntry}{r:Option AV}(hk:mb g w k kv)(Qh:Ri A t k=true)(h:zi k es=some r)(he:oI g w es ng):
  (r=none/\(Instr.findKey t kv ng).run A.P w= .ok none w)\/∃x i v,r=some x/\(Instr.findKey t kv ng).run A.P w= .ok (some (i,v)) w/\mb g w x v:=by
 obtain⟨d,hd⟩:=uv Qh;rcases IB hk Qh hd 0 h he with⟨rfl,hf⟩|⟨x,i,v,rfl,hf,hv⟩
 ·exact .inl ⟨rfl,by simp[Instr.findKey,run_underlying hd,hf]⟩
 ·exact .inr ⟨x,0+i,v,rfl,by simp[Instr.findKey,run_underlying hd,hf],hv⟩
theorem Py{H:AH}{m:AV}{mv:Value}{es:List (AV×AV)}(h:mapOf H m=some es)(hw:dc A.Pa g w H)(hm:mb g w m mv):
  (mv= .map none/\es=[])\/∃r ng clock,mv= .map (some r)/\w.heap[r]?=some (.map ng clock)/\oI g w es ng.toList:=by
 unfold mapOf at h;split at h
 ·simp at h;subst h;cases hm;exact .inl ⟨rfl,rfl⟩
 ·rename_i b;split at h
  ·rename_i ud hb;simp at h;subst h;cases hm with
   |mp _ hd=>
    obtain⟨ng,clock,hR,hZ,hl,qn⟩:=hw.Vc b _ hd hb;exact .inr ⟨_,ng,clock,rfl,hR,Ns.2 ⟨by simpa using hl,fun i k x e hi he=>qn i k x e hi (by simpa using he)⟩⟩
  ·simp at h
 ·simp at h
theorem Cy{t:TypeId}{x:AV}(h:zeroV A t=some x):∃v,(zeroValue t).run A.P w= .ok v w/\mb g w x v:=by
 unfold zeroV at h;cases hi:A.P.info? t with
 |none=>simp[hi]at h
 |some i=>
  simp only[hi,Oc]at h;cases hz:i.zero with
  |none=>simp[hz]at h
  |some v=>
   have ee:(zeroValue t).run A.P w= .ok v w:=by simp[zeroValue,typeInfo,hi,hz]
   refine⟨v,ee,?_⟩;rw[hz]at h;split at h
   ·rename_i cs heq;simp at heq;subst heq;simp only[ia]at h;obtain⟨l,hl,rfl⟩:=h;obtain⟨c1,c2,c3⟩:=dh (g:=g) (w:=w) hl;exact Kw.agg ⟨by simpa using c1,Kk (by simpa using c1) c2 c3⟩
   ·rename_i v' _ heq;simp at heq;subst heq;exact Om h
   ·simp at h
theorem iv{t:TypeId}{m k v:AV}{mv kv:Value}{ok:Bool}(h:lookup A s.H t m k ok=some v)(hw:dc A.Pa g w s.H)(hm:mb g w m mv)(hk:mb g w k kv):
  ∃rv,(Instr.lookup t mv kv ok).run A.P w= .ok rv w/\mb g w v rv:=by
 unfold lookup at h;split at h
 case h_2=>simp at h
 case h_1 kt et hu=>
 split at h
 case isFalse=>simp at h
 case isTrue Qh=>
 simp only[aa]at h;obtain⟨es,eW,r,hr,⟨x,b⟩,xB,h⟩:=h;simp at h;subst h;have Jz:∀xv,mb g w x xv->mb g w (if ok=true then AV.Sc [x,.bool b]else x) (if ok=true then .tuple #[xv,.bool b]else xv):=fun xv hx=>by
  cases ok with
  |true=>
   refine .Sc _ [xv,.bool b] rfl (fun i y u hy hu=> ?_)
   match i with
   |0=>simp at hy hu;subst hy;subst hu;exact hx
   |1=>simp at hy hu;subst hy;subst hu;exact .bool b
   |i+2=>simp at hy
  |false=>exact hx
 rcases Py eW hw hm with⟨rfl,rfl⟩|⟨q,ng,clock,rfl,hR,he⟩
 ·simp[zi]at hr;subst hr;simp only[ia]at xB;obtain⟨z,hz,xB⟩:=xB;simp at xB;obtain⟨rfl,rfl⟩:=xB;obtain⟨zv,pU,LL⟩:=Cy (g:=g) (w:=w) hz;have hf:(Instr.findKey kt kv []).run A.P w= .ok none w:=by
   obtain⟨d,hd⟩:=uv Qh;simp[Instr.findKey,run_underlying hd,Instr.findNow]
  refine⟨_,?_,Jz zv LL⟩;simp only[Instr.lookup,Sem.run_bind,run_underlying hu,Result.andThen_ok,Sem.run_pure,ig Qh hk,List.toList_toArray,hf,pU]
 ·have bk:(getObj q).run A.P w= .ok (.map ng clock) w:=by simp[getObj,Sem.run,hR]
  rcases CJ hk Qh hr he with⟨rfl,hf⟩|⟨x',i,v,rfl,hf,hv⟩
  ·simp only[ia]at xB;obtain⟨z,hz,xB⟩:=xB;simp at xB;obtain⟨rfl,rfl⟩:=xB;obtain⟨zv,pU,LL⟩:=Cy (g:=g) (w:=w) hz;refine⟨_,?_,Jz zv LL⟩;simp only[Instr.lookup,Sem.run_bind,run_underlying hu,Result.andThen_ok,Sem.run_pure,bk,ig Qh hk,hf,pU]
  ·simp at xB;obtain⟨rfl,rfl⟩:=xB;refine⟨_,?_,Jz v hv⟩;simp only[Instr.lookup,Sem.run_bind,run_underlying hu,Result.andThen_ok,Sem.run_pure,bk,ig Qh hk,hf]
theorem wE{k x:AV}{kv xv:Value}{d:TypeDesc}{t:TypeId}(hk:mb g w k kv)(hx:mb g w x xv)(Qh:Ri A t k=true)(hd:A.P.underlying t=some d):∀{es ud:List (AV×AV)}{ng:List MapEntry}(i0:Nat),jo k x es=some ud->oI g w es ng->
  (Instr.findNow d kv ng i0=some none/\∀born,oI g w ud (ng++[{ key:=kv,val:=xv,born }]))\/
  ∃i v e,Instr.findNow d kv ng i0=some (some (i0+i,v))/\ng[i]?=some e/\Instr.sameBits 10000 e.key kv=true/\oI g w ud (ng.modify i fun e=>{ e with key:=kv,val:=xv })
 |[],ud,[],i0,h,_=>by
  simp[jo]at h;subst h;have hkk:AV.isKey k=true:=by unfold Ri at Qh;split at Qh<;>first|rfl|simp at Qh
  exact .inl ⟨rfl,fun born=>⟨hkk,hk,hx,trivial⟩⟩
 |(k',y)::es,ud,e::ng,i0,h,he=>by
  obtain⟨h1,h2,h3,h4⟩:=he;have hkk:AV.isKey k=true:=by unfold Ri at Qh;split at Qh<;>first|rfl|simp at Qh
  simp only[jo,aa]at h;obtain⟨b,hb,h⟩:=h;obtain⟨hs,AO⟩:=lq hb hk h2 Qh hd;cases b with
  |true=>
   simp at h;subst h;exact .inr ⟨0,e.val,e,by simp[Instr.findNow,hs],rfl,AO rfl,⟨hkk,hk,hx,h4⟩⟩
  |false=>
   simp only[ia]at h;obtain⟨lal,eW,rfl⟩:=h;rcases wE hk hx Qh hd (i0+1) eW h4 with⟨hf,hr⟩|⟨i,v,e',hf,hi,Saa,hr⟩
   ·exact .inl ⟨by simp[Instr.findNow,hs,hf],fun born=>⟨h1,h2,h3,hr born⟩⟩
   ·refine .inr ⟨i+1,v,e',by simp[Instr.findNow,hs,hf];omega,by simpa using hi,Saa,?_⟩;simp only[List.modify_succ_cons];exact⟨h1,h2,h3,hr⟩
 |[],_,_::_,_,_,he=>he.elim
 |_::_,_,[],_,_,he=>by cases ‹AV×AV›;exact he.elim
theorem BF{k:AV}{kv:Value}{d:TypeDesc}{t:TypeId}(hk:mb g w k kv)(Qh:Ri A t k=true)(hd:A.P.underlying t=some d):∀{es ud:List (AV×AV)}{ng:List MapEntry}(i0:Nat),oo k es=some ud->oI g w es ng->
  (Instr.findNow d kv ng i0=some none/\oI g w ud ng)\/
  ∃i v,Instr.findNow d kv ng i0=some (some (i0+i,v))/\i<ng.length/\oI g w ud (ng.eraseIdx i)
 |[],ud,[],i0,h,_=>by simp[oo]at h;subst h;exact .inl ⟨rfl,trivial⟩
 |(k',y)::es,ud,e::ng,i0,h,he=>by
  obtain⟨h1,h2,h3,h4⟩:=he;simp only[oo,aa]at h;obtain⟨b,hb,h⟩:=h;obtain⟨hs,AO⟩:=lq hb hk h2 Qh hd;cases b with
  |true=>
   simp at h;subst h;exact .inr ⟨0,e.val,by simp[Instr.findNow,hs],by simp,by simpa using h4⟩
  |false=>
   simp only[ia]at h;obtain⟨lal,eW,rfl⟩:=h;rcases BF hk Qh hd (i0+1) eW h4 with⟨hf,hr⟩|⟨i,v,hf,hi,hr⟩
   ·exact .inl ⟨by simp[Instr.findNow,hs,hf],h1,h2,h3,hr⟩
   ·exact .inr ⟨i+1,v,by simp[Instr.findNow,hs,hf];omega,by simpa using hi,h1,h2,h3,hr⟩
 |[],_,_::_,_,_,he=>he.elim
 |_::_,_,[],_,_,he=>by cases ‹AV×AV›;exact he.elim
theorem oI.mono{g g':Gx}{w w':World}(hle:g.Le w g' w'):∀{es:List (AV×AV)}{ng:List MapEntry},oI g w es ng->oI g' w' es ng
 |[],[],_=>trivial
 |(k,x)::es,e::ng,⟨h1,h2,h3,h4⟩=>⟨h1,h2.mono hle,h3.mono hle,h4.mono hle⟩
 |[],_::_,h=>h.elim
 |_::_,[],h=>by cases ‹AV×AV›;exact h.elim
theorem Kr{b:Nat}{es ud:List (AV×AV)}{ng SH:Array MapEntry}{clock clock':Nat}(hw:dc A.Pa g w s.H)(hf:Td g f w s.H s.F)(hd:g.D b)(hb:s.H.bl[b]?=some (.map es))(ag:s.H.wm<=b)
  (hR:w.heap[(g.ρ b).R]?=some (.map ng clock)) (he:oI g w ud SH.toList):
  dc A.Pa g { w with heap:=w.heap.setIfInBounds (g.ρ b).R (.map SH clock') } (Ra s.H b (.map ud))/\Td g f { w with heap:=w.heap.setIfInBounds (g.ρ b).R (.map SH clock') } (Ra s.H b (.map ud)) s.F/\
   Bg g f w s.H s.F g f { w with heap:=w.heap.setIfInBounds (g.ρ b).R (.map SH clock') } (Ra s.H b (.map ud)) s.F:=by
 have Ac:=Za hR;have ae:live g s.H b:=⟨hd,_,hb,rfl⟩;refine Be hw hf ae ag (by simp) (fun R Uc=>by simp[Array.getElem?_setIfInBounds,Ne.symm Uc]) (fun hle=> ?_);obtain⟨h1,h2⟩:=Ns.1 (he.mono hle);exact⟨SH,clock',by simp[Ac],hw.Vm ae,by simpa using h1,fun i k x e hi hc=>h2 i k x e hi (by simpa using hc)⟩
theorem Yo{t:TypeId}{m k x:AV}{mv kv xv:Value}{H':AH}(h:mapUpdate A s.H t m k x=some H')(hw:dc A.Pa g w s.H)(hf:Td g f w s.H s.F)(hm:mb g w m mv)(hk:mb g w k kv)(hx:mb g w x xv):
  ∃w',(Instr.mapUpdate t mv kv xv).run A.P w= .ok () w'/\dc A.Pa g w' H'/\Td g f w' H' s.F/\Bg g f w s.H s.F g f w' H' s.F:=by
 unfold mapUpdate at h;split at h
 case h_2=>simp at h
 case h_1 kt et b hu=>
 split at h
 case isFalse=>simp at h
 case isTrue hc=>
 simp only[Va,decide_eq_true_eq]at hc;obtain⟨Qh,ag⟩:=hc;split at h
 case h_2=>simp at h
 case h_1 es hb=>
 simp only[ia]at h;obtain⟨ud,eW,rfl⟩:=h;cases hm with
 |mp _ hd=>
 obtain⟨ng,clock,hR,hZ,hl,qn⟩:=hw.Vc b _ hd hb;have hER:oI g w es ng.toList:=Ns.2 ⟨by simpa using hl,fun i k x e hi he=>qn i k x e hi (by simpa using he)⟩;obtain⟨d,hdd⟩:=uv Qh;have bk:(getObj (g.ρ b).R).run A.P w= .ok (.map ng clock) w:=by simp[getObj,Sem.run,hR]
 have Fh:∀o:Obj,(setObj (g.ρ b).R o).run A.P w= .ok () { w with heap:=w.heap.setIfInBounds (g.ρ b).R o }:=fun o=>by simp[setObj,Sem.run,hR]
 rcases wE hk hx Qh hdd 0 eW hER with⟨cM,hr⟩|⟨i,v,e,cM,hi,AO,hr⟩
 ·have hfk:(Instr.findKey kt kv ng.toList).run A.P w= .ok none w:=by simp[Instr.findKey,run_underlying hdd,cM]
  refine⟨_,?_,Kr (SH:=ng.push { key:=kv,val:=xv,born:=clock }) (clock':=clock+1) hw hf hd hb ag hR (by simpa using hr clock)⟩;simp only[Instr.mapUpdate,Sem.run_bind,run_underlying hu,Result.andThen_ok,bk,ig Qh hk,hfk,Fh]
 ·have hfk:(Instr.findKey kt kv ng.toList).run A.P w= .ok (some (i,v)) w:=by simp[Instr.findKey,run_underlying hdd,cM]
  have lD:(Instr.keyThatStays (((ng[i]?).map (·.key)).getD kv) kv).run A.P w= .ok kv w:=by
   have:ng[i]?=some e:=by simpa using hi
   simp[Instr.keyThatStays,this,AO]
  refine⟨_,?_,Kr (SH:=ng.modify i fun e=>{ e with key:=kv,val:=xv }) (clock':=clock) hw hf hd hb ag hR (by simpa using hr)⟩;simp only[Instr.mapUpdate,Sem.run_bind,run_underlying hu,Result.andThen_ok,bk,ig Qh hk,hfk,lD,Fh]
theorem yz{ts:Array TypeId}{t ty:TypeId}{m k:AV}{mv kv:Value}{H':AH}(uo:ts[0]?=some t)(h:Ff A s.H t m k=some H')(hw:dc A.Pa g w s.H)(hf:Td g f w s.H s.F)(hm:mb g w m mv)(hk:mb g w k kv):
  ∃w',(Builtin.delete_ ts ty #[mv,kv]).run A.P w= .ok (.tuple #[]) w'/\dc A.Pa g w' H'/\Td g f w' H' s.F/\Bg g f w s.H s.F g f w' H' s.F:=by
 unfold Ff at h;split at h
 ·rename_i kt et hu;split at h
  case isFalse=>simp at h
  case isTrue Qh=>
  simp at h;subst h;cases hm;refine⟨w,?_,hw,hf,.refl _ _ _ _ _⟩;simp[Builtin.delete_,uo,run_underlying hu,ig Qh hk]
 ·rename_i kt et b hu;split at h
  case isFalse=>simp at h
  case isTrue hc=>
  simp only[Va,decide_eq_true_eq]at hc;obtain⟨Qh,ag⟩:=hc;split at h
  case h_2=>simp at h
  case h_1 es hb=>
  simp only[ia]at h;obtain⟨ud,eW,rfl⟩:=h;cases hm with
  |mp _ hd=>
  obtain⟨ng,clock,hR,hZ,hl,qn⟩:=hw.Vc b _ hd hb;have hER:oI g w es ng.toList:=Ns.2 ⟨by simpa using hl,fun i k x e hi he=>qn i k x e hi (by simpa using he)⟩;obtain⟨d,hdd⟩:=uv Qh;have bk:(getObj (g.ρ b).R).run A.P w= .ok (.map ng clock) w:=by simp[getObj,Sem.run,hR]
  have Fh:∀o:Obj,(setObj (g.ρ b).R o).run A.P w= .ok () { w with heap:=w.heap.setIfInBounds (g.ρ b).R o }:=fun o=>by simp[setObj,Sem.run,hR]
  rcases BF hk Qh hdd 0 eW hER with⟨cM,hr⟩|⟨i,v,cM,hi,hr⟩
  ·have hfk:(Instr.findKey kt kv ng.toList).run A.P w= .ok none w:=by simp[Instr.findKey,run_underlying hdd,cM]
   refine⟨_,?_,Kr (SH:=ng) (clock':=clock) hw hf hd hb ag hR hr⟩;simp only[Builtin.delete_,uo,oc,He,We,Sem.run_bind,run_underlying hu,Result.andThen_ok,bk,ig Qh hk,hfk,Fh,Sem.run_pure]
  ·have hfk:(Instr.findKey kt kv ng.toList).run A.P w= .ok (some (i,v)) w:=by simp[Instr.findKey,run_underlying hdd,cM]
   have hil:i<ng.size:=by simpa using hi
   refine⟨_,?_,Kr (SH:=ng.eraseIdxIfInBounds i) (clock':=clock) hw hf hd hb ag hR (by simpa[Array.eraseIdxIfInBounds,hil]using hr)⟩;simp only[Builtin.delete_,uo,oc,He,We,Sem.run_bind,run_underlying hu,Result.andThen_ok,bk,ig Qh hk,hfk,Fh,Sem.run_pure]
 ·simp at h
end
end Go.V
namespace Go.V
open Go
section
variable {A:yh}{g:Gx}{f:Fx}{w:World}{s:S}{a:Act}
theorem qu{fn:AV->AV->Option AV}{gn:Value->Value->Sem Value}(Ln:∀(x y z:AV)(xv yv:Value),fn x y=some z->mb g w x xv->mb g w y yv->∃zv,(gn xv yv).run A.P w= .ok zv w/\mb g w z zv):
  ∀{ys:List AV}{yv:List Value}{x z:AV}{xv:Value},Vk fn x ys=some z->mb g w x xv->yv.length=ys.length->(∀(i:Nat)(y:AV)(v:Value),ys[i]?=some y->yv[i]?=some v->mb g w y v)->∃zv,(yv.foldlM gn xv).run A.P w= .ok zv w/\mb g w z zv
 |[],[],x,z,xv,h,hx,_,_=>by simp[Vk]at h;subst h;exact⟨xv,by simp,hx⟩
 |y::ys,v::yv,x,z,xv,h,hx,hl,hr=>by
  simp only[Vk,aa]at h;obtain⟨q,hq,h⟩:=h;obtain⟨qv,hqv,hqr⟩:=Ln x y q xv v hq hx (hr 0 y v rfl rfl);obtain⟨zv,h1,h2⟩:=qu Ln h hqr (by simpa using hl) (fun i y' v' hy hv=>hr (i+1) y' v' (by simpa using hy) (by simpa using hv));exact⟨zv,by simp[List.foldlM_cons,hqv,h1],h2⟩
 |[],_::_,_,_,_,_,_,hl,_=>by simp at hl
 |_::_,[],_,_,_,_,_,hl,_=>by simp at hl
theorem VI(x y z:AV)(xv yv:Value)(h:WI x y=some z)(hx:mb g w x xv)(hy:mb g w y yv):∃zv,(Builtin.max2 xv yv).run A.P w= .ok zv w/\mb g w z zv:=by
 unfold WI at h;split at h
 ·simp at h;subst h;cases hx;cases hy;exact⟨_,by simp[Builtin.max2],.int _ _⟩
 ·simp at h
theorem TI(x y z:AV)(xv yv:Value)(h:UI x y=some z)(hx:mb g w x xv)(hy:mb g w y yv):∃zv,(Builtin.min2 xv yv).run A.P w= .ok zv w/\mb g w z zv:=by
 unfold UI at h;split at h
 ·simp at h;subst h;cases hx;cases hy;exact⟨_,by simp[Builtin.min2],.int _ _⟩
 ·simp at h
theorem uy{sz:Nat}{rows new:List (List AV)}{cs:Array Value}{base r:Nat}{vs:List Value}(hlen:vs.length=new.length * sz)(pJ:r+new.length<=rows.length)(aj:base+rows.length * sz<=cs.size)
  (hold:∀(i:Nat)(row:List AV),rows[i]?=some row->row.length=sz/\Ye g w cs (base+i * sz) row) (ze:Fj g w sz new vs.toArray):
  ∀(i:Nat)(row:List AV),(rows.take r++(new++rows.drop (r+new.length)))[i]?=some row->row.length=sz/\Ye g w (cs.toList.take (base+r * sz)++vs++cs.toList.drop (base+r * sz+vs.length)).toArray (base+i * sz) row:=by
 intro i row hi;have hm1:(r+new.length) * sz=r * sz+new.length * sz:=Me _ _ _;have hm2:(r+new.length) * sz<=rows.length * sz:=ec _ pJ;have htk:(cs.toList.take (base+r * sz)).length=base+r * sz:=by rw[ic,Se];omega
 have Bv:(rows.take r).length=r:=by rw[ic];omega
 by_cases h1:i<r
 ·rw[Ka (by omega),Db,if_pos h1]at hi;obtain⟨hl,hr⟩:=hold i row hi;refine⟨hl,fun c x hx=> ?_⟩;obtain⟨v,e1,e2,e3⟩:=hr c x hx;have Ac:i * sz+c<r * sz:=Sg h1 (by have:=getElem?_lt' hx;omega);refine⟨v,?_,e2,e3⟩;simp only[oc,xd];rw[Ka (by omega),Db,if_pos (by omega)];simpa using e1
 ·rw[Na (by omega),Bv]at hi;by_cases h2:i-r<new.length
  ·rw[Ka h2]at hi;obtain⟨hl,hr⟩:=ze.2 _ row hi;refine⟨hl,fun c x hx=> ?_⟩;obtain⟨v,e1,e2,e3⟩:=hr c x hx;have Ac:(i-r) * sz+c<new.length * sz:=Sg h2 (by have:=getElem?_lt' hx;omega);have PK:i * sz=r * sz+(i-r) * sz:=by rw[<- Me];congr 1;omega
   refine⟨v,?_,e2,e3⟩;simp only[oc,xd]at e1 ⊢;rw[Na (by omega),htk,Ka (by omega),<- e1];congr 1;omega
  ·rw[Na (by omega),Ic]at hi;have hii:r+new.length+(i-r-new.length)=i:=by omega
   rw[hii]at hi;obtain⟨hl,hr⟩:=hold i row hi;refine⟨hl,fun c x hx=> ?_⟩;obtain⟨v,e1,e2,e3⟩:=hr c x hx;have Jt:(r+new.length) * sz<=i * sz:=ec _ (by omega);refine⟨v,?_,e2,e3⟩;simp only[oc,xd];rw[Na (by omega),htk,Na (by omega),Ic,show base+r * sz+vs.length+(base+i * sz+c-(base+r * sz)-vs.length)=base+i * sz+c by omega]
   simpa using e1
theorem gq{H:AH}{x:AV}{xv:Value}{rows:List (List AV)}{k:Nat}(h:rowsOf H x=some rows)(hw:dc A.Pa g w H)(hx:mb g w x xv)(hk:k<=rows.length):
  ∃x' FU,rowsOf H x'=some (rows.take k)/\mb g w x' FU/\∀sz,Builtin.firstCells sz k FU=Builtin.firstCells sz k xv:=by
 unfold rowsOf at h;split at h
 ·simp at h;subst h;simp at hk;subst hk;exact⟨.Xa,xv,rfl,hx,fun _=>rfl⟩
 ·simp at h;subst h;simp at hk;subst hk;exact⟨.Ud,xv,rfl,hx,fun _=>rfl⟩
 ·rename_i sz Pg;simp at h;subst h;cases hx with
  |lits _ ad=>simp at hk;subst hk;exact⟨.lit sz [],_,rfl,.lits sz ad,fun _=>rfl⟩
  |lit _ ad cap _ vs hs hc hz hl Di h1c qn=>
   have hlen:(Pg.take k).length=k:=by simp;omega
   have bk:∀(i:Nat)(row:List AV),(Pg.take k)[i]?=some row->Pg[i]?=some row:=fun i row hi=>by
    rw[Db]at hi;split at hi;exact hi;simp at hi
   refine⟨.lit sz (Pg.take k),.slice (some ad) (Pg.take k).length cap,rfl,.lit _ ad cap sz vs hs (by omega) (fun Uc=>hz (by intro e;subst e;simp at Uc)) (fun i row hi=>hl i row (bk i row hi)) (fun i c hi Mn=>Di i c (by omega) Mn) (fun i c hi Mn=>h1c i c (by omega) Mn) (fun i row c x hi hx=>qn i row c x (bk i row hi) hx),fun _=>rfl⟩
 ·rename_i b r n;split at h
  case h_2=>simp at h
  case h_1 Pg sz LC hb=>
  split at h
  case isFalse=>simp at h
  case isTrue hle=>
  simp at h;subst h;have hlen:((Pg.drop r).take n).length=n:=by simp;omega
  have Tk:rowsOf H (.sl b r k)=some (((Pg.drop r).take n).take k):=by
   simp only[rowsOf,hb];rw[if_pos (by omega),List.take_take,Nat.min_eq_left (by omega)]
  cases hx with
  |sl _ _ _ cap hd hn Gp hmc=>exact⟨.sl b r k,_,Tk,.sl b r k cap hd (by omega) Gp (by assumption),fun _=>rfl⟩
  |BI _ _ ad hd=>
   have:k=0:=by omega
   subst this;exact⟨.sl b r 0,_,Tk,.BI b r ad hd,fun _=>rfl⟩
 ·simp at h
theorem VD{b:Builtin}{ts:Array TypeId}{ty:TypeId}{consts:Array Bool}{args:List AV}{vs:List Value}{v:AV}{H':AH}{r:Result Next}(h:builtin A s.H b ts args=some (v,H'))(hw:dc A.Pa g w s.H)(hf:Td g f w s.H s.F)
  (hl:args.length=vs.length) (hv:∀(i:Nat)(x:AV)(u:Value),args[i]?=some x->vs[i]?=some u->mb g w x u) (ee:r=(On b ts ty consts vs.toArray).run A.P w):
  VK A.Pa g f w s { s with H:=H' } (.v v) r:=by
 unfold builtin at h;split at h
 ·rename_i x y;obtain⟨xv,yv,rfl⟩:∃xv yv,vs=[xv,yv]:=by
   match vs,hl with
   |[p,q],_=>exact⟨p,q,rfl⟩
  exact bI h hw hf (hv 0 x xv rfl rfl) (hv 1 y yv rfl rfl) ee
 ·rename_i x;obtain⟨xv,rfl⟩:∃xv,vs=[xv]:=by
   match vs,hl with
   |[p],_=>exact⟨p,rfl⟩
  have hx:=hv 0 x xv rfl rfl;simp only[aa]at h;obtain⟨t,uo,h⟩:=h;have iD:∀n:Int,(Builtin.len_ ts ty #[xv]).run A.P w= .ok (.int .i64 n) w->VK A.Pa g f w s s (.v (.int .i64 n)) r:=fun n hn=>Ue hw hf (rv:= .int .i64 n) (by rw[ee];simp[On,hn]) (.int _ _)
  split at h
  ·rename_i sb hu;simp at h;obtain⟨rfl,rfl⟩:=h;cases hx;exact iD _ (by simp[Builtin.len_,uo,run_underlying hu,goInt])
  ·rename_i e hu;simp at h;obtain⟨rfl,rfl⟩:=h;cases hx;exact iD _ (by simp[Builtin.len_,uo,run_underlying hu,goInt])
  ·rename_i e hu;simp at h;obtain⟨rfl,rfl⟩:=h;cases hx;exact iD _ (by simp[Builtin.len_,uo,run_underlying hu,goInt])
  ·rename_i e sz rows hu;simp at h;obtain⟨rfl,rfl⟩:=h;cases hx<;>exact iD _ (by simp[Builtin.len_,uo,run_underlying hu,goInt])
  ·rename_i e b' r' n hu;simp at h;obtain⟨rfl,rfl⟩:=h;cases hx<;>exact iD _ (by simp[Builtin.len_,uo,run_underlying hu,goInt])
  ·rename_i kt et hu;simp only[ia]at h;obtain⟨es,eW,h⟩:=h;simp at h;obtain⟨rfl,rfl⟩:=h;rcases Py eW hw hx with⟨rfl,rfl⟩|⟨q,ng,clock,rfl,hR,he⟩
   ·exact iD _ (by simp[Builtin.len_,uo,run_underlying hu,goInt])
   ·have bk:(getObj q).run A.P w= .ok (.map ng clock) w:=by simp[getObj,Sem.run,hR]
    have OR:=(Ns.1 he).1;have Fak:ng.size=es.length:=by simpa using OR
    exact iD _ (by simp[Builtin.len_,uo,run_underlying hu,bk,goInt,Fak])
  ·rename_i n e hu;simp at h;obtain⟨rfl,rfl⟩:=h;exact iD _ (by simp[Builtin.len_,uo,run_underlying hu,goInt])
  ·simp at h
 ·rename_i x xs;obtain⟨xv,xvs,rfl⟩:∃xv xvs,vs=xv::xvs:=by
   match vs,hl with
   |p::q,_=>exact⟨p,q,rfl⟩
  simp only[ia]at h;obtain⟨z,hz,h⟩:=h;simp at h;obtain⟨rfl,rfl⟩:=h;obtain⟨zv,h1,h2⟩:=qu (A:=A) (gn:=Builtin.max2) VI hz (hv 0 x xv rfl rfl) (by simpa using hl.symm) (fun i y u hy hu=>hv (i+1) y u (by simpa using hy) (by simpa using hu));exact Ue hw hf (rv:=zv) (by rw[ee];simp[On,Builtin.max_,h1]) h2
 ·rename_i x xs;obtain⟨xv,xvs,rfl⟩:∃xv xvs,vs=xv::xvs:=by
   match vs,hl with
   |p::q,_=>exact⟨p,q,rfl⟩
  simp only[ia]at h;obtain⟨z,hz,h⟩:=h;simp at h;obtain⟨rfl,rfl⟩:=h;obtain⟨zv,h1,h2⟩:=qu (A:=A) (gn:=Builtin.min2) TI hz (hv 0 x xv rfl rfl) (by simpa using hl.symm) (fun i y u hy hu=>hv (i+1) y u (by simpa using hy) (by simpa using hu));exact Ue hw hf (rv:=zv) (by rw[ee];simp[On,Builtin.min_,h1]) h2
 ·rename_i m k;obtain⟨mv,kv,rfl⟩:∃xv yv,vs=[xv,yv]:=by
   match vs,hl with
   |[p,q],_=>exact⟨p,q,rfl⟩
  simp only[aa,ia]at h;obtain⟨t,uo,H1,hd,h⟩:=h;simp at h;obtain⟨rfl,rfl⟩:=h;obtain⟨w',h1,h2,h3,h4⟩:=yz (ty:=ty) uo hd hw hf (hv 0 m mv rfl rfl) (hv 1 k kv rfl rfl);exact⟨.tuple #[],w',g,f,.inl (by rw[ee];simp[On,h1]),h2,h3,h4,.Sc [] [] rfl (fun i x v h=>by simp at h)⟩
 ·rename_i x y;obtain⟨xv,yv,rfl⟩:∃xv yv,vs=[xv,yv]:=by
   match vs,hl with
   |[p,q],_=>exact⟨p,q,rfl⟩
  have hx:=hv 0 x xv rfl rfl;have hy:=hv 1 y yv rfl rfl;simp only[aa]at h;obtain⟨t,uo,e,he,z,hz,ys,Nx,h⟩:=h;have hu:=kj he;obtain⟨yo,ban,hyv,cam,_⟩:=cg Nx hw hy;have qq:(Builtin.lenOf yv).run A.P w= .ok ys.length w:=by rw[hyv];simp[Builtin.lenOf]
  split at h
  ·simp at h;obtain⟨rfl,rfl⟩:=h;cases hx;obtain⟨x',FU,p1,p2,p3⟩:=gq (k:=0) Nx hw hy (je _);obtain⟨_,_,cs,_,_,q2,_,_,_,q5⟩:=bn (sz:=z) p1 hw p2 (fun row h=>by simp at h);have L2:=q5 w rfl;simp only[List.take_zero,Bb]at L2;rw[p3]at L2;refine Ue hw hf (rv:= .int .i64 0) ?_ (.int _ _);have WL:ys.length.min 0=0:=by simp
   rw[ee];simp[On,Builtin.copy_,uo,run_underlying hu,qq,WL,Tc hz,L2,goInt]
  ·simp at h;obtain⟨rfl,rfl⟩:=h;cases hx with
   |Ud ad0=>
   obtain⟨x',FU,p1,p2,p3⟩:=gq (k:=0) Nx hw hy (je _);obtain⟨_,_,cs,_,_,q2,_,_,_,q5⟩:=bn (sz:=z) p1 hw p2 (fun row h=>by simp at h);have L2:=q5 w rfl;simp only[List.take_zero,Bb]at L2;rw[p3]at L2;refine Ue hw hf (rv:= .int .i64 0) ?_ (.int _ _);have WL:ys.length.min 0=0:=by simp
   rw[ee];have Qaa:cs= #[]:=jh (by rw[q2];simp);simp[On,Builtin.copy_,uo,run_underlying hu,qq,WL,Tc hz,L2,goInt,Qaa,storeCells]
  ·rename_i b' r' n;split at h
   case h_2=>simp at h
   case h_1 rows sz LC hb=>
   split at h
   case isFalse=>simp at h
   case isTrue hc=>
   obtain⟨ag,pJ,rfl,Hg⟩:=hc;simp at h;obtain⟨rfl,rfl⟩:=h;have BO:∀row∈ys,row.length=sz:=fun row sd=>by simpa using tc.1 Hg row sd
   have hD:g.D b':=by cases hx<;>assumption
   have ae:live g s.H b':=⟨hD,_,hb,rfl⟩;obtain⟨gaa,Lf,sO,dM,Jy,⟨T,fz,hR,RK,Rl,hZ⟩,Pc⟩:=hw.Vc b' _ hD hb;obtain⟨x',FU,p1,p2,p3⟩:=gq (k:=min ys.length n) Nx hw hy (Nat.min_le_left _ _);obtain⟨_,_,cs,_,_,q2,q3,_,q4,q5⟩:=bn (sz:=sz) p1 hw p2 (fun row sd=>BO row (List.mem_of_mem_take sd));have Lj:(ys.take (min ys.length n)).length=min ys.length n:=by rw[ic];omega
   have L2:=q5 w rfl;rw[Lj,p3]at L2;rw[Lj]at q2;generalize hN:min ys.length n=N at *
   have hNn:N<=n:=by omega
   have R4:∃ad cap,xv= .slice (some ad) n cap/\((storeCells ad cs.toList).run A.P w= .ok () (w.setRow (g.ρ b').R (Jy.toList.take ((g.ρ b').o+r' * sz)++cs.toList++Jy.toList.drop ((g.ρ b').o+r' * sz+cs.toList.length)).toArray)):=by
    have hm1:(r'+N) * sz=r' * sz+N * sz:=Me _ _ _;have hm2:(r'+N) * sz<=rows.length * sz:=ec _ (by omega);cases hx with
    |sl _ _ _ cap hd hn Gp=>
     refine⟨_,cap,rfl,?_⟩;have jc:=jf A.P (g.ρ b').R ((g.ρ b').o+r' * sz) T fz cs.toList 0 Jy w hR (by simp;omega) (fun j hj=>Rl _ (by simp at hj;omega)) q4;rw[sO];simpa using jc
    |BI _ _ ad hd=>
     have hN0:N=0:=by omega
     have Qaa:cs= #[]:=jh (by rw[q2,hN0];simp);refine⟨ad,0,rfl,?_⟩;rw[Qaa];have:=setRow_self w (g.ρ b').R Jy T fz hR;simp only[storeCells,Array.toList_empty,Nn,Bb,Je,List.take_append_drop,Array.toArray_toList,this];rfl
   obtain⟨ad,cap,rfl,jc⟩:=R4;have hm1:(r'+N) * sz=r' * sz+N * sz:=Me _ _ _;have hm2:(r'+N) * sz<=rows.length * sz:=ec _ (by omega);obtain⟨k1,k2,k3⟩:=Be (b:=b') (x:= .cells (rows.take r'++(ys.take N++rows.drop (r'+(ys.take N).length))) sz LC) (w':=w.setRow (g.ρ b').R (Jy.toList.take ((g.ρ b').o+r' * sz)++cs.toList++Jy.toList.drop ((g.ρ b').o+r' * sz+cs.toList.length)).toArray) hw hf ae ag (setRow_size _ _ _) (fun R Uc=>setRow_other _ _ _ _ Uc)
    (fun hle=>⟨gaa.setRow _,Lf,sO,by simp only[qd,ic,qt,Lj];rw[show min r' rows.length+(N+(rows.length-(r'+N)))=rows.length by omega];exact dM,_,Row.set (show Row g w (g.ρ b').R (g.ρ b').e Jy from⟨T,fz,hR,RK,Rl,hZ⟩) (by simp;omega),fun r row hr=>by
     obtain⟨z1,z2⟩:=uy (vs:=cs.toList) (base:=(g.ρ b').o) (by simp[q2,Lj]) (by rw[Lj];omega) (by rw[RK];exact dM) Pc (by simpa using q3) r row hr;exact⟨z1,z2.mono hle⟩⟩)
   rw[Lj]at k1 k2 k3;refine⟨.int .i64 N,_,g,f,.inl ?_,k1,k2,k3,.int _ _⟩;have WL:ys.length.min n=N:=hN;rw[ee];simp[On,Builtin.copy_,uo,run_underlying hu,qq,WL,Tc hz,L2,jc,goInt]
  ·simp at h
 ·simp at h
end
end Go.V
namespace Go.V
open Go
def VL(g:Gx)(w:World):List AV->List Value->Prop
 |[],[]=>True
 |x::xs,v::vs=>mb g w x v/\VL g w xs vs
 |_,_=>False
def v7(g:Gx)(w:World):List (List AV)->List (List Value)->Prop
 |[],[]=>True
 |x::xs,v::vs=>VL g w x v/\v7 g w xs vs
 |_,_=>False
section
variable {A:yh}{g g':Gx}{w w':World}
theorem VL.mono(h:g.Le w g' w'):∀{xs:List AV}{vs:List Value},VL g w xs vs->VL g' w' xs vs
 |[],[],_=>trivial
 |_::_,_::_,⟨h1,h2⟩=>⟨h1.mono h,h2.mono h⟩
 |[],_::_,h=>h.elim
 |_::_,[],h=>h.elim
theorem v7.mono(h:g.Le w g' w'):∀{xs:List (List AV)}{vs:List (List Value)},v7 g w xs vs->v7 g' w' xs vs
 |[],[],_=>trivial
 |_::_,_::_,⟨h1,h2⟩=>⟨h1.mono h,h2.mono h⟩
 |[],_::_,h=>h.elim
 |_::_,[],h=>h.elim
theorem Ij:∀{xs:List AV}{vs:List Value},VL g w xs vs↔vs.length=xs.length/\∀(i:Nat)(x:AV)(v:Value),xs[i]?=some x->vs[i]?=some v->mb g w x v
 |[],[]=>⟨fun _=>⟨rfl,fun i x v h=>by simp at h⟩,fun _=>trivial⟩
 |x::xs,v::vs=>by
  simp only[VL,Ij (xs:=xs) (vs:=vs)];constructor
  ·rintro⟨h1,h2,h3⟩
   refine⟨by simp[h2],fun i y u hy hu=> ?_⟩;cases i with
   |zero=>simp at hy hu;subst hy;subst hu;exact h1
   |succ i=>exact h3 i y u (by simpa using hy) (by simpa using hu)
  ·rintro⟨h2,h3⟩
   exact⟨h3 0 x v rfl rfl,by simpa using h2,fun i y u hy hu=>h3 (i+1) y u (by simpa using hy) (by simpa using hu)⟩
 |[],_::_=>⟨fun h=>h.elim,fun h=>by simp at h⟩
 |_::_,[]=>⟨fun h=>h.elim,fun h=>by simp at h⟩
theorem SF:∀{xs:List (List AV)}{vs:List (List Value)},v7 g w xs vs↔vs.length=xs.length/\∀(i:Nat)(x:List AV)(v:List Value),xs[i]?=some x->vs[i]?=some v->VL g w x v
 |[],[]=>⟨fun _=>⟨rfl,fun i x v h=>by simp at h⟩,fun _=>trivial⟩
 |x::xs,v::vs=>by
  simp only[v7,SF (xs:=xs) (vs:=vs)];constructor
  ·rintro⟨h1,h2,h3⟩
   refine⟨by simp[h2],fun i y u hy hu=> ?_⟩;cases i with
   |zero=>simp at hy hu;subst hy;subst hu;exact h1
   |succ i=>exact h3 i y u (by simpa using hy) (by simpa using hu)
  ·rintro⟨h2,h3⟩
   exact⟨h3 0 x v rfl rfl,by simpa using h2,fun i y u hy hu=>h3 (i+1) y u (by simpa using hy) (by simpa using hu)⟩
 |[],_::_=>⟨fun h=>h.elim,fun h=>by simp at h⟩
 |_::_,[]=>⟨fun h=>h.elim,fun h=>by simp at h⟩
def JN(A:yh)(fz:AH->AV->Option (AV×AH)):Prop:=
 ∀H x x' H',fz H x=some (x',H')->∀(g:Gx)(w:World)(v:Value),dc A.Pa g w H->mb g w x v->∃g',dc A.Pa g' w H'/\Ext g w H g' w H'/\mb g' w x' v
theorem ek{fz:AH->AV->Option (AV×AH)}(Rl:JN A fz):∀(xs Pp:List AV)(H H':AH)(g:Gx)(w:World)(vs:List Value),Xg fz H xs=some (Pp,H')->dc A.Pa g w H->VL g w xs vs->∃g',dc A.Pa g' w H'/\Ext g w H g' w H'/\VL g' w Pp vs/\Pp.length=xs.length
 |[],Pp,H,H',g,w,vs,h,hw,hv=>by
  simp[Xg]at h;obtain⟨rfl,rfl⟩:=h;exact⟨g,hw,.refl _ _ _,hv,rfl⟩
 |x::xs,Pp,H,H',g,w,v::vs,h,hw,hv=>by
  simp only[Xg,aa]at h;obtain⟨⟨x1,H1⟩,h1,⟨xs1,H2⟩,h2,h⟩:=h;simp at h;obtain⟨rfl,rfl⟩:=h;obtain⟨g1,w1,e1,v1⟩:=Rl _ _ _ _ h1 g w v hw hv.1;obtain⟨g2,w2,e2,v2,l2⟩:=ek Rl xs xs1 H1 H2 g1 w vs h2 w1 (hv.2.mono (hw.le e1));exact⟨g2,w2,e1.trans e2,⟨v1.mono (w1.le e2),v2⟩,by simp[l2]⟩
 |_::_,_,_,_,_,_,[],_,_,hv=>hv.elim
theorem Jv{fz:AH->AV->Option (AV×AH)}(Rl:JN A fz):∀(xs Pp:List (List AV))(H H':AH)(g:Gx)(w:World)(vs:List (List Value)),Gh fz H xs=some (Pp,H')->dc A.Pa g w H->v7 g w xs vs->∃g',dc A.Pa g' w H'/\Ext g w H g' w H'/\v7 g' w Pp vs/\Pp.length=xs.length/\
  ∀(i:Nat)(r r':List AV),xs[i]?=some r->Pp[i]?=some r'->r'.length=r.length
 |[],Pp,H,H',g,w,vs,h,hw,hv=>by
  simp[Gh]at h;obtain⟨rfl,rfl⟩:=h;exact⟨g,hw,.refl _ _ _,hv,rfl,fun i r r' h=>by simp at h⟩
 |x::xs,Pp,H,H',g,w,v::vs,h,hw,hv=>by
  simp only[Gh,aa]at h;obtain⟨⟨x1,H1⟩,h1,⟨xs1,H2⟩,h2,h⟩:=h;simp at h;obtain⟨rfl,rfl⟩:=h;obtain⟨g1,w1,e1,v1,l1⟩:=ek Rl x x1 H H1 g w v h1 hw hv.1;obtain⟨g2,w2,e2,v2,l2,l3⟩:=Jv Rl xs xs1 H1 H2 g1 w vs h2 w1 (hv.2.mono (hw.le e1));refine⟨g2,w2,e1.trans e2,⟨v1.mono (w1.le e2),v2⟩,by simp[l2],fun i r r' hr Ql=> ?_⟩;cases i with
  |zero=>simp at hr Ql;subst hr;subst Ql;exact l1
  |succ i=>exact l3 i r r' (by simpa using hr) (by simpa using Ql)
 |_::_,_,_,_,_,_,[],_,_,hv=>hv.elim
theorem H_{H:AH}{b:Nat}(hw:dc A.Pa g w H)(hb:live g H b)(ag:H.wm<=b):dc A.Pa { g with Z:=fun R=>g.Z R\/R=(g.ρ b).R } w (Ra H b .dead)/\Ext g w H { g with Z:=fun R=>g.Z R\/R=(g.ρ b).R } w (Ra H b .dead):=by
 have hle:g.Le w { g with Z:=fun R=>g.Z R\/R=(g.ρ b).R } w:=⟨fun _ h=>⟨h,rfl⟩,fun _ h=>⟨.inl h,rfl⟩⟩;have XL:∀b',live { g with Z:=fun R=>g.Z R\/R=(g.ρ b).R } (Ra H b .dead) b'->b'≠b/\live g H b':=fun b' h=>by
  rcases Qk (g:=g) (show live g (Ra H b .dead) b' from h)with⟨_,h'⟩|h'
  ·simp[Zd]at h'
  ·exact h'
 refine⟨⟨fun i row hg=>(hw.Pa i row hg).mono hle,fun b' hd=>by simpa[Ra]using hw.Ie b' hd,fun b' y hd hy=> ?_,fun b1 b2 h1 h2 Uc=>hw.inj b1 b2 (XL b1 h1).2 (XL b2 h2).2 Uc,fun R hR=> ?_⟩,?_⟩
 ·rw[Xi]at hy;split at hy
  ·split at hy
   ·simp at hy;subst hy;trivial
   ·simp at hy
  ·rename_i Uc;refine(hw.Vc b' y hd hy).le hle (fun _=>rfl) (fun hl hz=> ?_);rcases hz with hz|hz
   ·exact hw.Vm ⟨hd,y,hy,hl⟩ hz
   ·exact hw.inj b' b ⟨hd,y,hy,hl⟩ hb (fun e=>Uc e.symm) hz
 ·rcases hR with hR|rfl
  ·exact hw.Eu R hR
  ·exact hw.lt hb
 ·refine⟨fun _ h=>⟨h,rfl⟩,fun _ h=> .inl h,fun _ h=> .inl h,fun R h=>h.elim .inl (fun e=> .inr (.inl ⟨b,hb,e.symm⟩)),fun R⟨b',h,e⟩=> .inl ⟨b',(XL b' h).2,e⟩,fun _ _ _=>rfl,va _,by simp[Ra],rfl,fun b' Ld hl=> ?_,fun _ _ _=>rfl,⟨rfl,rfl⟩⟩;rw[Xi,if_neg (by omega)]
theorem Ei:∀d,JN A (freeze d)
 |0=>fun H x x' H' h=>by simp[freeze]at h
 |d+1=>fun H x x' H' h g w v hw hx=>by
  cases x
  case sl b r n=>
   simp only[freeze,aa]at h;obtain⟨rows,Pc,sz,ue,h⟩:=h;split at h
   case isFalse=>simp at h
   case isTrue ag=>
   simp only[aa]at h;obtain⟨⟨Yd,H1⟩,mD,h⟩:=h;simp at h;obtain⟨rfl,rfl⟩:=h;have hblk:∃Pg LC,H.bl[b]?=some (.cells Pg sz LC):=by
    unfold Jj at ue;split at ue
    ·rename_i Pg sz0 LC hb;simp at ue;subst ue;exact⟨Pg,LC,hb⟩
    ·simp at ue
   obtain⟨Pg,LC,FB⟩:=hblk;have hD:g.D b:=by cases hx<;>assumption
   have ae:live g H b:=⟨hD,_,FB,rfl⟩;obtain⟨w1,e1⟩:=H_ hw ae ag;have Baa:=hw.le e1;by_cases Uc:rows=[]
   ·obtain⟨ao,cap,hv,Ml,_⟩:=cg Pc hw hx;subst Uc;simp[Gh]at mD;obtain⟨rfl,rfl⟩:=mD;refine⟨_,w1,e1,?_⟩;have jJ:∀(ad:Addr)(c:Nat),ad.spot=none->mb { g with Z:=fun R=>g.Z R\/R=(g.ρ b).R } w (.lit sz []) (.slice (some ad) 0 c):=fun ad c hs=>
     .lit [] ad c sz (fun _ _=>undef) hs (je _) (fun h=>absurd rfl h) (fun i row h=>by simp at h) (fun i c h=>by simp at h) (fun i c h=>by simp at h) (fun i row c x h=>by simp at h)
    cases hx with
    |sl _ _ _ UD=>injection hv with _ hn _;simp at hn;subst hn;exact jJ _ _ rfl
    |BI _ _ ad=>exact .lits sz ad
   ·obtain⟨ao,cap,rfl,Ml,Ci⟩:=cg Pc hw hx;obtain⟨ad,bx,rfl,hs,Uk⟩:=Ci Uc;obtain⟨L3,DR,hvr⟩:=pick (fun(i:Nat)(row:List AV)(vs:List Value)=>vs.length=row.length/\row.length=bx/\(∀u∈vs,u.oneCell'=true)/\(∀(c:Nat)(u:Value),vs[c]?=some u->w.cell? ⟨ad.block,ad.off+i * bx+c,none⟩=some u)/\VL g w row vs) rows (fun i row hi=>by
     obtain⟨h1,h2⟩:=Uk i row hi;obtain⟨vs,k1,k2⟩:=pick (fun(c:Nat)(x:AV)(u:Value)=>w.cell? ⟨ad.block,ad.off+i * bx+c,none⟩=some u/\u.oneCell'=true/\mb g w x u) row h2;have hex:∀(c:Nat)(u:Value),vs[c]?=some u->∃x,row[c]?=some x:=fun c u hc=>⟨_,Ba (by have:=getElem?_lt' hc;omega)⟩
     refine⟨vs,k1,h1,fun u hu=> ?_,fun c u hc=> ?_,Ij.2 ⟨k1,fun i x v hx hv=>(k2 i x v hx hv).2.2⟩⟩
     ·obtain⟨c,hc⟩:=me hu;obtain⟨x,hx⟩:=hex c u hc;exact(k2 c x u hx hc).2.1
     ·obtain⟨x,hx⟩:=hex c u hc;exact(k2 c x u hx hc).1)
    have hrv:∀(i:Nat)(vs:List Value),L3[i]?=some vs->∃row,rows[i]?=some row:=fun i vs hi=>⟨_,Ba (by have:=getElem?_lt' hi;omega)⟩
    have Qak:v7 g w rows L3:=SF.2 ⟨DR,fun i row vs hr hv=>(hvr i row vs hr hv).2.2.2.2⟩;obtain⟨g2,w2,e2,v2,l2,l3⟩:=Jv (Ei d) rows Yd _ _ _ w L3 mD w1 (Qak.mono Baa);refine⟨g2,w2,e1.trans e2,?_⟩;have Caj:bx=sz/\ad.block=(g.ρ b).R:=by
     generalize rows.length=m at hx;cases hx with
     |sl _ _ _ UD hd hn Gp=>
      obtain⟨_,_,_,_,cs,_,maa⟩:=hw.Vc b _ hD FB;cases FR:rows with
      |nil=>exact absurd FR Uc
      |cons bR rest=>
       have h0:rows[0]?=some bR:=by rw[FR];rfl
       obtain⟨h1,_⟩:=Uk 0 bR h0;have h2:=h0;simp only[rowsOf,FB]at Pc;split at Pc
       ·simp at Pc;rw[<- Pc,Db]at h2;split at h2
        ·rw[Ic]at h2;exact⟨h1 ▸ (maa _ _ h2).1,rfl⟩
        ·simp at h2
       ·simp at Pc
     |BI=>
      have:rows.length=0:=by
       simp only[rowsOf,FB]at Pc;split at Pc
       ·simp at Pc;subst Pc;rfl
       ·simp at Pc
      exact absurd (Vs this) Uc
    obtain⟨rfl,hblk⟩:=Caj;have hzz:g2.Z ad.block:=e2.Z _ (.inr hblk);obtain⟨q1,q2⟩:=SF.1 v2;have Di:∀i c,i<Yd.length->c<bx->∃vs u,L3[i]?=some vs/\vs[c]?=some u/\u.oneCell'=true/\w.cell? ⟨ad.block,ad.off+i * bx+c,none⟩=some u:=fun i c hi hc=>by
     have Ac:i<L3.length:=by omega
     have hv:=Ba Ac;obtain⟨row,hr⟩:=hrv i _ hv;obtain⟨k1,k2,k3,k4,k5⟩:=hvr i row _ hr hv;have hu:=Ba (l:=L3[i]) (i:=c) (by omega);exact⟨_,_,hv,hu,k3 _ (Nb hu),k4 c _ hu⟩
    rw[<- l2];refine .lit Yd ad cap bx (fun i c=>((L3.getD i []).getD c undef)) hs (by omega) (fun _=>hzz) (fun i row hi=> ?_) (fun i c hi hc=> ?_) (fun i c hi hc=> ?_) (fun i row c x hi hx=> ?_)
    ·have Ac:=getElem?_lt' hi;have hr:=Ba (l:=rows) (i:=i) (by omega);rw[l3 i _ _ hr hi];exact(Uk i _ hr).1
    ·obtain⟨vs,u,h1,h2,h3,h4⟩:=Di i c hi hc;simp[List.getD,h1,h2,h4]
    ·obtain⟨vs,u,h1,h2,h3,h4⟩:=Di i c hi hc;simp[List.getD,h1,h2,h3]
    ·have Ac:=getElem?_lt' hi;have hv:=Ba (l:=L3) (i:=i) (by omega);obtain⟨k1,k2⟩:=Ij.1 (q2 i row _ hi hv);have hu:=Ba (l:=L3[i]) (i:=c) (by have:=getElem?_lt' hx;omega);have:=k2 c x _ hx hu
     simpa[List.getD,hv,hu]using this
  case agg cs=>
   simp only[freeze,aa]at h;obtain⟨⟨Jh,H1⟩,h1,h⟩:=h;simp at h;obtain⟨rfl,rfl⟩:=h;cases hx with
   |agg _ vs hl Iz hr=>
    obtain⟨g1,w1,e1,v1,l1⟩:=ek (Ei d) cs Jh _ _ g w vs h1 hw (Ij.2 ⟨hl,hr⟩);obtain⟨q1,q2⟩:=Ij.1 v1;exact⟨g1,w1,e1,.agg Jh vs q1 Iz q2⟩
  case Sc cs=>
   simp only[freeze,aa]at h;obtain⟨⟨Jh,H1⟩,h1,h⟩:=h;simp at h;obtain⟨rfl,rfl⟩:=h;cases hx with
   |Sc _ vs hl hr=>
    obtain⟨g1,w1,e1,v1,l1⟩:=ek (Ei d) cs Jh _ _ g w vs h1 hw (Ij.2 ⟨hl,hr⟩);obtain⟨q1,q2⟩:=Ij.1 v1;exact⟨g1,w1,e1,.Sc Jh vs q1 q2⟩
  all_goals
   simp[freeze]at h;obtain⟨rfl,rfl⟩:=h;exact⟨g,hw,.refl _ _ _,hx⟩
theorem zF{G:Nat->Option (List AV)}{g g':Gx}{f:Fx}{w w':World}{H H':AH}{F:List (List AV)}(hw:dc G g w H)(hf:Td g f w H F)(h:Ext g w H g' w' H'):Td g' f w' H' F/\Bg g f w H F g' f w' H' F:=by
 have hle:=hw.le h;refine⟨⟨hf.Ie,fun i row hi sd=> ?_,hf.inj,fun i hi hp=> ?_⟩,⟨h.D,h.Pz,h.Z,h.Yq,h.fp,fun _ h=>⟨h,rfl⟩,fun _ h=> .inl h,fun _ h h'=>absurd h h',fun R hR hn _=>h.Fk R hR hn,h.size,h.len,va _,h.wm,h.quiet,h.still,fun _ _=>Iff.rfl,fun _ h h'=>absurd h h',fun i hi _=>h.Fk _ (hf.lt hi) (hf.apart i hi),h.io⟩⟩
 ·obtain⟨cs,⟨T,fz,hR,q1,q2,q3⟩,q4⟩:=hf.Vc i row hi sd;have Ac:=hf.lt hi;refine⟨cs,⟨T,fz,by rw[h.Fk _ Ac (hf.apart i hi)];exact hR,q1,q2,fun hz=> ?_⟩,q4.mono hle⟩;rcases h.Yq _ hz with hz|hz|hz
  ·exact q3 hz
  ·exact hf.apart i hi hz
  ·omega
 ·rcases h.fp _ hp with h1|h1
  ·exact hf.apart i hi h1
  ·have:=hf.lt hi;omega
end
end Go.V
namespace Go.V
open Go
structure Hw(F:Fence):Prop where
 fn:∀f,F.fn f
 depth:F.depth=none
 alive:F.alive=false
def Gj(A:yh)(call:Callee):Prop:=
 ∀fv args H r H',call fv args H=some (r,H')->∀(g:Gx)(w:World)(pW:Value)(vs:List Value),dc A.Pa g w H->mb g w fv pW->args.length=vs.length->
  (∀(i:Nat)(x:AV)(v:Value),args[i]?=some x->vs[i]?=some v->mb g w x v)->
  ∀(F:Fence)(n:Nat)(o:Oper)(a:Act)(next:Act->World->Prop)(Q:Exit->Act->World->Prop),Hw F->
   (∀g' w' rv,mb g' w' r rv->dc A.Pa g' w' H'->Ext g w H g' w' H'->next (a.put o.dst rv) w')->
   Oper.uponIn F n A.P o a next Q ((do let d <- Deferred.ofValue pW vs.toArray;invoke d.target d.args:Sem Next).run A.P w)
section
variable {A:yh}{g:Gx}{f:Fx}{w:World}{s:S}{a:Act}{call:Callee}{Fa:List Nat}
theorem FF{s s':S}{t:TypeId}{b:Bool}{cs:List AV}{v:SV}(h:boxed s t b cs=some (v,s')):s'.e=s.e:=by
 unfold boxed at h;split at h
 ·simp only[Dc]at h;unfold box at h;split at h<;>simp at h<;>obtain⟨_,rfl⟩:=h<;>rfl
 ·simp at h
theorem aq{s s':S}{x:Option AV}{v:SV}(h:Uf s x=some (v,s')):s'=s/\∃a,x=some a/\v= .v a:=by
 simp only[Uf,ia]at h;obtain⟨a,ha,h⟩:=h;simp at h;obtain⟨rfl,rfl⟩:=h;exact⟨rfl,a,ha,rfl⟩
theorem Zp{s s':S}{x:Option (AV×AH)}{v:SV}(h:th s x=some (v,s')):∃a H,x=some (a,H)/\v= .v a/\s'={ s with H:=H }:=by
 simp only[th,ia]at h;obtain⟨⟨a,H⟩,ha,h⟩:=h;simp at h;obtain⟨rfl,rfl⟩:=h;exact⟨a,H,ha,rfl,rfl⟩
theorem K0{s':S}{v:SV}{r:Result Next}{o:Oper}{F:Fence}{n:Nat}{next:Act->World->Prop}{Q:Exit->Act->World->Prop}(h:VK A.Pa g f w s s' v r)
  (hk:∀g' f' w' rv,dc A.Pa g' w' s'.H->Td g' f' w' s'.H s'.F->Bg g f w s.H s.F g' f' w' s'.H s'.F->Fe g' f' w' v rv->next (a.put o.dst rv) w'):Oper.uponIn F n A.P o a next Q r:=by
 obtain⟨rv,w',g',f',hr|⟨hr,rfl⟩,h1,h2,h3,h4⟩:=h
 ·rw[hr];exact hk g' f' w' rv h1 h2 h3 h4
 ·rw[hr];exact hk g' f' w' undef h1 h2 h3 h4
theorem Ji{x:Option AV}{v:SV}{s':S}{r:Result Next}(h:Uf s x=some (v,s'))(hw:dc A.Pa g w s.H)(hf:Td g f w s.H s.F)
  (hx:∀a,x=some a->∃rv,r= .ok (.value rv) w/\mb g w a rv):VK A.Pa g f w s s' v r/\s'.e=s.e:=by
 obtain⟨rfl,a,ha,rfl⟩:=aq h;obtain⟨rv,h1,h2⟩:=hx a ha;exact⟨Ue hw hf h1 h2,rfl⟩
theorem P_{o:Oper}{v:SV}{s':S}(h:op A call Fa s o=some (v,s'))(Qf:∀c fv,o.op= .call c->c.callee≠ .value fv)(hw:dc A.Pa g w s.H)(hf:Td g f w s.H s.F)(he:Ze g f w s.e a.tmps)(hWr:∀t x y,o.op= .store t x y->∀i c,operand A s.e x=some (.loc i c)->f.W i):
  VK A.Pa g f w s s' v ((execOp a.eval o).run A.P w)/\s'.e=s.e:=by
 unfold op at h;have yB:∀{x:Operand},(operand A s.e x).map (fun v=>(v,s))=some (v,s')->VK A.Pa g f w s s' v ((pure (.value (a.eval x)):Sem Next).run A.P w)/\s'.e=s.e:=fun{x}h=>by
  simp only[ia]at h;obtain⟨sv,hsv,h⟩:=h;simp at h;obtain⟨rfl,rfl⟩:=h;exact⟨Ue hw hf rfl (ye hsv hw he),rfl⟩
 split at h
 ·rename_i x ho;unfold execOp;rw[ho];exact yB h
 ·rename_i x ho;unfold execOp;rw[ho];exact yB h
 ·rename_i c p q ho;simp only[aa]at h;obtain⟨cv,fW,h⟩:=h;have hc:=Ub fW hw he;unfold execOp;rw[ho];split at h
  ·generalize Kz:a.eval c=cc at hc;cases hc;have:=yB h
   simpa[Kz,asBool]using this
  ·generalize Kz:a.eval c=cc at hc;cases hc;have:=yB h
   simpa[Kz,asBool]using this
  ·simp at h
 ·rename_i t ho;simp only[aa]at h;obtain⟨z,hz,h⟩:=h;refine⟨?_,FF h⟩;obtain⟨zv,pU,z1,z2,z3⟩:=HA (g:=g) (w:=w) hz;unfold boxed at h;split at h
  case isFalse=>simp at h
  case isTrue Lf=>
   simp only[Dc]at h;have:=GF (Vg:=(o.dst.map (Fa.contains ·)).getD false) (t:=t) hw hf z1 z2 z3 (by rw[Yh]at Lf;rcases Lf with h|h;exact .inr h;exact .inl (of_decide_eq_true h)) (r:=(execOp a.eval o).run A.P w) (by
    unfold execOp;rw[ho];simp only[Instr.alloc,Sem.run_bind,pU,Result.andThen_ok,newVar,newRow,run_newObj,Sem.run_pure];rfl)
   rw[h]at this;exact this
 ·rename_i t x ho;simp only[aa]at h;obtain⟨av,u5,cs,aj,h⟩:=h;refine⟨?_,FF h⟩;obtain⟨z1,z2,z3⟩:=qm aj (Ub u5 hw he);unfold boxed at h;split at h
  case isFalse=>simp at h
  case isTrue Lf=>
   simp only[Dc]at h;have:=GF (Vg:=(o.dst.map (Fa.contains ·)).getD false) (t:=t) hw hf z1 z2 z3 (by rw[Yh]at Lf;rcases Lf with h|h;exact .inr h;exact .inl (of_decide_eq_true h)) (r:=(execOp a.eval o).run A.P w) (by
    unfold execOp;rw[ho];simp only[Instr.box,Sem.run_bind,newVar,newRow,run_newObj,Sem.run_pure,Result.andThen_ok];rfl)
   rw[h]at this;exact this
 ·rename_i t ps ho;simp only[aa]at h;obtain⟨l,hl,h⟩:=h;have hp:=iq hl hw he;refine Ji h hw hf fun x hx=> ?_
  obtain⟨rv,h1,h2⟩:=FK (w:=w) hx hp;refine⟨rv,?_,h2⟩;unfold execOp;rw[ho];have:(ps.map fun(i,x)=>(i,a.eval x))=(ps.toList.map fun(i,x)=>(i,a.eval x)).toArray:=by apply Array.ext';simp
  simp only[this,Sem.run_bind,h1,Result.andThen_ok,Sem.run_pure]
 ·rename_i t n ps ho;simp only[aa]at h;obtain⟨l,hl,h⟩:=h;obtain⟨x,H,hx,rfl,rfl⟩:=Zp h;have hp:=iq hl hw he;simp only[aa]at hx;obtain⟨⟨x0,H0⟩,hx0,hx⟩:=hx;have B8:=zy (r:=(execOp a.eval o).run A.P w) hx0 hw hf hp (by
   unfold execOp;rw[ho];have:(ps.map fun(i,x)=>(i,a.eval x))=(ps.toList.map fun(i,x)=>(i,a.eval x)).toArray:=by apply Array.ext';simp
   simp only[this])
  obtain⟨rv,w1,g1,f1,d1,d2,d3,d4,d5⟩:=B8;simp only at hx;split at hx
  ·obtain⟨g2,k1,k2,k3⟩:=Ei 8 _ _ _ _ hx g1 w1 rv d2 d5;obtain⟨k4,k5⟩:=zF d2 d3 k2;exact⟨⟨rv,w1,g2,f1,d1,k1,k4,d4.trans k5,k3⟩,rfl⟩
  ·simp at hx;obtain⟨rfl,rfl⟩:=hx;exact⟨⟨rv,w1,g1,f1,d1,d2,d3,d4,d5⟩,rfl⟩
 ·rename_i t x ho;simp only[aa]at h;obtain⟨p,hp,h⟩:=h;refine Ji h hw hf fun y hy=> ?_
  obtain⟨rv,h1,h2⟩:=rB hy hw hf (ye hp hw he);exact⟨rv,by unfold execOp;rw[ho];simp[h1],h2⟩
 ·rename_i t x y ho;simp only[aa,ia]at h;obtain⟨p,hp,av,u5,s1,E2,h⟩:=h;simp at h;obtain⟨rfl,rfl⟩:=h;obtain⟨w',h1,h2,h3,h4,h5⟩:=wI E2 hw hf (ye hp hw he) (Ub u5 hw he) (fun i c e=>hWr _ _ _ ho i c (e ▸ hp));exact⟨⟨undef,w',g,f,.inr ⟨by unfold execOp;rw[ho];simp[h1],rfl⟩,h2,h3,h4,.Sb _⟩,h5⟩
 ·rename_i x ho;simp only[aa]at h;obtain⟨p,hp,h⟩:=h;have BB:=ye hp hw he;have Ip:∀v':Value,Fe g f w p v'->a.eval x=v'->p=v/\s=s'->(execOp a.eval o).run A.P w= .ok (.value v') w->VK A.Pa g f w s s' v ((execOp a.eval o).run A.P w)/\s'.e=s.e:=fun v' h1 _ h3 h4=>by
   obtain⟨rfl,rfl⟩:=h3;rw[h4];exact⟨Ue hw hf rfl h1,rfl⟩
  split at h
  ·simp at h;obtain⟨hi,hv⟩:=BB;exact Ip _ ⟨hi,hv⟩ rfl ⟨h.1,h.2⟩ (by unfold execOp;rw[ho];simp[hv])
  ·simp at h;generalize hx:a.eval x=xv at BB;have xG:mb g w _ xv:=BB;cases xG with
   |ptr _ _ _ hb=>exact Ip _ BB hx ⟨h.1,h.2⟩ (by unfold execOp;rw[ho];simp[hx])
  ·simp at h;generalize hx:a.eval x=xv at BB;have xG:mb g w _ xv:=BB;cases xG with
   |Ed _ ad vs q1 q2 q3 q4 q5=>exact Ip _ BB hx ⟨h.1,h.2⟩ (by unfold execOp;rw[ho];simp[hx])
  ·simp at h;generalize hx:a.eval x=xv at BB;have xG:mb g w _ xv:=BB;cases xG with
   |fn _ _ vs q1 q2=>exact Ip _ BB hx ⟨h.1,h.2⟩ (by unfold execOp;rw[ho];simp[hx])
  ·simp at h;generalize hx:a.eval x=xv at BB;have xG:mb g w _ xv:=BB;cases xG with
   |yl _ q1=>exact Ip _ BB hx ⟨h.1,h.2⟩ (by unfold execOp;rw[ho];simp[hx])
  ·simp at h
 ·rename_i b t x y yt ho;simp only[aa]at h;obtain⟨u,hu,v',Ht,h⟩:=h;refine Ji h hw hf fun z hz=> ?_
  obtain⟨rv,h1,h2,h3⟩:=GK (ox:=x) (oy:=y) hz (Ub hu hw he) (Ub Ht hw he);exact⟨rv,by unfold execOp;rw[ho];simp[h1,h2],h3⟩
 ·rename_i u t x ho;simp only[aa]at h;obtain⟨v',Ht,h⟩:=h;refine Ji h hw hf fun z hz=> ?_
  obtain⟨rv,h1,h2⟩:=bL (A:=A) hz (Ub Ht hw he);exact⟨rv,by unfold execOp;rw[ho];simp[h1],h2⟩
 ·rename_i src dst x ho;simp only[aa]at h;obtain⟨v',Ht,h⟩:=h;obtain⟨y,H,hy,rfl,rfl⟩:=Zp h;exact⟨OD hy hw hf (Ub Ht hw he) (by unfold execOp;rw[ho]),rfl⟩
 ·rename_i fid first fh ho
  split at h
  case isFalse=>simp at h
  case isTrue hf0=>
  simp only[ia]at h;obtain⟨l,hl,h⟩:=h;simp at h;obtain⟨rfl,rfl⟩:=h;obtain⟨h1,h2⟩:=Pn hl hw he;have hfe:first= #[]:=jh hf0
  refine⟨Ue hw hf (rv:= .func (.func fid) #[] (fh.toList.map a.eval).toArray) ?_ (mb.fn fid l _ (by simpa using h1.symm) h2),rfl⟩;unfold execOp;rw[ho];have:fh.map a.eval=(fh.toList.map a.eval).toArray:=by apply Array.ext';simp
  simp[Instr.makeFunc,hfe,this]
 ·rename_i t r ho;simp only[aa]at h;obtain⟨u,hu,h⟩:=h;simp at h;obtain⟨rfl,rfl⟩:=h;have ee:(execOp a.eval o).run A.P w= .ok (.value (.map (some w.heap.size))) (w.alloc (.map #[] 0)):=by
   unfold execOp;rw[ho];cases r with
   |none=>simp only[Instr.makeMap,Option.map_none,Sem.run_bind,run_newObj,Sem.run_pure,Result.andThen_ok];rfl
   |some x=>
    simp only at hu;split at hu
    ·rename_i kt et hut;simp only[aa,ia]at hu;obtain⟨v',Ht,n,hn,_⟩:=hu;obtain⟨k,hk⟩:=Nl hn (Ub Ht hw he);simp only[Instr.makeMap,Oc,Sem.run_bind,run_underlying hut,Result.andThen_ok,hk,asInt,asIntOf,Sem.run_pure,run_newObj];rfl
    ·simp at hu
  have Ac:w.heap.size<(w.alloc (.map #[] 0)).heap.size:=by show w.heap.size<(w.heap.push _).size;simp
  have hzn:¬g.Z w.heap.size:=fun hz=>Nat.lt_irrefl _ (hw.Eu _ hz)
  obtain⟨q1,q2,q3⟩:=Hr (l:=⟨w.heap.size,0,0,0⟩) (x:= .map []) hw hf (ot Ac) rfl Ac (fun R hR=>heap_alloc_old w _ R hR) (fun hle=>⟨#[],0,heap_alloc_new w _,hzn,rfl,fun i k x e h=>by simp at h⟩);refine⟨⟨_,_,_,f,.inl ee,q1,q2,q3,?_⟩,rfl⟩;have:=mb.mp (g:=g.add s.H.bl.length ⟨w.heap.size,0,0,0⟩) (w:=w.alloc (.map #[] 0)) s.H.bl.length (.inr rfl);rw[og]at this;exact this
 ·rename_i t l c ho;simp only[aa]at h;obtain⟨u,hu,v',Ht,h⟩:=h;obtain⟨y,H,hy,rfl,rfl⟩:=Zp h;exact⟨Az hy hw hf (Ub hu hw he) (Ub Ht hw he) (by unfold execOp;rw[ho]),rfl⟩
 ·rename_i t x lo hi ho;simp only[aa]at h;obtain⟨v',Ht,l,hl,hh,hhh,h⟩:=h;refine Ji h hw hf fun z hz=> ?_
  obtain⟨rv,h1,h2⟩:=CI hz hw (Ub Ht hw he) (Uu hl hw he) (Uu hhh hw he);exact⟨rv,by unfold execOp;rw[ho];simp[h1],h2⟩
 ·rename_i t x hi mx ho;simp only[aa]at h;obtain⟨v',Ht,l,hl,hh,hhh,h⟩:=h;split at h
  case isFalse=>simp at h
  rename_i hc;simp only[Va]at hc;refine Ji h hw hf fun z hz=> ?_
  obtain⟨rv,h1,h2⟩:=bG hz (Ub Ht hw he);obtain⟨k1,e1⟩:=ME hc.1 (Ub hl hw he);obtain⟨k2,e2⟩:=ME hc.2 (Ub hhh hw he);exact⟨rv,by unfold execOp;rw[ho];simp[e1,e2,h1],h2⟩
 ·rename_i t x i ho;simp only[aa]at h;obtain⟨p,hp,fd,qJ,n,hn,h⟩:=h;split at h
  ·simp at h
  ·rename_i UL;simp only[ia]at h;obtain⟨q,hq,h⟩:=h;simp at h;obtain⟨rfl,rfl⟩:=h;obtain⟨rv,h1,h2⟩:=Mz qJ (by rw[hn];simpa using UL) (by rw[hn];rfl) hq (ye hp hw he);exact⟨Ue hw hf (rv:=rv) (by unfold execOp;rw[ho];simp[h1]) h2,rfl⟩
 ·rename_i t x i ho;simp only[aa]at h;obtain⟨v',Ht,h⟩:=h;split at h
  ·rename_i cs;simp only[aa]at h;obtain⟨fd,qJ,h⟩:=h;obtain⟨fs,hu,hi⟩:=KB qJ;obtain⟨vs,T7,hr⟩:=xh (Ub Ht hw he);refine Ji h hw hf fun z hz=> ?_
   obtain⟨rv,h1,h2⟩:=Zi (A:=A) hz hr;exact⟨rv,by unfold execOp;rw[ho];simp[Instr.field,run_underlying hu,hi,T7,asAgg,h1],h2⟩
  ·simp at h
 ·rename_i t x i ho;simp only[aa,ia]at h;obtain⟨p,hp,v',Ht,n,hn,q,hq,h⟩:=h;simp at h;obtain⟨rfl,rfl⟩:=h;obtain⟨k,hk⟩:=Nl hn (Ub Ht hw he);obtain⟨rv,h1,h2⟩:=Dz (k:=k) hq hw (ye hp hw he);exact⟨Ue hw hf (rv:=rv) (by unfold execOp;rw[ho];simp[hk,h1]) h2,rfl⟩
 ·rename_i t x i ho;simp only[aa]at h;obtain⟨p,hp,v',Ht,n,hn,h⟩:=h;obtain⟨k,hk⟩:=Nl hn (Ub Ht hw he);refine Ji h hw hf fun z hz=> ?_
  obtain⟨rv,h1,h2⟩:=fJ (k:=k) hz (Ub hp hw he);exact⟨rv,by unfold execOp;rw[ho];simp[hk,h1],h2⟩
 ·rename_i t x i ok ho;simp only[aa]at h;obtain⟨m,hm,k,hk,h⟩:=h;refine Ji h hw hf fun z hz=> ?_
  obtain⟨rv,h1,h2⟩:=iv hz hw (Ub hm hw he) (Ub hk hw he);exact⟨rv,by unfold execOp;rw[ho];simp[h1],h2⟩
 ·rename_i t m k x ho;simp only[aa,ia]at h;obtain⟨mv,hm,kv,hk,xv,hx,H,hH,h⟩:=h;simp at h;obtain⟨rfl,rfl⟩:=h;obtain⟨w',h1,h2,h3,h4⟩:=Yo hH hw hf (Ub hm hw he) (Ub hk hw he) (Ub hx hw he);exact⟨⟨undef,w',g,f,.inr ⟨by unfold execOp;rw[ho];simp[h1],rfl⟩,h2,h3,h4,.Sb _⟩,rfl⟩
 ·rename_i t m k x ho;simp only[aa,ia]at h;obtain⟨mv,hm,kv,hk,xv,hx,H,hH,h⟩:=h;simp at h;obtain⟨rfl,rfl⟩:=h;obtain⟨w',h1,h2,h3,h4⟩:=Yo hH hw hf (Ub hm hw he) (Ub hk hw he) (Ub hx hw he);exact⟨⟨undef,w',g,f,.inr ⟨by unfold execOp;rw[ho];simp[h1],rfl⟩,h2,h3,h4,.Sb _⟩,rfl⟩
 ·rename_i x i ho;simp only[aa]at h;obtain⟨v',Ht,h⟩:=h;split at h
  ·rename_i vs;simp only[ia]at h;obtain⟨y,hy,h⟩:=h;simp at h;obtain⟨rfl,rfl⟩:=h;have hv:=Ub Ht hw he;generalize hx:a.eval x=xv at hv;cases hv with
   |Sc _ us hl hr=>
    have Ac:i<us.length:=by have:=getElem?_lt' hy;omega
    refine⟨Ue hw hf (rv:=us[i]) ?_ (hr i y _ hy (Ba Ac)),rfl⟩;unfold execOp;rw[ho];simp[hx,Instr.extract,Ac]
  ·simp at h
 ·rename_i c ho;simp only[aa]at h;obtain⟨args,wJ,h⟩:=h;obtain⟨l1,l2⟩:=Pn wJ hw he;split at h
  ·rename_i fv NR;exact absurd NR (Qf c fv ho)
  ·rename_i b hb;obtain⟨y,H,hy,rfl,rfl⟩:=Zp h;refine⟨VD (vs:=c.args.toList.map a.eval) (ty:=o.type) (consts:=c.args.map fun| .const _=>true|_=>false) hy hw hf (by simpa using l1) l2 ?_,rfl⟩;unfold execOp;rw[ho];have:c.args.map a.eval=(c.args.toList.map a.eval).toArray:=by apply Array.ext';simp
   simp only[resolve,hb,Sem.run_bind,Sem.run_pure,Result.andThen_ok,invoke,this];rfl
  ·simp at h
 ·simp at h
theorem PI{o:Oper}{v:SV}{s':S}{F:Fence}{n:Nat}{next:Act->World->Prop}{Q:Exit->Act->World->Prop}(hC:Gj A call)(h:op A call Fa s o=some (v,s'))(hw:dc A.Pa g w s.H)(hf:Td g f w s.H s.F)(he:Ze g f w s.e a.tmps)(hF:Hw F)(hWr:∀t x y,o.op= .store t x y->∀i c,operand A s.e x=some (.loc i c)->f.W i)
  (hk:s'.e=s.e->∀g' f' w' rv,dc A.Pa g' w' s'.H->Td g' f' w' s'.H s'.F->Bg g f w s.H s.F g' f' w' s'.H s'.F->Fe g' f' w' v rv->next (a.put o.dst rv) w'):
  o.wpIn F n A.P a w next Q:=by
 refine⟨fun f _=>hF.fn f,?_⟩;have hnd:∀c,o.op≠ .defer c:=fun c e=>by unfold op at h;rw[e]at h;simp at h
 rw[Oper.semAt_eq F.round a.eval o hnd];by_cases Qf:∀c fv,o.op= .call c->c.callee≠ .value fv
 ·obtain⟨h1,h2⟩:=P_ h Qf hw hf he hWr;exact K0 h1 (hk h2)
 ·simp only[Classical.not_forall,Classical.not_not]at Qf;obtain⟨c,fv,ho,hc⟩:=Qf;unfold op at h;rw[ho]at h;simp only[aa,hc]at h;obtain⟨args,wJ,gv,hgv,h⟩:=h;obtain⟨r,H,hr,rfl,rfl⟩:=Zp h;obtain⟨l1,l2⟩:=Pn wJ hw he;have Ip:=hC gv args s.H r H hr g w (a.eval fv) (c.args.toList.map a.eval) hw (Ub hgv hw he) (by simpa using l1) l2 F n o a next Q hF (fun g' w' rv h1 h2 h3=>by
   have hle:=hw.le h3;refine hk rfl g' f w' rv h2 ⟨hf.Ie,fun i row hi sd=> ?_,hf.inj,fun i hi h=> ?_⟩ ⟨h3.D,h3.Pz,h3.Z,h3.Yq,h3.fp,fun _ h=>⟨h,rfl⟩,fun _ h=> .inl h,fun _ h h'=>absurd h h',fun R hR hn _=>h3.Fk R hR hn,h3.size,h3.len,va _,h3.wm,h3.quiet,h3.still,fun _ _=>Iff.rfl,fun _ h h'=>absurd h h',fun i hi _=>h3.Fk _ (hf.lt hi) (hf.apart i hi),h3.io⟩ h1
   ·obtain⟨cs,⟨T,fz,hR,q1,q2,q3⟩,q4⟩:=hf.Vc i row hi sd;have Ac:=hf.lt hi;refine⟨cs,⟨T,fz,by rw[h3.Fk _ Ac (hf.apart i hi)];exact hR,q1,q2,fun hz=> ?_⟩,q4.mono hle⟩;rcases h3.Yq _ hz with hz|hz|hz
    ·exact q3 hz
    ·exact hf.apart i hi hz
    ·omega
   ·rcases h3.fp _ h with h|h
    ·exact hf.apart i hi h
    ·have:=hf.lt hi;omega)
  have ee:(execOp a.eval o).run A.P w=((do let d <- Deferred.ofValue (a.eval fv) (c.args.toList.map a.eval).toArray;invoke d.target d.args:Sem Next).run A.P w):=by
   unfold execOp;rw[ho];have:c.args.map a.eval=(c.args.toList.map a.eval).toArray:=by apply Array.ext';simp
   simp only[resolve,hc,this]
  rw[ee];exact Ip
end
end Go.V
