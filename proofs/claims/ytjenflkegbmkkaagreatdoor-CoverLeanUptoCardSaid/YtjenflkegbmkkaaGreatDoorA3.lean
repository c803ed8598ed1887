/- An evaluator of the translated code and that it is right: each of its answers is an answer of the model. -/
import Derived.Test.YtjenflkegbmkkaaGreatDoorA2
import Derived.OrdersIn
set_option linter.unusedVariables false
set_option linter.unusedSimpArgs false
set_option linter.unusedSectionVars false
open Array renaming getElem?_append_left→ax,size_map→cD,eq_empty_of_size_eq_zero→oh,length_toList→Re
open Bool renaming false_eq_true→Jd,not_false→we,and_eq_true→Na,or_eq_true→Pf
open Go renaming builtin→po
open List renaming getElem?_eq_getElem→Aa,range→ua,getElem?_toArray→ec,getElem?_cons_zero→Ge,getElem?_cons_succ→We,getElem?_append_left→La,getElem?_append_right→Qa,all_eq_true→ic,getElem?_of_mem→je,length_take→Nb,getElem?_take→Cb,getElem?_drop→Ec,append_assoc→td,length_nil→Ng,append_nil→zi,length_append→qd,length_drop→Tt,eq_nil_of_length_eq_zero→Jt,mem_of_getElem?→Db
open Nat renaming add_assoc→Ue,add_zero→ve,le_refl→va,add_mul→Ke,zero_add→Qe,mul_le_mul_right→Zb,zero_le→fe,le_of_lt→Rt
open Option renaming bind_eq_some_iff→aa,map_some→Mc,map_eq_some_iff→ia
open Option.some renaming injEq→zc
namespace Go.V
open Go
section
variable {A:Eh}{g:Gx}{f:Fx}{w:World}{s:S}{a:Act}
theorem Mn{H:AH}{x:AV}{xv:Value}{rows:List (List AV)}{sz:Nat}(h:rowsOf H x=some rows)(hw:Yb A.Ra g w H)(hx:jb g w x xv)(se:∀row∈rows,row.length=sz):
  ∃ao cap cs,xv= .slice ao rows.length cap/\rows.length<=cap/\cs.size=rows.length * sz/\Oj g w sz rows cs/\(rows≠[]->ao≠none)/\(∀u∈cs.toList,u.oneCell'=true)/\∀(w':World),w'.heap=w.heap->(Builtin.firstCells sz rows.length xv).run A.P w'= .ok cs w':=by
 obtain⟨ao,cap,rfl,Xl,Ji⟩:=bg h hw hx;by_cases Sc:rows=[]
 ·subst Sc;refine⟨ao,cap,#[],rfl,Xl,by simp,⟨by simp,fun r row h=>by simp at h⟩,fun h=>absurd rfl h,fun u hu=>by simp at hu,fun w' nF=> ?_⟩;cases ao with
  |none=>simp[Builtin.firstCells]
  |some ad=>simp[Builtin.firstCells,loadCells,loadCellsFrom]
 ·obtain⟨ad,Cx,rfl,hs,Ro⟩:=Ji Sc;have s6:Cx=sz:=by
   cases rows with
   |nil=>exact absurd rfl Sc
   |cons row rest=>rw[<- (Ro 0 row rfl).1];exact se row (by simp)
  subst s6;have Ki:∀(i c:Nat)(row:List AV)(x:AV),rows[i]?=some row->row[c]?=some x->∃v,w.cell? (ad.add (i * Cx+c))=some v/\v.oneCell'=true/\jb g w x v:=fun i c row x hi hx=>by
   obtain⟨v,e1,e2,e3⟩:=(Ro i row hi).2 c x hx;exact⟨v,by rw[Nk hs,zg,<- Ue];exact e1,e2,e3⟩
  have bH:∀j,j<rows.length * Cx->∃(row:List AV)(x:AV),rows[j/Cx]?=some row/\row[j%Cx]?=some x:=fun j hj=>by
   have Ff:0<Cx:=by rcases Nat.eq_zero_or_pos Cx with h|h;subst h;simp at hj;exact h
   have h1:j/Cx<rows.length:=(Nat.div_lt_iff_lt_mul Ff).2 hj;have h2:j%Cx<Cx:=Nat.mod_lt _ Ff;have hr:=Aa h1;exact⟨_,_,hr,Aa (by rw[(Ro _ _ hr).1];exact h2)⟩
  have hdm:∀j,j/Cx * Cx+j%Cx=j:=fun j=>by rw[Nat.mul_comm];exact Nat.div_add_mod j Cx
  obtain⟨fv,AS⟩:∃fv:Nat->Value,∀j,j<rows.length * Cx->w.cell? (ad.add j)=some (fv j)/\(fv j).oneCell'=true:=⟨fun j=>(w.cell? (ad.add j)).getD undef,fun j hj=>by
   obtain⟨row,x,h1,h2⟩:=bH j hj;obtain⟨v,e1,e2,_⟩:=Ki _ _ row x h1 h2;rw[hdm]at e1;simp[e1,e2]⟩
  refine⟨some ad,cap,((ua (rows.length * Cx)).map fv).toArray,rfl,Xl,by simp,⟨by simp,fun r row hr=>⟨(Ro r row hr).1,fun c x hx=> ?_⟩⟩,fun _=>by simp,fun u hu=> ?_,fun w' nF=> ?_⟩
  ·obtain⟨v,e1,e2,e3⟩:=Ki r c row x hr hx;have tc:r * Cx+c<rows.length * Cx:=Tg (getElem?_lt' hr) (by have:=getElem?_lt' hx;rw[(Ro r row hr).1]at this;exact this);have:=(AS _ tc).1;rw[e1]at this;simp at this;exact⟨v,by simp[tc,this],e2,e3⟩
  ·simp at hu;obtain⟨j,hj,rfl⟩:=hu;exact(AS j hj).2
  ·have:=run_loadCells (P:=A.P) w' ad (rows.length * Cx) fv (fun j hj=>by rw[cell_of_heap (w:=w) (by rw[nF])];exact(AS j hj).1);simp[Builtin.firstCells,this]
theorem Zj{P:Program}{ts:Array TypeId}{t ty e:TypeId}{ad:Addr}{n m cap sz:Nat}{yv:Value}{news:Array Value}{w w':World}(Qo:ts[0]?=some t)(hu:P.underlying t=some (.slice e))
  (hz:∀u,ts[1]?=some u->∃d,P.underlying u=some d/\∀k,d≠ .int k) (se:(sizeOf e).run P w= .ok sz w)
  (hlen:(Builtin.lenOf yv).run P w= .ok m w) (ze:(Builtin.firstCells sz m yv).run P w= .ok news w) (Rv:n+m<=cap) (dc:(storeCells (ad.add (n * sz)) news.toList).run P w= .ok () w'):
  (Builtin.append_ ts ty #[.slice (some ad) n cap,yv]).run P w= .ok (.slice (some ad) (n+m) cap) w':=by
 simp only[Builtin.append_,Qo];simp only[ec,Ge,We,Sem.run_bind,run_underlying hu,Result.andThen_ok,se];cases h1:ts[1]? with
 |none=>simp only[Sem.run_pure,Result.andThen_ok,Jd,if_false,hlen,if_pos Rv,we,if_true,Sem.run_bind,ze,dc]
 |some u=>
  obtain⟨d,hd,Sc⟩:=hz u h1;simp only[Sem.run_bind,run_underlying hd,Result.andThen_ok];cases d<;>first
   |exact absurd rfl (Sc _)
   |simp only[Sem.run_pure,Result.andThen_ok,Jd,if_false,hlen,if_pos Rv,we,if_true,Sem.run_bind,ze,dc]
theorem pq{P:Program}{ts:Array TypeId}{t ty e:TypeId}{sz:Nat}{yv:Value}{news:Array Value}{w:World}(Qo:ts[0]?=some t)(hu:P.underlying t=some (.slice e))
  (hz:∀u,ts[1]?=some u->∃d,P.underlying u=some d/\∀k,d≠ .int k) (se:(sizeOf e).run P w= .ok sz w)
  (hlen:(Builtin.lenOf yv).run P w= .ok 0 w) (ze:(Builtin.firstCells sz 0 yv).run P w= .ok news w):
  (Builtin.append_ ts ty #[.slice none 0 0,yv]).run P w= .ok (.slice none 0 0) w:=by
 simp only[Builtin.append_,Qo];simp only[ec,Ge,We,Sem.run_bind,run_underlying hu,Result.andThen_ok,se];cases h1:ts[1]? with
 |none=>simp only[Sem.run_pure,Result.andThen_ok,Jd,if_false,hlen,ve,va,if_true,we,Sem.run_bind,ze]
 |some u=>
  obtain⟨d,hd,Sc⟩:=hz u h1;simp only[Sem.run_bind,run_underlying hd,Result.andThen_ok];cases d<;>first
   |exact absurd rfl (Sc _)
   |simp only[Sem.run_pure,Result.andThen_ok,Jd,if_false,hlen,ve,va,if_true,we,Sem.run_bind,ze]
theorem th{P : Program}{ts : Array TypeId}{t ty e : TypeId}{ao : Option Addr}{n m cap sz by_ : Nat}{yv zv : Value}{olds news : Array Value}{w : World}(Qo : ts[0]? = some t)(hu : P.underlying t = some (.slice e))
    (hz : ∀u, ts[1]? = some u → ∃d, P.underlying u = some d ∧ ∀k, d ≠ .int k) (se : ∀w', (sizeOf e).run P w' = .ok sz w') (N4 : ∃i, P.info? e = some i ∧ i.bytes = by_) (CM : ∀w', (zeroValue e).run P w' = .ok zv w')
    (hlen : (Builtin.lenOf yv).run P w = .ok m w) (hold : ∀w', w'.heap = w.heap → (Builtin.firstCells sz n (.slice ao n cap)).run P w' = .ok olds w') (ze : ∀w', w'.heap = w.heap → (Builtin.firstCells sz m yv).run P w' = .ok news w')
    (Rv : ¬n + m ≤ cap) (h63 : n + m < 9223372036854775808) (XJ : Builtin.nextslicecap (n + m) cap * by_ ≤ 281474976710656) (gaq : by_ ≠ 0 ∨ True) :
    (Builtin.append_ ts ty #[.slice ao n cap, yv]).run P w =
      .ok (.slice (some ⟨w.heap.size, 0, none⟩) (n + m) (grownCap w (n + m) cap e)) (w.drew.alloc (.cells (olds ++ news ++ Builtin.zeroCells zv.cells (grownCap w (n + m) cap e - (n + m))) e)) := by
  obtain⟨i, hi, hib⟩ := N4
  have ID : ¬(((n + m : Nat) : Int) > IntKind.i64.max) := by
    have : IntKind.i64.max = 9223372036854775807 := by decide
    rw[this]; omega
  have P4 : ¬(Builtin.nextslicecap (n + m) cap * i.bytes > 2 ^ 48) := by rw[hib]; omega
  have ho := hold w.drew rfl
  have hn := ze w.drew rfl
  have BS : (choose (.appendCap (n + m) cap e)).run P w = .ok (grownCap w (n + m) cap e) w.drew := by
    rw[run_choose]; rfl
  simp only[Builtin.append_, Qo]
  simp only[ec, Ge, We, Sem.run_bind, run_underlying hu, Result.andThen_ok, se]
  cases h1 : ts[1]? with
  | none =>
    simp only[Sem.run_pure, Result.andThen_ok, Jd, if_false, hlen, if_neg Rv, ID, false_and, typeInfo, Sem.run_bind, run_program, hi, if_neg P4, BS, run_askRoom, ho, hn, we, if_true, CM, newRow, run_newObj]
    rfl
  | some u =>
    obtain⟨d, hd, Sc⟩ := hz u h1
    simp only[Sem.run_bind, run_underlying hd, Result.andThen_ok]
    cases d <;> first
      | exact absurd rfl (Sc _)
      | (simp only[Sem.run_pure, Result.andThen_ok, Jd, if_false, hlen, if_neg Rv, ID, false_and, typeInfo, Sem.run_bind, run_program, hi, if_neg P4, BS, run_askRoom, ho, hn, we, if_true, CM, newRow, run_newObj]
         rfl)
end
end Go.V
namespace Go.V
open Go
section
variable {G:Nat->Option (List AV)}{g:Gx}{f:Fx}{w:World}{H:AH}{F:List (List AV)}
theorem XL{w':World}{b:Nat}{x:AB}{l:Loc}(hw:Yb G g w H)(hf:Od g f w H F)(hb:live g H b)(Yf:H.wm<=b)
  (cg:w'.heap.size=w.heap.size) (Ed:∀R,R≠(g.ρ b).R->w'.heap[R]?=w.heap[R]?) (hR:l.R=(g.ρ b).R)
  (hx:g.Le w (g.add H.bl.length l) w'->Bg (g.add H.bl.length l) w' l x) (dx:w'.os=w.os/\w'.output=w.output:=by first|exact⟨rfl,rfl⟩|assumption):
  Yb G (g.add H.bl.length l) w' (push (Sa H b .dead) x)/\Od (g.add H.bl.length l) f w' (push (Sa H b .dead) x) F/\Ag g f w H F (g.add H.bl.length l) f w' (push (Sa H b .dead) x) F:=by
 have hlen:(Sa H b .dead).bl.length=H.bl.length:=by simp[Sa]
 have hold:∀b,g.D b->(g.add H.bl.length l).ρ b=g.ρ b:=fun b hb=>Kg (by have:=hw.He b hb;omega)
 have hle:g.Le w (g.add H.bl.length l) w':=⟨fun b hb=>⟨.inl hb,hold b hb⟩,fun R h=>⟨h,Ed R (fun e=>hw.Cn hb (e ▸ h))⟩⟩;have aah:∀b',g.D b'->b'<(Sa H b .dead).bl.length:=fun b' ud=>by rw[hlen];exact hw.He b' ud
 have KM:∀b',live (g.add H.bl.length l) (push (Sa H b .dead) x) b'->b'=H.bl.length\/(b'≠b/\live g H b'):=fun b' ud=>by
  have:=Iv (g:=g) (H:=Sa H b .dead) (l:=l) (x:=x) (b:=b') aah (by rw[hlen];exact ud);rcases this with h|h
  ·left;rw[h,hlen]
  ·right;rcases gl h with⟨_,h'⟩|h'
   ·simp[Xd]at h'
   ·exact h'
 have kD:∀R,Fp (g.add H.bl.length l) (push (Sa H b .dead) x) R->Fp g H R:=fun R⟨b',ud,e⟩=>by
  rcases KM b' ud with rfl|⟨_,h⟩
  ·exact⟨b,hb,by rw[<- e,ng,hR]⟩
  ·exact⟨b',h,by rw[<- e,hold b' h.1]⟩
 refine⟨⟨fun i row hg=>(hw.Ra i row hg).mono hle,fun b' ud=> ?_,fun b' y hd hy=> ?_,fun b1 b2 h1 h2 Sc=> ?_,fun R h=>by rw[cg];exact hw.Qu R h⟩,
  ⟨hf.He,fun i row hi hr=> ?_,hf.inj,fun i hi h=>hf.apart i hi (kD _ h)⟩,?_⟩
 ·rcases ud with ud|rfl
  ·have:=hw.He b' ud;simp[push,Sa];omega
  ·simp[push,Sa]
 ·rcases hd with hd|rfl
  ·have tab:=hw.He b' hd;rw[Zk,if_pos (by rw[hlen];exact tab),jj]at hy;rw[hold b' hd];split at hy
   ·rw[if_pos (by omega)]at hy;simp at hy;subst hy;trivial
   ·rename_i Sc;exact(hw.Tc b' y hd hy).le hle (fun hl=>Ed _ (hw.inj b' b ⟨hd,y,hy,hl⟩ hb (fun e=>Sc e.symm))) (fun hl=>hw.Cn ⟨hd,y,hy,hl⟩)
  ·rw[Zk,if_neg (by rw[hlen];omega),if_pos hlen.symm]at hy;simp at hy;subst hy;rw[ng];exact hx hle
 ·rcases KM b1 h1 with rfl|⟨n1,l1⟩<;>rcases KM b2 h2 with rfl|⟨n2,l2⟩
  ·exact absurd rfl Sc
  ·rw[ng,hold _ l2.1,hR];exact hw.inj b b2 hb l2 (fun e=>n2 e.symm)
  ·rw[ng,hold _ l1.1,hR];exact hw.inj b1 b l1 hb n1
  ·rw[hold _ l1.1,hold _ l2.1];exact hw.inj _ _ l1 l2 Sc
 ·obtain⟨cs,⟨T,fz,iz,h4⟩,h5⟩:=hf.Tc i row hi hr;exact⟨cs,⟨T,fz,by rw[Ed _ (fun e=>hf.apart i hi ⟨b,hb,e.symm⟩)];exact iz,h4⟩,h5.mono hle⟩
 ·refine⟨fun b hb=>⟨.inl hb,hold b hb⟩,fun b hb=>hb.elim .inl (fun e=> .inr (by omega)),fun _ h=>h,fun _ h=> .inl h,
   fun R h=> .inl (kD R h),fun _ h=>⟨h,rfl⟩,fun _ h=> .inl h,fun _ h h'=>absurd h h',
   fun R hR _ _=>Ed R (fun e=>by rename_i hn _;exact hn ⟨b,hb,e.symm⟩),by rw[cg];exact va _,by simp[push,Sa],va _,rfl,fun b' ud hl=> ?_,fun b' ud hv=>Ed _ (hw.inj b' b hv hb (by omega)),fun _ _=>Iff.rfl,fun _ h h'=>absurd h h',fun i hi _=>Ed _ (fun e=>hf.apart i hi ⟨b,hb,e.symm⟩),dx⟩
  rw[Zk,if_pos (by rw[hlen];exact hl),jj,if_neg (by omega)]
theorem AM{b:Nat}(hw:Yb G g w H)(hf:Od g f w H F)(hb:live g H b)(Yf:H.wm<=b):
  Yb G g w (Sa H b .dead)/\Od g f w (Sa H b .dead) F/\Ag g f w H F g f w (Sa H b .dead) F:=
 Be hw hf hb Yf rfl (fun _ _=>rfl) (fun _=>trivial)
end
section
variable {A:Eh}{g:Gx}{f:Fx}{w:World}{s:S}{a:Act}
theorem Oj.append{sz:Nat}{xs ys:List (List AV)}{cx cy rest:Array Value}(hx:Oj g w sz xs cx)(hy:Oj g w sz ys cy)(hcx:cx.size=xs.length * sz):Oj g w sz (xs++ys) (cx++cy++rest):=by
 have h1:=hx.1;have h2:=hy.1;refine⟨by simp[Ke];omega,fun r row hr=> ?_⟩;by_cases tc:r<xs.length
 ·rw[La tc]at hr;obtain⟨hl,vl⟩:=hx.2 r row hr;refine⟨hl,fun c x hxx=> ?_⟩;obtain⟨v,e1,e2,e3⟩:=vl c x hxx;have:r * sz+c<xs.length * sz:=Tg tc (by have:=getElem?_lt' hxx;omega);exact⟨v,by rw[Array.append_assoc,ax (by omega)];exact e1,e2,e3⟩
 ·rw[Qa (by omega)]at hr;obtain⟨hl,vl⟩:=hy.2 _ row hr;refine⟨hl,fun c x hxx=> ?_⟩;obtain⟨v,e1,e2,e3⟩:=vl c x hxx;have xS:(r-xs.length) * sz+c<ys.length * sz:=Tg (getElem?_lt' hr) (by have:=getElem?_lt' hxx;omega);have dm:r * sz=xs.length * sz+(r-xs.length) * sz:=by rw[<- Ke];congr 1;omega
  refine⟨v,?_,e2,e3⟩;rw[Array.append_assoc,Array.getElem?_append_right (by omega),ax (by omega),<- e1];congr 1;omega
theorem Kx{bty:Option (TypeId×Nat)}{H1:AH}{rows:List (List AV)}{sz:Nat}{cs:Array Value}{t:TypeId}{w':World}{v:AV}{rv:Value}{r:Result Next}{g1:Gx}(DM:Yb A.Ra g w H1)(hf1:Od g f w H1 s.F)(Ej:Ag g f w s.H s.F g f w H1 s.F)
  (Ff:0<sz) (hr:Oj g w sz rows cs) (dz:w'.heap=w.heap.push (.cells cs t (0,0)))
  (hv:jb (g.add H1.bl.length ⟨w.heap.size,0,cs.size,sz⟩) w' v rv) (de:r= .ok (.value rv) w') (Gal:bty=some (t,1)\/bty=none) (dx:w'.os=w.os/\w'.output=w.output:=by first|exact⟨rfl,rfl⟩|assumption):
  ML A.Ra g f w s { s with H:=push H1 (.cells rows sz bty) } (.v v) r:=by
 obtain⟨rv',w2,g2,f2,q0,q1,q2,q3,q4⟩:=Ty (A:=A) (s:={ s with H:=H1 }) (fz:=(0,0)) DM hf1 Ff hr dz (fun off _=>by simp) hv de Gal;exact⟨rv',w2,g2,f2,q0,q1,q2,Ej.trans q3,q4⟩
theorem KI{ts:Array TypeId}{x y v:AV}{xv yv:Value}{H':AH}{ty:TypeId}{r:Result Next}(h:append A s.H ts x y=some (v,H'))(hw:Yb A.Ra g w s.H)(hf:Od g f w s.H s.F)(hx:jb g w x xv)(hy:jb g w y yv)
  (de:r=((do pure (.value (<- Builtin.append_ ts ty #[xv,yv]))):Sem Next).run A.P w):ML A.Ra g f w s { s with H:=H' } (.v v) r:=by
 unfold append at h;simp only[aa]at h;obtain⟨t,Qo,e,he,z,hz,n,hn,_,hu1,xs,Hs,ys,Yx,h⟩:=h;split at h
 case isFalse=>simp at h
 case isTrue hc=>
 obtain⟨Np,HD,Ff,se,gg⟩:=hc;have hu:=uj he;have hzero:∀u,ts[1]?=some u->∃d,A.P.underlying u=some d/\∀k,d≠ .int k:=fun u h1=>by
  rw[h1]at hu1;simp only at hu1;split at hu1
  ·simp at hu1
  ·rename_i d Sc hd;exact⟨d,hd,fun k e=>Sc k e⟩
  ·simp at hu1
 have rP:∀row∈ys,row.length=z.length:=fun row jd=>by simpa using ic.1 gg row jd
 obtain⟨i,hi,hib⟩:=SC hn;have CM:∃zv,∀w',(zeroValue e).run A.P w'= .ok zv w'/\zv.cells.size=z.length:=by
  unfold zero at hz;rw[hi]at hz;cases hzz:i.zero with
  |none=>simp[hzz]at hz
  |some zv=>
   simp[hzz]at hz;exact⟨zv,fun w'=>⟨by simp[zeroValue,typeInfo,hi,hzz],by have:=(gh (g:=g) (w:=w) hz).1;simpa using this⟩⟩
 obtain⟨zv,CM⟩:=CM;have sS:∀w',(sizeOf e).run A.P w'= .ok z.length w':=fun w'=>Rc se
 obtain⟨news,Gq,NB,hrY,hcY,Bag⟩:∃news:Array Value,(Builtin.lenOf yv).run A.P w= .ok ys.length w/\(∀w',w'.heap=w.heap->(Builtin.firstCells z.length ys.length yv).run A.P w'= .ok news w')/\Oj g w z.length ys news/\news.size=ys.length * z.length/\∀u∈news.toList,u.oneCell'=true:=by
  split at Yx
  ·rename_i sb;simp at Yx;subst Yx;cases hy;have Su:(jc sb).length=sb.size:=by simp[jc]
   rw[Su];have tak:∀row∈jc sb,row.length=1:=fun row hr=>by simp[jc]at hr;obtain⟨b,_,rfl⟩:=hr;rfl
   have aq:(sb.extract 0 sb.size).data=sb.data:=by
    simp
   have Ji:∀(i:Nat)(b:UInt8),sb.data.toList[i]?=some b->(sb.data.map fun b=>Value.int .u8 (b.toNat:Int))[0+i]?=some (.int .u8 (b.toNat:Int)):=fun i b hb=>by
    simp at hb ⊢;exact⟨b,hb,rfl⟩
   refine⟨sb.data.map fun b=> .int .u8 b.toNat,by simp[Builtin.lenOf],fun w' _=>by simp[Builtin.firstCells,aq],?_⟩;by_cases Sc:jc sb=[]
   ·have I4:sb.size=0:=by rw[<- Su,Sc];rfl
    rw[Sc];have:sb.data.size=0:=I4;refine⟨⟨by simp,fun r row hr=>by simp at hr⟩,by rw[I4,Nat.zero_mul,cD];exact this,fun u hu=>by simp at hu;obtain⟨b,_,rfl⟩:=hu;rfl⟩
   ·have dV:z.length=1:=by
     cases hr:jc sb with
     |nil=>exact absurd hr Sc
     |cons row rest=>rw[<- rP row (by rw[hr];simp),tak row (by rw[hr];simp)]
    rw[dV];refine⟨⟨by rw[Su];simp,fun r row hr=> ?_⟩,by simp,fun u hu=>by simp at hu;obtain⟨b,_,rfl⟩:=hu;rfl⟩;have:=Rw (g:=g) (w:=w) sb.data.toList _ 0 Ji r row hr
    simpa using this
  ·obtain⟨ao,cap,cs,rfl,q1,q2,q3,_,q4,q5⟩:=Mn Yx hw hy rP;exact⟨cs,by simp[Builtin.lenOf],q5,q3,q2,q4⟩
 have Xl:∀xB Pk e,xB<=grownCap w xB Pk e:=fun xB Pk e=>by simp[grownCap,Question.cut]
 by_cases hy0:ys.length=0
 ·
  rw[if_pos hy0]at h;simp at h;obtain⟨rfl,rfl⟩:=h;rw[hy0]at Gq NB;obtain⟨ao,cap,rfl,hle,_⟩:=bg Hs hw hx;refine Te hw hf (rv:= .slice ao xs.length cap) ?_ hx;rw[de];have IM:news= #[]:=by apply oh;rw[hcY,hy0];simp
  cases ao with
  |none=>
   have hnn:∀q,jb g w x (.slice none q cap)->q=0/\cap=0:=by
    intro q h;cases h with
    |Ya=>exact⟨rfl,rfl⟩
    |Sb=>simp[rowsOf]at Hs
   have:=hnn _ hx;rw[this.1,this.2];simp[pq (ty:=ty) Qo hu hzero (sS w) Gq (NB w rfl)]
  |some ad=>
   have:=Zj (ty:=ty) (ad:=ad) (n:=xs.length) (cap:=cap) (w':=w) Qo hu hzero (sS w) Gq (NB w rfl) (by omega) (by rw[IM];simp[storeCells]);simp[this]
 ·rw[if_neg hy0]at h;split at h
  ·
   simp at h;obtain⟨rfl,rfl⟩:=h;simp[rowsOf]at Hs;subst Hs;cases hx;have hgr:=th (ty:=ty) (ao:=none) (n:=0) (cap:=0) (olds:= #[]) Qo hu hzero sS ⟨i,hi,hib⟩ (fun w'=>(CM w').1) Gq (fun w' _=>by simp[Builtin.firstCells]) NB (by omega) (by simpa using HD)
    (growslice_fits (by omega) (by simp at Np ⊢;omega)) (.inr trivial)
   simp only[Qe,Array.empty_append]at hgr;have hc:=Xl ys.length 0 e;have hzs:=(CM w).2;have cg:(news++Builtin.zeroCells zv.cells (grownCap w ys.length 0 e-ys.length)).size=grownCap w ys.length 0 e * z.length:=by
    simp only[Array.size_append,hcY,Builtin.zeroCells,cD,Array.size_range,hzs,<- Ke];congr 1;omega
   refine Kx (g1:=g) hw hf (.refl _ _ _ _ _) Ff (rows:=ys) (cs:=news++Builtin.zeroCells zv.cells (grownCap w ys.length 0 e-ys.length)) (t:=e) (w':=w.drew.alloc (.cells (news++Builtin.zeroCells zv.cells (grownCap w ys.length 0 e-ys.length)) e)) ?_ rfl
    (xn hc (by rw[cg];exact va _) (gm (by omega))) (by rw[de];simp[hgr]) (.inl rfl)
   have:=Oj.append (rest:=Builtin.zeroCells zv.cells (grownCap w ys.length 0 e-ys.length)) (xs:=[]) (cx:= #[]) ⟨by simp,fun r row h=>by simp at h⟩ hrY (by simp)
   simpa using this
  ·
   simp at h;obtain⟨rfl,rfl⟩:=h;simp[rowsOf]at Hs;subst Hs;cases hx with
   |Pd ad0=>
   have hgr:=th (ty:=ty) (ao:=some ad0) (n:=0) (cap:=0) (olds:= #[]) Qo hu hzero sS ⟨i,hi,hib⟩ (fun w'=>(CM w').1) Gq (fun w' _=>by simp[Builtin.firstCells,loadCells,loadCellsFrom]) NB (by omega) (by simpa using HD)
    (growslice_fits (by omega) (by simp at Np ⊢;omega)) (.inr trivial)
   simp only[Qe,Array.empty_append]at hgr;have hc:=Xl ys.length 0 e;have hzs:=(CM w).2;have cg:(news++Builtin.zeroCells zv.cells (grownCap w ys.length 0 e-ys.length)).size=grownCap w ys.length 0 e * z.length:=by
    simp only[Array.size_append,hcY,Builtin.zeroCells,cD,Array.size_range,hzs,<- Ke];congr 1;omega
   refine Kx (g1:=g) hw hf (.refl _ _ _ _ _) Ff (rows:=ys) (cs:=news++Builtin.zeroCells zv.cells (grownCap w ys.length 0 e-ys.length)) (t:=e) (w':=w.drew.alloc (.cells (news++Builtin.zeroCells zv.cells (grownCap w ys.length 0 e-ys.length)) e)) ?_ rfl
    (xn hc (by rw[cg];exact va _) (gm (by omega))) (by rw[de];simp[hgr]) (.inl rfl)
   have:=Oj.append (rest:=Builtin.zeroCells zv.cells (grownCap w ys.length 0 e-ys.length)) (xs:=[]) (cx:= #[]) ⟨by simp,fun r row h=>by simp at h⟩ hrY (by simp)
   simpa using this
  ·rename_i b r0 k;split at h
   case isFalse=>simp at h
   case isTrue hk=>
   obtain⟨Yf,EM⟩:=hk;simp at h;obtain⟨rfl,rfl⟩:=h;have Su:∃Qg dD,s.H.bl[b]?=some (.cells Qg z.length dD)/\r0+k<=Qg.length/\xs=(Qg.drop r0).take k:=by
    unfold Uj at EM;split at EM
    ·rename_i Qg sz0 dD PB;simp at EM;subst EM;simp only[rowsOf,PB]at Hs;split at Hs
     ·rename_i hle;simp at Hs;exact⟨Qg,dD,PB,hle,Hs.symm⟩
     ·simp at Hs
    ·simp at EM
   obtain⟨Qg,dD,PB,Mag,Xaa⟩:=Su;have aab:wG s.H b=dD:=by simp[wG,PB]
   rw[aab];have jag:Iz dD e r0=some (e,1)\/Iz dD e r0=none:=by
    unfold Iz;split
    ·split<;>simp
    ·simp
   have hD:g.D b:=by cases hx<;>assumption
   have Yd:live g s.H b:=⟨hD,_,PB,rfl⟩;obtain⟨oak,_,fP,QM,Uy,⟨T,fz,hR,HL,fm,hZ⟩,Nc⟩:=hw.Tc b _ hD PB;have cz:xs.length=k:=by rw[Xaa];simp;omega
   have kah:∀row∈xs,row.length=z.length:=fun row jd=>by
    rw[Xaa]at jd;obtain⟨q,hq⟩:=je (List.mem_of_mem_drop (List.mem_of_mem_take jd));exact(Nc q row hq).1
   obtain⟨ao,cap,cx,AW,q1,q2,q3,qne,q4,q5⟩:=Mn Hs hw hx kah;by_cases Rv:xs.length+ys.length<=cap
   ·
    cases hx with
    |jJ=>simp at AW;obtain⟨_,_,rfl⟩:=AW;omega
    |sl _ _ _ tE hd wS wan=>
     injection AW with e1 e2 e3
     subst e1;subst e3;rw[fP]at *
     have hm1:(r0+tE) * z.length=r0 * z.length+tE * z.length:=Ke _ _ _;have hm2:(xs.length+ys.length) * z.length<=tE * z.length:=Zb _ Rv;have hm3:(xs.length+ys.length) * z.length=xs.length * z.length+ys.length * z.length:=Ke _ _ _;have dc:=bf A.P (g.ρ b).R ((g.ρ b).o+r0 * z.length+k * z.length) T fz news.toList 0 Uy w hR (by simp;rw[HL];rw[<- cz];omega) (fun j hj=>fm _ (by simp at hj;rw[<- cz];omega)) Bag;simp only[ve]at dc;have vl:=Zj (ty:=ty) (ad:=⟨(g.ρ b).R,(g.ρ b).o+r0 * z.length,none⟩) (n:=k) (cap:=tE) Qo hu hzero (sS w) Gq (NB w rfl) (by omega) (by rw[zg];exact dc);generalize pab:(Uy.toList.take ((g.ρ b).o+r0 * z.length+k * z.length)++news.toList++Uy.toList.drop ((g.ρ b).o+r0 * z.length+k * z.length+news.toList.length)).toArray=b9 at vl;have hN:(g.ρ b).o+r0 * z.length+k * z.length<=Uy.size:=by rw[HL,<- cz];omega
     have htk:(Uy.toList.take ((g.ρ b).o+r0 * z.length+k * z.length)).length=(g.ρ b).o+r0 * z.length+k * z.length:=by
      rw[Nb,Re];exact Nat.min_eq_left hN
     have Kak:b9.size=(g.ρ b).e:=by
      rw[<- pab];simp;rw[HL,hcY,<- cz];omega
     obtain⟨p1,p2,p3⟩:=XL (w':=w.setRow (g.ρ b).R b9) (l:=⟨(g.ρ b).R,(g.ρ b).o+r0 * z.length,(g.ρ b).e,z.length⟩) (x:= .cells (xs++ys) z.length (Iz dD e r0)) hw hf Yd Yf (setRow_size _ _ _) (fun R Sc=>setRow_other _ _ _ _ Sc) rfl (fun hle=>by
      refine⟨?_,Ff,rfl,by simp;omega,b9,⟨T,fz,setRow_heap w _ Uy b9 T fz hR,Kak,fm,hZ⟩,fun r row hr=> ?_⟩
      ·cases dD with
       |none=>trivial
       |some p=>
        obtain⟨T0,k0⟩:=p;unfold Iz;simp only;split
        ·rename_i Aal;obtain⟨rfl,rfl,hk0⟩:=Aal;obtain⟨⟨y3,fz0,D9⟩,ho0,_⟩:=oak;exact⟨⟨b9,fz0,setRow_heap w _ y3 b9 _ fz0 D9⟩,fun _=>by simp[ho0 hk0],fun h=>by omega⟩
        ·trivial
      by_cases tc:r<xs.length
      ·rw[La tc]at hr;have KB:=hr;rw[Xaa,Cb,if_pos (by omega),Ec]at KB;obtain⟨hl,Qn⟩:=Nc _ _ KB;refine⟨hl,Ye.mono hle fun c x hx=> ?_⟩;obtain⟨v,e1,e2,e3⟩:=Qn c x hx;refine⟨v,?_,e2,e3⟩;have hc2:=getElem?_lt' hx;have xS:r * z.length+c<k * z.length:=Tg (by omega) (by omega);have hm4:(r0+r) * z.length=r0 * z.length+r * z.length:=Ke _ _ _;rw[<- pab];simp only[ec,td];rw[La (by rw[htk];omega),Cb,if_pos (by omega)];rw[hm4]at e1
       simpa[Ue]using e1
      ·rw[Qa (by omega)]at hr;obtain⟨hl,Qn⟩:=hrY.2 _ row hr;refine⟨hl,Ye.mono hle fun c x hx=> ?_⟩;obtain⟨v,e1,e2,e3⟩:=Qn c x hx;refine⟨v,?_,e2,e3⟩;have hc2:=getElem?_lt' hx;have xS:(r-xs.length) * z.length+c<ys.length * z.length:=Tg (getElem?_lt' hr) (by omega);have hm4:r * z.length=xs.length * z.length+(r-xs.length) * z.length:=by rw[<- Ke];congr 1;omega
       rw[<- pab];simp only[ec,td];rw[Qa (by rw[htk,<- cz];omega),htk,La (by simp;rw[hcY,<- cz];omega)];have NM:(g.ρ b).o+(r0 * z.length+(r * z.length+c))-((g.ρ b).o+r0 * z.length+k * z.length)=(r-xs.length) * z.length+c:=by rw[<- cz];omega
       have e1':news.toList[(r-xs.length) * z.length+c]?=some v:=by simpa using e1
       rw[<- e1'];congr 1;simp only[Ue]at NM ⊢;omega)
     refine⟨.slice (some ⟨(g.ρ b).R,(g.ρ b).o+r0 * z.length,none⟩) (k+ys.length) tE,w.setRow (g.ρ b).R b9,_,f,.inl (by rw[de];simp[vl]),p1,p2,p3,?_⟩;have:=jb.sl (g:=g.add s.H.bl.length ⟨(g.ρ b).R,(g.ρ b).o+r0 * z.length,(g.ρ b).e,z.length⟩) (w:=w.setRow (g.ρ b).R b9) s.H.bl.length 0 (xs.length+ys.length) tE (.inr rfl) Rv (by rw[ng];simp;omega) (by omega);rw[ng]at this;simp only[Nat.zero_mul,ve]at this;rw[<- cz];exact this
   ·
    obtain⟨p1,p2,p3⟩:=AM hw hf Yd Yf;have hgr:=th (ty:=ty) (ao:=ao) (n:=xs.length) (cap:=cap) (olds:=cx) Qo hu hzero sS ⟨i,hi,hib⟩ (fun w'=>(CM w').1) Gq (fun w' nF=>by rw[<- AW];exact q5 w' nF) NB Rv (by omega)
     (growslice_fits (by omega) (by omega)) (.inr trivial)
    have hc:=Xl (xs.length+ys.length) cap e;have hzs:=(CM w).2;have cg:(cx++news++Builtin.zeroCells zv.cells (grownCap w (xs.length+ys.length) cap e-(xs.length+ys.length))).size=grownCap w (xs.length+ys.length) cap e * z.length:=by
     simp only[Array.size_append,q2,hcY,Builtin.zeroCells,cD,Array.size_range,hzs,<- Ke];congr 1;omega
    have iD:s.H.bl.length=(Sa s.H b .dead).bl.length:=by simp[Sa]
    rw[iD];refine Kx (g1:=g) (H1:=Sa s.H b .dead) p1 p2 p3 Ff (rows:=xs++ys) (cs:=cx++news++Builtin.zeroCells zv.cells (grownCap w (xs.length+ys.length) cap e-(xs.length+ys.length))) (t:=e) (w':=w.drew.alloc (.cells (cx++news++Builtin.zeroCells zv.cells (grownCap w (xs.length+ys.length) cap e-(xs.length+ys.length))) e)) (q3.append hrY q2) rfl
     (xn hc (by rw[cg];exact va _) (gm (by omega))) (by rw[de,AW];simp[hgr]) jag
  ·simp at h
end
end Go.V
namespace Go.V
open Go
section
variable {A:Eh}{g:Gx}{f:Fx}{w:World}{s:S}{a:Act}
def VI(g:Gx)(w:World):List (AV×AV)->List MapEntry->Prop
 |[],[]=>True
 |(k,x)::es,e::mg=>AV.isKey k=true/\jb g w k e.key/\jb g w x e.val/\VI g w es mg
 |_,_=>False
theorem Bt{g:Gx}{w:World}:∀{es:List (AV×AV)}{mg:List MapEntry},VI g w es mg↔mg.length=es.length/\∀(i:Nat)(k x:AV)(e:MapEntry),es[i]?=some (k,x)->mg[i]?=some e->AV.isKey k=true/\jb g w k e.key/\jb g w x e.val
 |[],[]=>⟨fun _=>⟨rfl,fun i k x e h=>by simp at h⟩,fun _=>trivial⟩
 |(k,x)::es,e::mg=>by
  simp only[VI,Bt (es:=es) (mg:=mg)];constructor
  ·rintro⟨h1,h2,h3,h4,h5⟩
   refine⟨by simp[h4],fun i k' x' e' hi hj=> ?_⟩;cases i with
   |zero=>simp at hi hj;obtain⟨rfl,rfl⟩:=hi;subst hj;exact⟨h1,h2,h3⟩
   |succ i=>exact h5 i k' x' e' (by simpa using hi) (by simpa using hj)
  ·rintro⟨h4,h5⟩
   obtain⟨h1,h2,h3⟩:=h5 0 k x e rfl rfl;exact⟨h1,h2,h3,by simpa using h4,fun i k' x' e' hi hj=>h5 (i+1) k' x' e' (by simpa using hi) (by simpa using hj)⟩
 |[],_::_=>⟨fun h=>h.elim,fun h=>by simp at h⟩
 |_::_,[]=>⟨fun h=>h.elim,fun h=>by simp at h⟩
theorem Aq{k k':AV}{kv kv':Value}{b:Bool}{d:TypeDesc}{t:TypeId}(h:EB k k'=some b)(hk:jb g w k kv)(C9:jb g w k' kv')(Wh:cj A t k=true)(hd:A.P.underlying t=some d):
  Instr.sameNow d kv kv'=some b/\(b=true->Instr.sameBits 10000 kv' kv=true):=by
 unfold cj at Wh;rw[hd]at Wh;unfold EB at h;split at h
 ·rename_i q x q' y;split at h
  case isFalse=>simp at h
  case isTrue e=>
   subst e;simp at h;subst h;cases hk;cases C9;split at Wh
   ·rename_i hh _;simp at hh;subst hh;refine⟨by simp[Instr.sameNow,BEq.beq],fun hb=> ?_⟩;have:x=y:=by simpa using hb
    subst this;simp[Instr.sameBits]
   ·rename_i h1 h2;simp at h2
   ·simp at Wh
 ·rename_i x y;simp at h;subst h;cases hk;cases C9;split at Wh
  ·rename_i h1 h2;simp at h2
  ·rename_i hh _;simp at hh;subst hh;refine⟨by simp[Instr.sameNow],fun hb=> ?_⟩;rw[beq_toListBytes]at hb;have ud:x.toList=y.toList:=by simpa using hb
   simp[Instr.sameBits,beq_toListBytes,ud]
  ·simp at Wh
 ·simp at h
theorem YB{k:AV}{kv:Value}{d:TypeDesc}{t:TypeId}(hk:jb g w k kv)(Wh:cj A t k=true)(hd:A.P.underlying t=some d):∀{es:List (AV×AV)}{mg:List MapEntry}{r:Option AV}(i0:Nat),Gi k es=some r->VI g w es mg->
  (r=none/\Instr.findNow d kv mg i0=some none)\/∃x i v,r=some x/\Instr.findNow d kv mg i0=some (some (i0+i,v))/\jb g w x v
 |[],[],r,i0,h,_=>by simp[Gi]at h;subst h;exact .inl ⟨rfl,rfl⟩
 |(k',x)::es,e::mg,r,i0,h,he=>by
  obtain⟨h1,h2,h3,h4⟩:=he;simp only[Gi,aa]at h;obtain⟨b,hb,h⟩:=h;obtain⟨hs,_⟩:=Aq hb hk h2 Wh hd;cases b with
  |true=>
   simp at h;subst h;exact .inr ⟨x,0,e.val,rfl,by simp[Instr.findNow,hs],h3⟩
  |false=>
   simp only at h;rcases YB hk Wh hd (i0+1) h h4 with⟨rfl,hf⟩|⟨x',i,v,rfl,hf,hv⟩
   ·exact .inl ⟨rfl,by simp[Instr.findNow,hs,hf]⟩
   ·exact .inr ⟨x',i+1,v,rfl,by simp[Instr.findNow,hs,hf];omega,hv⟩
 |[],_::_,_,_,_,he=>he.elim
 |_::_,[],_,_,_,he=>by cases ‹AV×AV›;exact he.elim
theorem fg{e:Bool}{t:TypeId}{k:AV}{kv:Value}(Wh:cj A t k=true)(hk:jb g w k kv):(Instr.checkKey e 10000 t kv).run A.P w= .ok () w:=by
 unfold cj at Wh;have R4:(10000:Nat)=9999+1:=rfl;rw[R4];generalize 9999=n;split at Wh
 ·rename_i hu;cases hk;simp[Instr.checkKey,run_underlying hu]
 ·rename_i hu;cases hk;simp[Instr.checkKey,run_underlying hu]
 ·simp at Wh
theorem Lv{t:TypeId}{k:AV}(Wh:cj A t k=true):∃d,A.P.underlying t=some d:=by
 unfold cj at Wh;split at Wh
 ·rename_i hu;exact⟨_,hu⟩
 ·rename_i hu;exact⟨_,hu⟩
 ·simp at Wh
theorem kK{t:TypeId}{k:AV}{kv:Value}{es:List (AV×AV)}{mg:List MapEntry}{r:Option AV}(hk:jb g w k kv)(Wh:cj A t k=true)(h:Gi k es=some r)(he:VI g w es mg):
  (r=none/\(Instr.findKey t kv mg).run A.P w= .ok none w)\/∃x i v,r=some x/\(Instr.findKey t kv mg).run A.P w= .ok (some (i,v)) w/\jb g w x v:=by
 obtain⟨d,hd⟩:=Lv Wh;rcases YB hk Wh hd 0 h he with⟨rfl,hf⟩|⟨x,i,v,rfl,hf,hv⟩
 ·exact .inl ⟨rfl,by simp[Instr.findKey,run_underlying hd,hf]⟩
 ·exact .inr ⟨x,0+i,v,rfl,by simp[Instr.findKey,run_underlying hd,hf],hv⟩
theorem Zy{H:AH}{m:AV}{mv:Value}{es:List (AV×AV)}(h:mapOf H m=some es)(hw:Yb A.Ra g w H)(hm:jb g w m mv):
  (mv= .map none/\es=[])\/∃r mg clock,mv= .map (some r)/\w.heap[r]?=some (.map mg clock)/\VI g w es mg.toList:=by
 unfold mapOf at h;split at h
 ·simp at h;subst h;cases hm;exact .inl ⟨rfl,rfl⟩
 ·rename_i b;split at h
  ·rename_i sd hb;simp at h;subst h;cases hm with
   |mp _ hd=>
    obtain⟨mg,clock,hR,hZ,hl,Qn⟩:=hw.Tc b _ hd hb;exact .inr ⟨_,mg,clock,rfl,hR,Bt.2 ⟨by simpa using hl,fun i k x e hi he=>Qn i k x e hi (by simpa using he)⟩⟩
  ·simp at h
 ·simp at h
theorem Oy{t:TypeId}{x:AV}(h:zeroV A t=some x):∃v,(zeroValue t).run A.P w= .ok v w/\jb g w x v:=by
 unfold zeroV at h;cases hi:A.P.info? t with
 |none=>simp[hi]at h
 |some i=>
  simp only[hi,Mc]at h;cases hz:i.zero with
  |none=>simp[hz]at h
  |some v=>
   have de:(zeroValue t).run A.P w= .ok v w:=by simp[zeroValue,typeInfo,hi,hz]
   refine⟨v,de,?_⟩;rw[hz]at h;split at h
   ·rename_i cs heq;simp at heq;subst heq;simp only[ia]at h;obtain⟨l,hl,rfl⟩:=h;obtain⟨c1,c2,c3⟩:=gh (g:=g) (w:=w) hl;exact Xw.agg ⟨by simpa using c1,Xk (by simpa using c1) c2 c3⟩
   ·rename_i v' _ heq;simp at heq;subst heq;exact qn h
   ·simp at h
theorem Ev{t:TypeId}{m k v:AV}{mv kv:Value}{ok:Bool}(h:lookup A s.H t m k ok=some v)(hw:Yb A.Ra g w s.H)(hm:jb g w m mv)(hk:jb g w k kv):
  ∃rv,(Instr.lookup t mv kv ok).run A.P w= .ok rv w/\jb g w v rv:=by
 unfold lookup at h;split at h
 case h_2=>simp at h
 case h_1 kt et hu=>
 split at h
 case isFalse=>simp at h
 case isTrue Wh=>
 simp only[aa]at h;obtain⟨es,XW,r,hr,⟨x,b⟩,IB,h⟩:=h;simp at h;subst h;have Vz:∀xv,jb g w x xv->jb g w (if ok=true then AV.Qc [x,.bool b]else x) (if ok=true then .tuple #[xv,.bool b]else xv):=fun xv hx=>by
  cases ok with
  |true=>
   refine .Qc _ [xv,.bool b] rfl (fun i y u hy hu=> ?_)
   match i with
   |0=>simp at hy hu;subst hy;subst hu;exact hx
   |1=>simp at hy hu;subst hy;subst hu;exact .bool b
   |i+2=>simp at hy
  |false=>exact hx
 rcases Zy XW hw hm with⟨rfl,rfl⟩|⟨q,mg,clock,rfl,hR,he⟩
 ·simp[Gi]at hr;subst hr;simp only[ia]at IB;obtain⟨z,hz,IB⟩:=IB;simp at IB;obtain⟨rfl,rfl⟩:=IB;obtain⟨zv,cV,CM⟩:=Oy (g:=g) (w:=w) hz;have hf:(Instr.findKey kt kv []).run A.P w= .ok none w:=by
   obtain⟨d,hd⟩:=Lv Wh;simp[Instr.findKey,run_underlying hd,Instr.findNow]
  refine⟨_,?_,Vz zv CM⟩;simp only[Instr.lookup,Sem.run_bind,run_underlying hu,Result.andThen_ok,Sem.run_pure,fg Wh hk,List.toList_toArray,hf,cV]
 ·have wk:(getObj q).run A.P w= .ok (.map mg clock) w:=by simp[getObj,Sem.run,hR]
  rcases kK hk Wh hr he with⟨rfl,hf⟩|⟨x',i,v,rfl,hf,hv⟩
  ·simp only[ia]at IB;obtain⟨z,hz,IB⟩:=IB;simp at IB;obtain⟨rfl,rfl⟩:=IB;obtain⟨zv,cV,CM⟩:=Oy (g:=g) (w:=w) hz;refine⟨_,?_,Vz zv CM⟩;simp only[Instr.lookup,Sem.run_bind,run_underlying hu,Result.andThen_ok,Sem.run_pure,wk,fg Wh hk,hf,cV]
  ·simp at IB;obtain⟨rfl,rfl⟩:=IB;refine⟨_,?_,Vz v hv⟩;simp only[Instr.lookup,Sem.run_bind,run_underlying hu,Result.andThen_ok,Sem.run_pure,wk,fg Wh hk,hf]
theorem UE{k x:AV}{kv xv:Value}{d:TypeDesc}{t:TypeId}(hk:jb g w k kv)(hx:jb g w x xv)(Wh:cj A t k=true)(hd:A.P.underlying t=some d):∀{es sd:List (AV×AV)}{mg:List MapEntry}(i0:Nat),Ko k x es=some sd->VI g w es mg->
  (Instr.findNow d kv mg i0=some none/\∀born,VI g w sd (mg++[{ key:=kv,val:=xv,born }]))\/
  ∃i v e,Instr.findNow d kv mg i0=some (some (i0+i,v))/\mg[i]?=some e/\Instr.sameBits 10000 e.key kv=true/\VI g w sd (mg.modify i fun e=>{ e with key:=kv,val:=xv })
 |[],sd,[],i0,h,_=>by
  simp[Ko]at h;subst h;have hkk:AV.isKey k=true:=by unfold cj at Wh;split at Wh<;>first|rfl|simp at Wh
  exact .inl ⟨rfl,fun born=>⟨hkk,hk,hx,trivial⟩⟩
 |(k',y)::es,sd,e::mg,i0,h,he=>by
  obtain⟨h1,h2,h3,h4⟩:=he;have hkk:AV.isKey k=true:=by unfold cj at Wh;split at Wh<;>first|rfl|simp at Wh
  simp only[Ko,aa]at h;obtain⟨b,hb,h⟩:=h;obtain⟨hs,qP⟩:=Aq hb hk h2 Wh hd;cases b with
  |true=>
   simp at h;subst h;exact .inr ⟨0,e.val,e,by simp[Instr.findNow,hs],rfl,qP rfl,⟨hkk,hk,hx,h4⟩⟩
  |false=>
   simp only[ia]at h;obtain⟨jam,XW,rfl⟩:=h;rcases UE hk hx Wh hd (i0+1) XW h4 with⟨hf,hr⟩|⟨i,v,e',hf,hi,Nab,hr⟩
   ·exact .inl ⟨by simp[Instr.findNow,hs,hf],fun born=>⟨h1,h2,h3,hr born⟩⟩
   ·refine .inr ⟨i+1,v,e',by simp[Instr.findNow,hs,hf];omega,by simpa using hi,Nab,?_⟩;simp only[List.modify_succ_cons];exact⟨h1,h2,h3,hr⟩
 |[],_,_::_,_,_,he=>he.elim
 |_::_,_,[],_,_,he=>by cases ‹AV×AV›;exact he.elim
theorem dG{k:AV}{kv:Value}{d:TypeDesc}{t:TypeId}(hk:jb g w k kv)(Wh:cj A t k=true)(hd:A.P.underlying t=some d):∀{es sd:List (AV×AV)}{mg:List MapEntry}(i0:Nat),No k es=some sd->VI g w es mg->
  (Instr.findNow d kv mg i0=some none/\VI g w sd mg)\/
  ∃i v,Instr.findNow d kv mg i0=some (some (i0+i,v))/\i<mg.length/\VI g w sd (mg.eraseIdx i)
 |[],sd,[],i0,h,_=>by simp[No]at h;subst h;exact .inl ⟨rfl,trivial⟩
 |(k',y)::es,sd,e::mg,i0,h,he=>by
  obtain⟨h1,h2,h3,h4⟩:=he;simp only[No,aa]at h;obtain⟨b,hb,h⟩:=h;obtain⟨hs,qP⟩:=Aq hb hk h2 Wh hd;cases b with
  |true=>
   simp at h;subst h;exact .inr ⟨0,e.val,by simp[Instr.findNow,hs],by simp,by simpa using h4⟩
  |false=>
   simp only[ia]at h;obtain⟨jam,XW,rfl⟩:=h;rcases dG hk Wh hd (i0+1) XW h4 with⟨hf,hr⟩|⟨i,v,hf,hi,hr⟩
   ·exact .inl ⟨by simp[Instr.findNow,hs,hf],h1,h2,h3,hr⟩
   ·exact .inr ⟨i+1,v,by simp[Instr.findNow,hs,hf];omega,by simpa using hi,h1,h2,h3,hr⟩
 |[],_,_::_,_,_,he=>he.elim
 |_::_,_,[],_,_,he=>by cases ‹AV×AV›;exact he.elim
theorem VI.mono{g g':Gx}{w w':World}(hle:g.Le w g' w'):∀{es:List (AV×AV)}{mg:List MapEntry},VI g w es mg->VI g' w' es mg
 |[],[],_=>trivial
 |(k,x)::es,e::mg,⟨h1,h2,h3,h4⟩=>⟨h1,h2.mono hle,h3.mono hle,h4.mono hle⟩
 |[],_::_,h=>h.elim
 |_::_,[],h=>by cases ‹AV×AV›;exact h.elim
theorem Gs{b:Nat}{es sd:List (AV×AV)}{mg BI:Array MapEntry}{clock clock':Nat}(hw:Yb A.Ra g w s.H)(hf:Od g f w s.H s.F)(hd:g.D b)(hb:s.H.bl[b]?=some (.map es))(Yf:s.H.wm<=b)
  (hR:w.heap[(g.ρ b).R]?=some (.map mg clock)) (he:VI g w sd BI.toList):
  Yb A.Ra g { w with heap:=w.heap.setIfInBounds (g.ρ b).R (.map BI clock') } (Sa s.H b (.map sd))/\Od g f { w with heap:=w.heap.setIfInBounds (g.ρ b).R (.map BI clock') } (Sa s.H b (.map sd)) s.F/\
   Ag g f w s.H s.F g f { w with heap:=w.heap.setIfInBounds (g.ρ b).R (.map BI clock') } (Sa s.H b (.map sd)) s.F:=by
 have tc:=Xa hR;have Yd:live g s.H b:=⟨hd,_,hb,rfl⟩;refine Be hw hf Yd Yf (by simp) (fun R Sc=>by simp[Array.getElem?_setIfInBounds,Ne.symm Sc]) (fun hle=> ?_);obtain⟨h1,h2⟩:=Bt.1 (he.mono hle);exact⟨BI,clock',by simp[tc],hw.Cn Yd,by simpa using h1,fun i k x e hi hc=>h2 i k x e hi (by simpa using hc)⟩
theorem Gp{t:TypeId}{m k x:AV}{mv kv xv:Value}{H':AH}(h:mapUpdate A s.H t m k x=some H')(hw:Yb A.Ra g w s.H)(hf:Od g f w s.H s.F)(hm:jb g w m mv)(hk:jb g w k kv)(hx:jb g w x xv):
  ∃w',(Instr.mapUpdate t mv kv xv).run A.P w= .ok () w'/\Yb A.Ra g w' H'/\Od g f w' H' s.F/\Ag g f w s.H s.F g f w' H' s.F:=by
 unfold mapUpdate at h;split at h
 case h_2=>simp at h
 case h_1 kt et b hu=>
 split at h
 case isFalse=>simp at h
 case isTrue hc=>
 simp only[Na,decide_eq_true_eq]at hc;obtain⟨Wh,Yf⟩:=hc;split at h
 case h_2=>simp at h
 case h_1 es hb=>
 simp only[ia]at h;obtain⟨sd,XW,rfl⟩:=h;cases hm with
 |mp _ hd=>
 obtain⟨mg,clock,hR,hZ,hl,Qn⟩:=hw.Tc b _ hd hb;have hER:VI g w es mg.toList:=Bt.2 ⟨by simpa using hl,fun i k x e hi he=>Qn i k x e hi (by simpa using he)⟩;obtain⟨d,hdd⟩:=Lv Wh;have wk:(getObj (g.ρ b).R).run A.P w= .ok (.map mg clock) w:=by simp[getObj,Sem.run,hR]
 have wh:∀o:Obj,(setObj (g.ρ b).R o).run A.P w= .ok () { w with heap:=w.heap.setIfInBounds (g.ρ b).R o }:=fun o=>by simp[setObj,Sem.run,hR]
 rcases UE hk hx Wh hdd 0 XW hER with⟨PM,hr⟩|⟨i,v,e,PM,hi,qP,hr⟩
 ·have hfk:(Instr.findKey kt kv mg.toList).run A.P w= .ok none w:=by simp[Instr.findKey,run_underlying hdd,PM]
  refine⟨_,?_,Gs (BI:=mg.push { key:=kv,val:=xv,born:=clock }) (clock':=clock+1) hw hf hd hb Yf hR (by simpa using hr clock)⟩;simp only[Instr.mapUpdate,Sem.run_bind,run_underlying hu,Result.andThen_ok,wk,fg Wh hk,hfk,wh]
 ·have hfk:(Instr.findKey kt kv mg.toList).run A.P w= .ok (some (i,v)) w:=by simp[Instr.findKey,run_underlying hdd,PM]
  have FD:(Instr.keyThatStays (((mg[i]?).map (·.key)).getD kv) kv).run A.P w= .ok kv w:=by
   have:mg[i]?=some e:=by simpa using hi
   simp[Instr.keyThatStays,this,qP]
  refine⟨_,?_,Gs (BI:=mg.modify i fun e=>{ e with key:=kv,val:=xv }) (clock':=clock) hw hf hd hb Yf hR (by simpa using hr)⟩;simp only[Instr.mapUpdate,Sem.run_bind,run_underlying hu,Result.andThen_ok,wk,fg Wh hk,hfk,FD,wh]
theorem Lz{ts:Array TypeId}{t ty:TypeId}{m k:AV}{mv kv:Value}{H':AH}(Qo:ts[0]?=some t)(h:Bf A s.H t m k=some H')(hw:Yb A.Ra g w s.H)(hf:Od g f w s.H s.F)(hm:jb g w m mv)(hk:jb g w k kv):
  ∃w',(Builtin.delete_ ts ty #[mv,kv]).run A.P w= .ok (.tuple #[]) w'/\Yb A.Ra g w' H'/\Od g f w' H' s.F/\Ag g f w s.H s.F g f w' H' s.F:=by
 unfold Bf at h;split at h
 ·rename_i kt et hu;split at h
  case isFalse=>simp at h
  case isTrue Wh=>
  simp at h;subst h;cases hm;refine⟨w,?_,hw,hf,.refl _ _ _ _ _⟩;simp[Builtin.delete_,Qo,run_underlying hu,fg Wh hk]
 ·rename_i kt et b hu;split at h
  case isFalse=>simp at h
  case isTrue hc=>
  simp only[Na,decide_eq_true_eq]at hc;obtain⟨Wh,Yf⟩:=hc;split at h
  case h_2=>simp at h
  case h_1 es hb=>
  simp only[ia]at h;obtain⟨sd,XW,rfl⟩:=h;cases hm with
  |mp _ hd=>
  obtain⟨mg,clock,hR,hZ,hl,Qn⟩:=hw.Tc b _ hd hb;have hER:VI g w es mg.toList:=Bt.2 ⟨by simpa using hl,fun i k x e hi he=>Qn i k x e hi (by simpa using he)⟩;obtain⟨d,hdd⟩:=Lv Wh;have wk:(getObj (g.ρ b).R).run A.P w= .ok (.map mg clock) w:=by simp[getObj,Sem.run,hR]
  have wh:∀o:Obj,(setObj (g.ρ b).R o).run A.P w= .ok () { w with heap:=w.heap.setIfInBounds (g.ρ b).R o }:=fun o=>by simp[setObj,Sem.run,hR]
  rcases dG hk Wh hdd 0 XW hER with⟨PM,hr⟩|⟨i,v,PM,hi,hr⟩
  ·have hfk:(Instr.findKey kt kv mg.toList).run A.P w= .ok none w:=by simp[Instr.findKey,run_underlying hdd,PM]
   refine⟨_,?_,Gs (BI:=mg) (clock':=clock) hw hf hd hb Yf hR hr⟩;simp only[Builtin.delete_,Qo,ec,Ge,We,Sem.run_bind,run_underlying hu,Result.andThen_ok,wk,fg Wh hk,hfk,wh,Sem.run_pure]
  ·have hfk:(Instr.findKey kt kv mg.toList).run A.P w= .ok (some (i,v)) w:=by simp[Instr.findKey,run_underlying hdd,PM]
   have hil:i<mg.size:=by simpa using hi
   refine⟨_,?_,Gs (BI:=mg.eraseIdxIfInBounds i) (clock':=clock) hw hf hd hb Yf hR (by simpa[Array.eraseIdxIfInBounds,hil]using hr)⟩;simp only[Builtin.delete_,Qo,ec,Ge,We,Sem.run_bind,run_underlying hu,Result.andThen_ok,wk,fg Wh hk,hfk,wh,Sem.run_pure]
 ·simp at h
end
end Go.V
namespace Go.V
open Go
section
variable {A:Eh}{g:Gx}{f:Fx}{w:World}{s:S}{a:Act}
theorem Fu{fn:AV->AV->Option AV}{gn:Value->Value->Sem Value}(mo:∀(x y z:AV)(xv yv:Value),fn x y=some z->jb g w x xv->jb g w y yv->∃zv,(gn xv yv).run A.P w= .ok zv w/\jb g w z zv):
  ∀{ys:List AV}{yv:List Value}{x z:AV}{xv:Value},xl fn x ys=some z->jb g w x xv->yv.length=ys.length->(∀(i:Nat)(y:AV)(v:Value),ys[i]?=some y->yv[i]?=some v->jb g w y v)->∃zv,(yv.foldlM gn xv).run A.P w= .ok zv w/\jb g w z zv
 |[],[],x,z,xv,h,hx,_,_=>by simp[xl]at h;subst h;exact⟨xv,by simp,hx⟩
 |y::ys,v::yv,x,z,xv,h,hx,hl,hr=>by
  simp only[xl,aa]at h;obtain⟨q,hq,h⟩:=h;obtain⟨qv,hqv,hqr⟩:=mo x y q xv v hq hx (hr 0 y v rfl rfl);obtain⟨zv,h1,h2⟩:=Fu mo h hqr (by simpa using hl) (fun i y' v' hy hv=>hr (i+1) y' v' (by simpa using hy) (by simpa using hv));exact⟨zv,by simp[List.foldlM_cons,hqv,h1],h2⟩
 |[],_::_,_,_,_,_,_,hl,_=>by simp at hl
 |_::_,[],_,_,_,_,_,hl,_=>by simp at hl
theorem DJ(x y z:AV)(xv yv:Value)(h:EJ x y=some z)(hx:jb g w x xv)(hy:jb g w y yv):∃zv,(Builtin.max2 xv yv).run A.P w= .ok zv w/\jb g w z zv:=by
 unfold EJ at h;split at h
 ·simp at h;subst h;cases hx;cases hy;exact⟨_,by simp[Builtin.max2],.int _ _⟩
 ·simp at h
theorem BJ(x y z:AV)(xv yv:Value)(h:CJ x y=some z)(hx:jb g w x xv)(hy:jb g w y yv):∃zv,(Builtin.min2 xv yv).run A.P w= .ok zv w/\jb g w z zv:=by
 unfold CJ at h;split at h
 ·simp at h;subst h;cases hx;cases hy;exact⟨_,by simp[Builtin.min2],.int _ _⟩
 ·simp at h
theorem Ey{sz:Nat}{rows new:List (List AV)}{cs:Array Value}{base r:Nat}{vs:List Value}(hlen:vs.length=new.length * sz)(XJ:r+new.length<=rows.length)(mj:base+rows.length * sz<=cs.size)
  (hold:∀(i:Nat)(row:List AV),rows[i]?=some row->row.length=sz/\Ye g w cs (base+i * sz) row) (ze:Oj g w sz new vs.toArray):
  ∀(i:Nat)(row:List AV),(rows.take r++(new++rows.drop (r+new.length)))[i]?=some row->row.length=sz/\Ye g w (cs.toList.take (base+r * sz)++vs++cs.toList.drop (base+r * sz+vs.length)).toArray (base+i * sz) row:=by
 intro i row hi;have hm1:(r+new.length) * sz=r * sz+new.length * sz:=Ke _ _ _;have hm2:(r+new.length) * sz<=rows.length * sz:=Zb _ XJ;have htk:(cs.toList.take (base+r * sz)).length=base+r * sz:=by rw[Nb,Re];omega
 have Qv:(rows.take r).length=r:=by rw[Nb];omega
 by_cases h1:i<r
 ·rw[La (by omega),Cb,if_pos h1]at hi;obtain⟨hl,hr⟩:=hold i row hi;refine⟨hl,fun c x hx=> ?_⟩;obtain⟨v,e1,e2,e3⟩:=hr c x hx;have tc:i * sz+c<r * sz:=Tg h1 (by have:=getElem?_lt' hx;omega);refine⟨v,?_,e2,e3⟩;simp only[ec,td];rw[La (by omega),Cb,if_pos (by omega)];simpa using e1
 ·rw[Qa (by omega),Qv]at hi;by_cases h2:i-r<new.length
  ·rw[La h2]at hi;obtain⟨hl,hr⟩:=ze.2 _ row hi;refine⟨hl,fun c x hx=> ?_⟩;obtain⟨v,e1,e2,e3⟩:=hr c x hx;have tc:(i-r) * sz+c<new.length * sz:=Tg h2 (by have:=getElem?_lt' hx;omega);have FL:i * sz=r * sz+(i-r) * sz:=by rw[<- Ke];congr 1;omega
   refine⟨v,?_,e2,e3⟩;simp only[ec,td]at e1 ⊢;rw[Qa (by omega),htk,La (by omega),<- e1];congr 1;omega
  ·rw[Qa (by omega),Ec]at hi;have hii:r+new.length+(i-r-new.length)=i:=by omega
   rw[hii]at hi;obtain⟨hl,hr⟩:=hold i row hi;refine⟨hl,fun c x hx=> ?_⟩;obtain⟨v,e1,e2,e3⟩:=hr c x hx;have eu:(r+new.length) * sz<=i * sz:=Zb _ (by omega);refine⟨v,?_,e2,e3⟩;simp only[ec,td];rw[Qa (by omega),htk,Qa (by omega),Ec,show base+r * sz+vs.length+(base+i * sz+c-(base+r * sz)-vs.length)=base+i * sz+c by omega]
   simpa using e1
theorem wq{H:AH}{x:AV}{xv:Value}{rows:List (List AV)}{k:Nat}(h:rowsOf H x=some rows)(hw:Yb A.Ra g w H)(hx:jb g w x xv)(hk:k<=rows.length):
  ∃x' vV,rowsOf H x'=some (rows.take k)/\jb g w x' vV/\∀sz,Builtin.firstCells sz k vV=Builtin.firstCells sz k xv:=by
 unfold rowsOf at h;split at h
 ·simp at h;subst h;simp at hk;subst hk;exact⟨.Ya,xv,rfl,hx,fun _=>rfl⟩
 ·simp at h;subst h;simp at hk;subst hk;exact⟨.Pd,xv,rfl,hx,fun _=>rfl⟩
 ·rename_i sz Qg;simp at h;subst h;cases hx with
  |lits _ ad=>simp at hk;subst hk;exact⟨.lit sz [],_,rfl,.lits sz ad,fun _=>rfl⟩
  |lit _ ad cap _ vs hs hc hz hl Ki h1c Qn=>
   have hlen:(Qg.take k).length=k:=by simp;omega
   have wk:∀(i:Nat)(row:List AV),(Qg.take k)[i]?=some row->Qg[i]?=some row:=fun i row hi=>by
    rw[Cb]at hi;split at hi;exact hi;simp at hi
   refine⟨.lit sz (Qg.take k),.slice (some ad) (Qg.take k).length cap,rfl,.lit _ ad cap sz vs hs (by omega) (fun Sc=>hz (by intro e;subst e;simp at Sc)) (fun i row hi=>hl i row (wk i row hi)) (fun i c hi oo=>Ki i c (by omega) oo) (fun i c hi oo=>h1c i c (by omega) oo) (fun i row c x hi hx=>Qn i row c x (wk i row hi) hx),fun _=>rfl⟩
 ·rename_i b r n;split at h
  case h_2=>simp at h
  case h_1 Qg sz dD hb=>
  split at h
  case isFalse=>simp at h
  case isTrue hle=>
  simp at h;subst h;have hlen:((Qg.drop r).take n).length=n:=by simp;omega
  have vl:rowsOf H (.sl b r k)=some (((Qg.drop r).take n).take k):=by
   simp only[rowsOf,hb];rw[if_pos (by omega),List.take_take,Nat.min_eq_left (by omega)]
  cases hx with
  |sl _ _ _ cap hd hn bq hmc=>exact⟨.sl b r k,_,vl,.sl b r k cap hd (by omega) bq (by assumption),fun _=>rfl⟩
  |jJ _ _ ad hd=>
   have:k=0:=by omega
   subst this;exact⟨.sl b r 0,_,vl,.jJ b r ad hd,fun _=>rfl⟩
 ·simp at h
theorem uE{b:Builtin}{ts:Array TypeId}{ty:TypeId}{consts:Array Bool}{args:List AV}{vs:List Value}{v:AV}{H':AH}{r:Result Next}(h:builtin A s.H b ts args=some (v,H'))(hw:Yb A.Ra g w s.H)(hf:Od g f w s.H s.F)
  (hl:args.length=vs.length) (hv:∀(i:Nat)(x:AV)(u:Value),args[i]?=some x->vs[i]?=some u->jb g w x u) (de:r=(po b ts ty consts vs.toArray).run A.P w):
  ML A.Ra g f w s { s with H:=H' } (.v v) r:=by
 unfold builtin at h;split at h
 ·rename_i x y;obtain⟨xv,yv,rfl⟩:∃xv yv,vs=[xv,yv]:=by
   match vs,hl with
   |[p,q],_=>exact⟨p,q,rfl⟩
  exact KI h hw hf (hv 0 x xv rfl rfl) (hv 1 y yv rfl rfl) de
 ·rename_i x;obtain⟨xv,rfl⟩:∃xv,vs=[xv]:=by
   match vs,hl with
   |[p],_=>exact⟨p,rfl⟩
  have hx:=hv 0 x xv rfl rfl;simp only[aa]at h;obtain⟨t,Qo,h⟩:=h;have CD:∀n:Int,(Builtin.len_ ts ty #[xv]).run A.P w= .ok (.int .i64 n) w->ML A.Ra g f w s s (.v (.int .i64 n)) r:=fun n hn=>Te hw hf (rv:= .int .i64 n) (by rw[de];simp[po,hn]) (.int _ _)
  split at h
  ·rename_i sb hu;simp at h;obtain⟨rfl,rfl⟩:=h;cases hx;exact CD _ (by simp[Builtin.len_,Qo,run_underlying hu,goInt])
  ·rename_i e hu;simp at h;obtain⟨rfl,rfl⟩:=h;cases hx;exact CD _ (by simp[Builtin.len_,Qo,run_underlying hu,goInt])
  ·rename_i e hu;simp at h;obtain⟨rfl,rfl⟩:=h;cases hx;exact CD _ (by simp[Builtin.len_,Qo,run_underlying hu,goInt])
  ·rename_i e sz rows hu;simp at h;obtain⟨rfl,rfl⟩:=h;cases hx<;>exact CD _ (by simp[Builtin.len_,Qo,run_underlying hu,goInt])
  ·rename_i e b' r' n hu;simp at h;obtain⟨rfl,rfl⟩:=h;cases hx<;>exact CD _ (by simp[Builtin.len_,Qo,run_underlying hu,goInt])
  ·rename_i kt et hu;simp only[ia]at h;obtain⟨es,XW,h⟩:=h;simp at h;obtain⟨rfl,rfl⟩:=h;rcases Zy XW hw hx with⟨rfl,rfl⟩|⟨q,mg,clock,rfl,hR,he⟩
   ·exact CD _ (by simp[Builtin.len_,Qo,run_underlying hu,goInt])
   ·have wk:(getObj q).run A.P w= .ok (.map mg clock) w:=by simp[getObj,Sem.run,hR]
    have TM:=(Bt.1 he).1;have Bal:mg.size=es.length:=by simpa using TM
    exact CD _ (by simp[Builtin.len_,Qo,run_underlying hu,wk,goInt,Bal])
  ·rename_i n e hu;simp at h;obtain⟨rfl,rfl⟩:=h;exact CD _ (by simp[Builtin.len_,Qo,run_underlying hu,goInt])
  ·simp at h
 ·rename_i x xs;obtain⟨xv,xvs,rfl⟩:∃xv xvs,vs=xv::xvs:=by
   match vs,hl with
   |p::q,_=>exact⟨p,q,rfl⟩
  simp only[ia]at h;obtain⟨z,hz,h⟩:=h;simp at h;obtain⟨rfl,rfl⟩:=h;obtain⟨zv,h1,h2⟩:=Fu (A:=A) (gn:=Builtin.max2) DJ hz (hv 0 x xv rfl rfl) (by simpa using hl.symm) (fun i y u hy hu=>hv (i+1) y u (by simpa using hy) (by simpa using hu));exact Te hw hf (rv:=zv) (by rw[de];simp[po,Builtin.max_,h1]) h2
 ·rename_i x xs;obtain⟨xv,xvs,rfl⟩:∃xv xvs,vs=xv::xvs:=by
   match vs,hl with
   |p::q,_=>exact⟨p,q,rfl⟩
  simp only[ia]at h;obtain⟨z,hz,h⟩:=h;simp at h;obtain⟨rfl,rfl⟩:=h;obtain⟨zv,h1,h2⟩:=Fu (A:=A) (gn:=Builtin.min2) BJ hz (hv 0 x xv rfl rfl) (by simpa using hl.symm) (fun i y u hy hu=>hv (i+1) y u (by simpa using hy) (by simpa using hu));exact Te hw hf (rv:=zv) (by rw[de];simp[po,Builtin.min_,h1]) h2
 ·rename_i m k;obtain⟨mv,kv,rfl⟩:∃xv yv,vs=[xv,yv]:=by
   match vs,hl with
   |[p,q],_=>exact⟨p,q,rfl⟩
  simp only[aa,ia]at h;obtain⟨t,Qo,H1,hd,h⟩:=h;simp at h;obtain⟨rfl,rfl⟩:=h;obtain⟨w',h1,h2,h3,h4⟩:=Lz (ty:=ty) Qo hd hw hf (hv 0 m mv rfl rfl) (hv 1 k kv rfl rfl);exact⟨.tuple #[],w',g,f,.inl (by rw[de];simp[po,h1]),h2,h3,h4,.Qc [] [] rfl (fun i x v h=>by simp at h)⟩
 ·rename_i x y;obtain⟨xv,yv,rfl⟩:∃xv yv,vs=[xv,yv]:=by
   match vs,hl with
   |[p,q],_=>exact⟨p,q,rfl⟩
  have hx:=hv 0 x xv rfl rfl;have hy:=hv 1 y yv rfl rfl;simp only[aa]at h;obtain⟨t,Qo,e,he,z,hz,ys,Yx,h⟩:=h;have hu:=uj he;obtain⟨yo,eao,hyv,aan,_⟩:=bg Yx hw hy;have Gq:(Builtin.lenOf yv).run A.P w= .ok ys.length w:=by rw[hyv];simp[Builtin.lenOf]
  split at h
  ·simp at h;obtain⟨rfl,rfl⟩:=h;cases hx;obtain⟨x',vV,p1,p2,p3⟩:=wq (k:=0) Yx hw hy (fe _);obtain⟨_,_,cs,_,_,q2,_,_,_,q5⟩:=Mn (sz:=z) p1 hw p2 (fun row h=>by simp at h);have L4:=q5 w rfl;simp only[List.take_zero,Ng]at L4;rw[p3]at L4;refine Te hw hf (rv:= .int .i64 0) ?_ (.int _ _);have JM:ys.length.min 0=0:=by simp
   rw[de];simp[po,Builtin.copy_,Qo,run_underlying hu,Gq,JM,Rc hz,L4,goInt]
  ·simp at h;obtain⟨rfl,rfl⟩:=h;cases hx with
   |Pd ad0=>
   obtain⟨x',vV,p1,p2,p3⟩:=wq (k:=0) Yx hw hy (fe _);obtain⟨_,_,cs,_,_,q2,_,_,_,q5⟩:=Mn (sz:=z) p1 hw p2 (fun row h=>by simp at h);have L4:=q5 w rfl;simp only[List.take_zero,Ng]at L4;rw[p3]at L4;refine Te hw hf (rv:= .int .i64 0) ?_ (.int _ _);have JM:ys.length.min 0=0:=by simp
   rw[de];have Lab:cs= #[]:=oh (by rw[q2];simp);simp[po,Builtin.copy_,Qo,run_underlying hu,Gq,JM,Rc hz,L4,goInt,Lab,storeCells]
  ·rename_i b' r' n;split at h
   case h_2=>simp at h
   case h_1 rows sz dD hb=>
   split at h
   case isFalse=>simp at h
   case isTrue hc=>
   obtain⟨Yf,XJ,rfl,gg⟩:=hc;simp at h;obtain⟨rfl,rfl⟩:=h;have rP:∀row∈ys,row.length=sz:=fun row jd=>by simpa using ic.1 gg row jd
   have hD:g.D b':=by cases hx<;>assumption
   have Yd:live g s.H b':=⟨hD,_,hb,rfl⟩;obtain⟨aab,Ff,fP,QM,Uy,⟨T,fz,hR,HL,fm,hZ⟩,Nc⟩:=hw.Tc b' _ hD hb;obtain⟨x',vV,p1,p2,p3⟩:=wq (k:=min ys.length n) Yx hw hy (Nat.min_le_left _ _);obtain⟨_,_,cs,_,_,q2,q3,_,q4,q5⟩:=Mn (sz:=sz) p1 hw p2 (fun row jd=>rP row (List.mem_of_mem_take jd));have Wj:(ys.take (min ys.length n)).length=min ys.length n:=by rw[Nb];omega
   have L4:=q5 w rfl;rw[Wj,p3]at L4;rw[Wj]at q2;generalize hN:min ys.length n=N at *
   have hNn:N<=n:=by omega
   have x6:∃ad cap,xv= .slice (some ad) n cap/\((storeCells ad cs.toList).run A.P w= .ok () (w.setRow (g.ρ b').R (Uy.toList.take ((g.ρ b').o+r' * sz)++cs.toList++Uy.toList.drop ((g.ρ b').o+r' * sz+cs.toList.length)).toArray)):=by
    have hm1:(r'+N) * sz=r' * sz+N * sz:=Ke _ _ _;have hm2:(r'+N) * sz<=rows.length * sz:=Zb _ (by omega);cases hx with
    |sl _ _ _ cap hd hn bq=>
     refine⟨_,cap,rfl,?_⟩;have dc:=bf A.P (g.ρ b').R ((g.ρ b').o+r' * sz) T fz cs.toList 0 Uy w hR (by simp;omega) (fun j hj=>fm _ (by simp at hj;omega)) q4;rw[fP];simpa using dc
    |jJ _ _ ad hd=>
     have hN0:N=0:=by omega
     have Lab:cs= #[]:=oh (by rw[q2,hN0];simp);refine⟨ad,0,rfl,?_⟩;rw[Lab];have:=setRow_self w (g.ρ b').R Uy T fz hR;simp only[storeCells,Array.toList_empty,zi,Ng,ve,List.take_append_drop,Array.toArray_toList,this];rfl
   obtain⟨ad,cap,rfl,dc⟩:=x6;have hm1:(r'+N) * sz=r' * sz+N * sz:=Ke _ _ _;have hm2:(r'+N) * sz<=rows.length * sz:=Zb _ (by omega);obtain⟨k1,k2,k3⟩:=Be (b:=b') (x:= .cells (rows.take r'++(ys.take N++rows.drop (r'+(ys.take N).length))) sz dD) (w':=w.setRow (g.ρ b').R (Uy.toList.take ((g.ρ b').o+r' * sz)++cs.toList++Uy.toList.drop ((g.ρ b').o+r' * sz+cs.toList.length)).toArray) hw hf Yd Yf (setRow_size _ _ _) (fun R Sc=>setRow_other _ _ _ _ Sc)
    (fun hle=>⟨aab.setRow _,Ff,fP,by simp only[qd,Nb,Tt,Wj];rw[show min r' rows.length+(N+(rows.length-(r'+N)))=rows.length by omega];exact QM,_,Row.set (show Row g w (g.ρ b').R (g.ρ b').e Uy from⟨T,fz,hR,HL,fm,hZ⟩) (by simp;omega),fun r row hr=>by
     obtain⟨z1,z2⟩:=Ey (vs:=cs.toList) (base:=(g.ρ b').o) (by simp[q2,Wj]) (by rw[Wj];omega) (by rw[HL];exact QM) Nc (by simpa using q3) r row hr;exact⟨z1,z2.mono hle⟩⟩)
   rw[Wj]at k1 k2 k3;refine⟨.int .i64 N,_,g,f,.inl ?_,k1,k2,k3,.int _ _⟩;have JM:ys.length.min n=N:=hN;rw[de];simp[po,Builtin.copy_,Qo,run_underlying hu,Gq,JM,Rc hz,L4,dc,goInt]
  ·simp at h
 ·simp at h
end
end Go.V
namespace Go.V
open Go
def VL(g:Gx)(w:World):List AV->List Value->Prop
 |[],[]=>True
 |x::xs,v::vs=>jb g w x v/\VL g w xs vs
 |_,_=>False
def H8(g:Gx)(w:World):List (List AV)->List (List Value)->Prop
 |[],[]=>True
 |x::xs,v::vs=>VL g w x v/\H8 g w xs vs
 |_,_=>False
section
variable {A:Eh}{g g':Gx}{w w':World}
theorem VL.mono(h:g.Le w g' w'):∀{xs:List AV}{vs:List Value},VL g w xs vs->VL g' w' xs vs
 |[],[],_=>trivial
 |_::_,_::_,⟨h1,h2⟩=>⟨h1.mono h,h2.mono h⟩
 |[],_::_,h=>h.elim
 |_::_,[],h=>h.elim
theorem H8.mono(h:g.Le w g' w'):∀{xs:List (List AV)}{vs:List (List Value)},H8 g w xs vs->H8 g' w' xs vs
 |[],[],_=>trivial
 |_::_,_::_,⟨h1,h2⟩=>⟨h1.mono h,h2.mono h⟩
 |[],_::_,h=>h.elim
 |_::_,[],h=>h.elim
theorem Tj:∀{xs:List AV}{vs:List Value},VL g w xs vs↔vs.length=xs.length/\∀(i:Nat)(x:AV)(v:Value),xs[i]?=some x->vs[i]?=some v->jb g w x v
 |[],[]=>⟨fun _=>⟨rfl,fun i x v h=>by simp at h⟩,fun _=>trivial⟩
 |x::xs,v::vs=>by
  simp only[VL,Tj (xs:=xs) (vs:=vs)];constructor
  ·rintro⟨h1,h2,h3⟩
   refine⟨by simp[h2],fun i y u hy hu=> ?_⟩;cases i with
   |zero=>simp at hy hu;subst hy;subst hu;exact h1
   |succ i=>exact h3 i y u (by simpa using hy) (by simpa using hu)
  ·rintro⟨h2,h3⟩
   exact⟨h3 0 x v rfl rfl,by simpa using h2,fun i y u hy hu=>h3 (i+1) y u (by simpa using hy) (by simpa using hu)⟩
 |[],_::_=>⟨fun h=>h.elim,fun h=>by simp at h⟩
 |_::_,[]=>⟨fun h=>h.elim,fun h=>by simp at h⟩
theorem vG:∀{xs:List (List AV)}{vs:List (List Value)},H8 g w xs vs↔vs.length=xs.length/\∀(i:Nat)(x:List AV)(v:List Value),xs[i]?=some x->vs[i]?=some v->VL g w x v
 |[],[]=>⟨fun _=>⟨rfl,fun i x v h=>by simp at h⟩,fun _=>trivial⟩
 |x::xs,v::vs=>by
  simp only[H8,vG (xs:=xs) (vs:=vs)];constructor
  ·rintro⟨h1,h2,h3⟩
   refine⟨by simp[h2],fun i y u hy hu=> ?_⟩;cases i with
   |zero=>simp at hy hu;subst hy;subst hu;exact h1
   |succ i=>exact h3 i y u (by simpa using hy) (by simpa using hu)
  ·rintro⟨h2,h3⟩
   exact⟨h3 0 x v rfl rfl,by simpa using h2,fun i y u hy hu=>h3 (i+1) y u (by simpa using hy) (by simpa using hu)⟩
 |[],_::_=>⟨fun h=>h.elim,fun h=>by simp at h⟩
 |_::_,[]=>⟨fun h=>h.elim,fun h=>by simp at h⟩
def zO(A:Eh)(fz:AH->AV->Option (AV×AH)):Prop:=
 ∀H x x' H',fz H x=some (x',H')->∀(g:Gx)(w:World)(v:Value),Yb A.Ra g w H->jb g w x v->∃g',Yb A.Ra g' w H'/\Ext g w H g' w H'/\jb g' w x' v
theorem xk{fz:AH->AV->Option (AV×AH)}(fm:zO A fz):∀(xs kq:List AV)(H H':AH)(g:Gx)(w:World)(vs:List Value),Yg fz H xs=some (kq,H')->Yb A.Ra g w H->VL g w xs vs->∃g',Yb A.Ra g' w H'/\Ext g w H g' w H'/\VL g' w kq vs/\kq.length=xs.length
 |[],kq,H,H',g,w,vs,h,hw,hv=>by
  simp[Yg]at h;obtain⟨rfl,rfl⟩:=h;exact⟨g,hw,.refl _ _ _,hv,rfl⟩
 |x::xs,kq,H,H',g,w,v::vs,h,hw,hv=>by
  simp only[Yg,aa]at h;obtain⟨⟨x1,H1⟩,h1,⟨xs1,H2⟩,h2,h⟩:=h;simp at h;obtain⟨rfl,rfl⟩:=h;obtain⟨g1,w1,e1,v1⟩:=fm _ _ _ _ h1 g w v hw hv.1;obtain⟨g2,w2,e2,v2,l2⟩:=xk fm xs xs1 H1 H2 g1 w vs h2 w1 (hv.2.mono (hw.le e1));exact⟨g2,w2,e1.trans e2,⟨v1.mono (w1.le e2),v2⟩,by simp[l2]⟩
 |_::_,_,_,_,_,_,[],_,_,hv=>hv.elim
theorem bw{fz:AH->AV->Option (AV×AH)}(fm:zO A fz):∀(xs kq:List (List AV))(H H':AH)(g:Gx)(w:World)(vs:List (List Value)),Lh fz H xs=some (kq,H')->Yb A.Ra g w H->H8 g w xs vs->∃g',Yb A.Ra g' w H'/\Ext g w H g' w H'/\H8 g' w kq vs/\kq.length=xs.length/\
  ∀(i:Nat)(r r':List AV),xs[i]?=some r->kq[i]?=some r'->r'.length=r.length
 |[],kq,H,H',g,w,vs,h,hw,hv=>by
  simp[Lh]at h;obtain⟨rfl,rfl⟩:=h;exact⟨g,hw,.refl _ _ _,hv,rfl,fun i r r' h=>by simp at h⟩
 |x::xs,kq,H,H',g,w,v::vs,h,hw,hv=>by
  simp only[Lh,aa]at h;obtain⟨⟨x1,H1⟩,h1,⟨xs1,H2⟩,h2,h⟩:=h;simp at h;obtain⟨rfl,rfl⟩:=h;obtain⟨g1,w1,e1,v1,l1⟩:=xk fm x x1 H H1 g w v h1 hw hv.1;obtain⟨g2,w2,e2,v2,l2,l3⟩:=bw fm xs xs1 H1 H2 g1 w vs h2 w1 (hv.2.mono (hw.le e1));refine⟨g2,w2,e1.trans e2,⟨v1.mono (w1.le e2),v2⟩,by simp[l2],fun i r r' hr dm=> ?_⟩;cases i with
  |zero=>simp at hr dm;subst hr;subst dm;exact l1
  |succ i=>exact l3 i r r' (by simpa using hr) (by simpa using dm)
 |_::_,_,_,_,_,_,[],_,_,hv=>hv.elim
theorem vaa{H:AH}{b:Nat}(hw:Yb A.Ra g w H)(hb:live g H b)(Yf:H.wm<=b):Yb A.Ra { g with Z:=fun R=>g.Z R\/R=(g.ρ b).R } w (Sa H b .dead)/\Ext g w H { g with Z:=fun R=>g.Z R\/R=(g.ρ b).R } w (Sa H b .dead):=by
 have hle:g.Le w { g with Z:=fun R=>g.Z R\/R=(g.ρ b).R } w:=⟨fun _ h=>⟨h,rfl⟩,fun _ h=>⟨.inl h,rfl⟩⟩;have KM:∀b',live { g with Z:=fun R=>g.Z R\/R=(g.ρ b).R } (Sa H b .dead) b'->b'≠b/\live g H b':=fun b' h=>by
  rcases gl (g:=g) (show live g (Sa H b .dead) b' from h)with⟨_,h'⟩|h'
  ·simp[Xd]at h'
  ·exact h'
 refine⟨⟨fun i row hg=>(hw.Ra i row hg).mono hle,fun b' hd=>by simpa[Sa]using hw.He b' hd,fun b' y hd hy=> ?_,fun b1 b2 h1 h2 Sc=>hw.inj b1 b2 (KM b1 h1).2 (KM b2 h2).2 Sc,fun R hR=> ?_⟩,?_⟩
 ·rw[jj]at hy;split at hy
  ·split at hy
   ·simp at hy;subst hy;trivial
   ·simp at hy
  ·rename_i Sc;refine(hw.Tc b' y hd hy).le hle (fun _=>rfl) (fun hl hz=> ?_);rcases hz with hz|hz
   ·exact hw.Cn ⟨hd,y,hy,hl⟩ hz
   ·exact hw.inj b' b ⟨hd,y,hy,hl⟩ hb (fun e=>Sc e.symm) hz
 ·rcases hR with hR|rfl
  ·exact hw.Qu R hR
  ·exact hw.lt hb
 ·refine⟨fun _ h=>⟨h,rfl⟩,fun _ h=> .inl h,fun _ h=> .inl h,fun R h=>h.elim .inl (fun e=> .inr (.inl ⟨b,hb,e.symm⟩)),fun R⟨b',h,e⟩=> .inl ⟨b',(KM b' h).2,e⟩,fun _ _ _=>rfl,va _,by simp[Sa],rfl,fun b' ud hl=> ?_,fun _ _ _=>rfl,⟨rfl,rfl⟩⟩;rw[jj,if_neg (by omega)]
theorem Mi:∀d,zO A (freeze d)
 |0=>fun H x x' H' h=>by simp[freeze]at h
 |d+1=>fun H x x' H' h g w v hw hx=>by
  cases x
  case sl b r n=>
   simp only[freeze,aa]at h;obtain⟨rows,Nc,sz,se,h⟩:=h;split at h
   case isFalse=>simp at h
   case isTrue Yf=>
   simp only[aa]at h;obtain⟨⟨Wd,H1⟩,GD,h⟩:=h;simp at h;obtain⟨rfl,rfl⟩:=h;have hblk:∃Qg dD,H.bl[b]?=some (.cells Qg sz dD):=by
    unfold Uj at se;split at se
    ·rename_i Qg sz0 dD hb;simp at se;subst se;exact⟨Qg,dD,hb⟩
    ·simp at se
   obtain⟨Qg,dD,PB⟩:=hblk;have hD:g.D b:=by cases hx<;>assumption
   have Yd:live g H b:=⟨hD,_,PB,rfl⟩;obtain⟨w1,e1⟩:=vaa hw Yd Yf;have xab:=hw.le e1;by_cases Sc:rows=[]
   ·obtain⟨ao,cap,hv,Xl,_⟩:=bg Nc hw hx;subst Sc;simp[Lh]at GD;obtain⟨rfl,rfl⟩:=GD;refine⟨_,w1,e1,?_⟩;have RJ:∀(ad:Addr)(c:Nat),ad.spot=none->jb { g with Z:=fun R=>g.Z R\/R=(g.ρ b).R } w (.lit sz []) (.slice (some ad) 0 c):=fun ad c hs=>
     .lit [] ad c sz (fun _ _=>undef) hs (fe _) (fun h=>absurd rfl h) (fun i row h=>by simp at h) (fun i c h=>by simp at h) (fun i c h=>by simp at h) (fun i row c x h=>by simp at h)
    cases hx with
    |sl _ _ _ tE=>injection hv with _ hn _;simp at hn;subst hn;exact RJ _ _ rfl
    |jJ _ _ ad=>exact .lits sz ad
   ·obtain⟨ao,cap,rfl,Xl,Ji⟩:=bg Nc hw hx;obtain⟨ad,Cx,rfl,hs,Ro⟩:=Ji Sc;obtain⟨C5,rS,hvr⟩:=pick (fun(i:Nat)(row:List AV)(vs:List Value)=>vs.length=row.length/\row.length=Cx/\(∀u∈vs,u.oneCell'=true)/\(∀(c:Nat)(u:Value),vs[c]?=some u->w.cell? ⟨ad.block,ad.off+i * Cx+c,none⟩=some u)/\VL g w row vs) rows (fun i row hi=>by
     obtain⟨h1,h2⟩:=Ro i row hi;obtain⟨vs,k1,k2⟩:=pick (fun(c:Nat)(x:AV)(u:Value)=>w.cell? ⟨ad.block,ad.off+i * Cx+c,none⟩=some u/\u.oneCell'=true/\jb g w x u) row h2;have hex:∀(c:Nat)(u:Value),vs[c]?=some u->∃x,row[c]?=some x:=fun c u hc=>⟨_,Aa (by have:=getElem?_lt' hc;omega)⟩
     refine⟨vs,k1,h1,fun u hu=> ?_,fun c u hc=> ?_,Tj.2 ⟨k1,fun i x v hx hv=>(k2 i x v hx hv).2.2⟩⟩
     ·obtain⟨c,hc⟩:=je hu;obtain⟨x,hx⟩:=hex c u hc;exact(k2 c x u hx hc).2.1
     ·obtain⟨x,hx⟩:=hex c u hc;exact(k2 c x u hx hc).1)
    have hrv:∀(i:Nat)(vs:List Value),C5[i]?=some vs->∃row,rows[i]?=some row:=fun i vs hi=>⟨_,Aa (by have:=getElem?_lt' hi;omega)⟩
    have Mal:H8 g w rows C5:=vG.2 ⟨rS,fun i row vs hr hv=>(hvr i row vs hr hv).2.2.2.2⟩;obtain⟨g2,w2,e2,v2,l2,l3⟩:=bw (Mi d) rows Wd _ _ _ w C5 GD w1 (Mal.mono xab);refine⟨g2,w2,e1.trans e2,?_⟩;have sak:Cx=sz/\ad.block=(g.ρ b).R:=by
     generalize rows.length=m at hx;cases hx with
     |sl _ _ _ tE hd hn bq=>
      obtain⟨_,_,_,_,cs,_,gab⟩:=hw.Tc b _ hD PB;cases tS:rows with
      |nil=>exact absurd tS Sc
      |cons KR rest=>
       have h0:rows[0]?=some KR:=by rw[tS];rfl
       obtain⟨h1,_⟩:=Ro 0 KR h0;have h2:=h0;simp only[rowsOf,PB]at Nc;split at Nc
       ·simp at Nc;rw[<- Nc,Cb]at h2;split at h2
        ·rw[Ec]at h2;exact⟨h1 ▸ (gab _ _ h2).1,rfl⟩
        ·simp at h2
       ·simp at Nc
     |jJ=>
      have:rows.length=0:=by
       simp only[rowsOf,PB]at Nc;split at Nc
       ·simp at Nc;subst Nc;rfl
       ·simp at Nc
      exact absurd (Jt this) Sc
    obtain⟨rfl,hblk⟩:=sak;have hzz:g2.Z ad.block:=e2.Z _ (.inr hblk);obtain⟨q1,q2⟩:=vG.1 v2;have Ki:∀i c,i<Wd.length->c<Cx->∃vs u,C5[i]?=some vs/\vs[c]?=some u/\u.oneCell'=true/\w.cell? ⟨ad.block,ad.off+i * Cx+c,none⟩=some u:=fun i c hi hc=>by
     have tc:i<C5.length:=by omega
     have hv:=Aa tc;obtain⟨row,hr⟩:=hrv i _ hv;obtain⟨k1,k2,k3,k4,k5⟩:=hvr i row _ hr hv;have hu:=Aa (l:=C5[i]) (i:=c) (by omega);exact⟨_,_,hv,hu,k3 _ (Db hu),k4 c _ hu⟩
    rw[<- l2];refine .lit Wd ad cap Cx (fun i c=>((C5.getD i []).getD c undef)) hs (by omega) (fun _=>hzz) (fun i row hi=> ?_) (fun i c hi hc=> ?_) (fun i c hi hc=> ?_) (fun i row c x hi hx=> ?_)
    ·have tc:=getElem?_lt' hi;have hr:=Aa (l:=rows) (i:=i) (by omega);rw[l3 i _ _ hr hi];exact(Ro i _ hr).1
    ·obtain⟨vs,u,h1,h2,h3,h4⟩:=Ki i c hi hc;simp[List.getD,h1,h2,h4]
    ·obtain⟨vs,u,h1,h2,h3,h4⟩:=Ki i c hi hc;simp[List.getD,h1,h2,h3]
    ·have tc:=getElem?_lt' hi;have hv:=Aa (l:=C5) (i:=i) (by omega);obtain⟨k1,k2⟩:=Tj.1 (q2 i row _ hi hv);have hu:=Aa (l:=C5[i]) (i:=c) (by have:=getElem?_lt' hx;omega);have:=k2 c x _ hx hu
     simpa[List.getD,hv,hu]using this
  case agg cs=>
   simp only[freeze,aa]at h;obtain⟨⟨Oh,H1⟩,h1,h⟩:=h;simp at h;obtain⟨rfl,rfl⟩:=h;cases hx with
   |agg _ vs hl Uz hr=>
    obtain⟨g1,w1,e1,v1,l1⟩:=xk (Mi d) cs Oh _ _ g w vs h1 hw (Tj.2 ⟨hl,hr⟩);obtain⟨q1,q2⟩:=Tj.1 v1;exact⟨g1,w1,e1,.agg Oh vs q1 Uz q2⟩
  case Qc cs=>
   simp only[freeze,aa]at h;obtain⟨⟨Oh,H1⟩,h1,h⟩:=h;simp at h;obtain⟨rfl,rfl⟩:=h;cases hx with
   |Qc _ vs hl hr=>
    obtain⟨g1,w1,e1,v1,l1⟩:=xk (Mi d) cs Oh _ _ g w vs h1 hw (Tj.2 ⟨hl,hr⟩);obtain⟨q1,q2⟩:=Tj.1 v1;exact⟨g1,w1,e1,.Qc Oh vs q1 q2⟩
  all_goals
   simp[freeze]at h;obtain⟨rfl,rfl⟩:=h;exact⟨g,hw,.refl _ _ _,hx⟩
theorem bG{G:Nat->Option (List AV)}{g g':Gx}{f:Fx}{w w':World}{H H':AH}{F:List (List AV)}(hw:Yb G g w H)(hf:Od g f w H F)(h:Ext g w H g' w' H'):Od g' f w' H' F/\Ag g f w H F g' f w' H' F:=by
 have hle:=hw.le h;refine⟨⟨hf.He,fun i row hi jd=> ?_,hf.inj,fun i hi hp=> ?_⟩,⟨h.D,h.bA,h.Z,h.Hr,h.fp,fun _ h=>⟨h,rfl⟩,fun _ h=> .inl h,fun _ h h'=>absurd h h',fun R hR hn _=>h.Tk R hR hn,h.size,h.len,va _,h.wm,h.quiet,h.still,fun _ _=>Iff.rfl,fun _ h h'=>absurd h h',fun i hi _=>h.Tk _ (hf.lt hi) (hf.apart i hi),h.io⟩⟩
 ·obtain⟨cs,⟨T,fz,hR,q1,q2,q3⟩,q4⟩:=hf.Tc i row hi jd;have tc:=hf.lt hi;refine⟨cs,⟨T,fz,by rw[h.Tk _ tc (hf.apart i hi)];exact hR,q1,q2,fun hz=> ?_⟩,q4.mono hle⟩;rcases h.Hr _ hz with hz|hz|hz
  ·exact q3 hz
  ·exact hf.apart i hi hz
  ·omega
 ·rcases h.fp _ hp with h1|h1
  ·exact hf.apart i hi h1
  ·have:=hf.lt hi;omega
end
end Go.V
namespace Go.V
open Go
structure Uw(F:Fence):Prop where
 fn:∀f,F.fn f
 depth:F.depth=none
 alive:F.alive=false
def Pj(A:Eh)(call:Callee):Prop:=
 ∀fv args H r H',call fv args H=some (r,H')->∀(g:Gx)(w:World)(lX:Value)(vs:List Value),Yb A.Ra g w H->jb g w fv lX->args.length=vs.length->
  (∀(i:Nat)(x:AV)(v:Value),args[i]?=some x->vs[i]?=some v->jb g w x v)->
  ∀(F:Fence)(n:Nat)(o:Oper)(a:Act)(next:Act->World->Prop)(Q:Exit->Act->World->Prop),Uw F->
   (∀g' w' rv,jb g' w' r rv->Yb A.Ra g' w' H'->Ext g w H g' w' H'->next (a.put o.dst rv) w')->
   Oper.uponIn F n A.P o a next Q ((do let d <- Deferred.ofValue lX vs.toArray;invoke d.target d.args:Sem Next).run A.P w)
section
variable {A:Eh}{g:Gx}{f:Fx}{w:World}{s:S}{a:Act}{call:Callee}{Fa:List Nat}
theorem iG{s s':S}{t:TypeId}{b:Bool}{cs:List AV}{v:SV}(h:boxed s t b cs=some (v,s')):s'.e=s.e:=by
 unfold boxed at h;split at h
 ·simp only[zc]at h;unfold box at h;split at h<;>simp at h<;>obtain⟨_,rfl⟩:=h<;>rfl
 ·simp at h
theorem sq{s s':S}{x:Option AV}{v:SV}(h:Sf s x=some (v,s')):s'=s/\∃a,x=some a/\v= .v a:=by
 simp only[Sf,ia]at h;obtain⟨a,ha,h⟩:=h;simp at h;obtain⟨rfl,rfl⟩:=h;exact⟨rfl,a,ha,rfl⟩
theorem rq{s s':S}{x:Option (AV×AH)}{v:SV}(h:zh s x=some (v,s')):∃a H,x=some (a,H)/\v= .v a/\s'={ s with H:=H }:=by
 simp only[zh,ia]at h;obtain⟨⟨a,H⟩,ha,h⟩:=h;simp at h;obtain⟨rfl,rfl⟩:=h;exact⟨a,H,ha,rfl,rfl⟩
theorem S2{s':S}{v:SV}{r:Result Next}{o:Oper}{F:Fence}{n:Nat}{next:Act->World->Prop}{Q:Exit->Act->World->Prop}(h:ML A.Ra g f w s s' v r)
  (hk:∀g' f' w' rv,Yb A.Ra g' w' s'.H->Od g' f' w' s'.H s'.F->Ag g f w s.H s.F g' f' w' s'.H s'.F->Ee g' f' w' v rv->next (a.put o.dst rv) w'):Oper.uponIn F n A.P o a next Q r:=by
 obtain⟨rv,w',g',f',hr|⟨hr,rfl⟩,h1,h2,h3,h4⟩:=h
 ·rw[hr];exact hk g' f' w' rv h1 h2 h3 h4
 ·rw[hr];exact hk g' f' w' undef h1 h2 h3 h4
theorem Si{x:Option AV}{v:SV}{s':S}{r:Result Next}(h:Sf s x=some (v,s'))(hw:Yb A.Ra g w s.H)(hf:Od g f w s.H s.F)
  (hx:∀a,x=some a->∃rv,r= .ok (.value rv) w/\jb g w a rv):ML A.Ra g f w s s' v r/\s'.e=s.e:=by
 obtain⟨rfl,a,ha,rfl⟩:=sq h;obtain⟨rv,h1,h2⟩:=hx a ha;exact⟨Te hw hf h1 h2,rfl⟩
theorem Faa{o:Oper}{v:SV}{s':S}(h:op A call Fa s o=some (v,s'))(Nf:∀c fv,o.op= .call c->c.callee≠ .value fv)(hw:Yb A.Ra g w s.H)(hf:Od g f w s.H s.F)(he:Ze g f w s.e a.tmps)(hWr:∀t x y,o.op= .store t x y->∀i c,operand A s.e x=some (.loc i c)->f.W i):
  ML A.Ra g f w s s' v ((execOp a.eval o).run A.P w)/\s'.e=s.e:=by
 unfold op at h;have JB:∀{x:Operand},(operand A s.e x).map (fun v=>(v,s))=some (v,s')->ML A.Ra g f w s s' v ((pure (.value (a.eval x)):Sem Next).run A.P w)/\s'.e=s.e:=fun{x}h=>by
  simp only[ia]at h;obtain⟨sv,hsv,h⟩:=h;simp at h;obtain⟨rfl,rfl⟩:=h;exact⟨Te hw hf rfl (ye hsv hw he),rfl⟩
 split at h
 ·rename_i x ho;unfold execOp;rw[ho];exact JB h
 ·rename_i x ho;unfold execOp;rw[ho];exact JB h
 ·rename_i c p q ho;simp only[aa]at h;obtain⟨cv,YW,h⟩:=h;have hc:=Tb YW hw he;unfold execOp;rw[ho];split at h
  ·generalize Wz:a.eval c=cc at hc;cases hc;have:=JB h
   simpa[Wz,asBool]using this
  ·generalize Wz:a.eval c=cc at hc;cases hc;have:=JB h
   simpa[Wz,asBool]using this
  ·simp at h
 ·rename_i t ho;simp only[aa]at h;obtain⟨z,hz,h⟩:=h;refine⟨?_,iG h⟩;obtain⟨zv,cV,z1,z2,z3⟩:=RA (g:=g) (w:=w) hz;unfold boxed at h;split at h
  case isFalse=>simp at h
  case isTrue Ff=>
   simp only[zc]at h;have:=jG (Wg:=(o.dst.map (Fa.contains ·)).getD false) (t:=t) hw hf z1 z2 z3 (by rw[Pf]at Ff;rcases Ff with h|h;exact .inr h;exact .inl (of_decide_eq_true h)) (r:=(execOp a.eval o).run A.P w) (by
    unfold execOp;rw[ho];simp only[Instr.alloc,Sem.run_bind,cV,Result.andThen_ok,newVar,newRow,run_newObj,Sem.run_pure];rfl)
   rw[h]at this;exact this
 ·rename_i t x ho;simp only[aa]at h;obtain⟨av,J6,cs,mj,h⟩:=h;refine⟨?_,iG h⟩;obtain⟨z1,z2,z3⟩:=Lm mj (Tb J6 hw he);unfold boxed at h;split at h
  case isFalse=>simp at h
  case isTrue Ff=>
   simp only[zc]at h;have:=jG (Wg:=(o.dst.map (Fa.contains ·)).getD false) (t:=t) hw hf z1 z2 z3 (by rw[Pf]at Ff;rcases Ff with h|h;exact .inr h;exact .inl (of_decide_eq_true h)) (r:=(execOp a.eval o).run A.P w) (by
    unfold execOp;rw[ho];simp only[Instr.box,Sem.run_bind,newVar,newRow,run_newObj,Sem.run_pure,Result.andThen_ok];rfl)
   rw[h]at this;exact this
 ·rename_i t ps ho;simp only[aa]at h;obtain⟨l,hl,h⟩:=h;have hp:=xq hl hw he;refine Si h hw hf fun x hx=> ?_
  obtain⟨rv,h1,h2⟩:=vL (w:=w) hx hp;refine⟨rv,?_,h2⟩;unfold execOp;rw[ho];have:(ps.map fun(i,x)=>(i,a.eval x))=(ps.toList.map fun(i,x)=>(i,a.eval x)).toArray:=by apply Array.ext';simp
  simp only[this,Sem.run_bind,h1,Result.andThen_ok,Sem.run_pure]
 ·rename_i t n ps ho;simp only[aa]at h;obtain⟨l,hl,h⟩:=h;obtain⟨x,H,hx,rfl,rfl⟩:=rq h;have hp:=xq hl hw he;simp only[aa]at hx;obtain⟨⟨x0,H0⟩,hx0,hx⟩:=hx;have H9:=Jy (r:=(execOp a.eval o).run A.P w) hx0 hw hf hp (by
   unfold execOp;rw[ho];have:(ps.map fun(i,x)=>(i,a.eval x))=(ps.toList.map fun(i,x)=>(i,a.eval x)).toArray:=by apply Array.ext';simp
   simp only[this])
  obtain⟨rv,w1,g1,f1,d1,d2,d3,d4,d5⟩:=H9;simp only at hx;split at hx
  ·obtain⟨g2,k1,k2,k3⟩:=Mi 8 _ _ _ _ hx g1 w1 rv d2 d5;obtain⟨k4,k5⟩:=bG d2 d3 k2;exact⟨⟨rv,w1,g2,f1,d1,k1,k4,d4.trans k5,k3⟩,rfl⟩
  ·simp at hx;obtain⟨rfl,rfl⟩:=hx;exact⟨⟨rv,w1,g1,f1,d1,d2,d3,d4,d5⟩,rfl⟩
 ·rename_i t x ho;simp only[aa]at h;obtain⟨p,hp,h⟩:=h;refine Si h hw hf fun y hy=> ?_
  obtain⟨rv,h1,h2⟩:=CB hy hw hf (ye hp hw he);exact⟨rv,by unfold execOp;rw[ho];simp[h1],h2⟩
 ·rename_i t x y ho;simp only[aa,ia]at h;obtain⟨p,hp,av,J6,s1,G4,h⟩:=h;simp at h;obtain⟨rfl,rfl⟩:=h;obtain⟨w',h1,h2,h3,h4,h5⟩:=dJ G4 hw hf (ye hp hw he) (Tb J6 hw he) (fun i c e=>hWr _ _ _ ho i c (e ▸ hp));exact⟨⟨undef,w',g,f,.inr ⟨by unfold execOp;rw[ho];simp[h1],rfl⟩,h2,h3,h4,.Sb _⟩,h5⟩
 ·rename_i x ho;simp only[aa]at h;obtain⟨p,hp,h⟩:=h;have LB:=ye hp hw he;have fq:∀v':Value,Ee g f w p v'->a.eval x=v'->p=v/\s=s'->(execOp a.eval o).run A.P w= .ok (.value v') w->ML A.Ra g f w s s' v ((execOp a.eval o).run A.P w)/\s'.e=s.e:=fun v' h1 _ h3 h4=>by
   obtain⟨rfl,rfl⟩:=h3;rw[h4];exact⟨Te hw hf rfl h1,rfl⟩
  split at h
  ·simp at h;obtain⟨hi,hv⟩:=LB;exact fq _ ⟨hi,hv⟩ rfl ⟨h.1,h.2⟩ (by unfold execOp;rw[ho];simp[hv])
  ·simp at h;generalize hx:a.eval x=xv at LB;have YG:jb g w _ xv:=LB;cases YG with
   |ptr _ _ _ hb=>exact fq _ LB hx ⟨h.1,h.2⟩ (by unfold execOp;rw[ho];simp[hx])
  ·simp at h;generalize hx:a.eval x=xv at LB;have YG:jb g w _ xv:=LB;cases YG with
   |Bd _ ad vs q1 q2 q3 q4 q5=>exact fq _ LB hx ⟨h.1,h.2⟩ (by unfold execOp;rw[ho];simp[hx])
  ·simp at h;generalize hx:a.eval x=xv at LB;have YG:jb g w _ xv:=LB;cases YG with
   |fn _ _ vs q1 q2=>exact fq _ LB hx ⟨h.1,h.2⟩ (by unfold execOp;rw[ho];simp[hx])
  ·simp at h;generalize hx:a.eval x=xv at LB;have YG:jb g w _ xv:=LB;cases YG with
   |yl _ q1=>exact fq _ LB hx ⟨h.1,h.2⟩ (by unfold execOp;rw[ho];simp[hx])
  ·simp at h
 ·rename_i b t x y yt ho;simp only[aa]at h;obtain⟨u,hu,v',au,h⟩:=h;refine Si h hw hf fun z hz=> ?_
  obtain⟨rv,h1,h2,h3⟩:=wL (ox:=x) (oy:=y) hz (Tb hu hw he) (Tb au hw he);exact⟨rv,by unfold execOp;rw[ho];simp[h1,h2],h3⟩
 ·rename_i u t x ho;simp only[aa]at h;obtain⟨v',au,h⟩:=h;refine Si h hw hf fun z hz=> ?_
  obtain⟨rv,h1,h2⟩:=TL (A:=A) hz (Tb au hw he);exact⟨rv,by unfold execOp;rw[ho];simp[h1],h2⟩
 ·rename_i src dst x ho;simp only[aa]at h;obtain⟨v',au,h⟩:=h;obtain⟨y,H,hy,rfl,rfl⟩:=rq h;exact⟨oE hy hw hf (Tb au hw he) (by unfold execOp;rw[ho]),rfl⟩
 ·rename_i fid first jh ho
  split at h
  case isFalse=>simp at h
  case isTrue hf0=>
  simp only[ia]at h;obtain⟨l,hl,h⟩:=h;simp at h;obtain⟨rfl,rfl⟩:=h;obtain⟨h1,h2⟩:=qo hl hw he;have hfe:first= #[]:=oh hf0
  refine⟨Te hw hf (rv:= .func (.func fid) #[] (jh.toList.map a.eval).toArray) ?_ (jb.fn fid l _ (by simpa using h1.symm) h2),rfl⟩;unfold execOp;rw[ho];have:jh.map a.eval=(jh.toList.map a.eval).toArray:=by apply Array.ext';simp
  simp[Instr.makeFunc,hfe,this]
 ·rename_i t r ho;simp only[aa]at h;obtain⟨u,hu,h⟩:=h;simp at h;obtain⟨rfl,rfl⟩:=h;have de:(execOp a.eval o).run A.P w= .ok (.value (.map (some w.heap.size))) (w.alloc (.map #[] 0)):=by
   unfold execOp;rw[ho];cases r with
   |none=>simp only[Instr.makeMap,Option.map_none,Sem.run_bind,run_newObj,Sem.run_pure,Result.andThen_ok];rfl
   |some x=>
    simp only at hu;split at hu
    ·rename_i kt et hut;simp only[aa,ia]at hu;obtain⟨v',au,n,hn,_⟩:=hu;obtain⟨k,hk⟩:=Zl hn (Tb au hw he);simp only[Instr.makeMap,Mc,Sem.run_bind,run_underlying hut,Result.andThen_ok,hk,asInt,asIntOf,Sem.run_pure,run_newObj];rfl
    ·simp at hu
  have tc:w.heap.size<(w.alloc (.map #[] 0)).heap.size:=by show w.heap.size<(w.heap.push _).size;simp
  have hzn:¬g.Z w.heap.size:=fun hz=>Nat.lt_irrefl _ (hw.Qu _ hz)
  obtain⟨q1,q2,q3⟩:=Cs (l:=⟨w.heap.size,0,0,0⟩) (x:= .map []) hw hf (Rt tc) rfl tc (fun R hR=>heap_alloc_old w _ R hR) (fun hle=>⟨#[],0,heap_alloc_new w _,hzn,rfl,fun i k x e h=>by simp at h⟩);refine⟨⟨_,_,_,f,.inl de,q1,q2,q3,?_⟩,rfl⟩;have:=jb.mp (g:=g.add s.H.bl.length ⟨w.heap.size,0,0,0⟩) (w:=w.alloc (.map #[] 0)) s.H.bl.length (.inr rfl);rw[ng]at this;exact this
 ·rename_i t l c ho;simp only[aa]at h;obtain⟨u,hu,v',au,h⟩:=h;obtain⟨y,H,hy,rfl,rfl⟩:=rq h;exact⟨Nz hy hw hf (Tb hu hw he) (Tb au hw he) (by unfold execOp;rw[ho]),rfl⟩
 ·rename_i t x lo hi ho;simp only[aa]at h;obtain⟨v',au,l,hl,hh,hhh,h⟩:=h;refine Si h hw hf fun z hz=> ?_
  obtain⟨rv,h1,h2⟩:=kJ hz hw (Tb au hw he) (uv hl hw he) (uv hhh hw he);exact⟨rv,by unfold execOp;rw[ho];simp[h1],h2⟩
 ·rename_i t x hi mx ho;simp only[aa]at h;obtain⟨v',au,l,hl,hh,hhh,h⟩:=h;split at h
  case isFalse=>simp at h
  rename_i hc;simp only[Na]at hc;refine Si h hw hf fun z hz=> ?_
  obtain⟨rv,h1,h2⟩:=CG hz (Tb au hw he);obtain⟨k1,e1⟩:=kF hc.1 (Tb hl hw he);obtain⟨k2,e2⟩:=kF hc.2 (Tb hhh hw he);exact⟨rv,by unfold execOp;rw[ho];simp[e1,e2,h1],h2⟩
 ·rename_i t x i ho;simp only[aa]at h;obtain⟨p,hp,fd,YJ,n,hn,h⟩:=h;split at h
  ·simp at h
  ·rename_i IM;simp only[ia]at h;obtain⟨q,hq,h⟩:=h;simp at h;obtain⟨rfl,rfl⟩:=h;obtain⟨rv,h1,h2⟩:=Xz YJ (by rw[hn];simpa using IM) (by rw[hn];rfl) hq (ye hp hw he);exact⟨Te hw hf (rv:=rv) (by unfold execOp;rw[ho];simp[h1]) h2,rfl⟩
 ·rename_i t x i ho;simp only[aa]at h;obtain⟨v',au,h⟩:=h;split at h
  ·rename_i cs;simp only[aa]at h;obtain⟨fd,YJ,h⟩:=h;obtain⟨fs,hu,hi⟩:=aC YJ;obtain⟨vs,l9,hr⟩:=Dh (Tb au hw he);refine Si h hw hf fun z hz=> ?_
   obtain⟨rv,h1,h2⟩:=lj (A:=A) hz hr;exact⟨rv,by unfold execOp;rw[ho];simp[Instr.field,run_underlying hu,hi,l9,asAgg,h1],h2⟩
  ·simp at h
 ·rename_i t x i ho;simp only[aa,ia]at h;obtain⟨p,hp,v',au,n,hn,q,hq,h⟩:=h;simp at h;obtain⟨rfl,rfl⟩:=h;obtain⟨k,hk⟩:=Zl hn (Tb au hw he);obtain⟨rv,h1,h2⟩:=Qz (k:=k) hq hw (ye hp hw he);exact⟨Te hw hf (rv:=rv) (by unfold execOp;rw[ho];simp[hk,h1]) h2,rfl⟩
 ·rename_i t x i ho;simp only[aa]at h;obtain⟨p,hp,v',au,n,hn,h⟩:=h;obtain⟨k,hk⟩:=Zl hn (Tb au hw he);refine Si h hw hf fun z hz=> ?_
  obtain⟨rv,h1,h2⟩:=NJ (k:=k) hz (Tb hp hw he);exact⟨rv,by unfold execOp;rw[ho];simp[hk,h1],h2⟩
 ·rename_i t x i ok ho;simp only[aa]at h;obtain⟨m,hm,k,hk,h⟩:=h;refine Si h hw hf fun z hz=> ?_
  obtain⟨rv,h1,h2⟩:=Ev hz hw (Tb hm hw he) (Tb hk hw he);exact⟨rv,by unfold execOp;rw[ho];simp[h1],h2⟩
 ·rename_i t m k x ho;simp only[aa,ia]at h;obtain⟨mv,hm,kv,hk,xv,hx,H,hH,h⟩:=h;simp at h;obtain⟨rfl,rfl⟩:=h;obtain⟨w',h1,h2,h3,h4⟩:=Gp hH hw hf (Tb hm hw he) (Tb hk hw he) (Tb hx hw he);exact⟨⟨undef,w',g,f,.inr ⟨by unfold execOp;rw[ho];simp[h1],rfl⟩,h2,h3,h4,.Sb _⟩,rfl⟩
 ·rename_i t m k x ho;simp only[aa,ia]at h;obtain⟨mv,hm,kv,hk,xv,hx,H,hH,h⟩:=h;simp at h;obtain⟨rfl,rfl⟩:=h;obtain⟨w',h1,h2,h3,h4⟩:=Gp hH hw hf (Tb hm hw he) (Tb hk hw he) (Tb hx hw he);exact⟨⟨undef,w',g,f,.inr ⟨by unfold execOp;rw[ho];simp[h1],rfl⟩,h2,h3,h4,.Sb _⟩,rfl⟩
 ·rename_i x i ho;simp only[aa]at h;obtain⟨v',au,h⟩:=h;split at h
  ·rename_i vs;simp only[ia]at h;obtain⟨y,hy,h⟩:=h;simp at h;obtain⟨rfl,rfl⟩:=h;have hv:=Tb au hw he;generalize hx:a.eval x=xv at hv;cases hv with
   |Qc _ us hl hr=>
    have tc:i<us.length:=by have:=getElem?_lt' hy;omega
    refine⟨Te hw hf (rv:=us[i]) ?_ (hr i y _ hy (Aa tc)),rfl⟩;unfold execOp;rw[ho];simp[hx,Instr.extract,tc]
  ·simp at h
 ·rename_i c ho;simp only[aa]at h;obtain⟨args,cK,h⟩:=h;obtain⟨l1,l2⟩:=qo cK hw he;split at h
  ·rename_i fv AS;exact absurd AS (Nf c fv ho)
  ·rename_i b hb;obtain⟨y,H,hy,rfl,rfl⟩:=rq h;refine⟨uE (vs:=c.args.toList.map a.eval) (ty:=o.type) (consts:=c.args.map fun| .const _=>true|_=>false) hy hw hf (by simpa using l1) l2 ?_,rfl⟩;unfold execOp;rw[ho];have:c.args.map a.eval=(c.args.toList.map a.eval).toArray:=by apply Array.ext';simp
   simp only[resolve,hb,Sem.run_bind,Sem.run_pure,Result.andThen_ok,invoke,this];rfl
  ·simp at h
 ·simp at h
theorem xJ{o:Oper}{v:SV}{s':S}{F:Fence}{n:Nat}{next:Act->World->Prop}{Q:Exit->Act->World->Prop}(hC:Pj A call)(h:op A call Fa s o=some (v,s'))(hw:Yb A.Ra g w s.H)(hf:Od g f w s.H s.F)(he:Ze g f w s.e a.tmps)(hF:Uw F)(hWr:∀t x y,o.op= .store t x y->∀i c,operand A s.e x=some (.loc i c)->f.W i)
  (hk:s'.e=s.e->∀g' f' w' rv,Yb A.Ra g' w' s'.H->Od g' f' w' s'.H s'.F->Ag g f w s.H s.F g' f' w' s'.H s'.F->Ee g' f' w' v rv->next (a.put o.dst rv) w'):
  o.wpIn F n A.P a w next Q:=by
 refine⟨fun f _=>hF.fn f,?_⟩;have hnd:∀c,o.op≠ .defer c:=fun c e=>by unfold op at h;rw[e]at h;simp at h
 rw[Oper.semAt_eq F.round a.eval o hnd];by_cases Nf:∀c fv,o.op= .call c->c.callee≠ .value fv
 ·obtain⟨h1,h2⟩:=Faa h Nf hw hf he hWr;exact S2 h1 (hk h2)
 ·simp only[Classical.not_forall,Classical.not_not]at Nf;obtain⟨c,fv,ho,hc⟩:=Nf;unfold op at h;rw[ho]at h;simp only[aa,hc]at h;obtain⟨args,cK,gv,hgv,h⟩:=h;obtain⟨r,H,hr,rfl,rfl⟩:=rq h;obtain⟨l1,l2⟩:=qo cK hw he;have fq:=hC gv args s.H r H hr g w (a.eval fv) (c.args.toList.map a.eval) hw (Tb hgv hw he) (by simpa using l1) l2 F n o a next Q hF (fun g' w' rv h1 h2 h3=>by
   have hle:=hw.le h3;refine hk rfl g' f w' rv h2 ⟨hf.He,fun i row hi jd=> ?_,hf.inj,fun i hi h=> ?_⟩ ⟨h3.D,h3.bA,h3.Z,h3.Hr,h3.fp,fun _ h=>⟨h,rfl⟩,fun _ h=> .inl h,fun _ h h'=>absurd h h',fun R hR hn _=>h3.Tk R hR hn,h3.size,h3.len,va _,h3.wm,h3.quiet,h3.still,fun _ _=>Iff.rfl,fun _ h h'=>absurd h h',fun i hi _=>h3.Tk _ (hf.lt hi) (hf.apart i hi),h3.io⟩ h1
   ·obtain⟨cs,⟨T,fz,hR,q1,q2,q3⟩,q4⟩:=hf.Tc i row hi jd;have tc:=hf.lt hi;refine⟨cs,⟨T,fz,by rw[h3.Tk _ tc (hf.apart i hi)];exact hR,q1,q2,fun hz=> ?_⟩,q4.mono hle⟩;rcases h3.Hr _ hz with hz|hz|hz
    ·exact q3 hz
    ·exact hf.apart i hi hz
    ·omega
   ·rcases h3.fp _ h with h|h
    ·exact hf.apart i hi h
    ·have:=hf.lt hi;omega)
  have de:(execOp a.eval o).run A.P w=((do let d <- Deferred.ofValue (a.eval fv) (c.args.toList.map a.eval).toArray;invoke d.target d.args:Sem Next).run A.P w):=by
   unfold execOp;rw[ho];have:c.args.map a.eval=(c.args.toList.map a.eval).toArray:=by apply Array.ext';simp
   simp only[resolve,hc,this]
  rw[de];exact fq
end
end Go.V
