/- An evaluator of the translated code and that it is right: each of its answers is an answer of the model. -/
import Derived.Test.YtcbcifeaalkdfaaGreatDoorA2
import Derived.OrdersIn
set_option linter.unusedVariables false
set_option linter.unusedSimpArgs false
set_option linter.unusedSectionVars false
open Array renaming getElem?_append_left→Qv,size_map→uF,eq_empty_of_size_eq_zero→Oh,length_toList→Gf
open Bool renaming false_eq_true→Xb,not_false→Sb,and_eq_true→Ab
open Go renaming builtin→ep
open List renaming getElem?_eq_getElem→Da,range→mb,getElem?_toArray→qd,getElem?_cons_zero→Vh,getElem?_cons_succ→Zi,getElem?_append_left→Ja,getElem?_append_right→Oa,all_eq_true→ec,getElem?_of_mem→Ve,length_take→je,getElem?_take→Jb,getElem?_drop→Lc,append_assoc→Je,length_nil→Om,length_append→oe,eq_nil_of_length_eq_zero→Xt,mem_of_getElem?→Eb,getD→Qi
open Nat renaming add_assoc→Zf,add_zero→ug,le_refl→ya,add_mul→Nf,zero_add→Qf,mul_le_mul_right→Vc,zero_le→Ac,le_of_lt→js
open Option renaming bind_eq_some_iff→aa,map_some→Yd,map_eq_some_iff→ja
open Option.some renaming injEq→Wc
namespace Go.V
open Go
variable [Inhabited Rn]
section
variable {A:Oi}{g:Gx}{f:Fx}{w:World}{s:S}{a:Act}
theorem wo{H:AH}{x:AV}{xv:Value}{rows:List (List AV)}{sz:Nat}(h:rowsOf H x=some rows)(hw:Jc A.Na g w H)(hx:Cb g w x xv)(eg:∀row∈rows,row.length=sz):
  ∃ao cap cs,xv= .slice ao rows.length cap/\rows.length<=cap/\cs.size=rows.length * sz/\Gk g w sz rows cs/\(rows≠[]->ao≠none)/\(∀u∈cs.toList,u.oneCell'=true)/\∀(w':World),w'.heap=w.heap->(Builtin.firstCells sz rows.length xv).run A.P w'= .ok cs w':=by
 obtain⟨ao,cap,rfl,au,Wu⟩:=Gg h hw hx;by_cases td:rows=[]
 ·subst td;refine⟨ao,cap,#[],rfl,au,by simp,⟨by simp,λr row h=>by simp at h⟩,λh=>absurd rfl h,λu hu=>by simp at hu,λw' JI=> ?_⟩;cases ao with
  |none=>simp[Builtin.firstCells]
  |some ad=>simp[Builtin.firstCells,loadCells,loadCellsFrom]
 ·obtain⟨ad,Jy,rfl,hs,Rm⟩:=Wu td;have f_:Jy=sz:=by
   cases rows with
   |nil=>exact absurd rfl td
   |cons row rest=>rw[<- (Rm 0 row rfl).1];exact eg row (by simp)
  subst f_;have ei:∀(i c:Nat)(row:List AV)(x:AV),rows[i]?=some row->row[c]?=some x->∃v,w.cell? (ad.add (i * Jy+c))=some v/\v.oneCell'=true/\Cb g w x v:=λi c row x hi hx=>by
   obtain⟨v,e1,e2,e3⟩:=(Rm i row hi).2 c x hx;exact⟨v,by rw[Zl hs,Vg,<- Zf];exact e1,e2,e3⟩
  have Zt:∀j,j<rows.length * Jy->∃(row:List AV)(x:AV),rows[j/Jy]?=some row/\row[j%Jy]?=some x:=λj hj=>by
   have fg:0<Jy:=by rcases Nat.eq_zero_or_pos Jy with h|h;subst h;simp at hj;exact h
   have h1:j/Jy<rows.length:=(Nat.div_lt_iff_lt_mul fg).2 hj;have h2:j%Jy<Jy:=Nat.mod_lt _ fg;have hr:=Da h1;exact⟨_,_,hr,Da (by rw[(Rm _ _ hr).1];exact h2)⟩
  have hdm:∀j,j/Jy * Jy+j%Jy=j:=λj=>by rw[Nat.mul_comm];exact Nat.div_add_mod j Jy
  obtain⟨fv,cW⟩:∃fv:Nat->Value,∀j,j<rows.length * Jy->w.cell? (ad.add j)=some (fv j)/\(fv j).oneCell'=true:=⟨λj=>(w.cell? (ad.add j)).getD undef,λj hj=>by
   obtain⟨row,x,h1,h2⟩:=Zt j hj;obtain⟨v,e1,e2,_⟩:=ei _ _ row x h1 h2;rw[hdm]at e1;simp[e1,e2]⟩
  refine⟨some ad,cap,((mb (rows.length * Jy)).map fv).toArray,rfl,au,by simp,⟨by simp,λr row hr=>⟨(Rm r row hr).1,λc x hx=> ?_⟩⟩,λ_=>by simp,λu hu=> ?_,λw' JI=> ?_⟩
  ·obtain⟨v,e1,e2,e3⟩:=ei r c row x hr hx;have Mc:r * Jy+c<rows.length * Jy:=Ah (getElem?_lt' hr) (by have:=getElem?_lt' hx;rw[(Rm r row hr).1]at this;exact this);have:=(cW _ Mc).1;rw[e1]at this;simp at this;exact⟨v,by simp[Mc,this],e2,e3⟩
  ·simp at hu;obtain⟨j,hj,rfl⟩:=hu;exact(cW j hj).2
  ·have:=run_loadCells (P:=A.P) w' ad (rows.length * Jy) fv (λj hj=>by rw[cell_of_heap (w:=w) (by rw[JI])];exact(cW j hj).1);simp[Builtin.firstCells,this]
theorem jl{P:Program}{ts:Array TypeId}{t ty e:TypeId}{ad:Addr}{n m cap sz:Nat}{yv:Value}{news:Array Value}{w w':World}(Lp:ts[0]?=some t)(hu:P.underlying t=some (.slice e))
  (hz:∀u,ts[1]?=some u->∃d,P.underlying u=some d/\∀k,d≠ .int k) (eg:(sizeOf e).run P w= .ok sz w)
  (hlen:(Builtin.lenOf yv).run P w= .ok m w) (gf:(Builtin.firstCells sz m yv).run P w= .ok news w) (Kw:n+m<=cap) (Ec:(storeCells (ad.add (n * sz)) news.toList).run P w= .ok () w'):
  (Builtin.append_ ts ty #[.slice (some ad) n cap,yv]).run P w= .ok (.slice (some ad) (n+m) cap) w':=by
 simp only[Builtin.append_,Lp];simp only[qd,Vh,Zi,Sem.run_bind,run_underlying hu,Result.andThen_ok,eg];cases h1:ts[1]? with
 |none=>simp only[Sem.run_pure,Result.andThen_ok,Xb,if_false,hlen,if_pos Kw,Sb,if_true,Sem.run_bind,gf,Ec]
 |some u=>
  obtain⟨d,hd,td⟩:=hz u h1;simp only[Sem.run_bind,run_underlying hd,Result.andThen_ok];cases d<;>first
   |exact absurd rfl (td _)
   |simp only[Sem.run_pure,Result.andThen_ok,Xb,if_false,hlen,if_pos Kw,Sb,if_true,Sem.run_bind,gf,Ec]
theorem Pq{P:Program}{ts:Array TypeId}{t ty e:TypeId}{sz:Nat}{yv:Value}{news:Array Value}{w:World}(Lp:ts[0]?=some t)(hu:P.underlying t=some (.slice e))
  (hz:∀u,ts[1]?=some u->∃d,P.underlying u=some d/\∀k,d≠ .int k) (eg:(sizeOf e).run P w= .ok sz w)
  (hlen:(Builtin.lenOf yv).run P w= .ok 0 w) (gf:(Builtin.firstCells sz 0 yv).run P w= .ok news w):
  (Builtin.append_ ts ty #[.slice none 0 0,yv]).run P w= .ok (.slice none 0 0) w:=by
 simp only[Builtin.append_,Lp];simp only[qd,Vh,Zi,Sem.run_bind,run_underlying hu,Result.andThen_ok,eg];cases h1:ts[1]? with
 |none=>simp only[Sem.run_pure,Result.andThen_ok,Xb,if_false,hlen,ug,ya,if_true,Sb,Sem.run_bind,gf]
 |some u=>
  obtain⟨d,hd,td⟩:=hz u h1;simp only[Sem.run_bind,run_underlying hd,Result.andThen_ok];cases d<;>first
   |exact absurd rfl (td _)
   |simp only[Sem.run_pure,Result.andThen_ok,Xb,if_false,hlen,ug,ya,if_true,Sb,Sem.run_bind,gf]
theorem Rh{P : Program}{ts : Array TypeId}{t ty e : TypeId}{ao : Option Addr}{n m cap sz by_ : Nat}{yv zv : Value}{olds news : Array Value}{w : World}(Lp : ts[0]? = some t)(hu : P.underlying t = some (.slice e))
    (hz : ∀u, ts[1]? = some u → ∃d, P.underlying u = some d ∧ ∀k, d ≠ .int k) (eg : ∀w', (sizeOf e).run P w' = .ok sz w') (hby : ∃i, P.info? e = some i ∧ i.bytes = by_) (yO : ∀w', (zeroValue e).run P w' = .ok zv w')
    (hlen : (Builtin.lenOf yv).run P w = .ok m w) (hold : ∀w', w'.heap = w.heap → (Builtin.firstCells sz n (.slice ao n cap)).run P w' = .ok olds w') (gf : ∀w', w'.heap = w.heap → (Builtin.firstCells sz m yv).run P w' = .ok news w')
    (Kw : ¬n + m ≤ cap) (h63 : n + m < 9223372036854775808) (dW : Builtin.nextslicecap (n + m) cap * by_ ≤ 281474976710656) (Jax : by_ ≠ 0 ∨ True) :
    (Builtin.append_ ts ty #[.slice ao n cap, yv]).run P w =
      .ok (.slice (some ⟨w.heap.size, 0, none⟩) (n + m) (grownCap w (n + m) cap e)) (w.drew.alloc (.cells (olds ++ news ++ Builtin.zeroCells zv.cells (grownCap w (n + m) cap e - (n + m))) e)) := by
  obtain⟨i, hi, hib⟩ := hby
  have dG : ¬(((n + m : Nat) : Int) > IntKind.i64.max) := by
    have : IntKind.i64.max = 9223372036854775807 := by decide
    rw[this]; omega
  have jY : ¬(Builtin.nextslicecap (n + m) cap * i.bytes > 2 ^ 48) := by rw[hib]; omega
  have ho := hold w.drew rfl
  have hn := gf w.drew rfl
  have hch : (choose (.appendCap (n + m) cap e)).run P w = .ok (grownCap w (n + m) cap e) w.drew := by
    rw[run_choose]; rfl
  simp only[Builtin.append_, Lp]
  simp only[qd, Vh, Zi, Sem.run_bind, run_underlying hu, Result.andThen_ok, eg]
  cases h1 : ts[1]? with
  | none =>
    simp only[Sem.run_pure, Result.andThen_ok, Xb, if_false, hlen, if_neg Kw, dG, false_and, typeInfo, Sem.run_bind, run_program, hi, if_neg jY, hch, run_askRoom, ho, hn, Sb, if_true, yO, newRow, run_newObj]
    rfl
  | some u =>
    obtain⟨d, hd, td⟩ := hz u h1
    simp only[Sem.run_bind, run_underlying hd, Result.andThen_ok]
    cases d <;> first
      | exact absurd rfl (td _)
      | (simp only[Sem.run_pure, Result.andThen_ok, Xb, if_false, hlen, if_neg Kw, dG, false_and, typeInfo, Sem.run_bind, run_program, hi, if_neg jY, hch, run_askRoom, ho, hn, Sb, if_true, yO, newRow, run_newObj]
         rfl)
end
end Go.V
namespace Go.V
open Go
variable [Inhabited Rn]
section
variable {G:Nat->Option (List AV)}{g:Gx}{f:Fx}{w:World}{H:AH}{F:List (List AV)}
theorem RN{w':World}{b:Nat}{x:AB}{l:Loc}(hw:Jc G g w H)(hf:ze g f w H F)(hb:live g H b)(Th:H.wm<=b)
  (Nj:w'.heap.size=w.heap.size) (Ae:∀R,R≠(g.ρ b).R->w'.heap[R]?=w.heap[R]?) (hR:l.R=(g.ρ b).R)
  (hx:g.Le w (g.add H.bl.length l) w'->Xg (g.add H.bl.length l) w' l x) (OB:w'.os=w.os/\w'.output=w.output:=by first|exact⟨rfl,rfl⟩|assumption):
  Jc G (g.add H.bl.length l) w' (push (Qa H b .dead) x)/\ze (g.add H.bl.length l) f w' (push (Qa H b .dead) x) F/\Wg g f w H F (g.add H.bl.length l) f w' (push (Qa H b .dead) x) F:=by
 have hlen:(Qa H b .dead).bl.length=H.bl.length:=by simp[Qa]
 have hold:∀b,g.D b->(g.add H.bl.length l).ρ b=g.ρ b:=λb hb=>Gj (by have:=hw.Ff b hb;omega)
 have hle:g.Le w (g.add H.bl.length l) w':=⟨λb hb=>⟨.inl hb,hold b hb⟩,λR h=>⟨h,Ae R (λe=>hw.Dn hb (e ▸ h))⟩⟩;have van:∀b',g.D b'->b'<(Qa H b .dead).bl.length:=λb' Wd=>by rw[hlen];exact hw.Ff b' Wd
 have LO:∀b',live (g.add H.bl.length l) (push (Qa H b .dead) x) b'->b'=H.bl.length\/(b'≠b/\live g H b'):=λb' Wd=>by
  have:=Fw (g:=g) (H:=Qa H b .dead) (l:=l) (x:=x) (b:=b') van (by rw[hlen];exact Wd);rcases this with h|h
  ·left;rw[h,hlen]
  ·right;rcases xm h with⟨_,h'⟩|h'
   ·simp[Me]at h'
   ·exact h'
 have DF:∀R,Fp (g.add H.bl.length l) (push (Qa H b .dead) x) R->Fp g H R:=λR⟨b',Wd,e⟩=>by
  rcases LO b' Wd with rfl|⟨_,h⟩
  ·exact⟨b,hb,by rw[<- e,Ng,hR]⟩
  ·exact⟨b',h,by rw[<- e,hold b' h.1]⟩
 refine⟨⟨λi row hg=>(hw.Na i row hg).mono hle,λb' Wd=> ?_,λb' y hd hy=> ?_,λb1 b2 h1 h2 td=> ?_,λR h=>(hw.yF R h).le hle h⟩,
  ⟨hf.Ff,λi row hi hr=> ?_,hf.inj,λi hi h=>hf.apart i hi (DF _ h)⟩,?_⟩
 ·rcases Wd with Wd|rfl
  ·have:=hw.Ff b' Wd;simp[push,Qa];omega
  ·simp[push,Qa]
 ·rcases hd with hd|rfl
  ·have gD:=hw.Ff b' hd;rw[rm,if_pos (by rw[hlen];exact gD),Qj]at hy;rw[hold b' hd];split at hy
   ·rw[if_pos (by omega)]at hy;simp at hy;subst hy;trivial
   ·rename_i td;exact(hw.Kf b' y hd hy).le hle (λhl=>Ae _ (hw.inj b' b ⟨hd,y,hy,hl⟩ hb (λe=>td e.symm))) (λhl=>hw.Dn ⟨hd,y,hy,hl⟩)
  ·rw[rm,if_neg (by rw[hlen];omega),if_pos hlen.symm]at hy;simp at hy;subst hy;rw[Ng];exact hx hle
 ·rcases LO b1 h1 with rfl|⟨n1,l1⟩<;>rcases LO b2 h2 with rfl|⟨n2,l2⟩
  ·exact absurd rfl td
  ·rw[Ng,hold _ l2.1,hR];exact hw.inj b b2 hb l2 (λe=>n2 e.symm)
  ·rw[Ng,hold _ l1.1,hR];exact hw.inj b1 b l1 hb n1
  ·rw[hold _ l1.1,hold _ l2.1];exact hw.inj _ _ l1 l2 td
 ·obtain⟨cs,⟨T,fz,Ey,h4⟩,h5⟩:=hf.Kf i row hi hr;exact⟨cs,⟨T,fz,by rw[Ae _ (λe=>hf.apart i hi ⟨b,hb,e.symm⟩)];exact Ey,h4⟩,h5.mono hle⟩
 ·refine⟨λb hb=>⟨.inl hb,hold b hb⟩,λb hb=>hb.elim .inl (λe=> .inr (by omega)),λ_ h=>h,λ_ h=> .inl h,
   λR h=> .inl (DF R h),λ_ h=>⟨h,rfl⟩,λ_ h=> .inl h,λ_ h h'=>absurd h h',
   λR hR _ _=>Ae R (λe=>by rename_i hn _;exact hn ⟨b,hb,e.symm⟩),by rw[Nj];exact ya _,by simp[push,Qa],ya _,rfl,λb' Wd hl=> ?_,λb' Wd hv=>Ae _ (hw.inj b' b hv hb (by omega)),λ_ _=>Iff.rfl,λ_ h h'=>absurd h h',λi hi _=>Ae _ (λe=>hf.apart i hi ⟨b,hb,e.symm⟩),OB⟩
  rw[rm,if_pos (by rw[hlen];exact hl),Qj,if_neg (by omega)]
theorem wO{b:Nat}(hw:Jc G g w H)(hf:ze g f w H F)(hb:live g H b)(Th:H.wm<=b):
  Jc G g w (Qa H b .dead)/\ze g f w (Qa H b .dead) F/\Wg g f w H F g f w (Qa H b .dead) F:=
 Of hw hf hb Th rfl (λ_ _=>rfl) (λ_=>trivial)
end
section
variable {A:Oi}{g:Gx}{f:Fx}{w:World}{s:S}{a:Act}
theorem Gk.append{sz:Nat}{xs ys:List (List AV)}{cx cy rest:Array Value}(hx:Gk g w sz xs cx)(hy:Gk g w sz ys cy)(hcx:cx.size=xs.length * sz):Gk g w sz (xs++ys) (cx++cy++rest):=by
 have h1:=hx.1;have h2:=hy.1;refine⟨by simp[Nf];omega,λr row hr=> ?_⟩;by_cases Mc:r<xs.length
 ·rw[Ja Mc]at hr;obtain⟨hl,Gl⟩:=hx.2 r row hr;refine⟨hl,λc x BO=> ?_⟩;obtain⟨v,e1,e2,e3⟩:=Gl c x BO;have:r * sz+c<xs.length * sz:=Ah Mc (by have:=getElem?_lt' BO;omega);exact⟨v,by rw[Array.append_assoc,Qv (by omega)];exact e1,e2,e3⟩
 ·rw[Oa (by omega)]at hr;obtain⟨hl,Gl⟩:=hy.2 _ row hr;refine⟨hl,λc x BO=> ?_⟩;obtain⟨v,e1,e2,e3⟩:=Gl c x BO;have ZV:(r-xs.length) * sz+c<ys.length * sz:=Ah (getElem?_lt' hr) (by have:=getElem?_lt' BO;omega);have bj:r * sz=xs.length * sz+(r-xs.length) * sz:=by rw[<- Nf];congr 1;omega
  refine⟨v,?_,e2,e3⟩;rw[Array.append_assoc,Array.getElem?_append_right (by omega),Qv (by omega),<- e1];congr 1;omega
theorem Ly{bty:Option (TypeId×Nat)}{H1:AH}{rows:List (List AV)}{sz:Nat}{cs:Array Value}{t:TypeId}{w':World}{v:AV}{rv:Value}{r:Result Next}{g1:Gx}(OV:Jc A.Na g w H1)(hf1:ze g f w H1 s.F)(aj:Wg g f w s.H s.F g f w H1 s.F)
  (fg:0<sz) (hr:Gk g w sz rows cs) (CA:w'.heap=w.heap.push (.cells cs t (0,0)))
  (hv:Cb (g.add H1.bl.length ⟨w.heap.size,0,cs.size,sz⟩) w' v rv) (ue:r= .ok (.value rv) w') (jas:bty=some (t,1)\/bty=none) (OB:w'.os=w.os/\w'.output=w.output:=by first|exact⟨rfl,rfl⟩|assumption):
  HN A.Na g f w s { s with H:=push H1 (.cells rows sz bty) } (.v v) r:=by
 obtain⟨rv',w2,g2,f2,q0,q1,q2,q3,q4⟩:=nA (A:=A) (s:={ s with H:=H1 }) (fz:=(0,0)) OV hf1 fg hr CA (λoff _=>by simp) hv ue jas;exact⟨rv',w2,g2,f2,q0,q1,q2,aj.trans q3,q4⟩
theorem FK{ts:Array TypeId}{x y v:AV}{xv yv:Value}{H':AH}{ty:TypeId}{r:Result Next}(h:append A s.H ts x y=some (v,H'))(hw:Jc A.Na g w s.H)(hf:ze g f w s.H s.F)(hx:Cb g w x xv)(hy:Cb g w y yv)
  (ue:r=((do pure (.value (<- Builtin.append_ ts ty #[xv,yv]))):Sem Next).run A.P w):HN A.Na g f w s { s with H:=H' } (.v v) r:=by
 unfold append at h;simp only[aa]at h;obtain⟨t,Lp,e,he,z,hz,n,hn,_,hu1,xs,jt,ys,Zy,h⟩:=h;split at h
 case isFalse=>simp at h
 case isTrue hc=>
 obtain⟨nr,Dy,fg,eg,qj⟩:=hc;have hu:=Qt he;have hzero:∀u,ts[1]?=some u->∃d,A.P.underlying u=some d/\∀k,d≠ .int k:=λu h1=>by
  rw[h1]at hu1;simp only at hu1;split at hu1
  ·simp at hu1
  ·rename_i d td hd;exact⟨d,hd,λk e=>td k e⟩
  ·simp at hu1
 have vS:∀row∈ys,row.length=z.length:=λrow De=>by simpa using ec.1 qj row De
 obtain⟨i,hi,hib⟩:=lF hn;have yO:∃zv,∀w',(zeroValue e).run A.P w'= .ok zv w'/\zv.cells.size=z.length:=by
  unfold zero at hz;rw[hi]at hz;cases hzz:i.zero with
  |none=>simp[hzz]at hz
  |some zv=>
   simp[hzz]at hz;exact⟨zv,λw'=>⟨by simp[zeroValue,typeInfo,hi,hzz],by have:=(Kh (g:=g) (w:=w) hz).1;simpa using this⟩⟩
 obtain⟨zv,yO⟩:=yO;have QV:∀w',(sizeOf e).run A.P w'= .ok z.length w':=λw'=>Ld eg
 obtain⟨news,kr,eD,hrY,hcY,Nam⟩:∃news:Array Value,(Builtin.lenOf yv).run A.P w= .ok ys.length w/\(∀w',w'.heap=w.heap->(Builtin.firstCells z.length ys.length yv).run A.P w'= .ok news w')/\Gk g w z.length ys news/\news.size=ys.length * z.length/\∀u∈news.toList,u.oneCell'=true:=by
  split at Zy
  ·rename_i sb;simp at Zy;subst Zy;cases hy;have Tv:(Qc sb).length=sb.size:=by simp[Qc]
   rw[Tv];have Uaq:∀row∈Qc sb,row.length=1:=λrow hr=>by simp[Qc]at hr;obtain⟨b,_,rfl⟩:=hr;rfl
   have iag:(sb.extract 0 sb.size).data=sb.data:=by
    simp
   have Wu:∀(i:Nat)(b:UInt8),sb.data.toList[i]?=some b->(sb.data.map λb=>Value.int .u8 (b.toNat:Int))[0+i]?=some (.int .u8 (b.toNat:Int)):=λi b hb=>by
    simp at hb ⊢;exact⟨b,hb,rfl⟩
   refine⟨sb.data.map λb=> .int .u8 b.toNat,by simp[Builtin.lenOf],λw' _=>by simp[Builtin.firstCells,iag],?_⟩;by_cases td:Qc sb=[]
   ·have BZ:sb.size=0:=by rw[<- Tv,td];rfl
    rw[td];have:sb.data.size=0:=BZ;refine⟨⟨by simp,λr row hr=>by simp at hr⟩,by rw[BZ,Nat.zero_mul,uF];exact this,λu hu=>by simp at hu;obtain⟨b,_,rfl⟩:=hu;rfl⟩
   ·have MV:z.length=1:=by
     cases hr:Qc sb with
     |nil=>exact absurd hr td
     |cons row rest=>rw[<- vS row (by rw[hr];simp),Uaq row (by rw[hr];simp)]
    rw[MV];refine⟨⟨by rw[Tv];simp,λr row hr=> ?_⟩,by simp,λu hu=>by simp at hu;obtain⟨b,_,rfl⟩:=hu;rfl⟩;have:=my (g:=g) (w:=w) sb.data.toList _ 0 Wu r row hr
    simpa using this
  ·obtain⟨ao,cap,cs,rfl,q1,q2,q3,_,q4,q5⟩:=wo Zy hw hy vS;exact⟨cs,by simp[Builtin.lenOf],q5,q3,q2,q4⟩
 have au:∀MC Mk e,MC<=grownCap w MC Mk e:=λMC Mk e=>by simp[grownCap,Question.cut]
 by_cases hy0:ys.length=0
 ·
  rw[if_pos hy0]at h;simp at h;obtain⟨rfl,rfl⟩:=h;rw[hy0]at kr eD;obtain⟨ao,cap,rfl,hle,_⟩:=Gg jt hw hx;refine Jf hw hf (rv:= .slice ao xs.length cap) ?_ hx;rw[ue];have JO:news= #[]:=by apply Oh;rw[hcY,hy0];simp
  cases ao with
  |none=>
   have WV:∀q,Cb g w x (.slice none q cap)->q=0/\cap=0:=by
    intro q h;cases h with
    |Xa=>exact⟨rfl,rfl⟩
    |Dc=>simp[rowsOf]at jt
   have:=WV _ hx;rw[this.1,this.2];simp[Pq (ty:=ty) Lp hu hzero (QV w) kr (eD w rfl)]
  |some ad=>
   have:=jl (ty:=ty) (ad:=ad) (n:=xs.length) (cap:=cap) (w':=w) Lp hu hzero (QV w) kr (eD w rfl) (by omega) (by rw[JO];simp[storeCells]);simp[this]
 ·rw[if_neg hy0]at h;split at h
  ·
   simp at h;obtain⟨rfl,rfl⟩:=h;simp[rowsOf]at jt;subst jt;cases hx;have hgr:=Rh (ty:=ty) (ao:=none) (n:=0) (cap:=0) (olds:= #[]) Lp hu hzero QV ⟨i,hi,hib⟩ (λw'=>(yO w').1) kr (λw' _=>by simp[Builtin.firstCells]) eD (by omega) (by simpa using Dy)
    (growslice_fits (by omega) (by simp at nr ⊢;omega)) (.inr trivial)
   simp only[Qf,Array.empty_append]at hgr;have hc:=au ys.length 0 e;have hzs:=(yO w).2;have Nj:(news++Builtin.zeroCells zv.cells (grownCap w ys.length 0 e-ys.length)).size=grownCap w ys.length 0 e * z.length:=by
    simp only[Array.size_append,hcY,Builtin.zeroCells,uF,Array.size_range,hzs,<- Nf];congr 1;omega
   refine Ly (g1:=g) hw hf (.refl _ _ _ _ _) fg (rows:=ys) (cs:=news++Builtin.zeroCells zv.cells (grownCap w ys.length 0 e-ys.length)) (t:=e) (w':=w.drew.alloc (.cells (news++Builtin.zeroCells zv.cells (grownCap w ys.length 0 e-ys.length)) e)) ?_ rfl
    (Xn hc (by rw[Nj];exact ya _) (Vm (by omega))) (by rw[ue];simp[hgr]) (.inl rfl)
   have:=Gk.append (rest:=Builtin.zeroCells zv.cells (grownCap w ys.length 0 e-ys.length)) (xs:=[]) (cx:= #[]) ⟨by simp,λr row h=>by simp at h⟩ hrY (by simp)
   simpa using this
  ·
   simp at h;obtain⟨rfl,rfl⟩:=h;simp[rowsOf]at jt;subst jt;cases hx with
   |Ef ad0=>
   have hgr:=Rh (ty:=ty) (ao:=some ad0) (n:=0) (cap:=0) (olds:= #[]) Lp hu hzero QV ⟨i,hi,hib⟩ (λw'=>(yO w').1) kr (λw' _=>by simp[Builtin.firstCells,loadCells,loadCellsFrom]) eD (by omega) (by simpa using Dy)
    (growslice_fits (by omega) (by simp at nr ⊢;omega)) (.inr trivial)
   simp only[Qf,Array.empty_append]at hgr;have hc:=au ys.length 0 e;have hzs:=(yO w).2;have Nj:(news++Builtin.zeroCells zv.cells (grownCap w ys.length 0 e-ys.length)).size=grownCap w ys.length 0 e * z.length:=by
    simp only[Array.size_append,hcY,Builtin.zeroCells,uF,Array.size_range,hzs,<- Nf];congr 1;omega
   refine Ly (g1:=g) hw hf (.refl _ _ _ _ _) fg (rows:=ys) (cs:=news++Builtin.zeroCells zv.cells (grownCap w ys.length 0 e-ys.length)) (t:=e) (w':=w.drew.alloc (.cells (news++Builtin.zeroCells zv.cells (grownCap w ys.length 0 e-ys.length)) e)) ?_ rfl
    (Xn hc (by rw[Nj];exact ya _) (Vm (by omega))) (by rw[ue];simp[hgr]) (.inl rfl)
   have:=Gk.append (rest:=Builtin.zeroCells zv.cells (grownCap w ys.length 0 e-ys.length)) (xs:=[]) (cx:= #[]) ⟨by simp,λr row h=>by simp at h⟩ hrY (by simp)
   simpa using this
  ·rename_i b r0 k;split at h
   case isFalse=>simp at h
   case isTrue hk=>
   obtain⟨Th,DO⟩:=hk;simp at h;obtain⟨rfl,rfl⟩:=h;have Tv:∃xh AF,s.H.bl[b]?=some (.cells xh z.length AF)/\r0+k<=xh.length/\xs=(xh.drop r0).take k:=by
    unfold Qk at DO;split at DO
    ·rename_i xh sz0 AF EB;simp at DO;subst DO;simp only[rowsOf,EB]at jt;split at jt
     ·rename_i hle;simp at jt;exact⟨xh,AF,EB,hle,jt.symm⟩
     ·simp at jt
    ·simp at DO
   obtain⟨xh,AF,EB,gan,Baf⟩:=Tv;have Eaf:ZH s.H b=AF:=by simp[ZH,EB]
   rw[Eaf];have vam:mB AF e r0=some (e,1)\/mB AF e r0=none:=by
    unfold mB;split
    ·split<;>simp
    ·simp
   have hD:g.D b:=by cases hx<;>assumption
   have Oe:live g s.H b:=⟨hD,_,EB,rfl⟩;obtain⟨Qaq,_,kS,SO,oA,⟨T,fz,hR,hY,Tn,hZ⟩,de⟩:=hw.Kf b _ hD EB;have yA:xs.length=k:=by rw[Baf];simp;omega
   have Dan:∀row∈xs,row.length=z.length:=λrow De=>by
    rw[Baf]at De;obtain⟨q,hq⟩:=Ve (List.mem_of_mem_drop (List.mem_of_mem_take De));exact(de q row hq).1
   obtain⟨ao,cap,cx,sZ,q1,q2,q3,qne,q4,q5⟩:=wo jt hw hx Dan;by_cases Kw:xs.length+ys.length<=cap
   ·
    cases hx with
    |sR=>simp at sZ;obtain⟨_,_,rfl⟩:=sZ;omega
    |sl _ _ _ mG hd MZ Fau=>
     injection sZ with e1 e2 e3
     subst e1;subst e3;rw[kS]at *
     have cY:(r0+mG) * z.length=r0 * z.length+mG * z.length:=Nf _ _ _;have XV:(xs.length+ys.length) * z.length<=mG * z.length:=Vc _ Kw;have hm3:(xs.length+ys.length) * z.length=xs.length * z.length+ys.length * z.length:=Nf _ _ _;have Ec:=Sf A.P (g.ρ b).R ((g.ρ b).o+r0 * z.length+k * z.length) T fz news.toList 0 oA w hR (by simp;rw[hY];rw[<- yA];omega) (λj hj=>Tn _ (by simp at hj;rw[<- yA];omega)) Nam;simp only[ug]at Ec;have Gl:=jl (ty:=ty) (ad:=⟨(g.ρ b).R,(g.ρ b).o+r0 * z.length,none⟩) (n:=k) (cap:=mG) Lp hu hzero (QV w) kr (eD w rfl) (by omega) (by rw[Vg];exact Ec);generalize Paf:(oA.toList.take ((g.ρ b).o+r0 * z.length+k * z.length)++news.toList++oA.toList.drop ((g.ρ b).o+r0 * z.length+k * z.length+news.toList.length)).toArray=ncs at Gl;have hN:(g.ρ b).o+r0 * z.length+k * z.length<=oA.size:=by rw[hY,<- yA];omega
     have htk:(oA.toList.take ((g.ρ b).o+r0 * z.length+k * z.length)).length=(g.ρ b).o+r0 * z.length+k * z.length:=by
      rw[je,Gf];exact Nat.min_eq_left hN
     have mar:ncs.size=(g.ρ b).e:=by
      rw[<- Paf];simp;rw[hY,hcY,<- yA];omega
     obtain⟨p1,p2,p3⟩:=RN (w':=w.setRow (g.ρ b).R ncs) (l:=⟨(g.ρ b).R,(g.ρ b).o+r0 * z.length,(g.ρ b).e,z.length⟩) (x:= .cells (xs++ys) z.length (mB AF e r0)) hw hf Oe Th (setRow_size _ _ _) (λR td=>setRow_other _ _ _ _ td) rfl (λhle=>by
      refine⟨?_,fg,rfl,by simp;omega,ncs,⟨T,fz,setRow_heap w _ oA ncs T fz hR,mar,Tn,hZ⟩,λr row hr=> ?_⟩
      ·cases AF with
       |none=>trivial
       |some p=>
        obtain⟨T0,k0⟩:=p;unfold mB;simp only;split
        ·rename_i cas;obtain⟨rfl,rfl,dY⟩:=cas;obtain⟨⟨o8,fz0,hh0⟩,ho0,_⟩:=Qaq;exact⟨⟨ncs,fz0,setRow_heap w _ o8 ncs _ fz0 hh0⟩,λ_=>by simp[ho0 dY],λh=>by omega⟩
        ·trivial
      by_cases Mc:r<xs.length
      ·rw[Ja Mc]at hr;have Eo:=hr;rw[Baf,Jb,if_pos (by omega),Lc]at Eo;obtain⟨hl,hrel⟩:=de _ _ Eo;refine⟨hl,Lf.mono hle λc x hx=> ?_⟩;obtain⟨v,e1,e2,e3⟩:=hrel c x hx;refine⟨v,?_,e2,e3⟩;have ZZ:=getElem?_lt' hx;have ZV:r * z.length+c<k * z.length:=Ah (by omega) (by omega);have hm4:(r0+r) * z.length=r0 * z.length+r * z.length:=Nf _ _ _;rw[<- Paf];simp only[qd,Je];rw[Ja (by rw[htk];omega),Jb,if_pos (by omega)];rw[hm4]at e1
       simpa[Zf]using e1
      ·rw[Oa (by omega)]at hr;obtain⟨hl,hrel⟩:=hrY.2 _ row hr;refine⟨hl,Lf.mono hle λc x hx=> ?_⟩;obtain⟨v,e1,e2,e3⟩:=hrel c x hx;refine⟨v,?_,e2,e3⟩;have ZZ:=getElem?_lt' hx;have ZV:(r-xs.length) * z.length+c<ys.length * z.length:=Ah (getElem?_lt' hr) (by omega);have hm4:r * z.length=xs.length * z.length+(r-xs.length) * z.length:=by rw[<- Nf];congr 1;omega
       rw[<- Paf];simp only[qd,Je];rw[Oa (by rw[htk,<- yA];omega),htk,Ja (by simp;rw[hcY,<- yA];omega)];have Gar:(g.ρ b).o+(r0 * z.length+(r * z.length+c))-((g.ρ b).o+r0 * z.length+k * z.length)=(r-xs.length) * z.length+c:=by rw[<- yA];omega
       have e1':news.toList[(r-xs.length) * z.length+c]?=some v:=by simpa using e1
       rw[<- e1'];congr 1;simp only[Zf]at Gar ⊢;omega)
     refine⟨.slice (some ⟨(g.ρ b).R,(g.ρ b).o+r0 * z.length,none⟩) (k+ys.length) mG,w.setRow (g.ρ b).R ncs,_,f,.inl (by rw[ue];simp[Gl]),p1,p2,p3,?_⟩;have:=Cb.sl (g:=g.add s.H.bl.length ⟨(g.ρ b).R,(g.ρ b).o+r0 * z.length,(g.ρ b).e,z.length⟩) (w:=w.setRow (g.ρ b).R ncs) s.H.bl.length 0 (xs.length+ys.length) mG (.inr rfl) Kw (by rw[Ng];simp;omega) (by omega);rw[Ng]at this;simp only[Nat.zero_mul,ug]at this;rw[<- yA];exact this
   ·
    obtain⟨p1,p2,p3⟩:=wO hw hf Oe Th;have hgr:=Rh (ty:=ty) (ao:=ao) (n:=xs.length) (cap:=cap) (olds:=cx) Lp hu hzero QV ⟨i,hi,hib⟩ (λw'=>(yO w').1) kr (λw' JI=>by rw[<- sZ];exact q5 w' JI) eD Kw (by omega)
     (growslice_fits (by omega) (by omega)) (.inr trivial)
    have hc:=au (xs.length+ys.length) cap e;have hzs:=(yO w).2;have Nj:(cx++news++Builtin.zeroCells zv.cells (grownCap w (xs.length+ys.length) cap e-(xs.length+ys.length))).size=grownCap w (xs.length+ys.length) cap e * z.length:=by
     simp only[Array.size_append,q2,hcY,Builtin.zeroCells,uF,Array.size_range,hzs,<- Nf];congr 1;omega
    have hln:s.H.bl.length=(Qa s.H b .dead).bl.length:=by simp[Qa]
    rw[hln];refine Ly (g1:=g) (H1:=Qa s.H b .dead) p1 p2 p3 fg (rows:=xs++ys) (cs:=cx++news++Builtin.zeroCells zv.cells (grownCap w (xs.length+ys.length) cap e-(xs.length+ys.length))) (t:=e) (w':=w.drew.alloc (.cells (cx++news++Builtin.zeroCells zv.cells (grownCap w (xs.length+ys.length) cap e-(xs.length+ys.length))) e)) (q3.append hrY q2) rfl
     (Xn hc (by rw[Nj];exact ya _) (Vm (by omega))) (by rw[ue,sZ];simp[hgr]) vam
  ·simp at h
end
end Go.V
namespace Go.V
open Go
variable [Inhabited Rn]
section
variable {A:Oi}{g:Gx}{f:Fx}{w:World}{s:S}{a:Act}
def SK(g:Gx)(w:World):List (AV×AV)->List MapEntry->Prop
 |[],[]=>True
 |(k,x)::es,e::Mg=>AV.isKey k=true/\Cb g w k e.key/\Cb g w x e.val/\SK g w es Mg
 |_,_=>False
theorem Ot{g:Gx}{w:World}:∀{es:List (AV×AV)}{Mg:List MapEntry},SK g w es Mg↔Mg.length=es.length/\∀(i:Nat)(k x:AV)(e:MapEntry),es[i]?=some (k,x)->Mg[i]?=some e->AV.isKey k=true/\Cb g w k e.key/\Cb g w x e.val
 |[],[]=>⟨λ_=>⟨rfl,λi k x e h=>by simp at h⟩,λ_=>trivial⟩
 |(k,x)::es,e::Mg=>by
  simp only[SK,Ot (es:=es) (Mg:=Mg)];constructor
  ·rintro⟨h1,h2,h3,h4,h5⟩
   refine⟨by simp[h4],λi k' x' e' hi hj=> ?_⟩;cases i with
   |zero=>simp at hi hj;obtain⟨rfl,rfl⟩:=hi;subst hj;exact⟨h1,h2,h3⟩
   |succ i=>exact h5 i k' x' e' (by simpa using hi) (by simpa using hj)
  ·rintro⟨h4,h5⟩
   obtain⟨h1,h2,h3⟩:=h5 0 k x e rfl rfl;exact⟨h1,h2,h3,by simpa using h4,λi k' x' e' hi hj=>h5 (i+1) k' x' e' (by simpa using hi) (by simpa using hj)⟩
 |[],_::_=>⟨λh=>h.elim,λh=>by simp at h⟩
 |_::_,[]=>⟨λh=>h.elim,λh=>by simp at h⟩
theorem gr{k k':AV}{kv kv':Value}{b:Bool}{d:TypeDesc}{t:TypeId}(h:TC k k'=some b)(hk:Cb g w k kv)(YL:Cb g w k' kv')(Xi:Mj A t k=true)(hd:A.P.underlying t=some d):
  Instr.sameNow d kv kv'=some b/\(b=true->Instr.sameBits 10000 kv' kv=true):=by
 unfold Mj at Xi;rw[hd]at Xi;unfold TC at h;split at h
 ·rename_i q x q' y;split at h
  case isFalse=>simp at h
  case isTrue e=>
   subst e;simp at h;subst h;cases hk;cases YL;split at Xi
   ·rename_i hh _;simp at hh;subst hh;refine⟨by simp[Instr.sameNow,BEq.beq],λhb=> ?_⟩;have:x=y:=by simpa using hb
    subst this;simp[Instr.sameBits]
   ·rename_i h1 h2;simp at h2
   ·simp at Xi
 ·rename_i x y;simp at h;subst h;cases hk;cases YL;split at Xi
  ·rename_i h1 h2;simp at h2
  ·rename_i hh _;simp at hh;subst hh;refine⟨by simp[Instr.sameNow],λhb=> ?_⟩;rw[beq_toListBytes]at hb;have Wd:x.toList=y.toList:=by simpa using hb
   simp[Instr.sameBits,beq_toListBytes,Wd]
  ·simp at Xi
 ·simp at h
theorem mD{k:AV}{kv:Value}{d:TypeDesc}{t:TypeId}(hk:Cb g w k kv)(Xi:Mj A t k=true)(hd:A.P.underlying t=some d):∀{es:List (AV×AV)}{Mg:List MapEntry}{r:Option AV}(i0:Nat),lj k es=some r->SK g w es Mg->
  (r=none/\Instr.findNow d kv Mg i0=some none)\/∃x i v,r=some x/\Instr.findNow d kv Mg i0=some (some (i0+i,v))/\Cb g w x v
 |[],[],r,i0,h,_=>by simp[lj]at h;subst h;exact .inl ⟨rfl,rfl⟩
 |(k',x)::es,e::Mg,r,i0,h,he=>by
  obtain⟨h1,h2,h3,h4⟩:=he;simp only[lj,aa]at h;obtain⟨b,hb,h⟩:=h;obtain⟨hs,_⟩:=gr hb hk h2 Xi hd;cases b with
  |true=>
   simp at h;subst h;exact .inr ⟨x,0,e.val,rfl,by simp[Instr.findNow,hs],h3⟩
  |false=>
   simp only at h;rcases mD hk Xi hd (i0+1) h h4 with⟨rfl,hf⟩|⟨x',i,v,rfl,hf,hv⟩
   ·exact .inl ⟨rfl,by simp[Instr.findNow,hs,hf]⟩
   ·exact .inr ⟨x',i+1,v,rfl,by simp[Instr.findNow,hs,hf];omega,hv⟩
 |[],_::_,_,_,_,he=>he.elim
 |_::_,[],_,_,_,he=>by cases ‹AV×AV›;exact he.elim
theorem Ig{e:Bool}{t:TypeId}{k:AV}{kv:Value}(Xi:Mj A t k=true)(hk:Cb g w k kv):(Instr.checkKey e 10000 t kv).run A.P w= .ok () w:=by
 unfold Mj at Xi;have h10:(10000:Nat)=9999+1:=rfl;rw[h10];generalize 9999=n;split at Xi
 ·rename_i hu;cases hk;simp[Instr.checkKey,run_underlying hu]
 ·rename_i hu;cases hk;simp[Instr.checkKey,run_underlying hu]
 ·simp at Xi
theorem Iw{t:TypeId}{k:AV}(Xi:Mj A t k=true):∃d,A.P.underlying t=some d:=by
 unfold Mj at Xi;split at Xi
 ·rename_i hu;exact⟨_,hu⟩
 ·rename_i hu;exact⟨_,hu⟩
 ·simp at Xi
theorem rM{t:TypeId}{k:AV}{kv:Value}{es:List (AV×AV)}{Mg:List MapEntry}{r:Option AV}(hk:Cb g w k kv)(Xi:Mj A t k=true)(h:lj k es=some r)(he:SK g w es Mg):
  (r=none/\(Instr.findKey t kv Mg).run A.P w= .ok none w)\/∃x i v,r=some x/\(Instr.findKey t kv Mg).run A.P w= .ok (some (i,v)) w/\Cb g w x v:=by
 obtain⟨d,hd⟩:=Iw Xi;rcases mD hk Xi hd 0 h he with⟨rfl,hf⟩|⟨x,i,v,rfl,hf,hv⟩
 ·exact .inl ⟨rfl,by simp[Instr.findKey,run_underlying hd,hf]⟩
 ·exact .inr ⟨x,0+i,v,rfl,by simp[Instr.findKey,run_underlying hd,hf],hv⟩
theorem tA{H:AH}{m:AV}{mv:Value}{es:List (AV×AV)}(h:mapOf H m=some es)(hw:Jc A.Na g w H)(hm:Cb g w m mv):
  (mv= .map none/\es=[])\/∃r Mg clock,mv= .map (some r)/\w.heap[r]?=some (.map Mg clock)/\SK g w es Mg.toList:=by
 unfold mapOf at h;split at h
 ·simp at h;subst h;cases hm;exact .inl ⟨rfl,rfl⟩
 ·rename_i b;split at h
  ·rename_i ie hb;simp at h;subst h;cases hm with
   |mp _ hd=>
    obtain⟨Mg,clock,hR,hZ,hl,hrel⟩:=hw.Kf b _ hd hb;exact .inr ⟨_,Mg,clock,rfl,hR,Ot.2 ⟨by simpa using hl,λi k x e hi he=>hrel i k x e hi (by simpa using he)⟩⟩
  ·simp at h
 ·simp at h
theorem gA{t:TypeId}{x:AV}(h:zeroV A t=some x):∃v,(zeroValue t).run A.P w= .ok v w/\Cb g w x v:=by
 unfold zeroV at h;cases hi:A.P.info? t with
 |none=>simp[hi]at h
 |some i=>
  simp only[hi,Yd]at h;cases hz:i.zero with
  |none=>simp[hz]at h
  |some v=>
   have ue:(zeroValue t).run A.P w= .ok v w:=by simp[zeroValue,typeInfo,hi,hz]
   refine⟨v,ue,?_⟩;rw[hz]at h;split at h
   ·rename_i cs heq;simp at heq;subst heq;simp only[ja]at h;obtain⟨l,hl,rfl⟩:=h;obtain⟨c1,c2,c3⟩:=Kh (g:=g) (w:=w) hl;exact Ay.agg ⟨by simpa using c1,qm (by simpa using c1) c2 c3⟩
   ·rename_i v' _ heq;simp at heq;subst heq;exact Qn h
   ·simp at h
theorem Dw{t:TypeId}{m k v:AV}{mv kv:Value}{ok:Bool}(h:lookup A s.H t m k ok=some v)(hw:Jc A.Na g w s.H)(hm:Cb g w m mv)(hk:Cb g w k kv):
  ∃rv,(Instr.lookup t mv kv ok).run A.P w= .ok rv w/\Cb g w v rv:=by
 unfold lookup at h;split at h
 case h_2=>simp at h
 case h_1 kt et hu=>
 split at h
 case isFalse=>simp at h
 case isTrue Xi=>
 simp only[aa]at h;obtain⟨es,XZ,r,hr,⟨x,b⟩,uB,h⟩:=h;simp at h;subst h;have CB:∀xv,Cb g w x xv->Cb g w (if ok=true then AV.Re [x,.bool b]else x) (if ok=true then .tuple #[xv,.bool b]else xv):=λxv hx=>by
  cases ok with
  |true=>
   refine .Re _ [xv,.bool b] rfl (λi y u hy hu=> ?_)
   match i with
   |0=>simp at hy hu;subst hy;subst hu;exact hx
   |1=>simp at hy hu;subst hy;subst hu;exact .bool b
   |i+2=>simp at hy
  |false=>exact hx
 rcases tA XZ hw hm with⟨rfl,rfl⟩|⟨q,Mg,clock,rfl,hR,he⟩
 ·simp[lj]at hr;subst hr;simp only[ja]at uB;obtain⟨z,hz,uB⟩:=uB;simp at uB;obtain⟨rfl,rfl⟩:=uB;obtain⟨zv,TX,yO⟩:=gA (g:=g) (w:=w) hz;have hf:(Instr.findKey kt kv []).run A.P w= .ok none w:=by
   obtain⟨d,hd⟩:=Iw Xi;simp[Instr.findKey,run_underlying hd,Instr.findNow]
  refine⟨_,?_,CB zv yO⟩;simp only[Instr.lookup,Sem.run_bind,run_underlying hu,Result.andThen_ok,Sem.run_pure,Ig Xi hk,List.toList_toArray,hf,TX]
 ·have yq:(getObj q).run A.P w= .ok (.map Mg clock) w:=by simp[getObj,Sem.run,hR]
  rcases rM hk Xi hr he with⟨rfl,hf⟩|⟨x',i,v,rfl,hf,hv⟩
  ·simp only[ja]at uB;obtain⟨z,hz,uB⟩:=uB;simp at uB;obtain⟨rfl,rfl⟩:=uB;obtain⟨zv,TX,yO⟩:=gA (g:=g) (w:=w) hz;refine⟨_,?_,CB zv yO⟩;simp only[Instr.lookup,Sem.run_bind,run_underlying hu,Result.andThen_ok,Sem.run_pure,yq,Ig Xi hk,hf,TX]
  ·simp at uB;obtain⟨rfl,rfl⟩:=uB;refine⟨_,?_,CB v hv⟩;simp only[Instr.lookup,Sem.run_bind,run_underlying hu,Result.andThen_ok,Sem.run_pure,yq,Ig Xi hk,hf]
theorem HG{k x:AV}{kv xv:Value}{d:TypeDesc}{t:TypeId}(hk:Cb g w k kv)(hx:Cb g w x xv)(Xi:Mj A t k=true)(hd:A.P.underlying t=some d):∀{es ie:List (AV×AV)}{Mg:List MapEntry}(i0:Nat),Dp k x es=some ie->SK g w es Mg->
  (Instr.findNow d kv Mg i0=some none/\∀born,SK g w ie (Mg++[{ key:=kv,val:=xv,born }]))\/
  ∃i v e,Instr.findNow d kv Mg i0=some (some (i0+i,v))/\Mg[i]?=some e/\Instr.sameBits 10000 e.key kv=true/\SK g w ie (Mg.modify i λe=>{ e with key:=kv,val:=xv })
 |[],ie,[],i0,h,_=>by
  simp[Dp]at h;subst h;have hkk:AV.isKey k=true:=by unfold Mj at Xi;split at Xi<;>first|rfl|simp at Xi
  exact .inl ⟨rfl,λborn=>⟨hkk,hk,hx,trivial⟩⟩
 |(k',y)::es,ie,e::Mg,i0,h,he=>by
  obtain⟨h1,h2,h3,h4⟩:=he;have hkk:AV.isKey k=true:=by unfold Mj at Xi;split at Xi<;>first|rfl|simp at Xi
  simp only[Dp,aa]at h;obtain⟨b,hb,h⟩:=h;obtain⟨hs,tS⟩:=gr hb hk h2 Xi hd;cases b with
  |true=>
   simp at h;subst h;exact .inr ⟨0,e.val,e,by simp[Instr.findNow,hs],rfl,tS rfl,⟨hkk,hk,hx,h4⟩⟩
  |false=>
   simp only[ja]at h;obtain⟨Nas,XZ,rfl⟩:=h;rcases HG hk hx Xi hd (i0+1) XZ h4 with⟨hf,hr⟩|⟨i,v,e',hf,hi,qag,hr⟩
   ·exact .inl ⟨by simp[Instr.findNow,hs,hf],λborn=>⟨h1,h2,h3,hr born⟩⟩
   ·refine .inr ⟨i+1,v,e',by simp[Instr.findNow,hs,hf];omega,by simpa using hi,qag,?_⟩;simp only[List.modify_succ_cons];exact⟨h1,h2,h3,hr⟩
 |[],_,_::_,_,_,he=>he.elim
 |_::_,_,[],_,_,he=>by cases ‹AV×AV›;exact he.elim
theorem FH{k:AV}{kv:Value}{d:TypeDesc}{t:TypeId}(hk:Cb g w k kv)(Xi:Mj A t k=true)(hd:A.P.underlying t=some d):∀{es ie:List (AV×AV)}{Mg:List MapEntry}(i0:Nat),Gp k es=some ie->SK g w es Mg->
  (Instr.findNow d kv Mg i0=some none/\SK g w ie Mg)\/
  ∃i v,Instr.findNow d kv Mg i0=some (some (i0+i,v))/\i<Mg.length/\SK g w ie (Mg.eraseIdx i)
 |[],ie,[],i0,h,_=>by simp[Gp]at h;subst h;exact .inl ⟨rfl,trivial⟩
 |(k',y)::es,ie,e::Mg,i0,h,he=>by
  obtain⟨h1,h2,h3,h4⟩:=he;simp only[Gp,aa]at h;obtain⟨b,hb,h⟩:=h;obtain⟨hs,tS⟩:=gr hb hk h2 Xi hd;cases b with
  |true=>
   simp at h;subst h;exact .inr ⟨0,e.val,by simp[Instr.findNow,hs],by simp,by simpa using h4⟩
  |false=>
   simp only[ja]at h;obtain⟨Nas,XZ,rfl⟩:=h;rcases FH hk Xi hd (i0+1) XZ h4 with⟨hf,hr⟩|⟨i,v,hf,hi,hr⟩
   ·exact .inl ⟨by simp[Instr.findNow,hs,hf],h1,h2,h3,hr⟩
   ·exact .inr ⟨i+1,v,by simp[Instr.findNow,hs,hf];omega,by simpa using hi,h1,h2,h3,hr⟩
 |[],_,_::_,_,_,he=>he.elim
 |_::_,_,[],_,_,he=>by cases ‹AV×AV›;exact he.elim
theorem SK.mono{g g':Gx}{w w':World}(hle:g.Le w g' w'):∀{es:List (AV×AV)}{Mg:List MapEntry},SK g w es Mg->SK g' w' es Mg
 |[],[],_=>trivial
 |(k,x)::es,e::Mg,⟨h1,h2,h3,h4⟩=>⟨h1,h2.mono hle,h3.mono hle,h4.mono hle⟩
 |[],_::_,h=>h.elim
 |_::_,[],h=>by cases ‹AV×AV›;exact h.elim
theorem Xs{b:Nat}{es ie:List (AV×AV)}{Mg wK:Array MapEntry}{clock clock':Nat}(hw:Jc A.Na g w s.H)(hf:ze g f w s.H s.F)(hd:g.D b)(hb:s.H.bl[b]?=some (.map es))(Th:s.H.wm<=b)
  (hR:w.heap[(g.ρ b).R]?=some (.map Mg clock)) (he:SK g w ie wK.toList):
  Jc A.Na g { w with heap:=w.heap.setIfInBounds (g.ρ b).R (.map wK clock') } (Qa s.H b (.map ie))/\ze g f { w with heap:=w.heap.setIfInBounds (g.ρ b).R (.map wK clock') } (Qa s.H b (.map ie)) s.F/\
   Wg g f w s.H s.F g f { w with heap:=w.heap.setIfInBounds (g.ρ b).R (.map wK clock') } (Qa s.H b (.map ie)) s.F:=by
 have Mc:=Za hR;have Oe:live g s.H b:=⟨hd,_,hb,rfl⟩;refine Of hw hf Oe Th (by simp) (λR td=>by simp[Array.getElem?_setIfInBounds,Ne.symm td]) (λhle=> ?_);obtain⟨h1,h2⟩:=Ot.1 (he.mono hle);exact⟨wK,clock',by simp[Mc],hw.Dn Oe,by simpa using h1,λi k x e hi hc=>h2 i k x e hi (by simpa using hc)⟩
theorem mq{t:TypeId}{m k x:AV}{mv kv xv:Value}{H':AH}(h:mapUpdate A s.H t m k x=some H')(hw:Jc A.Na g w s.H)(hf:ze g f w s.H s.F)(hm:Cb g w m mv)(hk:Cb g w k kv)(hx:Cb g w x xv):
  ∃w',(Instr.mapUpdate t mv kv xv).run A.P w= .ok () w'/\Jc A.Na g w' H'/\ze g f w' H' s.F/\Wg g f w s.H s.F g f w' H' s.F:=by
 unfold mapUpdate at h;split at h
 case h_2=>simp at h
 case h_1 kt et b hu=>
 split at h
 case isFalse=>simp at h
 case isTrue hc=>
 simp only[Ab,decide_eq_true_eq]at hc;obtain⟨Xi,Th⟩:=hc;split at h
 case h_2=>simp at h
 case h_1 es hb=>
 simp only[ja]at h;obtain⟨ie,XZ,rfl⟩:=h;cases hm with
 |mp _ hd=>
 obtain⟨Mg,clock,hR,hZ,hl,hrel⟩:=hw.Kf b _ hd hb;have hER:SK g w es Mg.toList:=Ot.2 ⟨by simpa using hl,λi k x e hi he=>hrel i k x e hi (by simpa using he)⟩;obtain⟨d,hdd⟩:=Iw Xi;have yq:(getObj (g.ρ b).R).run A.P w= .ok (.map Mg clock) w:=by simp[getObj,Sem.run,hR]
 have Uk:∀o:Obj,(setObj (g.ρ b).R o).run A.P w= .ok () { w with heap:=w.heap.setIfInBounds (g.ρ b).R o }:=λo=>by simp[setObj,Sem.run,hR]
 rcases HG hk hx Xi hdd 0 XZ hER with⟨QO,hr⟩|⟨i,v,e,QO,hi,tS,hr⟩
 ·have hfk:(Instr.findKey kt kv Mg.toList).run A.P w= .ok none w:=by simp[Instr.findKey,run_underlying hdd,QO]
  refine⟨_,?_,Xs (wK:=Mg.push { key:=kv,val:=xv,born:=clock }) (clock':=clock+1) hw hf hd hb Th hR (by simpa using hr clock)⟩;simp only[Instr.mapUpdate,Sem.run_bind,run_underlying hu,Result.andThen_ok,yq,Ig Xi hk,hfk,Uk]
 ·have hfk:(Instr.findKey kt kv Mg.toList).run A.P w= .ok (some (i,v)) w:=by simp[Instr.findKey,run_underlying hdd,QO]
  have bG:(Instr.keyThatStays (((Mg[i]?).map (·.key)).getD kv) kv).run A.P w= .ok kv w:=by
   have:Mg[i]?=some e:=by simpa using hi
   simp[Instr.keyThatStays,this,tS]
  refine⟨_,?_,Xs (wK:=Mg.modify i λe=>{ e with key:=kv,val:=xv }) (clock':=clock) hw hf hd hb Th hR (by simpa using hr)⟩;simp only[Instr.mapUpdate,Sem.run_bind,run_underlying hu,Result.andThen_ok,yq,Ig Xi hk,hfk,bG,Uk]
theorem oB{ts:Array TypeId}{t ty:TypeId}{m k:AV}{mv kv:Value}{H':AH}(Lp:ts[0]?=some t)(h:lg A s.H t m k=some H')(hw:Jc A.Na g w s.H)(hf:ze g f w s.H s.F)(hm:Cb g w m mv)(hk:Cb g w k kv):
  ∃w',(Builtin.delete_ ts ty #[mv,kv]).run A.P w= .ok (.tuple #[]) w'/\Jc A.Na g w' H'/\ze g f w' H' s.F/\Wg g f w s.H s.F g f w' H' s.F:=by
 unfold lg at h;split at h
 ·rename_i kt et hu;split at h
  case isFalse=>simp at h
  case isTrue Xi=>
  simp at h;subst h;cases hm;refine⟨w,?_,hw,hf,.refl _ _ _ _ _⟩;simp[Builtin.delete_,Lp,run_underlying hu,Ig Xi hk]
 ·rename_i kt et b hu;split at h
  case isFalse=>simp at h
  case isTrue hc=>
  simp only[Ab,decide_eq_true_eq]at hc;obtain⟨Xi,Th⟩:=hc;split at h
  case h_2=>simp at h
  case h_1 es hb=>
  simp only[ja]at h;obtain⟨ie,XZ,rfl⟩:=h;cases hm with
  |mp _ hd=>
  obtain⟨Mg,clock,hR,hZ,hl,hrel⟩:=hw.Kf b _ hd hb;have hER:SK g w es Mg.toList:=Ot.2 ⟨by simpa using hl,λi k x e hi he=>hrel i k x e hi (by simpa using he)⟩;obtain⟨d,hdd⟩:=Iw Xi;have yq:(getObj (g.ρ b).R).run A.P w= .ok (.map Mg clock) w:=by simp[getObj,Sem.run,hR]
  have Uk:∀o:Obj,(setObj (g.ρ b).R o).run A.P w= .ok () { w with heap:=w.heap.setIfInBounds (g.ρ b).R o }:=λo=>by simp[setObj,Sem.run,hR]
  rcases FH hk Xi hdd 0 XZ hER with⟨QO,hr⟩|⟨i,v,QO,hi,hr⟩
  ·have hfk:(Instr.findKey kt kv Mg.toList).run A.P w= .ok none w:=by simp[Instr.findKey,run_underlying hdd,QO]
   refine⟨_,?_,Xs (wK:=Mg) (clock':=clock) hw hf hd hb Th hR hr⟩;simp only[Builtin.delete_,Lp,qd,Vh,Zi,Sem.run_bind,run_underlying hu,Result.andThen_ok,yq,Ig Xi hk,hfk,Uk,Sem.run_pure]
  ·have hfk:(Instr.findKey kt kv Mg.toList).run A.P w= .ok (some (i,v)) w:=by simp[Instr.findKey,run_underlying hdd,QO]
   have hil:i<Mg.size:=by simpa using hi
   refine⟨_,?_,Xs (wK:=Mg.eraseIdxIfInBounds i) (clock':=clock) hw hf hd hb Th hR (by simpa[Array.eraseIdxIfInBounds,hil]using hr)⟩;simp only[Builtin.delete_,Lp,qd,Vh,Zi,Sem.run_bind,run_underlying hu,Result.andThen_ok,yq,Ig Xi hk,hfk,Uk,Sem.run_pure]
 ·simp at h
end
end Go.V
namespace Go.V
open Go
variable [Inhabited Rn]
section
variable {A:Oi}{g:Gx}{f:Fx}{w:World}{s:S}{a:Act}
theorem Zu{fn:AV->AV->Option AV}{gn:Value->Value->Sem Value}(BB:∀(x y z:AV)(xv yv:Value),fn x y=some z->Cb g w x xv->Cb g w y yv->∃zv,(gn xv yv).run A.P w= .ok zv w/\Cb g w z zv):
  ∀{ys:List AV}{yv:List Value}{x z:AV}{xv:Value},zm fn x ys=some z->Cb g w x xv->yv.length=ys.length->(∀(i:Nat)(y:AV)(v:Value),ys[i]?=some y->yv[i]?=some v->Cb g w y v)->∃zv,(yv.foldlM gn xv).run A.P w= .ok zv w/\Cb g w z zv
 |[],[],x,z,xv,h,hx,_,_=>by simp[zm]at h;subst h;exact⟨xv,by simp,hx⟩
 |y::ys,v::yv,x,z,xv,h,hx,hl,hr=>by
  simp only[zm,aa]at h;obtain⟨q,hq,h⟩:=h;obtain⟨qv,hqv,hqr⟩:=BB x y q xv v hq hx (hr 0 y v rfl rfl);obtain⟨zv,h1,h2⟩:=Zu BB h hqr (by simpa using hl) (λi y' v' hy hv=>hr (i+1) y' v' (by simpa using hy) (by simpa using hv));exact⟨zv,by simp[List.foldlM_cons,hqv,h1],h2⟩
 |[],_::_,_,_,_,_,_,hl,_=>by simp at hl
 |_::_,[],_,_,_,_,_,hl,_=>by simp at hl
theorem wL(x y z:AV)(xv yv:Value)(h:xL x y=some z)(hx:Cb g w x xv)(hy:Cb g w y yv):∃zv,(Builtin.max2 xv yv).run A.P w= .ok zv w/\Cb g w z zv:=by
 unfold xL at h;split at h
 ·simp at h;subst h;cases hx;cases hy;exact⟨_,by simp[Builtin.max2],.int _ _⟩
 ·simp at h
theorem uL(x y z:AV)(xv yv:Value)(h:vL x y=some z)(hx:Cb g w x xv)(hy:Cb g w y yv):∃zv,(Builtin.min2 xv yv).run A.P w= .ok zv w/\Cb g w z zv:=by
 unfold vL at h;split at h
 ·simp at h;subst h;cases hx;cases hy;exact⟨_,by simp[Builtin.min2],.int _ _⟩
 ·simp at h
theorem Yz{sz:Nat}{rows new:List (List AV)}{cs:Array Value}{base r:Nat}{vs:List Value}(hlen:vs.length=new.length * sz)(dW:r+new.length<=rows.length)(Kj:base+rows.length * sz<=cs.size)
  (hold:∀(i:Nat)(row:List AV),rows[i]?=some row->row.length=sz/\Lf g w cs (base+i * sz) row) (gf:Gk g w sz new vs.toArray):
  ∀(i:Nat)(row:List AV),(rows.take r++(new++rows.drop (r+new.length)))[i]?=some row->row.length=sz/\Lf g w (cs.toList.take (base+r * sz)++vs++cs.toList.drop (base+r * sz+vs.length)).toArray (base+i * sz) row:=by
 intro i row hi;have cY:(r+new.length) * sz=r * sz+new.length * sz:=Nf _ _ _;have XV:(r+new.length) * sz<=rows.length * sz:=Vc _ dW;have htk:(cs.toList.take (base+r * sz)).length=base+r * sz:=by rw[je,Gf];omega
 have VG:(rows.take r).length=r:=by rw[je];omega
 by_cases h1:i<r
 ·rw[Ja (by omega),Jb,if_pos h1]at hi;obtain⟨hl,hr⟩:=hold i row hi;refine⟨hl,λc x hx=> ?_⟩;obtain⟨v,e1,e2,e3⟩:=hr c x hx;have Mc:i * sz+c<r * sz:=Ah h1 (by have:=getElem?_lt' hx;omega);refine⟨v,?_,e2,e3⟩;simp only[qd,Je];rw[Ja (by omega),Jb,if_pos (by omega)];simpa using e1
 ·rw[Oa (by omega),VG]at hi;by_cases h2:i-r<new.length
  ·rw[Ja h2]at hi;obtain⟨hl,hr⟩:=gf.2 _ row hi;refine⟨hl,λc x hx=> ?_⟩;obtain⟨v,e1,e2,e3⟩:=hr c x hx;have Mc:(i-r) * sz+c<new.length * sz:=Ah h2 (by have:=getElem?_lt' hx;omega);have BA:i * sz=r * sz+(i-r) * sz:=by rw[<- Nf];congr 1;omega
   refine⟨v,?_,e2,e3⟩;simp only[qd,Je]at e1 ⊢;rw[Oa (by omega),htk,Ja (by omega),<- e1];congr 1;omega
  ·rw[Oa (by omega),Lc]at hi;have hii:r+new.length+(i-r-new.length)=i:=by omega
   rw[hii]at hi;obtain⟨hl,hr⟩:=hold i row hi;refine⟨hl,λc x hx=> ?_⟩;obtain⟨v,e1,e2,e3⟩:=hr c x hx;have vu:(r+new.length) * sz<=i * sz:=Vc _ (by omega);refine⟨v,?_,e2,e3⟩;simp only[qd,Je];rw[Oa (by omega),htk,Oa (by omega),Lc,show base+r * sz+vs.length+(base+i * sz+c-(base+r * sz)-vs.length)=base+i * sz+c by omega]
   simpa using e1
theorem Wq{H:AH}{x:AV}{xv:Value}{rows:List (List AV)}{k:Nat}(h:rowsOf H x=some rows)(hw:Jc A.Na g w H)(hx:Cb g w x xv)(hk:k<=rows.length):
  ∃x' pY,rowsOf H x'=some (rows.take k)/\Cb g w x' pY/\∀sz,Builtin.firstCells sz k pY=Builtin.firstCells sz k xv:=by
 unfold rowsOf at h;split at h
 ·simp at h;subst h;simp at hk;subst hk;exact⟨.Xa,xv,rfl,hx,λ_=>rfl⟩
 ·simp at h;subst h;simp at hk;subst hk;exact⟨.Ef,xv,rfl,hx,λ_=>rfl⟩
 ·rename_i sz xh;simp at h;subst h;cases hx with
  |lits _ ad=>simp at hk;subst hk;exact⟨.lit sz [],_,rfl,.lits sz ad,λ_=>rfl⟩
  |lit _ ad cap _ vs hs hc hz hl ei h1c hrel=>
   have hlen:(xh.take k).length=k:=by simp;omega
   have yq:∀(i:Nat)(row:List AV),(xh.take k)[i]?=some row->xh[i]?=some row:=λi row hi=>by
    rw[Jb]at hi;split at hi;exact hi;simp at hi
   refine⟨.lit sz (xh.take k),.slice (some ad) (xh.take k).length cap,rfl,.lit _ ad cap sz vs hs (by omega) (λtd=>⟨(hz (by intro e;subst e;simp at td)).1,λhk=>(hz (by intro e;subst e;simp at td)).2 (BI hk)⟩) (λi row hi=>hl i row (yq i row hi)) (λi c hi Gn=>ei i c (by omega) Gn) (λi c hi Gn=>h1c i c (by omega) Gn) (λi row c x hi hx=>hrel i row c x (yq i row hi) hx),λ_=>rfl⟩
 ·rename_i b r n;split at h
  case h_2=>simp at h
  case h_1 xh sz AF hb=>
  split at h
  case isFalse=>simp at h
  case isTrue hle=>
  simp at h;subst h;have hlen:((xh.drop r).take n).length=n:=by simp;omega
  have Gl:rowsOf H (.sl b r k)=some (((xh.drop r).take n).take k):=by
   simp only[rowsOf,hb];rw[if_pos (by omega),List.take_take,Nat.min_eq_left (by omega)]
  cases hx with
  |sl _ _ _ cap hd hn ez hmc=>exact⟨.sl b r k,_,Gl,.sl b r k cap hd (by omega) ez (by assumption),λ_=>rfl⟩
  |sR _ _ ad hd=>
   have:k=0:=by omega
   subst this;exact⟨.sl b r 0,_,Gl,.sR b r ad hd,λ_=>rfl⟩
 ·simp at h
theorem nG{b:Builtin}{ts:Array TypeId}{ty:TypeId}{consts:Array Bool}{args:List AV}{vs:List Value}{v:AV}{H':AH}{r:Result Next}(h:builtin A s.H b ts args=some (v,H'))(hw:Jc A.Na g w s.H)(hf:ze g f w s.H s.F)
  (hl:args.length=vs.length) (hv:∀(i:Nat)(x:AV)(u:Value),args[i]?=some x->vs[i]?=some u->Cb g w x u) (ue:r=(ep b ts ty consts vs.toArray).run A.P w):
  HN A.Na g f w s { s with H:=H' } (.v v) r:=by
 unfold builtin at h;split at h
 ·rename_i x y;obtain⟨xv,yv,rfl⟩:∃xv yv,vs=[xv,yv]:=by
   match vs,hl with
   |[p,q],_=>exact⟨p,q,rfl⟩
  exact FK h hw hf (hv 0 x xv rfl rfl) (hv 1 y yv rfl rfl) ue
 ·rename_i x;obtain⟨xv,rfl⟩:∃xv,vs=[xv]:=by
   match vs,hl with
   |[p],_=>exact⟨p,rfl⟩
  have hx:=hv 0 x xv rfl rfl;simp only[aa]at h;obtain⟨t,Lp,h⟩:=h;have aG:∀n:Int,(Builtin.len_ ts ty #[xv]).run A.P w= .ok (.int .i64 n) w->HN A.Na g f w s s (.v (.int .i64 n)) r:=λn hn=>Jf hw hf (rv:= .int .i64 n) (by rw[ue];simp[ep,hn]) (.int _ _)
  split at h
  ·rename_i sb hu;simp at h;obtain⟨rfl,rfl⟩:=h;cases hx;exact aG _ (by simp[Builtin.len_,Lp,run_underlying hu,goInt])
  ·rename_i e hu;simp at h;obtain⟨rfl,rfl⟩:=h;cases hx;exact aG _ (by simp[Builtin.len_,Lp,run_underlying hu,goInt])
  ·rename_i e hu;simp at h;obtain⟨rfl,rfl⟩:=h;cases hx;exact aG _ (by simp[Builtin.len_,Lp,run_underlying hu,goInt])
  ·rename_i e sz rows hu;simp at h;obtain⟨rfl,rfl⟩:=h;cases hx<;>exact aG _ (by simp[Builtin.len_,Lp,run_underlying hu,goInt])
  ·rename_i e b' r' n hu;simp at h;obtain⟨rfl,rfl⟩:=h;cases hx<;>exact aG _ (by simp[Builtin.len_,Lp,run_underlying hu,goInt])
  ·rename_i kt et hu;simp only[ja]at h;obtain⟨es,XZ,h⟩:=h;simp at h;obtain⟨rfl,rfl⟩:=h;rcases tA XZ hw hx with⟨rfl,rfl⟩|⟨q,Mg,clock,rfl,hR,he⟩
   ·exact aG _ (by simp[Builtin.len_,Lp,run_underlying hu,goInt])
   ·have yq:(getObj q).run A.P w= .ok (.map Mg clock) w:=by simp[getObj,Sem.run,hR]
    have eW:=(Ot.1 he).1;have eas:Mg.size=es.length:=by simpa using eW
    exact aG _ (by simp[Builtin.len_,Lp,run_underlying hu,yq,goInt,eas])
  ·rename_i n e hu;simp at h;obtain⟨rfl,rfl⟩:=h;exact aG _ (by simp[Builtin.len_,Lp,run_underlying hu,goInt])
  ·simp at h
 ·rename_i x xs;obtain⟨xv,xvs,rfl⟩:∃xv xvs,vs=xv::xvs:=by
   match vs,hl with
   |p::q,_=>exact⟨p,q,rfl⟩
  simp only[ja]at h;obtain⟨z,hz,h⟩:=h;simp at h;obtain⟨rfl,rfl⟩:=h;obtain⟨zv,h1,h2⟩:=Zu (A:=A) (gn:=Builtin.max2) wL hz (hv 0 x xv rfl rfl) (by simpa using hl.symm) (λi y u hy hu=>hv (i+1) y u (by simpa using hy) (by simpa using hu));exact Jf hw hf (rv:=zv) (by rw[ue];simp[ep,Builtin.max_,h1]) h2
 ·rename_i x xs;obtain⟨xv,xvs,rfl⟩:∃xv xvs,vs=xv::xvs:=by
   match vs,hl with
   |p::q,_=>exact⟨p,q,rfl⟩
  simp only[ja]at h;obtain⟨z,hz,h⟩:=h;simp at h;obtain⟨rfl,rfl⟩:=h;obtain⟨zv,h1,h2⟩:=Zu (A:=A) (gn:=Builtin.min2) uL hz (hv 0 x xv rfl rfl) (by simpa using hl.symm) (λi y u hy hu=>hv (i+1) y u (by simpa using hy) (by simpa using hu));exact Jf hw hf (rv:=zv) (by rw[ue];simp[ep,Builtin.min_,h1]) h2
 ·rename_i m k;obtain⟨mv,kv,rfl⟩:∃xv yv,vs=[xv,yv]:=by
   match vs,hl with
   |[p,q],_=>exact⟨p,q,rfl⟩
  simp only[aa,ja]at h;obtain⟨t,Lp,H1,hd,h⟩:=h;simp at h;obtain⟨rfl,rfl⟩:=h;obtain⟨w',h1,h2,h3,h4⟩:=oB (ty:=ty) Lp hd hw hf (hv 0 m mv rfl rfl) (hv 1 k kv rfl rfl);exact⟨.tuple #[],w',g,f,.inl (by rw[ue];simp[ep,h1]),h2,h3,h4,.Re [] [] rfl (λi x v h=>by simp at h)⟩
 ·rename_i x y;obtain⟨xv,yv,rfl⟩:∃xv yv,vs=[xv,yv]:=by
   match vs,hl with
   |[p,q],_=>exact⟨p,q,rfl⟩
  have hx:=hv 0 x xv rfl rfl;have hy:=hv 1 y yv rfl rfl;simp only[aa]at h;obtain⟨t,Lp,e,he,z,hz,ys,Zy,h⟩:=h;have hu:=Qt he;obtain⟨yo,jav,hyv,pau,_⟩:=Gg Zy hw hy;have kr:(Builtin.lenOf yv).run A.P w= .ok ys.length w:=by rw[hyv];simp[Builtin.lenOf]
  split at h
  ·simp at h;obtain⟨rfl,rfl⟩:=h;cases hx;obtain⟨x',pY,p1,p2,p3⟩:=Wq (k:=0) Zy hw hy (Ac _);obtain⟨_,_,cs,_,_,q2,_,_,_,q5⟩:=wo (sz:=z) p1 hw p2 (λrow h=>by simp at h);have j9:=q5 w rfl;simp only[List.take_zero,Om]at j9;rw[p3]at j9;refine Jf hw hf (rv:= .int .i64 0) ?_ (.int _ _);have KO:ys.length.min 0=0:=by simp
   rw[ue];simp[ep,Builtin.copy_,Lp,run_underlying hu,kr,KO,Ld hz,j9,goInt]
  ·simp at h;obtain⟨rfl,rfl⟩:=h;cases hx with
   |Ef ad0=>
   obtain⟨x',pY,p1,p2,p3⟩:=Wq (k:=0) Zy hw hy (Ac _);obtain⟨_,_,cs,_,_,q2,_,_,_,q5⟩:=wo (sz:=z) p1 hw p2 (λrow h=>by simp at h);have j9:=q5 w rfl;simp only[List.take_zero,Om]at j9;rw[p3]at j9;refine Jf hw hf (rv:= .int .i64 0) ?_ (.int _ _);have KO:ys.length.min 0=0:=by simp
   rw[ue];have nag:cs= #[]:=Oh (by rw[q2];simp);simp[ep,Builtin.copy_,Lp,run_underlying hu,kr,KO,Ld hz,j9,goInt,nag,storeCells]
  ·rename_i b' r' n;split at h
   case h_2=>simp at h
   case h_1 rows sz AF hb=>
   split at h
   case isFalse=>simp at h
   case isTrue hc=>
   obtain⟨Th,dW,rfl,qj⟩:=hc;simp at h;obtain⟨rfl,rfl⟩:=h;have vS:∀row∈ys,row.length=sz:=λrow De=>by simpa using ec.1 qj row De
   have hD:g.D b':=by cases hx<;>assumption
   have Oe:live g s.H b':=⟨hD,_,hb,rfl⟩;obtain⟨Eaf,fg,kS,SO,oA,⟨T,fz,hR,hY,Tn,hZ⟩,de⟩:=hw.Kf b' _ hD hb;obtain⟨x',pY,p1,p2,p3⟩:=Wq (k:=min ys.length n) Zy hw hy (Nat.min_le_left _ _);obtain⟨_,_,cs,_,_,q2,q3,_,q4,q5⟩:=wo (sz:=sz) p1 hw p2 (λrow De=>vS row (List.mem_of_mem_take De));have Vk:(ys.take (min ys.length n)).length=min ys.length n:=by rw[je];omega
   have j9:=q5 w rfl;rw[Vk,p3]at j9;rw[Vk]at q2;generalize hN:min ys.length n=N at *
   have hNn:N<=n:=by omega
   have bD:∃ad cap,xv= .slice (some ad) n cap/\((storeCells ad cs.toList).run A.P w= .ok () (w.setRow (g.ρ b').R (oA.toList.take ((g.ρ b').o+r' * sz)++cs.toList++oA.toList.drop ((g.ρ b').o+r' * sz+cs.toList.length)).toArray)):=by
    have cY:(r'+N) * sz=r' * sz+N * sz:=Nf _ _ _;have XV:(r'+N) * sz<=rows.length * sz:=Vc _ (by omega);cases hx with
    |sl _ _ _ cap hd hn ez=>
     refine⟨_,cap,rfl,?_⟩;have Ec:=Sf A.P (g.ρ b').R ((g.ρ b').o+r' * sz) T fz cs.toList 0 oA w hR (by simp;omega) (λj hj=>Tn _ (by simp at hj;omega)) q4;rw[kS];simpa using Ec
    |sR _ _ ad hd=>
     have hN0:N=0:=by omega
     have nag:cs= #[]:=Oh (by rw[q2,hN0];simp);refine⟨ad,0,rfl,?_⟩;rw[nag];have:=setRow_self w (g.ρ b').R oA T fz hR;simp only[storeCells,Array.toList_empty,List.append_nil,Om,ug,List.take_append_drop,Array.toArray_toList,this];rfl
   obtain⟨ad,cap,rfl,Ec⟩:=bD;have cY:(r'+N) * sz=r' * sz+N * sz:=Nf _ _ _;have XV:(r'+N) * sz<=rows.length * sz:=Vc _ (by omega);obtain⟨k1,k2,k3⟩:=Of (b:=b') (x:= .cells (rows.take r'++(ys.take N++rows.drop (r'+(ys.take N).length))) sz AF) (w':=w.setRow (g.ρ b').R (oA.toList.take ((g.ρ b').o+r' * sz)++cs.toList++oA.toList.drop ((g.ρ b').o+r' * sz+cs.toList.length)).toArray) hw hf Oe Th (setRow_size _ _ _) (λR td=>setRow_other _ _ _ _ td)
    (λhle=>⟨Eaf.setRow _,fg,kS,by simp only[oe,je,List.length_drop,Vk];rw[show min r' rows.length+(N+(rows.length-(r'+N)))=rows.length by omega];exact SO,_,Row.set (show Row g w (g.ρ b').R (g.ρ b').e oA from⟨T,fz,hR,hY,Tn,hZ⟩) (by simp;omega),λr row hr=>by
     obtain⟨z1,z2⟩:=Yz (vs:=cs.toList) (base:=(g.ρ b').o) (by simp[q2,Vk]) (by rw[Vk];omega) (by rw[hY];exact SO) de (by simpa using q3) r row hr;exact⟨z1,z2.mono hle⟩⟩)
   rw[Vk]at k1 k2 k3;refine⟨.int .i64 N,_,g,f,.inl ?_,k1,k2,k3,.int _ _⟩;have KO:ys.length.min n=N:=hN;rw[ue];simp[ep,Builtin.copy_,Lp,run_underlying hu,kr,KO,Ld hz,j9,Ec,goInt]
  ·simp at h
 ·simp at h
end
end Go.V
namespace Go.V
open Go
variable [Inhabited Rn]
def VL(g:Gx)(w:World):List AV->List Value->Prop
 |[],[]=>True
 |x::xs,v::vs=>Cb g w x v/\VL g w xs vs
 |_,_=>False
def VLL(g:Gx)(w:World):List (List AV)->List (List Value)->Prop
 |[],[]=>True
 |x::xs,v::vs=>VL g w x v/\VLL g w xs vs
 |_,_=>False
section
variable {A:Oi}{g g':Gx}{w w':World}
theorem VL.mono(h:g.Le w g' w'):∀{xs:List AV}{vs:List Value},VL g w xs vs->VL g' w' xs vs
 |[],[],_=>trivial
 |_::_,_::_,⟨h1,h2⟩=>⟨h1.mono h,h2.mono h⟩
 |[],_::_,h=>h.elim
 |_::_,[],h=>h.elim
theorem VLL.mono(h:g.Le w g' w'):∀{xs:List (List AV)}{vs:List (List Value)},VLL g w xs vs->VLL g' w' xs vs
 |[],[],_=>trivial
 |_::_,_::_,⟨h1,h2⟩=>⟨h1.mono h,h2.mono h⟩
 |[],_::_,h=>h.elim
 |_::_,[],h=>h.elim
theorem Ok:∀{xs:List AV}{vs:List Value},VL g w xs vs↔vs.length=xs.length/\∀(i:Nat)(x:AV)(v:Value),xs[i]?=some x->vs[i]?=some v->Cb g w x v
 |[],[]=>⟨λ_=>⟨rfl,λi x v h=>by simp at h⟩,λ_=>trivial⟩
 |x::xs,v::vs=>by
  simp only[VL,Ok (xs:=xs) (vs:=vs)];constructor
  ·rintro⟨h1,h2,h3⟩
   refine⟨by simp[h2],λi y u hy hu=> ?_⟩;cases i with
   |zero=>simp at hy hu;subst hy;subst hu;exact h1
   |succ i=>exact h3 i y u (by simpa using hy) (by simpa using hu)
  ·rintro⟨h2,h3⟩
   exact⟨h3 0 x v rfl rfl,by simpa using h2,λi y u hy hu=>h3 (i+1) y u (by simpa using hy) (by simpa using hu)⟩
 |[],_::_=>⟨λh=>h.elim,λh=>by simp at h⟩
 |_::_,[]=>⟨λh=>h.elim,λh=>by simp at h⟩
theorem YH:∀{xs:List (List AV)}{vs:List (List Value)},VLL g w xs vs↔vs.length=xs.length/\∀(i:Nat)(x:List AV)(v:List Value),xs[i]?=some x->vs[i]?=some v->VL g w x v
 |[],[]=>⟨λ_=>⟨rfl,λi x v h=>by simp at h⟩,λ_=>trivial⟩
 |x::xs,v::vs=>by
  simp only[VLL,YH (xs:=xs) (vs:=vs)];constructor
  ·rintro⟨h1,h2,h3⟩
   refine⟨by simp[h2],λi y u hy hu=> ?_⟩;cases i with
   |zero=>simp at hy hu;subst hy;subst hu;exact h1
   |succ i=>exact h3 i y u (by simpa using hy) (by simpa using hu)
  ·rintro⟨h2,h3⟩
   exact⟨h3 0 x v rfl rfl,by simpa using h2,λi y u hy hu=>h3 (i+1) y u (by simpa using hy) (by simpa using hu)⟩
 |[],_::_=>⟨λh=>h.elim,λh=>by simp at h⟩
 |_::_,[]=>⟨λh=>h.elim,λh=>by simp at h⟩
def mR(A:Oi)(fz:AH->AV->Option (AV×AH)):Prop:=
 ∀H x x' H',fz H x=some (x',H')->∀(g:Gx)(w:World)(v:Value),Jc A.Na g w H->Cb g w x v->∃g',Jc A.Na g' w H'/\Ext g w H g' w H'/\Cb g' w x' v
theorem Hl{fz:AH->AV->Option (AV×AH)}(Tn:mR A fz):∀(xs Hq:List AV)(H H':AH)(g:Gx)(w:World)(vs:List Value),Eh fz H xs=some (Hq,H')->Jc A.Na g w H->VL g w xs vs->∃g',Jc A.Na g' w H'/\Ext g w H g' w H'/\VL g' w Hq vs/\Hq.length=xs.length
 |[],Hq,H,H',g,w,vs,h,hw,hv=>by
  simp[Eh]at h;obtain⟨rfl,rfl⟩:=h;exact⟨g,hw,.refl _ _ _,hv,rfl⟩
 |x::xs,Hq,H,H',g,w,v::vs,h,hw,hv=>by
  simp only[Eh,aa]at h;obtain⟨⟨x1,H1⟩,h1,⟨xs1,H2⟩,h2,h⟩:=h;simp at h;obtain⟨rfl,rfl⟩:=h;obtain⟨g1,w1,e1,v1⟩:=Tn _ _ _ _ h1 g w v hw hv.1;obtain⟨g2,w2,e2,v2,l2⟩:=Hl Tn xs xs1 H1 H2 g1 w vs h2 w1 (hv.2.mono (hw.le e1));exact⟨g2,w2,e1.trans e2,⟨v1.mono (w1.le e2),v2⟩,by simp[l2]⟩
 |_::_,_,_,_,_,_,[],_,_,hv=>hv.elim
theorem Uw{fz:AH->AV->Option (AV×AH)}(Tn:mR A fz):∀(xs Hq:List (List AV))(H H':AH)(g:Gx)(w:World)(vs:List (List Value)),Ki fz H xs=some (Hq,H')->Jc A.Na g w H->VLL g w xs vs->∃g',Jc A.Na g' w H'/\Ext g w H g' w H'/\VLL g' w Hq vs/\Hq.length=xs.length/\
  ∀(i:Nat)(r r':List AV),xs[i]?=some r->Hq[i]?=some r'->r'.length=r.length
 |[],Hq,H,H',g,w,vs,h,hw,hv=>by
  simp[Ki]at h;obtain⟨rfl,rfl⟩:=h;exact⟨g,hw,.refl _ _ _,hv,rfl,λi r r' h=>by simp at h⟩
 |x::xs,Hq,H,H',g,w,v::vs,h,hw,hv=>by
  simp only[Ki,aa]at h;obtain⟨⟨x1,H1⟩,h1,⟨xs1,H2⟩,h2,h⟩:=h;simp at h;obtain⟨rfl,rfl⟩:=h;obtain⟨g1,w1,e1,v1,l1⟩:=Hl Tn x x1 H H1 g w v h1 hw hv.1;obtain⟨g2,w2,e2,v2,l2,l3⟩:=Uw Tn xs xs1 H1 H2 g1 w vs h2 w1 (hv.2.mono (hw.le e1));refine⟨g2,w2,e1.trans e2,⟨v1.mono (w1.le e2),v2⟩,by simp[l2],λi r r' hr bj=> ?_⟩;cases i with
  |zero=>simp at hr bj;subst hr;subst bj;exact l1
  |succ i=>exact l3 i r r' (by simpa using hr) (by simpa using bj)
 |_::_,_,_,_,_,_,[],_,_,hv=>hv.elim
def Gx.ret(g:Gx)(b:Nat):Gx:=⟨g.D,g.ρ,λR=>g.Z R\/R=(g.ρ b).R,λR h=> .inl (g.sub R h)⟩
theorem Zae{H:AH}{b:Nat}(hw:Jc A.Na g w H)(hb:live g H b)(hc:∃rows sz ty,H.bl[b]?=some (.cells rows sz ty))(Th:H.wm<=b):Jc A.Na (g.ret b) w (Qa H b .dead)/\Ext g w H (g.ret b) w (Qa H b .dead):=by
 have hle:g.Le w (g.ret b) w:=⟨λ_ h=>⟨h,rfl⟩,λ_ h=>⟨.inl h,rfl⟩⟩;have LO:∀b',live (g.ret b) (Qa H b .dead) b'->b'≠b/\live g H b':=λb' h=>by
  rcases xm (g:=g) (show live g (Qa H b .dead) b' from h)with⟨_,h'⟩|h'
  ·simp[Me]at h'
  ·exact h'
 refine⟨⟨λi row hg=>(hw.Na i row hg).mono hle,λb' hd=>by simpa[Qa]using hw.Ff b' hd,λb' y hd hy=> ?_,λb1 b2 h1 h2 td=>hw.inj b1 b2 (LO b1 h1).2 (LO b2 h2).2 td,λR hR=> ?_⟩,?_⟩
 ·rw[Qj]at hy;split at hy
  ·split at hy
   ·simp at hy;subst hy;trivial
   ·simp at hy
  ·rename_i td;refine(hw.Kf b' y hd hy).le hle (λ_=>rfl) (λhl hz=> ?_);rcases hz with hz|hz
   ·exact hw.Dn ⟨hd,y,hy,hl⟩ hz
   ·exact hw.inj b' b ⟨hd,y,hy,hl⟩ hb (λe=>td e.symm) hz
 ·rcases hR with hR|rfl
  ·exact hw.yF R hR
  ·obtain⟨rows,sz,ty,hc⟩:=hc;obtain⟨_,_,_,_,cs,⟨T,fz,h1,h2,h3,_⟩,_⟩:=hw.Kf b _ hb.1 hc;exact⟨hw.lt hb,λ_=>⟨cs,T,fz,h1,λoff ho=>h3 off (h2 ▸ ho)⟩⟩
 ·refine⟨λ_ h=>⟨h,rfl⟩,λ_ h=> .inl h,λ_ h=> .inl h,λR h=>h.elim .inl (λe=> .inr (.inl ⟨b,hb,e.symm⟩)),λR⟨b',h,e⟩=> .inl ⟨b',(LO b' h).2,e⟩,λ_ _ _=>rfl,ya _,by simp[Qa],rfl,λb' Wd hl=> ?_,λ_ _ _=>rfl,⟨rfl,rfl⟩⟩;rw[Qj,if_neg (by omega)]
theorem vj:∀d,mR A (freeze d)
 |0=>λH x x' H' h=>by simp[freeze]at h
 |d+1=>λH x x' H' h g w v hw hx=>by
  cases x
  case sl b r n=>
   simp only[freeze,aa]at h;obtain⟨rows,de,sz,eg,h⟩:=h;split at h
   case isFalse=>simp at h
   case isTrue Th=>
   simp only[aa]at h;obtain⟨⟨Ke,H1⟩,cG,h⟩:=h;simp at h;obtain⟨rfl,rfl⟩:=h;have XO:∃xh AF,H.bl[b]?=some (.cells xh sz AF):=by
    unfold Qk at eg;split at eg
    ·rename_i xh sz0 AF hb;simp at eg;subst eg;exact⟨xh,AF,hb⟩
    ·simp at eg
   obtain⟨xh,AF,EB⟩:=XO;have hD:g.D b:=by cases hx<;>assumption
   have Oe:live g H b:=⟨hD,_,EB,rfl⟩;obtain⟨w1,e1⟩:=Zae hw Oe ⟨_,_,_,EB⟩ Th;have Vaf:=hw.le e1;by_cases td:rows=[]
   ·obtain⟨ao,cap,hv,au,_⟩:=Gg de hw hx;subst td;simp[Ki]at cG;obtain⟨rfl,rfl⟩:=cG;refine⟨_,w1,e1,?_⟩;have UL:∀(ad:Addr)(c:Nat),ad.spot=none->Cb (g.ret b) w (.lit sz []) (.slice (some ad) 0 c):=λad c hs=>
     .lit [] ad c sz (λ_ _=>undef) hs (Ac _) (λh=>absurd rfl h) (λi row h=>by simp at h) (λi c h=>by simp at h) (λi c h=>by simp at h) (λi row c x h=>by simp at h)
    cases hx with
    |sl _ _ _ mG=>injection hv with _ hn _;simp at hn;subst hn;exact UL _ _ rfl
    |sR _ _ ad=>exact .lits sz ad
   ·obtain⟨ao,cap,rfl,au,Wu⟩:=Gg de hw hx;obtain⟨ad,Jy,rfl,hs,Rm⟩:=Wu td;obtain⟨I9,PV,hvr⟩:=pick (λ(i:Nat)(row:List AV)(vs:List Value)=>vs.length=row.length/\row.length=Jy/\(∀u∈vs,u.oneCell'=true)/\(∀(c:Nat)(u:Value),vs[c]?=some u->w.cell? ⟨ad.block,ad.off+i * Jy+c,none⟩=some u)/\VL g w row vs) rows (λi row hi=>by
     obtain⟨h1,h2⟩:=Rm i row hi;obtain⟨vs,k1,k2⟩:=pick (λ(c:Nat)(x:AV)(u:Value)=>w.cell? ⟨ad.block,ad.off+i * Jy+c,none⟩=some u/\u.oneCell'=true/\Cb g w x u) row h2;have hex:∀(c:Nat)(u:Value),vs[c]?=some u->∃x,row[c]?=some x:=λc u hc=>⟨_,Da (by have:=getElem?_lt' hc;omega)⟩
     refine⟨vs,k1,h1,λu hu=> ?_,λc u hc=> ?_,Ok.2 ⟨k1,λi x v hx hv=>(k2 i x v hx hv).2.2⟩⟩
     ·obtain⟨c,hc⟩:=Ve hu;obtain⟨x,hx⟩:=hex c u hc;exact(k2 c x u hx hc).2.1
     ·obtain⟨x,hx⟩:=hex c u hc;exact(k2 c x u hx hc).1)
    have hrv:∀(i:Nat)(vs:List Value),I9[i]?=some vs->∃row,rows[i]?=some row:=λi vs hi=>⟨_,Da (by have:=getElem?_lt' hi;omega)⟩
    have uas:VLL g w rows I9:=YH.2 ⟨PV,λi row vs hr hv=>(hvr i row vs hr hv).2.2.2.2⟩;obtain⟨g2,w2,e2,v2,l2,l3⟩:=Uw (vj d) rows Ke _ _ _ w I9 cG w1 (uas.mono Vaf);refine⟨g2,w2,e1.trans e2,?_⟩;have Taq:Jy=sz/\ad.block=(g.ρ b).R:=by
     generalize rows.length=m at hx;cases hx with
     |sl _ _ _ mG hd hn ez=>
      obtain⟨_,_,_,_,cs,_,Iaf⟩:=hw.Kf b _ hD EB;cases SL:rows with
      |nil=>exact absurd SL td
      |cons lV rest=>
       have h0:rows[0]?=some lV:=by rw[SL];rfl
       obtain⟨h1,_⟩:=Rm 0 lV h0;have h2:=h0;simp only[rowsOf,EB]at de;split at de
       ·simp at de;rw[<- de,Jb]at h2;split at h2
        ·rw[Lc]at h2;exact⟨h1 ▸ (Iaf _ _ h2).1,rfl⟩
        ·simp at h2
       ·simp at de
     |sR=>
      have:rows.length=0:=by
       simp only[rowsOf,EB]at de;split at de
       ·simp at de;subst de;rfl
       ·simp at de
      exact absurd (Xt this) td
    obtain⟨rfl,XO⟩:=Taq;have hzz:g2.Z ad.block:=e2.Z _ (.inr XO);obtain⟨q1,q2⟩:=YH.1 v2;have ei:∀i c,i<Ke.length->c<Jy->∃vs u,I9[i]?=some vs/\vs[c]?=some u/\u.oneCell'=true/\w.cell? ⟨ad.block,ad.off+i * Jy+c,none⟩=some u:=λi c hi hc=>by
     have Mc:i<I9.length:=by omega
     have hv:=Da Mc;obtain⟨row,hr⟩:=hrv i _ hv;obtain⟨k1,k2,k3,k4,k5⟩:=hvr i row _ hr hv;have hu:=Da (l:=I9[i]) (i:=c) (by omega);exact⟨_,_,hv,hu,k3 _ (Eb hu),k4 c _ hu⟩
    rw[<- l2];refine .lit Ke ad cap Jy (λi c=>((I9.getD i []).getD c undef)) hs (by omega) (λ_=>⟨hzz,λ_ hn=>hw.Dn Oe (g.sub _ (XO ▸ hn))⟩) (λi row hi=> ?_) (λi c hi hc=> ?_) (λi c hi hc=> ?_) (λi row c x hi hx=> ?_)
    ·have Mc:=getElem?_lt' hi;have hr:=Da (l:=rows) (i:=i) (by omega);rw[l3 i _ _ hr hi];exact(Rm i _ hr).1
    ·obtain⟨vs,u,h1,h2,h3,h4⟩:=ei i c hi hc;simp[Qi,h1,h2,h4]
    ·obtain⟨vs,u,h1,h2,h3,h4⟩:=ei i c hi hc;simp[Qi,h1,h2,h3]
    ·have Mc:=getElem?_lt' hi;have hv:=Da (l:=I9) (i:=i) (by omega);obtain⟨k1,k2⟩:=Ok.1 (q2 i row _ hi hv);have hu:=Da (l:=I9[i]) (i:=c) (by have:=getElem?_lt' hx;omega);have:=k2 c x _ hx hu
     simpa[Qi,hv,hu]using this
  case agg cs=>
   simp only[freeze,aa]at h;obtain⟨⟨Ei,H1⟩,h1,h⟩:=h;simp at h;obtain⟨rfl,rfl⟩:=h;cases hx with
   |agg _ vs hl cz hr=>
    obtain⟨g1,w1,e1,v1,l1⟩:=Hl (vj d) cs Ei _ _ g w vs h1 hw (Ok.2 ⟨hl,hr⟩);obtain⟨q1,q2⟩:=Ok.1 v1;exact⟨g1,w1,e1,.agg Ei vs q1 cz q2⟩
  case Re cs=>
   simp only[freeze,aa]at h;obtain⟨⟨Ei,H1⟩,h1,h⟩:=h;simp at h;obtain⟨rfl,rfl⟩:=h;cases hx with
   |Re _ vs hl hr=>
    obtain⟨g1,w1,e1,v1,l1⟩:=Hl (vj d) cs Ei _ _ g w vs h1 hw (Ok.2 ⟨hl,hr⟩);obtain⟨q1,q2⟩:=Ok.1 v1;exact⟨g1,w1,e1,.Re Ei vs q1 q2⟩
  all_goals
   simp[freeze]at h;obtain⟨rfl,rfl⟩:=h;exact⟨g,hw,.refl _ _ _,hx⟩
theorem DH{G:Nat->Option (List AV)}{g g':Gx}{f:Fx}{w w':World}{H H':AH}{F:List (List AV)}(hw:Jc G g w H)(hf:ze g f w H F)(h:Ext g w H g' w' H'):ze g' f w' H' F/\Wg g f w H F g' f w' H' F:=by
 have hle:=hw.le h;refine⟨⟨hf.Ff,λi row hi De=> ?_,hf.inj,λi hi hp=> ?_⟩,⟨h.D,h.KB,h.Z,h.Xr,h.fp,λ_ h=>⟨h,rfl⟩,λ_ h=> .inl h,λ_ h h'=>absurd h h',λR hR hn _=>h.Al R hR hn,h.size,h.len,ya _,h.wm,h.quiet,h.still,λ_ _=>Iff.rfl,λ_ h h'=>absurd h h',λi hi _=>h.Al _ (hf.lt hi) (hf.apart i hi),h.io⟩⟩
 ·obtain⟨cs,⟨T,fz,hR,q1,q2,q3⟩,q4⟩:=hf.Kf i row hi De;have Mc:=hf.lt hi;refine⟨cs,⟨T,fz,by rw[h.Al _ Mc (hf.apart i hi)];exact hR,q1,q2,λhz=> ?_⟩,q4.mono hle⟩;rcases h.Xr _ hz with hz|hz|hz
  ·exact q3 hz
  ·exact hf.apart i hi hz
  ·omega
 ·rcases h.fp _ hp with h1|h1
  ·exact hf.apart i hi h1
  ·have:=hf.lt hi;omega
end
end Go.V
namespace Go.V
open Go
variable [Inhabited Rn]
structure sy(F:Fence):Prop where
 fn:∀f,F.fn f
 depth:F.depth=none
 alive:F.alive=false
def Ik(A:Oi)(call:Callee):Prop:=
 ∀fv args H r H',call fv args H=some (r,H')->∀(g:Gx)(w:World)(N0:Value)(vs:List Value),Jc A.Na g w H->Cb g w fv N0->args.length=vs.length->
  (∀(i:Nat)(x:AV)(v:Value),args[i]?=some x->vs[i]?=some v->Cb g w x v)->
  ∀(F:Fence)(n:Nat)(o:Oper)(a:Act)(next:Act->World->Prop)(Q:Exit->Act->World->Prop),sy F->
   (∀g' w' rv,Cb g' w' r rv->Jc A.Na g' w' H'->Ext g w H g' w' H'->next (a.put o.dst rv) w')->
   Oper.uponIn F n A.P o a next Q ((do let d <- Deferred.ofValue N0 vs.toArray;invoke d.target d.args:Sem Next).run A.P w)
section
variable {A:Oi}{g:Gx}{f:Fx}{w:World}{s:S}{a:Act}{call:Callee}{Ca:List Nat}
theorem KH{s s':S}{t:TypeId}{b:Bool}{cs:List AV}{v:SV}(h:boxed s t b cs=some (v,s')):s'.e=s.e:=by
 unfold boxed at h;split at h
 ·simp only[Wc]at h;unfold box at h;split at h<;>simp at h<;>obtain⟨_,rfl⟩:=h<;>rfl
 ·simp at h
theorem Tq{s s':S}{x:Option AV}{v:SV}(h:kj s x=some (v,s')):s'=s/\∃a,x=some a/\v= .v a:=by
 simp only[kj,ja]at h;obtain⟨a,ha,h⟩:=h;simp at h;obtain⟨rfl,rfl⟩:=h;exact⟨rfl,a,ha,rfl⟩
theorem Sq{s s':S}{x:Option (AV×AH)}{v:SV}(h:jo s x=some (v,s')):∃a H,x=some (a,H)/\v= .v a/\s'={ s with H:=H }:=by
 simp only[jo,ja]at h;obtain⟨⟨a,H⟩,ha,h⟩:=h;simp at h;obtain⟨rfl,rfl⟩:=h;exact⟨a,H,ha,rfl,rfl⟩
theorem W7{s':S}{v:SV}{r:Result Next}{o:Oper}{F:Fence}{n:Nat}{next:Act->World->Prop}{Q:Exit->Act->World->Prop}(h:HN A.Na g f w s s' v r)
  (hk:∀g' f' w' rv,Jc A.Na g' w' s'.H->ze g' f' w' s'.H s'.F->Wg g f w s.H s.F g' f' w' s'.H s'.F->qf g' f' w' v rv->next (a.put o.dst rv) w'):Oper.uponIn F n A.P o a next Q r:=by
 obtain⟨rv,w',g',f',hr|⟨hr,rfl⟩,h1,h2,h3,h4⟩:=h
 ·rw[hr];exact hk g' f' w' rv h1 h2 h3 h4
 ·rw[hr];exact hk g' f' w' undef h1 h2 h3 h4
theorem Dj{x:Option AV}{v:SV}{s':S}{r:Result Next}(h:kj s x=some (v,s'))(hw:Jc A.Na g w s.H)(hf:ze g f w s.H s.F)
  (hx:∀a,x=some a->∃rv,r= .ok (.value rv) w/\Cb g w a rv):HN A.Na g f w s s' v r/\s'.e=s.e:=by
 obtain⟨rfl,a,ha,rfl⟩:=Tq h;obtain⟨rv,h1,h2⟩:=hx a ha;exact⟨Jf hw hf h1 h2,rfl⟩
theorem jaf{o:Oper}{v:SV}{s':S}(h:op A call Ca s o=some (v,s'))(Hg:∀c fv,o.op= .call c->c.callee≠ .value fv)(hw:Jc A.Na g w s.H)(hf:ze g f w s.H s.F)(he:Mf g f w s.e a.tmps)(hWr:∀t x y,o.op= .store t x y->∀i c,operand A s.e x=some (.loc i c)->f.W i):
  HN A.Na g f w s s' v ((execOp a.eval o).run A.P w)/\s'.e=s.e:=by
 unfold op at h;have ZC:∀{x:Operand},(operand A s.e x).map (λv=>(v,s))=some (v,s')->HN A.Na g f w s s' v ((pure (.value (a.eval x)):Sem Next).run A.P w)/\s'.e=s.e:=λ{x}h=>by
  simp only[ja]at h;obtain⟨sv,hsv,h⟩:=h;simp at h;obtain⟨rfl,rfl⟩:=h;exact⟨Jf hw hf rfl (ef hsv hw he),rfl⟩
 split at h
 ·rename_i x ho;unfold execOp;rw[ho];exact ZC h
 ·rename_i x ho;unfold execOp;rw[ho];exact ZC h
 ·rename_i c p q ho;simp only[aa]at h;obtain⟨cv,YZ,h⟩:=h;have hc:=Fc YZ hw he;unfold execOp;rw[ho];split at h
  ·generalize DB:a.eval c=cc at hc;cases hc;have:=ZC h
   simpa[DB,asBool]using this
  ·generalize DB:a.eval c=cc at hc;cases hc;have:=ZC h
   simpa[DB,asBool]using this
  ·simp at h
 ·rename_i t ho;simp only[aa]at h;obtain⟨z,hz,h⟩:=h;refine⟨?_,KH h⟩;obtain⟨zv,TX,z1,z2,z3⟩:=mC (g:=g) (w:=w) hz;unfold boxed at h;split at h
  case isFalse=>simp at h
  case isTrue fg=>
   simp only[Wc]at h;have:=LH (Ch:=(o.dst.map (Ca.contains ·)).getD false) (t:=t) hw hf z1 z2 z3 (by rw[Bool.or_eq_true]at fg;rcases fg with h|h;exact .inr h;exact .inl (of_decide_eq_true h)) (r:=(execOp a.eval o).run A.P w) (by
    unfold execOp;rw[ho];simp only[Instr.alloc,Sem.run_bind,TX,Result.andThen_ok,newVar,newRow,run_newObj,Sem.run_pure];rfl)
   rw[h]at this;exact this
 ·rename_i t x ho;simp only[aa]at h;obtain⟨av,A_,cs,Kj,h⟩:=h;refine⟨?_,KH h⟩;obtain⟨z1,z2,z3⟩:=kn Kj (Fc A_ hw he);unfold boxed at h;split at h
  case isFalse=>simp at h
  case isTrue fg=>
   simp only[Wc]at h;have:=LH (Ch:=(o.dst.map (Ca.contains ·)).getD false) (t:=t) hw hf z1 z2 z3 (by rw[Bool.or_eq_true]at fg;rcases fg with h|h;exact .inr h;exact .inl (of_decide_eq_true h)) (r:=(execOp a.eval o).run A.P w) (by
    unfold execOp;rw[ho];simp only[Instr.box,Sem.run_bind,newVar,newRow,run_newObj,Sem.run_pure,Result.andThen_ok];rfl)
   rw[h]at this;exact this
 ·rename_i t ps ho;simp only[aa]at h;obtain⟨l,hl,h⟩:=h;have hp:=Xq hl hw he;refine Dj h hw hf λx hx=> ?_
  obtain⟨rv,h1,h2⟩:=tN (w:=w) hx hp;refine⟨rv,?_,h2⟩;unfold execOp;rw[ho];have:(ps.map λ(i,x)=>(i,a.eval x))=(ps.toList.map λ(i,x)=>(i,a.eval x)).toArray:=by apply Array.ext';simp
  simp only[this,Sem.run_bind,h1,Result.andThen_ok,Sem.run_pure]
 ·rename_i t n ps ho;simp only[aa]at h;obtain⟨l,hl,h⟩:=h;obtain⟨x,H,hx,rfl,rfl⟩:=Sq h;have hp:=Xq hl hw he;simp only[aa]at hx;obtain⟨⟨x0,H0⟩,TG,hx⟩:=hx;have hbs:=aA (r:=(execOp a.eval o).run A.P w) TG hw hf hp (by
   unfold execOp;rw[ho];have:(ps.map λ(i,x)=>(i,a.eval x))=(ps.toList.map λ(i,x)=>(i,a.eval x)).toArray:=by apply Array.ext';simp
   simp only[this])
  obtain⟨rv,w1,g1,f1,d1,d2,d3,d4,d5⟩:=hbs;simp only at hx;split at hx
  ·obtain⟨g2,k1,k2,k3⟩:=vj 8 _ _ _ _ hx g1 w1 rv d2 d5;obtain⟨k4,k5⟩:=DH d2 d3 k2;exact⟨⟨rv,w1,g2,f1,d1,k1,k4,d4.trans k5,k3⟩,rfl⟩
  ·simp at hx;obtain⟨rfl,rfl⟩:=hx;exact⟨⟨rv,w1,g1,f1,d1,d2,d3,d4,d5⟩,rfl⟩
 ·rename_i t x ho;simp only[aa]at h;obtain⟨p,hp,h⟩:=h;refine Dj h hw hf λy hy=> ?_
  obtain⟨rv,h1,h2⟩:=RC hy hw hf (ef hp hw he);exact⟨rv,by unfold execOp;rw[ho];simp[h1],h2⟩
 ·rename_i t x y ho;simp only[aa,ja]at h;obtain⟨p,hp,av,A_,s1,AZ,h⟩:=h;simp at h;obtain⟨rfl,rfl⟩:=h;obtain⟨w',h1,h2,h3,h4,h5⟩:=ZK AZ hw hf (ef hp hw he) (Fc A_ hw he) (λi c e=>hWr _ _ _ ho i c (e ▸ hp));exact⟨⟨undef,w',g,f,.inr ⟨by unfold execOp;rw[ho];simp[h1],rfl⟩,h2,h3,h4,.Dc _⟩,h5⟩
 ·rename_i x ho;simp only[aa]at h;obtain⟨p,hp,h⟩:=h;have cD:=ef hp hw he;have Mw:∀v':Value,qf g f w p v'->a.eval x=v'->p=v/\s=s'->(execOp a.eval o).run A.P w= .ok (.value v') w->HN A.Na g f w s s' v ((execOp a.eval o).run A.P w)/\s'.e=s.e:=λv' h1 _ h3 h4=>by
   obtain⟨rfl,rfl⟩:=h3;rw[h4];exact⟨Jf hw hf rfl h1,rfl⟩
  split at h
  ·simp at h;obtain⟨hi,hv⟩:=cD;exact Mw _ ⟨hi,hv⟩ rfl ⟨h.1,h.2⟩ (by unfold execOp;rw[ho];simp[hv])
  ·simp at h;generalize hx:a.eval x=xv at cD;have KI:Cb g w _ xv:=cD;cases KI with
   |ptr _ _ _ hb=>exact Mw _ cD hx ⟨h.1,h.2⟩ (by unfold execOp;rw[ho];simp[hx])
  ·simp at h;generalize hx:a.eval x=xv at cD;have KI:Cb g w _ xv:=cD;cases KI with
   |ee _ ad vs q1 q2 q3 q4 q5=>exact Mw _ cD hx ⟨h.1,h.2⟩ (by unfold execOp;rw[ho];simp[hx])
  ·simp at h;generalize hx:a.eval x=xv at cD;have KI:Cb g w _ xv:=cD;cases KI with
   |fn _ _ vs q1 q2=>exact Mw _ cD hx ⟨h.1,h.2⟩ (by unfold execOp;rw[ho];simp[hx])
  ·simp at h;generalize hx:a.eval x=xv at cD;have KI:Cb g w _ xv:=cD;cases KI with
   |yl _ q1=>exact Mw _ cD hx ⟨h.1,h.2⟩ (by unfold execOp;rw[ho];simp[hx])
  ·simp at h
 ·rename_i b t x y yt ho;simp only[aa]at h;obtain⟨u,hu,v',ot,h⟩:=h;refine Dj h hw hf λz hz=> ?_
  obtain⟨rv,h1,h2,h3⟩:=uN (ox:=x) (oy:=y) hz (Fc hu hw he) (Fc ot hw he);exact⟨rv,by unfold execOp;rw[ho];simp[h1,h2],h3⟩
 ·rename_i u t x ho;simp only[aa]at h;obtain⟨v',ot,h⟩:=h;refine Dj h hw hf λz hz=> ?_
  obtain⟨rv,h1,h2⟩:=LN (A:=A) hz (Fc ot hw he);exact⟨rv,by unfold execOp;rw[ho];simp[h1],h2⟩
 ·rename_i src dst x ho;simp only[aa]at h;obtain⟨v',ot,h⟩:=h;obtain⟨y,H,hy,rfl,rfl⟩:=Sq h;exact⟨gG hy hw hf (Fc ot hw he) (by unfold execOp;rw[ho]),rfl⟩
 ·rename_i fid first Lh ho
  split at h
  case isFalse=>simp at h
  case isTrue hf0=>
  simp only[ja]at h;obtain⟨l,hl,h⟩:=h;simp at h;obtain⟨rfl,rfl⟩:=h;obtain⟨h1,h2⟩:=gp hl hw he;have hfe:first= #[]:=Oh hf0
  refine⟨Jf hw hf (rv:= .func (.func fid) #[] (Lh.toList.map a.eval).toArray) ?_ (Cb.fn fid l _ (by simpa using h1.symm) h2),rfl⟩;unfold execOp;rw[ho];have:Lh.map a.eval=(Lh.toList.map a.eval).toArray:=by apply Array.ext';simp
  simp[Instr.makeFunc,hfe,this]
 ·rename_i t r ho;simp only[aa]at h;obtain⟨u,hu,h⟩:=h;simp at h;obtain⟨rfl,rfl⟩:=h;have ue:(execOp a.eval o).run A.P w= .ok (.value (.map (some w.heap.size))) (w.alloc (.map #[] 0)):=by
   unfold execOp;rw[ho];cases r with
   |none=>simp only[Instr.makeMap,Option.map_none,Sem.run_bind,run_newObj,Sem.run_pure,Result.andThen_ok];rfl
   |some x=>
    simp only at hu;split at hu
    ·rename_i kt et hut;simp only[aa,ja]at hu;obtain⟨v',ot,n,hn,_⟩:=hu;obtain⟨k,hk⟩:=Um hn (Fc ot hw he);simp only[Instr.makeMap,Yd,Sem.run_bind,run_underlying hut,Result.andThen_ok,hk,asInt,asIntOf,Sem.run_pure,run_newObj];rfl
    ·simp at hu
  have Mc:w.heap.size<(w.alloc (.map #[] 0)).heap.size:=by show w.heap.size<(w.heap.push _).size;simp
  have hzn:¬g.Z w.heap.size:=λhz=>Nat.lt_irrefl _ (hw.O8 hz)
  obtain⟨q1,q2,q3⟩:=Vs (l:=⟨w.heap.size,0,0,0⟩) (x:= .map []) hw hf (js Mc) rfl Mc (λR hR=>heap_alloc_old w _ R hR) (λhle=>⟨#[],0,heap_alloc_new w _,hzn,rfl,λi k x e h=>by simp at h⟩);refine⟨⟨_,_,_,f,.inl ue,q1,q2,q3,?_⟩,rfl⟩;have:=Cb.mp (g:=g.add s.H.bl.length ⟨w.heap.size,0,0,0⟩) (w:=w.alloc (.map #[] 0)) s.H.bl.length (.inr rfl);rw[Ng]at this;exact this
 ·rename_i t l c ho;simp only[aa]at h;obtain⟨u,hu,v',ot,h⟩:=h;obtain⟨y,H,hy,rfl,rfl⟩:=Sq h;exact⟨qB hy hw hf (Fc hu hw he) (Fc ot hw he) (by unfold execOp;rw[ho]),rfl⟩
 ·rename_i t x lo hi ho;simp only[aa]at h;obtain⟨v',ot,l,hl,hh,hhh,h⟩:=h;refine Dj h hw hf λz hz=> ?_
  obtain⟨rv,h1,h2⟩:=bL hz hw (Fc ot hw he) (uw hl hw he) (uw hhh hw he);exact⟨rv,by unfold execOp;rw[ho];simp[h1],h2⟩
 ·rename_i t x hi mx ho;simp only[aa]at h;obtain⟨v',ot,l,hl,hh,hhh,h⟩:=h;split at h
  case isFalse=>simp at h
  rename_i hc;simp only[Ab]at hc;refine Dj h hw hf λz hz=> ?_
  obtain⟨rv,h1,h2⟩:=fI hz (Fc ot hw he);obtain⟨k1,e1⟩:=SG hc.1 (Fc hl hw he);obtain⟨k2,e2⟩:=SG hc.2 (Fc hhh hw he);exact⟨rv,by unfold execOp;rw[ho];simp[e1,e2,h1],h2⟩
 ·rename_i t x i ho;simp only[aa]at h;obtain⟨p,hp,fd,dM,n,hn,h⟩:=h;split at h
  ·simp at h
  ·rename_i JO;simp only[ja]at h;obtain⟨q,hq,h⟩:=h;simp at h;obtain⟨rfl,rfl⟩:=h;obtain⟨rv,h1,h2⟩:=HB dM (by rw[hn];simpa using JO) (by rw[hn];rfl) hq (ef hp hw he);exact⟨Jf hw hf (rv:=rv) (by unfold execOp;rw[ho];simp[h1]) h2,rfl⟩
 ·rename_i t x i ho;simp only[aa]at h;obtain⟨v',ot,h⟩:=h;split at h
  ·rename_i cs;simp only[aa]at h;obtain⟨fd,dM,h⟩:=h;obtain⟨fs,hu,hi⟩:=oD dM;obtain⟨vs,U8,hr⟩:=qi (Fc ot hw he);refine Dj h hw hf λz hz=> ?_
   obtain⟨rv,h1,h2⟩:=Tj (A:=A) hz hr;exact⟨rv,by unfold execOp;rw[ho];simp[Instr.field,run_underlying hu,hi,U8,asAgg,h1],h2⟩
  ·simp at h
 ·rename_i t x i ho;simp only[aa,ja]at h;obtain⟨p,hp,v',ot,n,hn,q,hq,h⟩:=h;simp at h;obtain⟨rfl,rfl⟩:=h;obtain⟨k,hk⟩:=Um hn (Fc ot hw he);obtain⟨rv,h1,h2⟩:=tB (k:=k) hq hw (ef hp hw he);exact⟨Jf hw hf (rv:=rv) (by unfold execOp;rw[ho];simp[hk,h1]) h2,rfl⟩
 ·rename_i t x i ho;simp only[aa]at h;obtain⟨p,hp,v',ot,n,hn,h⟩:=h;obtain⟨k,hk⟩:=Um hn (Fc ot hw he);refine Dj h hw hf λz hz=> ?_
  obtain⟨rv,h1,h2⟩:=NL (k:=k) hz (Fc hp hw he);exact⟨rv,by unfold execOp;rw[ho];simp[hk,h1],h2⟩
 ·rename_i t x i ok ho;simp only[aa]at h;obtain⟨m,hm,k,hk,h⟩:=h;refine Dj h hw hf λz hz=> ?_
  obtain⟨rv,h1,h2⟩:=Dw hz hw (Fc hm hw he) (Fc hk hw he);exact⟨rv,by unfold execOp;rw[ho];simp[h1],h2⟩
 ·rename_i t m k x ho;simp only[aa,ja]at h;obtain⟨mv,hm,kv,hk,xv,hx,H,hH,h⟩:=h;simp at h;obtain⟨rfl,rfl⟩:=h;obtain⟨w',h1,h2,h3,h4⟩:=mq hH hw hf (Fc hm hw he) (Fc hk hw he) (Fc hx hw he);exact⟨⟨undef,w',g,f,.inr ⟨by unfold execOp;rw[ho];simp[h1],rfl⟩,h2,h3,h4,.Dc _⟩,rfl⟩
 ·rename_i t m k x ho;simp only[aa,ja]at h;obtain⟨mv,hm,kv,hk,xv,hx,H,hH,h⟩:=h;simp at h;obtain⟨rfl,rfl⟩:=h;obtain⟨w',h1,h2,h3,h4⟩:=mq hH hw hf (Fc hm hw he) (Fc hk hw he) (Fc hx hw he);exact⟨⟨undef,w',g,f,.inr ⟨by unfold execOp;rw[ho];simp[h1],rfl⟩,h2,h3,h4,.Dc _⟩,rfl⟩
 ·rename_i x i ho;simp only[aa]at h;obtain⟨v',ot,h⟩:=h;split at h
  ·rename_i vs;simp only[ja]at h;obtain⟨y,hy,h⟩:=h;simp at h;obtain⟨rfl,rfl⟩:=h;have hv:=Fc ot hw he;generalize hx:a.eval x=xv at hv;cases hv with
   |Re _ us hl hr=>
    have Mc:i<us.length:=by have:=getElem?_lt' hy;omega
    refine⟨Jf hw hf (rv:=us[i]) ?_ (hr i y _ hy (Da Mc)),rfl⟩;unfold execOp;rw[ho];simp[hx,Instr.extract,Mc]
  ·simp at h
 ·rename_i c ho;simp only[aa]at h;obtain⟨args,jM,h⟩:=h;obtain⟨l1,l2⟩:=gp jM hw he;split at h
  ·rename_i fv cW;exact absurd cW (Hg c fv ho)
  ·rename_i b hb;obtain⟨y,H,hy,rfl,rfl⟩:=Sq h;refine⟨nG (vs:=c.args.toList.map a.eval) (ty:=o.type) (consts:=c.args.map λ| .const _=>true|_=>false) hy hw hf (by simpa using l1) l2 ?_,rfl⟩;unfold execOp;rw[ho];have:c.args.map a.eval=(c.args.toList.map a.eval).toArray:=by apply Array.ext';simp
   simp only[resolve,hb,Sem.run_bind,Sem.run_pure,Result.andThen_ok,invoke,this];rfl
  ·simp at h
 ·simp at h
theorem rL{o:Oper}{v:SV}{s':S}{F:Fence}{n:Nat}{next:Act->World->Prop}{Q:Exit->Act->World->Prop}(hC:Ik A call)(h:op A call Ca s o=some (v,s'))(hw:Jc A.Na g w s.H)(hf:ze g f w s.H s.F)(he:Mf g f w s.e a.tmps)(hF:sy F)(hWr:∀t x y,o.op= .store t x y->∀i c,operand A s.e x=some (.loc i c)->f.W i)
  (hk:s'.e=s.e->∀g' f' w' rv,Jc A.Na g' w' s'.H->ze g' f' w' s'.H s'.F->Wg g f w s.H s.F g' f' w' s'.H s'.F->qf g' f' w' v rv->next (a.put o.dst rv) w'):
  o.wpIn F n A.P a w next Q:=by
 refine⟨λf _=>hF.fn f,?_⟩;have hnd:∀c,o.op≠ .defer c:=λc e=>by unfold op at h;rw[e]at h;simp at h
 rw[Oper.semAt_eq F.round a.eval o hnd];by_cases Hg:∀c fv,o.op= .call c->c.callee≠ .value fv
 ·obtain⟨h1,h2⟩:=jaf h Hg hw hf he hWr;exact W7 h1 (hk h2)
 ·simp only[Classical.not_forall,Classical.not_not]at Hg;obtain⟨c,fv,ho,hc⟩:=Hg;unfold op at h;rw[ho]at h;simp only[aa,hc]at h;obtain⟨args,jM,gv,hgv,h⟩:=h;obtain⟨r,H,hr,rfl,rfl⟩:=Sq h;obtain⟨l1,l2⟩:=gp jM hw he;have Mw:=hC gv args s.H r H hr g w (a.eval fv) (c.args.toList.map a.eval) hw (Fc hgv hw he) (by simpa using l1) l2 F n o a next Q hF (λg' w' rv h1 h2 h3=>by
   have hle:=hw.le h3;refine hk rfl g' f w' rv h2 ⟨hf.Ff,λi row hi De=> ?_,hf.inj,λi hi h=> ?_⟩ ⟨h3.D,h3.KB,h3.Z,h3.Xr,h3.fp,λ_ h=>⟨h,rfl⟩,λ_ h=> .inl h,λ_ h h'=>absurd h h',λR hR hn _=>h3.Al R hR hn,h3.size,h3.len,ya _,h3.wm,h3.quiet,h3.still,λ_ _=>Iff.rfl,λ_ h h'=>absurd h h',λi hi _=>h3.Al _ (hf.lt hi) (hf.apart i hi),h3.io⟩ h1
   ·obtain⟨cs,⟨T,fz,hR,q1,q2,q3⟩,q4⟩:=hf.Kf i row hi De;have Mc:=hf.lt hi;refine⟨cs,⟨T,fz,by rw[h3.Al _ Mc (hf.apart i hi)];exact hR,q1,q2,λhz=> ?_⟩,q4.mono hle⟩;rcases h3.Xr _ hz with hz|hz|hz
    ·exact q3 hz
    ·exact hf.apart i hi hz
    ·omega
   ·rcases h3.fp _ h with h|h
    ·exact hf.apart i hi h
    ·have:=hf.lt hi;omega)
  have ue:(execOp a.eval o).run A.P w=((do let d <- Deferred.ofValue (a.eval fv) (c.args.toList.map a.eval).toArray;invoke d.target d.args:Sem Next).run A.P w):=by
   unfold execOp;rw[ho];have:c.args.map a.eval=(c.args.toList.map a.eval).toArray:=by apply Array.ext';simp
   simp only[resolve,hc,this]
  rw[ue];exact Mw
end
end Go.V
