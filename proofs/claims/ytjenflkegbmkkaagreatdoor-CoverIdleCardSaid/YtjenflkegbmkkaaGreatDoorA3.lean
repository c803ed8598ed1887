/- An evaluator of the translated code and that it is right: each of its answers is an answer of the model. -/
import Derived.Test.YtjenflkegbmkkaaGreatDoorA2
import Derived.OrdersIn
set_option linter.unusedVariables false
set_option linter.unusedSimpArgs false
set_option linter.unusedSectionVars false
open Array renaming getElem?_append_left→jv,size_map→wB,eq_empty_of_size_eq_zero→Wg,length_toList→Ge
open Bool renaming false_eq_true→se,not_false→Ve,and_eq_true→Ia,or_eq_true→Ff
open Go renaming builtin→Rm
open List renaming getElem?_eq_getElem→ya,range→ua,getElem?_toArray→Xb,getElem?_cons_zero→ze,getElem?_cons_succ→Ke,getElem?_append_left→Fa,getElem?_append_right→Ka,all_eq_true→Yb,getElem?_of_mem→Yd,length_take→dc,getElem?_take→Ab,getElem?_drop→Dc,append_assoc→od,length_nil→ek,append_nil→Qm,length_append→Ud,length_drop→Kl,eq_nil_of_length_eq_zero→Cr,mem_of_getElem?→jb
open Nat renaming add_assoc→ud,add_zero→td,le_refl→oa,add_mul→Ce,zero_add→de,mul_le_mul_right→Vb,zero_le→Nd,le_of_lt→Hr
open Option renaming bind_eq_some_iff→aa,map_some→Jc,map_eq_some_iff→ia
open Option.some renaming injEq→yc
namespace Go.V
open Go
section
variable {A:oh} {g:Gx} {f:Fx} {w:World} {s:S} {a:Act}
theorem vm {H:AH} {x:AV} {xv:Value} {rows:List (List AV)} {sz:Nat} (h:rowsOf H x=some rows) (hw:Ub A.La g w H) (hx:Ya g w x xv) (ae:∀ row∈rows,row.length=sz):
   ∃ ao cap cs,xv= .slice ao rows.length cap/\rows.length<=cap/\cs.size=rows.length * sz/\wj g w sz rows cs/\(rows≠[]->ao≠none)/\(∀ u∈cs.toList,u.oneCell'=true)/\∀ (w':World),w'.heap=w.heap->(Builtin.firstCells sz rows.length xv).run A.P w'= .ok cs w':=by
 obtain ⟨ao,cap,rfl,Kk,Yh⟩:=Qf h hw hx;by_cases Nc:rows=[]
 · subst Nc;refine ⟨ao,cap,#[],rfl,Kk,by simp,⟨by simp,fun r row h=>by simp at h⟩,fun h=>absurd rfl h,fun u hu=>by simp at hu,fun w' XC=> ?_⟩;cases ao with
   |none=>simp [Builtin.firstCells]
   |some ad=>simp [Builtin.firstCells,loadCells,loadCellsFrom]
 · obtain ⟨ad,Gv,rfl,hs,kp⟩:=Yh Nc;have K0:Gv=sz:=by
     cases rows with
     |nil=>exact absurd rfl Nc
     |cons row rest=>rw [<- (kp 0 row rfl).1];exact ae row (by simp)
   subst K0;have Zh:∀ (i c:Nat) (row:List AV) (x:AV),rows[i]?=some row->row[c]?=some x->∃ v,w.cell? (ad.add (i * Gv+c))=some v/\v.oneCell'=true/\Ya g w x v:=fun i c row x hi hx=>by
     obtain ⟨v,e1,e2,e3⟩:=(kp i row hi).2 c x hx;exact ⟨v,by rw [fk hs,jg,<- ud];exact e1,e2,e3⟩
   have XE:∀ j,j<rows.length * Gv->∃ (row:List AV) (x:AV),rows[j/Gv]?=some row/\row[j%Gv]?=some x:=fun j hj=>by
     have zf:0<Gv:=by rcases Nat.eq_zero_or_pos Gv with h|h;subst h;simp at hj;exact h
     have h1:j/Gv<rows.length:=(Nat.div_lt_iff_lt_mul zf).2 hj;have h2:j%Gv<Gv:=Nat.mod_lt _ zf;have hr:=ya h1;exact ⟨_,_,hr,ya (by rw [(kp _ _ hr).1];exact h2)⟩
   have hdm:∀ j,j/Gv * Gv+j%Gv=j:=fun j=>by rw [Nat.mul_comm];exact Nat.div_add_mod j Gv
   obtain ⟨fv,LP⟩:∃ fv:Nat->Value,∀ j,j<rows.length * Gv->w.cell? (ad.add j)=some (fv j)/\(fv j).oneCell'=true:=⟨fun j=>(w.cell? (ad.add j)).getD undef,fun j hj=>by
     obtain ⟨row,x,h1,h2⟩:=XE j hj;obtain ⟨v,e1,e2,_⟩:=Zh _ _ row x h1 h2;rw [hdm] at e1;simp [e1,e2]⟩
   refine ⟨some ad,cap,((ua (rows.length * Gv)).map fv).toArray,rfl,Kk,by simp,⟨by simp,fun r row hr=>⟨(kp r row hr).1,fun c x hx=> ?_⟩⟩,fun _=>by simp,fun u hu=> ?_,fun w' XC=> ?_⟩
   · obtain ⟨v,e1,e2,e3⟩:=Zh r c row x hr hx;have nc:r * Gv+c<rows.length * Gv:=Dg (getElem?_lt' hr) (by have:=getElem?_lt' hx;rw [(kp r row hr).1] at this;exact this);have:=(LP _ nc).1;rw [e1] at this;simp at this;exact ⟨v,by simp [nc,this],e2,e3⟩
   · simp at hu;obtain ⟨j,hj,rfl⟩:=hu;exact (LP j hj).2
   · have:=run_loadCells (P:=A.P) w' ad (rows.length * Gv) fv (fun j hj=>by rw [cell_of_heap (w:=w) (by rw [XC])];exact (LP j hj).1);simp [Builtin.firstCells,this]
theorem Fj {P:Program} {ts:Array TypeId} {t ty e:TypeId} {ad:Addr} {n m cap sz:Nat} {yv:Value} {news:Array Value} {w w':World} (zn:ts[0]?=some t) (hu:P.underlying t=some (.slice e))
  (hz:∀ u,ts[1]?=some u->∃ d,P.underlying u=some d/\∀ k,d≠ .int k) (ae:(sizeOf e).run P w= .ok sz w)
  (hlen:(Builtin.lenOf yv).run P w= .ok m w) (oe:(Builtin.firstCells sz m yv).run P w= .ok news w) (iu:n+m<=cap) (Wb:(storeCells (ad.add (n * sz)) news.toList).run P w= .ok () w'):
  (Builtin.append_ ts ty #[.slice (some ad) n cap,yv]).run P w= .ok (.slice (some ad) (n+m) cap) w':=by
 simp only [Builtin.append_,zn];simp only [Xb,ze,Ke,Sem.run_bind,run_underlying hu,Result.andThen_ok,ae];cases h1:ts[1]? with
 |none=>simp only [Sem.run_pure,Result.andThen_ok,se,if_false,hlen,if_pos iu,Ve,if_true,Sem.run_bind,oe,Wb]
 |some u=>
  obtain ⟨d,hd,Nc⟩:=hz u h1;simp only [Sem.run_bind,run_underlying hd,Result.andThen_ok];cases d<;>first
   |exact absurd rfl (Nc _)
   |simp only [Sem.run_pure,Result.andThen_ok,se,if_false,hlen,if_pos iu,Ve,if_true,Sem.run_bind,oe,Wb]
theorem Lo {P:Program} {ts:Array TypeId} {t ty e:TypeId} {sz:Nat} {yv:Value} {news:Array Value} {w:World} (zn:ts[0]?=some t) (hu:P.underlying t=some (.slice e))
  (hz:∀ u,ts[1]?=some u->∃ d,P.underlying u=some d/\∀ k,d≠ .int k) (ae:(sizeOf e).run P w= .ok sz w)
  (hlen:(Builtin.lenOf yv).run P w= .ok 0 w) (oe:(Builtin.firstCells sz 0 yv).run P w= .ok news w):
  (Builtin.append_ ts ty #[.slice none 0 0,yv]).run P w= .ok (.slice none 0 0) w:=by
 simp only [Builtin.append_,zn];simp only [Xb,ze,Ke,Sem.run_bind,run_underlying hu,Result.andThen_ok,ae];cases h1:ts[1]? with
 |none=>simp only [Sem.run_pure,Result.andThen_ok,se,if_false,hlen,td,oa,if_true,Ve,Sem.run_bind,oe]
 |some u=>
  obtain ⟨d,hd,Nc⟩:=hz u h1;simp only [Sem.run_bind,run_underlying hd,Result.andThen_ok];cases d<;>first
   |exact absurd rfl (Nc _)
   |simp only [Sem.run_pure,Result.andThen_ok,se,if_false,hlen,td,oa,if_true,Ve,Sem.run_bind,oe]
theorem Zg {P : Program} {ts : Array TypeId} {t ty e : TypeId} {ao : Option Addr} {n m cap sz by_ : Nat} {yv zv : Value} {olds news : Array Value} {w : World} (zn : ts[0]? = some t) (hu : P.underlying t = some (.slice e))
    (hz : ∀ u, ts[1]? = some u → ∃ d, P.underlying u = some d ∧ ∀ k, d ≠ .int k) (ae : ∀ w', (sizeOf e).run P w' = .ok sz w') (rZ : ∃ i, P.info? e = some i ∧ i.bytes = by_) (bK : ∀ w', (zeroValue e).run P w' = .ok zv w')
    (hlen : (Builtin.lenOf yv).run P w = .ok m w) (hold : ∀ w', w'.heap = w.heap → (Builtin.firstCells sz n (.slice ao n cap)).run P w' = .ok olds w') (oe : ∀ w', w'.heap = w.heap → (Builtin.firstCells sz m yv).run P w' = .ok news w')
    (iu : ¬ n + m ≤ cap) (h63 : n + m < 9223372036854775808) (EH : Builtin.nextslicecap (n + m) cap * by_ ≤ 281474976710656) (Yal : by_ ≠ 0 ∨ True) :
    (Builtin.append_ ts ty #[.slice ao n cap, yv]).run P w =
      .ok (.slice (some ⟨w.heap.size, 0, none⟩) (n + m) (grownCap w (n + m) cap e)) (w.drew.alloc (.cells (olds ++ news ++ Builtin.zeroCells zv.cells (grownCap w (n + m) cap e - (n + m))) e)) := by
  obtain ⟨i, hi, G9⟩ := rZ
  have YB : ¬ (((n + m : Nat) : Int) > IntKind.i64.max) := by
    have : IntKind.i64.max = 9223372036854775807 := by decide
    rw [this]; omega
  have tZ : ¬ (Builtin.nextslicecap (n + m) cap * i.bytes > 2 ^ 48) := by rw [G9]; omega
  have ho := hold w.drew rfl
  have hn := oe w.drew rfl
  have K5 : (choose (.appendCap (n + m) cap e)).run P w = .ok (grownCap w (n + m) cap e) w.drew := by
    rw [run_choose]; rfl
  simp only [Builtin.append_, zn]
  simp only [Xb, ze, Ke, Sem.run_bind, run_underlying hu, Result.andThen_ok, ae]
  cases h1 : ts[1]? with
  | none =>
    simp only [Sem.run_pure, Result.andThen_ok, se, if_false, hlen, if_neg iu, YB, false_and, typeInfo, Sem.run_bind, run_program, hi, if_neg tZ, K5, run_askRoom, ho, hn, Ve, if_true, bK, newRow, run_newObj]
    rfl
  | some u =>
    obtain ⟨d, hd, Nc⟩ := hz u h1
    simp only [Sem.run_bind, run_underlying hd, Result.andThen_ok]
    cases d <;> first
      | exact absurd rfl (Nc _)
      | (simp only [Sem.run_pure, Result.andThen_ok, se, if_false, hlen, if_neg iu, YB, false_and, typeInfo, Sem.run_bind, run_program, hi, if_neg tZ, K5, run_askRoom, ho, hn, Ve, if_true, bK, newRow, run_newObj]
         rfl)
end
end Go.V
namespace Go.V
open Go
section
variable {G:Nat->Option (List AV)} {g:Gx} {f:Fx} {w:World} {H:AH} {F:List (List AV)}
theorem yJ {w':World} {b:Nat} {x:AB} {l:Loc} (hw:Ub G g w H) (hf:Jd g f w H F) (hb:live g H b) (Of:H.wm<=b)
   (Rf:w'.heap.size=w.heap.size) (Cd:∀ R,R≠(g.ρ b).R->w'.heap[R]?=w.heap[R]?) (hR:l.R=(g.ρ b).R)
   (hx:g.Le w (g.add H.bl.length l) w'->lg (g.add H.bl.length l) w' l x) (ov:w'.os=w.os/\w'.output=w.output:=by first|exact ⟨rfl,rfl⟩|assumption):
   Ub G (g.add H.bl.length l) w' (push (Ma H b .dead) x)/\Jd (g.add H.bl.length l) f w' (push (Ma H b .dead) x) F/\kg g f w H F (g.add H.bl.length l) f w' (push (Ma H b .dead) x) F:=by
 have hlen:(Ma H b .dead).bl.length=H.bl.length:=by simp [Ma]
 have hold:∀ b,g.D b->(g.add H.bl.length l).ρ b=g.ρ b:=fun b hb=>tg (by have:=hw.Ae b hb;omega)
 have hle:g.Le w (g.add H.bl.length l) w':=⟨fun b hb=>⟨.inl hb,hold b hb⟩,fun R h=>⟨h,Cd R (fun e=>hw.fm hb (e ▸ h))⟩⟩;have vad:∀ b',g.D b'->b'<(Ma H b .dead).bl.length:=fun b' zd=>by rw [hlen];exact hw.Ae b' zd
 have lK:∀ b',live (g.add H.bl.length l) (push (Ma H b .dead) x) b'->b'=H.bl.length\/(b'≠b/\live g H b'):=fun b' zd=>by
   have:=Xt (g:=g) (H:=Ma H b .dead) (l:=l) (x:=x) (b:=b') vad (by rw [hlen];exact zd);rcases this with h|h
   · left;rw [h,hlen]
   · right;rcases Ak h with ⟨_,h'⟩|h'
     · simp [Sd] at h'
     · exact h'
 have CB:∀ R,Fp (g.add H.bl.length l) (push (Ma H b .dead) x) R->Fp g H R:=fun R ⟨b',zd,e⟩=>by
   rcases lK b' zd with rfl|⟨_,h⟩
   · exact ⟨b,hb,by rw [<- e,Xf,hR]⟩
   · exact ⟨b',h,by rw [<- e,hold b' h.1]⟩
 refine ⟨⟨fun i row hg=>(hw.La i row hg).mono hle,fun b' zd=> ?_,fun b' y hd hy=> ?_,fun b1 b2 h1 h2 Nc=> ?_,fun R h=>by rw [Rf];exact hw.vt R h⟩,
   ⟨hf.Ae,fun i row hi hr=> ?_,hf.inj,fun i hi h=>hf.apart i hi (CB _ h)⟩,?_⟩
 · rcases zd with zd|rfl
   · have:=hw.Ae b' zd;simp [push,Ma];omega
   · simp [push,Ma]
 · rcases hd with hd|rfl
   · have B9:=hw.Ae b' hd;rw [xk,if_pos (by rw [hlen];exact B9),Mi] at hy;rw [hold b' hd];split at hy
     · rw [if_pos (by omega)] at hy;simp at hy;subst hy;trivial
     · rename_i Nc;exact (hw.Oc b' y hd hy).le hle (fun hl=>Cd _ (hw.inj b' b ⟨hd,y,hy,hl⟩ hb (fun e=>Nc e.symm))) (fun hl=>hw.fm ⟨hd,y,hy,hl⟩)
   · rw [xk,if_neg (by rw [hlen];omega),if_pos hlen.symm] at hy;simp at hy;subst hy;rw [Xf];exact hx hle
 · rcases lK b1 h1 with rfl|⟨n1,l1⟩<;>rcases lK b2 h2 with rfl|⟨n2,l2⟩
   · exact absurd rfl Nc
   · rw [Xf,hold _ l2.1,hR];exact hw.inj b b2 hb l2 (fun e=>n2 e.symm)
   · rw [Xf,hold _ l1.1,hR];exact hw.inj b1 b l1 hb n1
   · rw [hold _ l1.1,hold _ l2.1];exact hw.inj _ _ l1 l2 Nc
 · obtain ⟨cs,⟨T,fz,vx,h4⟩,h5⟩:=hf.Oc i row hi hr;exact ⟨cs,⟨T,fz,by rw [Cd _ (fun e=>hf.apart i hi ⟨b,hb,e.symm⟩)];exact vx,h4⟩,h5.mono hle⟩
 · refine ⟨fun b hb=>⟨.inl hb,hold b hb⟩,fun b hb=>hb.elim .inl (fun e=> .inr (by omega)),fun _ h=>h,fun _ h=> .inl h,
     fun R h=> .inl (CB R h),fun _ h=>⟨h,rfl⟩,fun _ h=> .inl h,fun _ h h'=>absurd h h',
     fun R hR _ _=>Cd R (fun e=>by rename_i hn _;exact hn ⟨b,hb,e.symm⟩),by rw [Rf];exact oa _,by simp [push,Ma],oa _,rfl,fun b' zd hl=> ?_,fun b' zd hv=>Cd _ (hw.inj b' b hv hb (by omega)),fun _ _=>Iff.rfl,fun _ h h'=>absurd h h',fun i hi _=>Cd _ (fun e=>hf.apart i hi ⟨b,hb,e.symm⟩),ov⟩
   rw [xk,if_pos (by rw [hlen];exact hl),Mi,if_neg (by omega)]
theorem ZJ {b:Nat} (hw:Ub G g w H) (hf:Jd g f w H F) (hb:live g H b) (Of:H.wm<=b):
  Ub G g w (Ma H b .dead)/\Jd g f w (Ma H b .dead) F/\kg g f w H F g f w (Ma H b .dead) F:=
 ue hw hf hb Of rfl (fun _ _=>rfl) (fun _=>trivial)
end
section
variable {A:oh} {g:Gx} {f:Fx} {w:World} {s:S} {a:Act}
theorem wj.append {sz:Nat} {xs ys:List (List AV)} {cx cy rest:Array Value} (hx:wj g w sz xs cx) (hy:wj g w sz ys cy) (hcx:cx.size=xs.length * sz):wj g w sz (xs++ys) (cx++cy++rest):=by
 have h1:=hx.1;have h2:=hy.1;refine ⟨by simp [Ce];omega,fun r row hr=> ?_⟩;by_cases nc:r<xs.length
 · rw [Fa nc] at hr;obtain ⟨hl,Pj⟩:=hx.2 r row hr;refine ⟨hl,fun c x R8=> ?_⟩;obtain ⟨v,e1,e2,e3⟩:=Pj c x R8;have:r * sz+c<xs.length * sz:=Dg nc (by have:=getElem?_lt' R8;omega);exact ⟨v,by rw [Array.append_assoc,jv (by omega)];exact e1,e2,e3⟩
 · rw [Ka (by omega)] at hr;obtain ⟨hl,Pj⟩:=hy.2 _ row hr;refine ⟨hl,fun c x R8=> ?_⟩;obtain ⟨v,e1,e2,e3⟩:=Pj c x R8;have IP:(r-xs.length) * sz+c<ys.length * sz:=Dg (getElem?_lt' hr) (by have:=getElem?_lt' R8;omega);have Rk:r * sz=xs.length * sz+(r-xs.length) * sz:=by rw [<- Ce];congr 1;omega
   refine ⟨v,?_,e2,e3⟩;rw [Array.append_assoc,Array.getElem?_append_right (by omega),jv (by omega),<- e1];congr 1;omega
theorem Nv {bty:Option (TypeId×Nat)} {H1:AH} {rows:List (List AV)} {sz:Nat} {cs:Array Value} {t:TypeId} {w':World} {v:AV} {rv:Value} {r:Result Next} {g1:Gx} (cK:Ub A.La g w H1) (hf1:Jd g f w H1 s.F) (dj:kg g f w s.H s.F g f w H1 s.F)
  (zf:0<sz) (hr:wj g w sz rows cs) (jx:w'.heap=w.heap.push (.cells cs t (0,0)))
  (hv:Ya (g.add H1.bl.length ⟨w.heap.size,0,cs.size,sz⟩) w' v rv) (Wd:r= .ok (.value rv) w') (Pah:bty=some (t,1)\/bty=none) (ov:w'.os=w.os/\w'.output=w.output:=by first|exact ⟨rfl,rfl⟩|assumption):
  pJ A.La g f w s { s with H:=push H1 (.cells rows sz bty) } (.v v) r:=by
 obtain ⟨rv',w2,g2,f2,q0,q1,q2,q3,q4⟩:=Tw (A:=A) (s:={ s with H:=H1 }) (fz:=(0,0)) cK hf1 zf hr jx (fun off _=>by simp) hv Wd Pah;exact ⟨rv',w2,g2,f2,q0,q1,q2,dj.trans q3,q4⟩
theorem zG {ts:Array TypeId} {x y v:AV} {xv yv:Value} {H':AH} {ty:TypeId} {r:Result Next} (h:append A s.H ts x y=some (v,H')) (hw:Ub A.La g w s.H) (hf:Jd g f w s.H s.F) (hx:Ya g w x xv) (hy:Ya g w y yv)
   (Wd:r=((do pure (.value (<- Builtin.append_ ts ty #[xv,yv]))):Sem Next).run A.P w):pJ A.La g f w s { s with H:=H' } (.v v) r:=by
 unfold append at h;simp only [aa] at h;obtain ⟨t,zn,e,he,z,hz,n,hn,_,hu1,xs,Fq,ys,dw,h⟩:=h;split at h
 case isFalse=>simp at h
 case isTrue hc=>
 obtain ⟨Om,aD,zf,ae,Af⟩:=hc;have hu:=Ui he;have hzero:∀ u,ts[1]?=some u->∃ d,A.P.underlying u=some d/\∀ k,d≠ .int k:=fun u h1=>by
   rw [h1] at hu1;simp only at hu1;split at hu1
   · simp at hu1
   · rename_i d Nc hd;exact ⟨d,hd,fun k e=>Nc k e⟩
   · simp at hu1
 have TM:∀ row∈ys,row.length=z.length:=fun row Zc=>by simpa using Yb.1 Af row Zc
 obtain ⟨i,hi,G9⟩:=lB hn;have bK:∃ zv,∀ w',(zeroValue e).run A.P w'= .ok zv w'/\zv.cells.size=z.length:=by
   unfold zero at hz;rw [hi] at hz;cases hzz:i.zero with
   |none=>simp [hzz] at hz
   |some zv=>
     simp [hzz] at hz;exact ⟨zv,fun w'=>⟨by simp [zeroValue,typeInfo,hi,hzz],by have:=(Tg (g:=g) (w:=w) hz).1;simpa using this⟩⟩
 obtain ⟨zv,bK⟩:=bK;have DP:∀ w',(sizeOf e).run A.P w'= .ok z.length w':=fun w'=>Mc ae
 obtain ⟨news,gp,rA,hrY,hcY,Wac⟩:∃ news:Array Value,(Builtin.lenOf yv).run A.P w= .ok ys.length w/\(∀ w',w'.heap=w.heap->(Builtin.firstCells z.length ys.length yv).run A.P w'= .ok news w')/\wj g w z.length ys news/\news.size=ys.length * z.length/\∀ u∈news.toList,u.oneCell'=true:=by
   split at dw
   · rename_i sb;simp at dw;subst dw;cases hy;have Ct:(ic sb).length=sb.size:=by simp [ic]
     rw [Ct];have Fag:∀ row∈ic sb,row.length=1:=fun row hr=>by simp [ic] at hr;obtain ⟨b,_,rfl⟩:=hr;rfl
     have wo:(sb.extract 0 sb.size).data=sb.data:=by
       simp
     have Yh:∀ (i:Nat) (b:UInt8),sb.data.toList[i]?=some b->(sb.data.map fun b=>Value.int .u8 (b.toNat:Int))[0+i]?=some (.int .u8 (b.toNat:Int)):=fun i b hb=>by
       simp at hb ⊢;exact ⟨b,hb,rfl⟩
     refine ⟨sb.data.map fun b=> .int .u8 b.toNat,by simp [Builtin.lenOf],fun w' _=>by simp [Builtin.firstCells,wo],?_⟩;by_cases Nc:ic sb=[]
     · have lZ:sb.size=0:=by rw [<- Ct,Nc];rfl
       rw [Nc];have:sb.data.size=0:=lZ;refine ⟨⟨by simp,fun r row hr=>by simp at hr⟩,by rw [lZ,Nat.zero_mul,wB];exact this,fun u hu=>by simp at hu;obtain ⟨b,_,rfl⟩:=hu;rfl⟩
     · have YR:z.length=1:=by
         cases hr:ic sb with
         |nil=>exact absurd hr Nc
         |cons row rest=>rw [<- TM row (by rw [hr];simp),Fag row (by rw [hr];simp)]
       rw [YR];refine ⟨⟨by rw [Ct];simp,fun r row hr=> ?_⟩,by simp,fun u hu=>by simp at hu;obtain ⟨b,_,rfl⟩:=hu;rfl⟩;have:=Ru (g:=g) (w:=w) sb.data.toList _ 0 Yh r row hr
       simpa using this
   · obtain ⟨ao,cap,cs,rfl,q1,q2,q3,_,q4,q5⟩:=vm dw hw hy TM;exact ⟨cs,by simp [Builtin.lenOf],q5,q3,q2,q4⟩
 have Kk:∀ aA gk e,aA<=grownCap w aA gk e:=fun aA gk e=>by simp [grownCap,Question.cut]
 by_cases hy0:ys.length=0
 ·
   rw [if_pos hy0] at h;simp at h;obtain ⟨rfl,rfl⟩:=h;rw [hy0] at gp rA;obtain ⟨ao,cap,rfl,hle,_⟩:=Qf Fq hw hx;refine Ie hw hf (rv:= .slice ao xs.length cap) ?_ hx;rw [Wd];have jK:news= #[]:=by apply Wg;rw [hcY,hy0];simp
   cases ao with
   |none=>
     have hnn:∀ q,Ya g w x (.slice none q cap)->q=0/\cap=0:=by
       intro q h;cases h with
       |Wa=>exact ⟨rfl,rfl⟩
       |Qb=>simp [rowsOf] at Fq
     have:=hnn _ hx;rw [this.1,this.2];simp [Lo (ty:=ty) zn hu hzero (DP w) gp (rA w rfl)]
   |some ad=>
     have:=Fj (ty:=ty) (ad:=ad) (n:=xs.length) (cap:=cap) (w':=w) zn hu hzero (DP w) gp (rA w rfl) (by omega) (by rw [jK];simp [storeCells]);simp [this]
 · rw [if_neg hy0] at h;split at h
   ·
     simp at h;obtain ⟨rfl,rfl⟩:=h;simp [rowsOf] at Fq;subst Fq;cases hx;have J9:=Zg (ty:=ty) (ao:=none) (n:=0) (cap:=0) (olds:= #[]) zn hu hzero DP ⟨i,hi,G9⟩ (fun w'=>(bK w').1) gp (fun w' _=>by simp [Builtin.firstCells]) rA (by omega) (by simpa using aD)
       (growslice_fits (by omega) (by simp at Om ⊢;omega)) (.inr trivial)
     simp only [de,Array.empty_append] at J9;have hc:=Kk ys.length 0 e;have hzs:=(bK w).2;have Rf:(news++Builtin.zeroCells zv.cells (grownCap w ys.length 0 e-ys.length)).size=grownCap w ys.length 0 e * z.length:=by
       simp only [Array.size_append,hcY,Builtin.zeroCells,wB,Array.size_range,hzs,<- Ce];congr 1;omega
     refine Nv (g1:=g) hw hf (.refl _ _ _ _ _) zf (rows:=ys) (cs:=news++Builtin.zeroCells zv.cells (grownCap w ys.length 0 e-ys.length)) (t:=e) (w':=w.drew.alloc (.cells (news++Builtin.zeroCells zv.cells (grownCap w ys.length 0 e-ys.length)) e)) ?_ rfl
       (Zl hc (by rw [Rf];exact oa _) (Uk (by omega))) (by rw [Wd];simp [J9]) (.inl rfl)
     have:=wj.append (rest:=Builtin.zeroCells zv.cells (grownCap w ys.length 0 e-ys.length)) (xs:=[]) (cx:= #[]) ⟨by simp,fun r row h=>by simp at h⟩ hrY (by simp)
     simpa using this
   ·
     simp at h;obtain ⟨rfl,rfl⟩:=h;simp [rowsOf] at Fq;subst Fq;cases hx with
     |Kd ad0=>
     have J9:=Zg (ty:=ty) (ao:=some ad0) (n:=0) (cap:=0) (olds:= #[]) zn hu hzero DP ⟨i,hi,G9⟩ (fun w'=>(bK w').1) gp (fun w' _=>by simp [Builtin.firstCells,loadCells,loadCellsFrom]) rA (by omega) (by simpa using aD)
       (growslice_fits (by omega) (by simp at Om ⊢;omega)) (.inr trivial)
     simp only [de,Array.empty_append] at J9;have hc:=Kk ys.length 0 e;have hzs:=(bK w).2;have Rf:(news++Builtin.zeroCells zv.cells (grownCap w ys.length 0 e-ys.length)).size=grownCap w ys.length 0 e * z.length:=by
       simp only [Array.size_append,hcY,Builtin.zeroCells,wB,Array.size_range,hzs,<- Ce];congr 1;omega
     refine Nv (g1:=g) hw hf (.refl _ _ _ _ _) zf (rows:=ys) (cs:=news++Builtin.zeroCells zv.cells (grownCap w ys.length 0 e-ys.length)) (t:=e) (w':=w.drew.alloc (.cells (news++Builtin.zeroCells zv.cells (grownCap w ys.length 0 e-ys.length)) e)) ?_ rfl
       (Zl hc (by rw [Rf];exact oa _) (Uk (by omega))) (by rw [Wd];simp [J9]) (.inl rfl)
     have:=wj.append (rest:=Builtin.zeroCells zv.cells (grownCap w ys.length 0 e-ys.length)) (xs:=[]) (cx:= #[]) ⟨by simp,fun r row h=>by simp at h⟩ hrY (by simp)
     simpa using this
   · rename_i b r0 k;split at h
     case isFalse=>simp at h
     case isTrue hk=>
     obtain ⟨Of,dK⟩:=hk;simp at h;obtain ⟨rfl,rfl⟩:=h;have Ct:∃ Ag xB,s.H.bl[b]?=some (.cells Ag z.length xB)/\r0+k<=Ag.length/\xs=(Ag.drop r0).take k:=by
       unfold Aj at dK;split at dK
       · rename_i Ag sz0 xB tA;simp at dK;subst dK;simp only [rowsOf,tA] at Fq;split at Fq
         · rename_i hle;simp at Fq;exact ⟨Ag,xB,tA,hle,Fq.symm⟩
         · simp at Fq
       · simp at dK
     obtain ⟨Ag,xB,tA,gad,S8⟩:=Ct;have V8:kE s.H b=xB:=by simp [kE,tA]
     rw [V8];have Gac:Wx xB e r0=some (e,1)\/Wx xB e r0=none:=by
       unfold Wx;split
       · split<;>simp
       · simp
     have hD:g.D b:=by cases hx<;>assumption
     have Td:live g s.H b:=⟨hD,_,tA,rfl⟩;obtain ⟨zag,_,JM,qK,Uw,⟨T,fz,hR,mJ,Tk,hZ⟩,Kc⟩:=hw.Oc b _ hD tA;have dx:xs.length=k:=by rw [S8];simp;omega
     have Ead:∀ row∈xs,row.length=z.length:=fun row Zc=>by
       rw [S8] at Zc;obtain ⟨q,hq⟩:=Yd (List.mem_of_mem_drop (List.mem_of_mem_take Zc));exact (Kc q row hq).1
     obtain ⟨ao,cap,cx,xT,q1,q2,q3,qne,q4,q5⟩:=vm Fq hw hx Ead;by_cases iu:xs.length+ys.length<=cap
     ·
       cases hx with
       |TG=>simp at xT;obtain ⟨_,_,rfl⟩:=xT;omega
       |sl _ _ _ gC hd oZ vaj=>
         injection xT with e1 e2 e3
         subst e1;subst e3;rw [JM] at *
         have hm1:(r0+gC) * z.length=r0 * z.length+gC * z.length:=Ce _ _ _;have hm2:(xs.length+ys.length) * z.length<=gC * z.length:=Vb _ iu;have hm3:(xs.length+ys.length) * z.length=xs.length * z.length+ys.length * z.length:=Ce _ _ _;have Wb:=We A.P (g.ρ b).R ((g.ρ b).o+r0 * z.length+k * z.length) T fz news.toList 0 Uw w hR (by simp;rw [mJ];rw [<- dx];omega) (fun j hj=>Tk _ (by simp at hj;rw [<- dx];omega)) Wac;simp only [td] at Wb;have Pj:=Fj (ty:=ty) (ad:=⟨(g.ρ b).R,(g.ρ b).o+r0 * z.length,none⟩) (n:=k) (cap:=gC) zn hu hzero (DP w) gp (rA w rfl) (by omega) (by rw [jg];exact Wb);generalize u9:(Uw.toList.take ((g.ρ b).o+r0 * z.length+k * z.length)++news.toList++Uw.toList.drop ((g.ρ b).o+r0 * z.length+k * z.length+news.toList.length)).toArray=V4 at Pj;have hN:(g.ρ b).o+r0 * z.length+k * z.length<=Uw.size:=by rw [mJ,<- dx];omega
         have htk:(Uw.toList.take ((g.ρ b).o+r0 * z.length+k * z.length)).length=(g.ρ b).o+r0 * z.length+k * z.length:=by
           rw [dc,Ge];exact Nat.min_eq_left hN
         have Xag:V4.size=(g.ρ b).e:=by
           rw [<- u9];simp;rw [mJ,hcY,<- dx];omega
         obtain ⟨p1,p2,p3⟩:=yJ (w':=w.setRow (g.ρ b).R V4) (l:=⟨(g.ρ b).R,(g.ρ b).o+r0 * z.length,(g.ρ b).e,z.length⟩) (x:= .cells (xs++ys) z.length (Wx xB e r0)) hw hf Td Of (setRow_size _ _ _) (fun R Nc=>setRow_other _ _ _ _ Nc) rfl (fun hle=>by
           refine ⟨?_,zf,rfl,by simp;omega,V4,⟨T,fz,setRow_heap w _ Uw V4 T fz hR,Xag,Tk,hZ⟩,fun r row hr=> ?_⟩
           · cases xB with
             |none=>trivial
             |some p=>
              obtain ⟨T0,k0⟩:=p;unfold Wx;simp only;split
              · rename_i Jah;obtain ⟨rfl,rfl,hk0⟩:=Jah;obtain ⟨⟨FY,fz0,I5⟩,ho0,_⟩:=zag;exact ⟨⟨V4,fz0,setRow_heap w _ FY V4 _ fz0 I5⟩,fun _=>by simp [ho0 hk0],fun h=>by omega⟩
              · trivial
           by_cases nc:r<xs.length
           · rw [Fa nc] at hr;have oA:=hr;rw [S8,Ab,if_pos (by omega),Dc] at oA;obtain ⟨hl,Bm⟩:=Kc _ _ oA;refine ⟨hl,Oe.mono hle fun c x hx=> ?_⟩;obtain ⟨v,e1,e2,e3⟩:=Bm c x hx;refine ⟨v,?_,e2,e3⟩;have hc2:=getElem?_lt' hx;have IP:r * z.length+c<k * z.length:=Dg (by omega) (by omega);have hm4:(r0+r) * z.length=r0 * z.length+r * z.length:=Ce _ _ _;rw [<- u9];simp only [Xb,od];rw [Fa (by rw [htk];omega),Ab,if_pos (by omega)];rw [hm4] at e1
             simpa [ud] using e1
           · rw [Ka (by omega)] at hr;obtain ⟨hl,Bm⟩:=hrY.2 _ row hr;refine ⟨hl,Oe.mono hle fun c x hx=> ?_⟩;obtain ⟨v,e1,e2,e3⟩:=Bm c x hx;refine ⟨v,?_,e2,e3⟩;have hc2:=getElem?_lt' hx;have IP:(r-xs.length) * z.length+c<ys.length * z.length:=Dg (getElem?_lt' hr) (by omega);have hm4:r * z.length=xs.length * z.length+(r-xs.length) * z.length:=by rw [<- Ce];congr 1;omega
             rw [<- u9];simp only [Xb,od];rw [Ka (by rw [htk,<- dx];omega),htk,Fa (by simp;rw [hcY,<- dx];omega)];have W0:(g.ρ b).o+(r0 * z.length+(r * z.length+c))-((g.ρ b).o+r0 * z.length+k * z.length)=(r-xs.length) * z.length+c:=by rw [<- dx];omega
             have Q3:news.toList[(r-xs.length) * z.length+c]?=some v:=by simpa using e1
             rw [<- Q3];congr 1;simp only [ud] at W0 ⊢;omega)
         refine ⟨.slice (some ⟨(g.ρ b).R,(g.ρ b).o+r0 * z.length,none⟩) (k+ys.length) gC,w.setRow (g.ρ b).R V4,_,f,.inl (by rw [Wd];simp [Pj]),p1,p2,p3,?_⟩;have:=Ya.sl (g:=g.add s.H.bl.length ⟨(g.ρ b).R,(g.ρ b).o+r0 * z.length,(g.ρ b).e,z.length⟩) (w:=w.setRow (g.ρ b).R V4) s.H.bl.length 0 (xs.length+ys.length) gC (.inr rfl) iu (by rw [Xf];simp;omega) (by omega);rw [Xf] at this;simp only [Nat.zero_mul,td] at this;rw [<- dx];exact this
     ·
       obtain ⟨p1,p2,p3⟩:=ZJ hw hf Td Of;have J9:=Zg (ty:=ty) (ao:=ao) (n:=xs.length) (cap:=cap) (olds:=cx) zn hu hzero DP ⟨i,hi,G9⟩ (fun w'=>(bK w').1) gp (fun w' XC=>by rw [<- xT];exact q5 w' XC) rA iu (by omega)
         (growslice_fits (by omega) (by omega)) (.inr trivial)
       have hc:=Kk (xs.length+ys.length) cap e;have hzs:=(bK w).2;have Rf:(cx++news++Builtin.zeroCells zv.cells (grownCap w (xs.length+ys.length) cap e-(xs.length+ys.length))).size=grownCap w (xs.length+ys.length) cap e * z.length:=by
         simp only [Array.size_append,q2,hcY,Builtin.zeroCells,wB,Array.size_range,hzs,<- Ce];congr 1;omega
       have BB:s.H.bl.length=(Ma s.H b .dead).bl.length:=by simp [Ma]
       rw [BB];refine Nv (g1:=g) (H1:=Ma s.H b .dead) p1 p2 p3 zf (rows:=xs++ys) (cs:=cx++news++Builtin.zeroCells zv.cells (grownCap w (xs.length+ys.length) cap e-(xs.length+ys.length))) (t:=e) (w':=w.drew.alloc (.cells (cx++news++Builtin.zeroCells zv.cells (grownCap w (xs.length+ys.length) cap e-(xs.length+ys.length))) e)) (q3.append hrY q2) rfl
         (Zl hc (by rw [Rf];exact oa _) (Uk (by omega))) (by rw [Wd,xT];simp [J9]) Gac
   · simp at h
end
end Go.V
namespace Go.V
open Go
section
variable {A:oh} {g:Gx} {f:Fx} {w:World} {s:S} {a:Act}
def IG (g:Gx) (w:World):List (AV×AV)->List MapEntry->Prop
 |[],[]=>True
 |(k,x)::es,e::Wf=>AV.isKey k=true/\Ya g w k e.key/\Ya g w x e.val/\IG g w es Wf
 |_,_=>False
theorem Zq {g:Gx} {w:World}:∀ {es:List (AV×AV)} {Wf:List MapEntry},IG g w es Wf↔Wf.length=es.length/\∀ (i:Nat) (k x:AV) (e:MapEntry),es[i]?=some (k,x)->Wf[i]?=some e->AV.isKey k=true/\Ya g w k e.key/\Ya g w x e.val
 |[],[]=>⟨fun _=>⟨rfl,fun i k x e h=>by simp at h⟩,fun _=>trivial⟩
 |(k,x)::es,e::Wf=>by
  simp only [IG,Zq (es:=es) (Wf:=Wf)];constructor
  · rintro ⟨h1,h2,h3,h4,h5⟩
    refine ⟨by simp [h4],fun i k' x' e' hi hj=> ?_⟩;cases i with
    |zero=>simp at hi hj;obtain ⟨rfl,rfl⟩:=hi;subst hj;exact ⟨h1,h2,h3⟩
    |succ i=>exact h5 i k' x' e' (by simpa using hi) (by simpa using hj)
  · rintro ⟨h4,h5⟩
    obtain ⟨h1,h2,h3⟩:=h5 0 k x e rfl rfl;exact ⟨h1,h2,h3,by simpa using h4,fun i k' x' e' hi hj=>h5 (i+1) k' x' e' (by simpa using hi) (by simpa using hj)⟩
 |[],_::_=>⟨fun h=>h.elim,fun h=>by simp at h⟩
 |_::_,[]=>⟨fun h=>h.elim,fun h=>by simp at h⟩
theorem Yo {k k':AV} {kv kv':Value} {b:Bool} {d:TypeDesc} {t:TypeId} (h:iA k k'=some b) (hk:Ya g w k kv) (G5:Ya g w k' kv') (Ih:Hi A t k=true) (hd:A.P.underlying t=some d):
   Instr.sameNow d kv kv'=some b/\(b=true->Instr.sameBits 10000 kv' kv=true):=by
 unfold Hi at Ih;rw [hd] at Ih;unfold iA at h;split at h
 · rename_i q x q' y;split at h
   case isFalse=>simp at h
   case isTrue e=>
     subst e;simp at h;subst h;cases hk;cases G5;split at Ih
     · rename_i hh _;simp at hh;subst hh;refine ⟨by simp [Instr.sameNow,BEq.beq],fun hb=> ?_⟩;have:x=y:=by simpa using hb
       subst this;simp [Instr.sameBits]
     · rename_i h1 h2;simp at h2
     · simp at Ih
 · rename_i x y;simp at h;subst h;cases hk;cases G5;split at Ih
   · rename_i h1 h2;simp at h2
   · rename_i hh _;simp at hh;subst hh;refine ⟨by simp [Instr.sameNow],fun hb=> ?_⟩;rw [beq_toListBytes] at hb;have zd:x.toList=y.toList:=by simpa using hb
     simp [Instr.sameBits,beq_toListBytes,zd]
   · simp at Ih
 · simp at h
theorem zA {k:AV} {kv:Value} {d:TypeDesc} {t:TypeId} (hk:Ya g w k kv) (Ih:Hi A t k=true) (hd:A.P.underlying t=some d):∀ {es:List (AV×AV)} {Wf:List MapEntry} {r:Option AV} (i0:Nat),Xh k es=some r->IG g w es Wf->
  (r=none/\Instr.findNow d kv Wf i0=some none)\/∃ x i v,r=some x/\Instr.findNow d kv Wf i0=some (some (i0+i,v))/\Ya g w x v
 |[],[],r,i0,h,_=>by simp [Xh] at h;subst h;exact .inl ⟨rfl,rfl⟩
 |(k',x)::es,e::Wf,r,i0,h,he=>by
  obtain ⟨h1,h2,h3,h4⟩:=he;simp only [Xh,aa] at h;obtain ⟨b,hb,h⟩:=h;obtain ⟨hs,_⟩:=Yo hb hk h2 Ih hd;cases b with
  |true=>
   simp at h;subst h;exact .inr ⟨x,0,e.val,rfl,by simp [Instr.findNow,hs],h3⟩
  |false=>
   simp only at h;rcases zA hk Ih hd (i0+1) h h4 with ⟨rfl,hf⟩|⟨x',i,v,rfl,hf,hv⟩
   · exact .inl ⟨rfl,by simp [Instr.findNow,hs,hf]⟩
   · exact .inr ⟨x',i+1,v,rfl,by simp [Instr.findNow,hs,hf];omega,hv⟩
 |[],_::_,_,_,_,he=>he.elim
 |_::_,[],_,_,_,he=>by cases ‹AV×AV›;exact he.elim
theorem Uf {e:Bool} {t:TypeId} {k:AV} {kv:Value} (Ih:Hi A t k=true) (hk:Ya g w k kv):(Instr.checkKey e 10000 t kv).run A.P w= .ok () w:=by
 unfold Hi at Ih;have h10:(10000:Nat)=9999+1:=rfl;rw [h10];generalize 9999=n;split at Ih
 · rename_i hu;cases hk;simp [Instr.checkKey,run_underlying hu]
 · rename_i hu;cases hk;simp [Instr.checkKey,run_underlying hu]
 · simp at Ih
theorem au {t:TypeId} {k:AV} (Ih:Hi A t k=true):∃ d,A.P.underlying t=some d:=by
 unfold Hi at Ih;split at Ih
 · rename_i hu;exact ⟨_,hu⟩
 · rename_i hu;exact ⟨_,hu⟩
 · simp at Ih
theorem TH {t:TypeId} {k:AV} {kv:Value} {es:List (AV×AV)} {Wf:List MapEntry} {r:Option AV} (hk:Ya g w k kv) (Ih:Hi A t k=true) (h:Xh k es=some r) (he:IG g w es Wf):
   (r=none/\(Instr.findKey t kv Wf).run A.P w= .ok none w)\/∃ x i v,r=some x/\(Instr.findKey t kv Wf).run A.P w= .ok (some (i,v)) w/\Ya g w x v:=by
 obtain ⟨d,hd⟩:=au Ih;rcases zA hk Ih hd 0 h he with ⟨rfl,hf⟩|⟨x,i,v,rfl,hf,hv⟩
 · exact .inl ⟨rfl,by simp [Instr.findKey,run_underlying hd,hf]⟩
 · exact .inr ⟨x,0+i,v,rfl,by simp [Instr.findKey,run_underlying hd,hf],hv⟩
theorem ax {H:AH} {m:AV} {mv:Value} {es:List (AV×AV)} (h:mapOf H m=some es) (hw:Ub A.La g w H) (hm:Ya g w m mv):
   (mv= .map none/\es=[])\/∃ r Wf clock,mv= .map (some r)/\w.heap[r]?=some (.map Wf clock)/\IG g w es Wf.toList:=by
 unfold mapOf at h;split at h
 · simp at h;subst h;cases hm;exact .inl ⟨rfl,rfl⟩
 · rename_i b;split at h
   · rename_i qd hb;simp at h;subst h;cases hm with
     |mp _ hd=>
      obtain ⟨Wf,clock,hR,hZ,hl,Bm⟩:=hw.Oc b _ hd hb;exact .inr ⟨_,Wf,clock,rfl,hR,Zq.2 ⟨by simpa using hl,fun i k x e hi he=>Bm i k x e hi (by simpa using he)⟩⟩
   · simp at h
 · simp at h
theorem Ow {t:TypeId} {x:AV} (h:zeroV A t=some x):∃ v,(zeroValue t).run A.P w= .ok v w/\Ya g w x v:=by
 unfold zeroV at h;cases hi:A.P.info? t with
 |none=>simp [hi] at h
 |some i=>
  simp only [hi,Jc] at h;cases hz:i.zero with
  |none=>simp [hz] at h
  |some v=>
   have Wd:(zeroValue t).run A.P w= .ok v w:=by simp [zeroValue,typeInfo,hi,hz]
   refine ⟨v,Wd,?_⟩;rw [hz] at h;split at h
   · rename_i cs heq;simp at heq;subst heq;simp only [ia] at h;obtain ⟨l,hl,rfl⟩:=h;obtain ⟨c1,c2,c3⟩:=Tg (g:=g) (w:=w) hl;exact Xu.agg ⟨by simpa using c1,vk (by simpa using c1) c2 c3⟩
   · rename_i v' _ heq;simp at heq;subst heq;exact Vl h
   · simp at h
theorem Ut {t:TypeId} {m k v:AV} {mv kv:Value} {ok:Bool} (h:lookup A s.H t m k ok=some v) (hw:Ub A.La g w s.H) (hm:Ya g w m mv) (hk:Ya g w k kv):
   ∃ rv,(Instr.lookup t mv kv ok).run A.P w= .ok rv w/\Ya g w v rv:=by
 unfold lookup at h;split at h
 case h_2=>simp at h
 case h_1 kt et hu=>
 split at h
 case isFalse=>simp at h
 case isTrue Ih=>
 simp only [aa] at h;obtain ⟨es,ZT,r,hr,⟨x,b⟩,mA,h⟩:=h;simp at h;subst h;have sy:∀ xv,Ya g w x xv->Ya g w (if ok=true then AV.Rc [x,.bool b] else x) (if ok=true then .tuple #[xv,.bool b] else xv):=fun xv hx=>by
   cases ok with
   |true=>
     refine .Rc _ [xv,.bool b] rfl (fun i y u hy hu=> ?_)
     match i with
     |0=>simp at hy hu;subst hy;subst hu;exact hx
     |1=>simp at hy hu;subst hy;subst hu;exact .bool b
     |i+2=>simp at hy
   |false=>exact hx
 rcases ax ZT hw hm with ⟨rfl,rfl⟩|⟨q,Wf,clock,rfl,hR,he⟩
 · simp [Xh] at hr;subst hr;simp only [ia] at mA;obtain ⟨z,hz,mA⟩:=mA;simp at mA;obtain ⟨rfl,rfl⟩:=mA;obtain ⟨zv,XR,bK⟩:=Ow (g:=g) (w:=w) hz;have hf:(Instr.findKey kt kv []).run A.P w= .ok none w:=by
     obtain ⟨d,hd⟩:=au Ih;simp [Instr.findKey,run_underlying hd,Instr.findNow]
   refine ⟨_,?_,sy zv bK⟩;simp only [Instr.lookup,Sem.run_bind,run_underlying hu,Result.andThen_ok,Sem.run_pure,Uf Ih hk,List.toList_toArray,hf,XR]
 · have Qj:(getObj q).run A.P w= .ok (.map Wf clock) w:=by simp [getObj,Sem.run,hR]
   rcases TH hk Ih hr he with ⟨rfl,hf⟩|⟨x',i,v,rfl,hf,hv⟩
   · simp only [ia] at mA;obtain ⟨z,hz,mA⟩:=mA;simp at mA;obtain ⟨rfl,rfl⟩:=mA;obtain ⟨zv,XR,bK⟩:=Ow (g:=g) (w:=w) hz;refine ⟨_,?_,sy zv bK⟩;simp only [Instr.lookup,Sem.run_bind,run_underlying hu,Result.andThen_ok,Sem.run_pure,Qj,Uf Ih hk,hf,XR]
   · simp at mA;obtain ⟨rfl,rfl⟩:=mA;refine ⟨_,?_,sy v hv⟩;simp only [Instr.lookup,Sem.run_bind,run_underlying hu,Result.andThen_ok,Sem.run_pure,Qj,Uf Ih hk,hf]
theorem FC {k x:AV} {kv xv:Value} {d:TypeDesc} {t:TypeId} (hk:Ya g w k kv) (hx:Ya g w x xv) (Ih:Hi A t k=true) (hd:A.P.underlying t=some d):∀ {es qd:List (AV×AV)} {Wf:List MapEntry} (i0:Nat),sn k x es=some qd->IG g w es Wf->
  (Instr.findNow d kv Wf i0=some none/\∀ born,IG g w qd (Wf++[{ key:=kv,val:=xv,born }]))\/
  ∃ i v e,Instr.findNow d kv Wf i0=some (some (i0+i,v))/\Wf[i]?=some e/\Instr.sameBits 10000 e.key kv=true/\IG g w qd (Wf.modify i fun e=>{ e with key:=kv,val:=xv })
 |[],qd,[],i0,h,_=>by
  simp [sn] at h;subst h;have hkk:AV.isKey k=true:=by unfold Hi at Ih;split at Ih<;>first|rfl|simp at Ih
  exact .inl ⟨rfl,fun born=>⟨hkk,hk,hx,trivial⟩⟩
 |(k',y)::es,qd,e::Wf,i0,h,he=>by
  obtain ⟨h1,h2,h3,h4⟩:=he;have hkk:AV.isKey k=true:=by unfold Hi at Ih;split at Ih<;>first|rfl|simp at Ih
  simp only [sn,aa] at h;obtain ⟨b,hb,h⟩:=h;obtain ⟨hs,SM⟩:=Yo hb hk h2 Ih hd;cases b with
  |true=>
   simp at h;subst h;exact .inr ⟨0,e.val,e,by simp [Instr.findNow,hs],rfl,SM rfl,⟨hkk,hk,hx,h4⟩⟩
  |false=>
   simp only [ia] at h;obtain ⟨rai,ZT,rfl⟩:=h;rcases FC hk hx Ih hd (i0+1) ZT h4 with ⟨hf,hr⟩|⟨i,v,e',hf,hi,U9,hr⟩
   · exact .inl ⟨by simp [Instr.findNow,hs,hf],fun born=>⟨h1,h2,h3,hr born⟩⟩
   · refine .inr ⟨i+1,v,e',by simp [Instr.findNow,hs,hf];omega,by simpa using hi,U9,?_⟩;simp only [List.modify_succ_cons];exact ⟨h1,h2,h3,hr⟩
 |[],_,_::_,_,_,he=>he.elim
 |_::_,_,[],_,_,he=>by cases ‹AV×AV›;exact he.elim
theorem KD {k:AV} {kv:Value} {d:TypeDesc} {t:TypeId} (hk:Ya g w k kv) (Ih:Hi A t k=true) (hd:A.P.underlying t=some d):∀ {es qd:List (AV×AV)} {Wf:List MapEntry} (i0:Nat),vn k es=some qd->IG g w es Wf->
  (Instr.findNow d kv Wf i0=some none/\IG g w qd Wf)\/
  ∃ i v,Instr.findNow d kv Wf i0=some (some (i0+i,v))/\i<Wf.length/\IG g w qd (Wf.eraseIdx i)
 |[],qd,[],i0,h,_=>by simp [vn] at h;subst h;exact .inl ⟨rfl,trivial⟩
 |(k',y)::es,qd,e::Wf,i0,h,he=>by
  obtain ⟨h1,h2,h3,h4⟩:=he;simp only [vn,aa] at h;obtain ⟨b,hb,h⟩:=h;obtain ⟨hs,SM⟩:=Yo hb hk h2 Ih hd;cases b with
  |true=>
   simp at h;subst h;exact .inr ⟨0,e.val,by simp [Instr.findNow,hs],by simp,by simpa using h4⟩
  |false=>
   simp only [ia] at h;obtain ⟨rai,ZT,rfl⟩:=h;rcases KD hk Ih hd (i0+1) ZT h4 with ⟨hf,hr⟩|⟨i,v,hf,hi,hr⟩
   · exact .inl ⟨by simp [Instr.findNow,hs,hf],h1,h2,h3,hr⟩
   · exact .inr ⟨i+1,v,by simp [Instr.findNow,hs,hf];omega,by simpa using hi,h1,h2,h3,hr⟩
 |[],_,_::_,_,_,he=>he.elim
 |_::_,_,[],_,_,he=>by cases ‹AV×AV›;exact he.elim
theorem IG.mono {g g':Gx} {w w':World} (hle:g.Le w g' w'):∀ {es:List (AV×AV)} {Wf:List MapEntry},IG g w es Wf->IG g' w' es Wf
 |[],[],_=>trivial
 |(k,x)::es,e::Wf,⟨h1,h2,h3,h4⟩=>⟨h1,h2.mono hle,h3.mono hle,h4.mono hle⟩
 |[],_::_,h=>h.elim
 |_::_,[],h=>by cases ‹AV×AV›;exact h.elim
theorem Cq {b:Nat} {es qd:List (AV×AV)} {Wf qG:Array MapEntry} {clock clock':Nat} (hw:Ub A.La g w s.H) (hf:Jd g f w s.H s.F) (hd:g.D b) (hb:s.H.bl[b]?=some (.map es)) (Of:s.H.wm<=b)
  (hR:w.heap[(g.ρ b).R]?=some (.map Wf clock)) (he:IG g w qd qG.toList):
  Ub A.La g { w with heap:=w.heap.setIfInBounds (g.ρ b).R (.map qG clock') } (Ma s.H b (.map qd))/\Jd g f { w with heap:=w.heap.setIfInBounds (g.ρ b).R (.map qG clock') } (Ma s.H b (.map qd)) s.F/\
   kg g f w s.H s.F g f { w with heap:=w.heap.setIfInBounds (g.ρ b).R (.map qG clock') } (Ma s.H b (.map qd)) s.F:=by
 have nc:=Ua hR;have Td:live g s.H b:=⟨hd,_,hb,rfl⟩;refine ue hw hf Td Of (by simp) (fun R Nc=>by simp [Array.getElem?_setIfInBounds,Ne.symm Nc]) (fun hle=> ?_);obtain ⟨h1,h2⟩:=Zq.1 (he.mono hle);exact ⟨qG,clock',by simp [nc],hw.fm Td,by simpa using h1,fun i k x e hi hc=>h2 i k x e hi (by simpa using hc)⟩
theorem Wn {t:TypeId} {m k x:AV} {mv kv xv:Value} {H':AH} (h:mapUpdate A s.H t m k x=some H') (hw:Ub A.La g w s.H) (hf:Jd g f w s.H s.F) (hm:Ya g w m mv) (hk:Ya g w k kv) (hx:Ya g w x xv):
   ∃ w',(Instr.mapUpdate t mv kv xv).run A.P w= .ok () w'/\Ub A.La g w' H'/\Jd g f w' H' s.F/\kg g f w s.H s.F g f w' H' s.F:=by
 unfold mapUpdate at h;split at h
 case h_2=>simp at h
 case h_1 kt et b hu=>
 split at h
 case isFalse=>simp at h
 case isTrue hc=>
 simp only [Ia,decide_eq_true_eq] at hc;obtain ⟨Ih,Of⟩:=hc;split at h
 case h_2=>simp at h
 case h_1 es hb=>
 simp only [ia] at h;obtain ⟨qd,ZT,rfl⟩:=h;cases hm with
 |mp _ hd=>
 obtain ⟨Wf,clock,hR,hZ,hl,Bm⟩:=hw.Oc b _ hd hb;have hER:IG g w es Wf.toList:=Zq.2 ⟨by simpa using hl,fun i k x e hi he=>Bm i k x e hi (by simpa using he)⟩;obtain ⟨d,R9⟩:=au Ih;have Qj:(getObj (g.ρ b).R).run A.P w= .ok (.map Wf clock) w:=by simp [getObj,Sem.run,hR]
 have yh:∀ o:Obj,(setObj (g.ρ b).R o).run A.P w= .ok () { w with heap:=w.heap.setIfInBounds (g.ρ b).R o }:=fun o=>by simp [setObj,Sem.run,hR]
 rcases FC hk hx Ih R9 0 ZT hER with ⟨pK,hr⟩|⟨i,v,e,pK,hi,SM,hr⟩
 · have N9:(Instr.findKey kt kv Wf.toList).run A.P w= .ok none w:=by simp [Instr.findKey,run_underlying R9,pK]
   refine ⟨_,?_,Cq (qG:=Wf.push { key:=kv,val:=xv,born:=clock }) (clock':=clock+1) hw hf hd hb Of hR (by simpa using hr clock)⟩;simp only [Instr.mapUpdate,Sem.run_bind,run_underlying hu,Result.andThen_ok,Qj,Uf Ih hk,N9,yh]
 · have N9:(Instr.findKey kt kv Wf.toList).run A.P w= .ok (some (i,v)) w:=by simp [Instr.findKey,run_underlying R9,pK]
   have WB:(Instr.keyThatStays (((Wf[i]?).map (·.key)).getD kv) kv).run A.P w= .ok kv w:=by
    have:Wf[i]?=some e:=by simpa using hi
    simp [Instr.keyThatStays,this,SM]
   refine ⟨_,?_,Cq (qG:=Wf.modify i fun e=>{ e with key:=kv,val:=xv }) (clock':=clock) hw hf hd hb Of hR (by simpa using hr)⟩;simp only [Instr.mapUpdate,Sem.run_bind,run_underlying hu,Result.andThen_ok,Qj,Uf Ih hk,N9,WB,yh]
theorem Yx {ts:Array TypeId} {t ty:TypeId} {m k:AV} {mv kv:Value} {H':AH} (zn:ts[0]?=some t) (h:uf A s.H t m k=some H') (hw:Ub A.La g w s.H) (hf:Jd g f w s.H s.F) (hm:Ya g w m mv) (hk:Ya g w k kv):
   ∃ w',(Builtin.delete_ ts ty #[mv,kv]).run A.P w= .ok (.tuple #[]) w'/\Ub A.La g w' H'/\Jd g f w' H' s.F/\kg g f w s.H s.F g f w' H' s.F:=by
 unfold uf at h;split at h
 · rename_i kt et hu;split at h
   case isFalse=>simp at h
   case isTrue Ih=>
   simp at h;subst h;cases hm;refine ⟨w,?_,hw,hf,.refl _ _ _ _ _⟩;simp [Builtin.delete_,zn,run_underlying hu,Uf Ih hk]
 · rename_i kt et b hu;split at h
   case isFalse=>simp at h
   case isTrue hc=>
   simp only [Ia,decide_eq_true_eq] at hc;obtain ⟨Ih,Of⟩:=hc;split at h
   case h_2=>simp at h
   case h_1 es hb=>
   simp only [ia] at h;obtain ⟨qd,ZT,rfl⟩:=h;cases hm with
   |mp _ hd=>
   obtain ⟨Wf,clock,hR,hZ,hl,Bm⟩:=hw.Oc b _ hd hb;have hER:IG g w es Wf.toList:=Zq.2 ⟨by simpa using hl,fun i k x e hi he=>Bm i k x e hi (by simpa using he)⟩;obtain ⟨d,R9⟩:=au Ih;have Qj:(getObj (g.ρ b).R).run A.P w= .ok (.map Wf clock) w:=by simp [getObj,Sem.run,hR]
   have yh:∀ o:Obj,(setObj (g.ρ b).R o).run A.P w= .ok () { w with heap:=w.heap.setIfInBounds (g.ρ b).R o }:=fun o=>by simp [setObj,Sem.run,hR]
   rcases KD hk Ih R9 0 ZT hER with ⟨pK,hr⟩|⟨i,v,pK,hi,hr⟩
   · have N9:(Instr.findKey kt kv Wf.toList).run A.P w= .ok none w:=by simp [Instr.findKey,run_underlying R9,pK]
     refine ⟨_,?_,Cq (qG:=Wf) (clock':=clock) hw hf hd hb Of hR hr⟩;simp only [Builtin.delete_,zn,Xb,ze,Ke,Sem.run_bind,run_underlying hu,Result.andThen_ok,Qj,Uf Ih hk,N9,yh,Sem.run_pure]
   · have N9:(Instr.findKey kt kv Wf.toList).run A.P w= .ok (some (i,v)) w:=by simp [Instr.findKey,run_underlying R9,pK]
     have hil:i<Wf.size:=by simpa using hi
     refine ⟨_,?_,Cq (qG:=Wf.eraseIdxIfInBounds i) (clock':=clock) hw hf hd hb Of hR (by simpa [Array.eraseIdxIfInBounds,hil] using hr)⟩;simp only [Builtin.delete_,zn,Xb,ze,Ke,Sem.run_bind,run_underlying hu,Result.andThen_ok,Qj,Uf Ih hk,N9,yh,Sem.run_pure]
 · simp at h
end
end Go.V
namespace Go.V
open Go
section
variable {A:oh} {g:Gx} {f:Fx} {w:World} {s:S} {a:Act}
theorem Qs {fn:AV->AV->Option AV} {gn:Value->Value->Sem Value} (Lm:∀ (x y z:AV) (xv yv:Value),fn x y=some z->Ya g w x xv->Ya g w y yv->∃ zv,(gn xv yv).run A.P w= .ok zv w/\Ya g w z zv):
  ∀ {ys:List AV} {yv:List Value} {x z:AV} {xv:Value},Ck fn x ys=some z->Ya g w x xv->yv.length=ys.length->(∀ (i:Nat) (y:AV) (v:Value),ys[i]?=some y->yv[i]?=some v->Ya g w y v)->∃ zv,(yv.foldlM gn xv).run A.P w= .ok zv w/\Ya g w z zv
 |[],[],x,z,xv,h,hx,_,_=>by simp [Ck] at h;subst h;exact ⟨xv,by simp,hx⟩
 |y::ys,v::yv,x,z,xv,h,hx,hl,hr=>by
  simp only [Ck,aa] at h;obtain ⟨q,hq,h⟩:=h;obtain ⟨qv,hqv,hqr⟩:=Lm x y q xv v hq hx (hr 0 y v rfl rfl);obtain ⟨zv,h1,h2⟩:=Qs Lm h hqr (by simpa using hl) (fun i y' v' hy hv=>hr (i+1) y' v' (by simpa using hy) (by simpa using hv));exact ⟨zv,by simp [List.foldlM_cons,hqv,h1],h2⟩
 |[],_::_,_,_,_,_,_,hl,_=>by simp at hl
 |_::_,[],_,_,_,_,_,hl,_=>by simp at hl
theorem lH (x y z:AV) (xv yv:Value) (h:mH x y=some z) (hx:Ya g w x xv) (hy:Ya g w y yv):∃ zv,(Builtin.max2 xv yv).run A.P w= .ok zv w/\Ya g w z zv:=by
 unfold mH at h;split at h
 · simp at h;subst h;cases hx;cases hy;exact ⟨_,by simp [Builtin.max2],.int _ _⟩
 · simp at h
theorem jH (x y z:AV) (xv yv:Value) (h:kH x y=some z) (hx:Ya g w x xv) (hy:Ya g w y yv):∃ zv,(Builtin.min2 xv yv).run A.P w= .ok zv w/\Ya g w z zv:=by
 unfold kH at h;split at h
 · simp at h;subst h;cases hx;cases hy;exact ⟨_,by simp [Builtin.min2],.int _ _⟩
 · simp at h
theorem Gw {sz:Nat} {rows new:List (List AV)} {cs:Array Value} {base r:Nat} {vs:List Value} (hlen:vs.length=new.length * sz) (EH:r+new.length<=rows.length) (Si:base+rows.length * sz<=cs.size)
   (hold:∀ (i:Nat) (row:List AV),rows[i]?=some row->row.length=sz/\Oe g w cs (base+i * sz) row) (oe:wj g w sz new vs.toArray):
   ∀ (i:Nat) (row:List AV),(rows.take r++(new++rows.drop (r+new.length)))[i]?=some row->row.length=sz/\Oe g w (cs.toList.take (base+r * sz)++vs++cs.toList.drop (base+r * sz+vs.length)).toArray (base+i * sz) row:=by
 intro i row hi;have hm1:(r+new.length) * sz=r * sz+new.length * sz:=Ce _ _ _;have hm2:(r+new.length) * sz<=rows.length * sz:=Vb _ EH;have htk:(cs.toList.take (base+r * sz)).length=base+r * sz:=by rw [dc,Ge];omega
 have gu:(rows.take r).length=r:=by rw [dc];omega
 by_cases h1:i<r
 · rw [Fa (by omega),Ab,if_pos h1] at hi;obtain ⟨hl,hr⟩:=hold i row hi;refine ⟨hl,fun c x hx=> ?_⟩;obtain ⟨v,e1,e2,e3⟩:=hr c x hx;have nc:i * sz+c<r * sz:=Dg h1 (by have:=getElem?_lt' hx;omega);refine ⟨v,?_,e2,e3⟩;simp only [Xb,od];rw [Fa (by omega),Ab,if_pos (by omega)];simpa using e1
 · rw [Ka (by omega),gu] at hi;by_cases h2:i-r<new.length
   · rw [Fa h2] at hi;obtain ⟨hl,hr⟩:=oe.2 _ row hi;refine ⟨hl,fun c x hx=> ?_⟩;obtain ⟨v,e1,e2,e3⟩:=hr c x hx;have nc:(i-r) * sz+c<new.length * sz:=Dg h2 (by have:=getElem?_lt' hx;omega);have VT:i * sz=r * sz+(i-r) * sz:=by rw [<- Ce];congr 1;omega
     refine ⟨v,?_,e2,e3⟩;simp only [Xb,od] at e1 ⊢;rw [Ka (by omega),htk,Fa (by omega),<- e1];congr 1;omega
   · rw [Ka (by omega),Dc] at hi;have hii:r+new.length+(i-r-new.length)=i:=by omega
     rw [hii] at hi;obtain ⟨hl,hr⟩:=hold i row hi;refine ⟨hl,fun c x hx=> ?_⟩;obtain ⟨v,e1,e2,e3⟩:=hr c x hx;have Qr:(r+new.length) * sz<=i * sz:=Vb _ (by omega);refine ⟨v,?_,e2,e3⟩;simp only [Xb,od];rw [Ka (by omega),htk,Ka (by omega),Dc,show base+r * sz+vs.length+(base+i * sz+c-(base+r * sz)-vs.length)=base+i * sz+c by omega]
     simpa using e1
theorem Uo {H:AH} {x:AV} {xv:Value} {rows:List (List AV)} {k:Nat} (h:rowsOf H x=some rows) (hw:Ub A.La g w H) (hx:Ya g w x xv) (hk:k<=rows.length):
   ∃ x' pS,rowsOf H x'=some (rows.take k)/\Ya g w x' pS/\∀ sz,Builtin.firstCells sz k pS=Builtin.firstCells sz k xv:=by
 unfold rowsOf at h;split at h
 · simp at h;subst h;simp at hk;subst hk;exact ⟨.Wa,xv,rfl,hx,fun _=>rfl⟩
 · simp at h;subst h;simp at hk;subst hk;exact ⟨.Kd,xv,rfl,hx,fun _=>rfl⟩
 · rename_i sz Ag;simp at h;subst h;cases hx with
   |lits _ ad=>simp at hk;subst hk;exact ⟨.lit sz [],_,rfl,.lits sz ad,fun _=>rfl⟩
   |lit _ ad cap _ vs hs hc hz hl Zh S' Bm=>
    have hlen:(Ag.take k).length=k:=by simp;omega
    have Qj:∀ (i:Nat) (row:List AV),(Ag.take k)[i]?=some row->Ag[i]?=some row:=fun i row hi=>by
     rw [Ab] at hi;split at hi;exact hi;simp at hi
    refine ⟨.lit sz (Ag.take k),.slice (some ad) (Ag.take k).length cap,rfl,.lit _ ad cap sz vs hs (by omega) (fun Nc=>hz (by intro e;subst e;simp at Nc)) (fun i row hi=>hl i row (Qj i row hi)) (fun i c hi Mm=>Zh i c (by omega) Mm) (fun i c hi Mm=>S' i c (by omega) Mm) (fun i row c x hi hx=>Bm i row c x (Qj i row hi) hx),fun _=>rfl⟩
 · rename_i b r n;split at h
   case h_2=>simp at h
   case h_1 Ag sz xB hb=>
   split at h
   case isFalse=>simp at h
   case isTrue hle=>
   simp at h;subst h;have hlen:((Ag.drop r).take n).length=n:=by simp;omega
   have Pj:rowsOf H (.sl b r k)=some (((Ag.drop r).take n).take k):=by
    simp only [rowsOf,hb];rw [if_pos (by omega),List.take_take,Nat.min_eq_left (by omega)]
   cases hx with
   |sl _ _ _ cap hd hn zo hmc=>exact ⟨.sl b r k,_,Pj,.sl b r k cap hd (by omega) zo (by assumption),fun _=>rfl⟩
   |TG _ _ ad hd=>
    have:k=0:=by omega
    subst this;exact ⟨.sl b r 0,_,Pj,.TG b r ad hd,fun _=>rfl⟩
 · simp at h
theorem iC {b:Builtin} {ts:Array TypeId} {ty:TypeId} {consts:Array Bool} {args:List AV} {vs:List Value} {v:AV} {H':AH} {r:Result Next} (h:builtin A s.H b ts args=some (v,H')) (hw:Ub A.La g w s.H) (hf:Jd g f w s.H s.F)
   (hl:args.length=vs.length) (hv:∀ (i:Nat) (x:AV) (u:Value),args[i]?=some x->vs[i]?=some u->Ya g w x u) (Wd:r=(Rm b ts ty consts vs.toArray).run A.P w):
   pJ A.La g f w s { s with H:=H' } (.v v) r:=by
 unfold builtin at h;split at h
 · rename_i x y;obtain ⟨xv,yv,rfl⟩:∃ xv yv,vs=[xv,yv]:=by
     match vs,hl with
     |[p,q],_=>exact ⟨p,q,rfl⟩
   exact zG h hw hf (hv 0 x xv rfl rfl) (hv 1 y yv rfl rfl) Wd
 · rename_i x;obtain ⟨xv,rfl⟩:∃ xv,vs=[xv]:=by
     match vs,hl with
     |[p],_=>exact ⟨p,rfl⟩
   have hx:=hv 0 x xv rfl rfl;simp only [aa] at h;obtain ⟨t,zn,h⟩:=h;have QB:∀ n:Int,(Builtin.len_ ts ty #[xv]).run A.P w= .ok (.int .i64 n) w->pJ A.La g f w s s (.v (.int .i64 n)) r:=fun n hn=>Ie hw hf (rv:= .int .i64 n) (by rw [Wd];simp [Rm,hn]) (.int _ _)
   split at h
   · rename_i sb hu;simp at h;obtain ⟨rfl,rfl⟩:=h;cases hx;exact QB _ (by simp [Builtin.len_,zn,run_underlying hu,goInt])
   · rename_i e hu;simp at h;obtain ⟨rfl,rfl⟩:=h;cases hx;exact QB _ (by simp [Builtin.len_,zn,run_underlying hu,goInt])
   · rename_i e hu;simp at h;obtain ⟨rfl,rfl⟩:=h;cases hx;exact QB _ (by simp [Builtin.len_,zn,run_underlying hu,goInt])
   · rename_i e sz rows hu;simp at h;obtain ⟨rfl,rfl⟩:=h;cases hx<;>exact QB _ (by simp [Builtin.len_,zn,run_underlying hu,goInt])
   · rename_i e b' r' n hu;simp at h;obtain ⟨rfl,rfl⟩:=h;cases hx<;>exact QB _ (by simp [Builtin.len_,zn,run_underlying hu,goInt])
   · rename_i kt et hu;simp only [ia] at h;obtain ⟨es,ZT,h⟩:=h;simp at h;obtain ⟨rfl,rfl⟩:=h;rcases ax ZT hw hx with ⟨rfl,rfl⟩|⟨q,Wf,clock,rfl,hR,he⟩
     · exact QB _ (by simp [Builtin.len_,zn,run_underlying hu,goInt])
     · have Qj:(getObj q).run A.P w= .ok (.map Wf clock) w:=by simp [getObj,Sem.run,hR]
       have tK:=(Zq.1 he).1;have Kah:Wf.size=es.length:=by simpa using tK
       exact QB _ (by simp [Builtin.len_,zn,run_underlying hu,Qj,goInt,Kah])
   · rename_i n e hu;simp at h;obtain ⟨rfl,rfl⟩:=h;exact QB _ (by simp [Builtin.len_,zn,run_underlying hu,goInt])
   · simp at h
 · rename_i x xs;obtain ⟨xv,xvs,rfl⟩:∃ xv xvs,vs=xv::xvs:=by
     match vs,hl with
     |p::q,_=>exact ⟨p,q,rfl⟩
   simp only [ia] at h;obtain ⟨z,hz,h⟩:=h;simp at h;obtain ⟨rfl,rfl⟩:=h;obtain ⟨zv,h1,h2⟩:=Qs (A:=A) (gn:=Builtin.max2) lH hz (hv 0 x xv rfl rfl) (by simpa using hl.symm) (fun i y u hy hu=>hv (i+1) y u (by simpa using hy) (by simpa using hu));exact Ie hw hf (rv:=zv) (by rw [Wd];simp [Rm,Builtin.max_,h1]) h2
 · rename_i x xs;obtain ⟨xv,xvs,rfl⟩:∃ xv xvs,vs=xv::xvs:=by
     match vs,hl with
     |p::q,_=>exact ⟨p,q,rfl⟩
   simp only [ia] at h;obtain ⟨z,hz,h⟩:=h;simp at h;obtain ⟨rfl,rfl⟩:=h;obtain ⟨zv,h1,h2⟩:=Qs (A:=A) (gn:=Builtin.min2) jH hz (hv 0 x xv rfl rfl) (by simpa using hl.symm) (fun i y u hy hu=>hv (i+1) y u (by simpa using hy) (by simpa using hu));exact Ie hw hf (rv:=zv) (by rw [Wd];simp [Rm,Builtin.min_,h1]) h2
 · rename_i m k;obtain ⟨mv,kv,rfl⟩:∃ xv yv,vs=[xv,yv]:=by
     match vs,hl with
     |[p,q],_=>exact ⟨p,q,rfl⟩
   simp only [aa,ia] at h;obtain ⟨t,zn,H1,hd,h⟩:=h;simp at h;obtain ⟨rfl,rfl⟩:=h;obtain ⟨w',h1,h2,h3,h4⟩:=Yx (ty:=ty) zn hd hw hf (hv 0 m mv rfl rfl) (hv 1 k kv rfl rfl);exact ⟨.tuple #[],w',g,f,.inl (by rw [Wd];simp [Rm,h1]),h2,h3,h4,.Rc [] [] rfl (fun i x v h=>by simp at h)⟩
 · rename_i x y;obtain ⟨xv,yv,rfl⟩:∃ xv yv,vs=[xv,yv]:=by
     match vs,hl with
     |[p,q],_=>exact ⟨p,q,rfl⟩
   have hx:=hv 0 x xv rfl rfl;have hy:=hv 1 y yv rfl rfl;simp only [aa] at h;obtain ⟨t,zn,e,he,z,hz,ys,dw,h⟩:=h;have hu:=Ui he;obtain ⟨yo,Yaj,hyv,daj,_⟩:=Qf dw hw hy;have gp:(Builtin.lenOf yv).run A.P w= .ok ys.length w:=by rw [hyv];simp [Builtin.lenOf]
   split at h
   · simp at h;obtain ⟨rfl,rfl⟩:=h;cases hx;obtain ⟨x',pS,p1,p2,p3⟩:=Uo (k:=0) dw hw hy (Nd _);obtain ⟨_,_,cs,_,_,q2,_,_,_,q5⟩:=vm (sz:=z) p1 hw p2 (fun row h=>by simp at h);have pZ:=q5 w rfl;simp only [List.take_zero,ek] at pZ;rw [p3] at pZ;refine Ie hw hf (rv:= .int .i64 0) ?_ (.int _ _);have kK:ys.length.min 0=0:=by simp
     rw [Wd];simp [Rm,Builtin.copy_,zn,run_underlying hu,gp,kK,Mc hz,pZ,goInt]
   · simp at h;obtain ⟨rfl,rfl⟩:=h;cases hx with
     |Kd ad0=>
     obtain ⟨x',pS,p1,p2,p3⟩:=Uo (k:=0) dw hw hy (Nd _);obtain ⟨_,_,cs,_,_,q2,_,_,_,q5⟩:=vm (sz:=z) p1 hw p2 (fun row h=>by simp at h);have pZ:=q5 w rfl;simp only [List.take_zero,ek] at pZ;rw [p3] at pZ;refine Ie hw hf (rv:= .int .i64 0) ?_ (.int _ _);have kK:ys.length.min 0=0:=by simp
     rw [Wd];have S9:cs= #[]:=Wg (by rw [q2];simp);simp [Rm,Builtin.copy_,zn,run_underlying hu,gp,kK,Mc hz,pZ,goInt,S9,storeCells]
   · rename_i b' r' n;split at h
     case h_2=>simp at h
     case h_1 rows sz xB hb=>
     split at h
     case isFalse=>simp at h
     case isTrue hc=>
     obtain ⟨Of,EH,rfl,Af⟩:=hc;simp at h;obtain ⟨rfl,rfl⟩:=h;have TM:∀ row∈ys,row.length=sz:=fun row Zc=>by simpa using Yb.1 Af row Zc
     have hD:g.D b':=by cases hx<;>assumption
     have Td:live g s.H b':=⟨hD,_,hb,rfl⟩;obtain ⟨V8,zf,JM,qK,Uw,⟨T,fz,hR,mJ,Tk,hZ⟩,Kc⟩:=hw.Oc b' _ hD hb;obtain ⟨x',pS,p1,p2,p3⟩:=Uo (k:=min ys.length n) dw hw hy (Nat.min_le_left _ _);obtain ⟨_,_,cs,_,_,q2,q3,_,q4,q5⟩:=vm (sz:=sz) p1 hw p2 (fun row Zc=>TM row (List.mem_of_mem_take Zc));have Bj:(ys.take (min ys.length n)).length=min ys.length n:=by rw [dc];omega
     have pZ:=q5 w rfl;rw [Bj,p3] at pZ;rw [Bj] at q2;generalize hN:min ys.length n=N at *
     have hNn:N<=n:=by omega
     have N0:∃ ad cap,xv= .slice (some ad) n cap/\((storeCells ad cs.toList).run A.P w= .ok () (w.setRow (g.ρ b').R (Uw.toList.take ((g.ρ b').o+r' * sz)++cs.toList++Uw.toList.drop ((g.ρ b').o+r' * sz+cs.toList.length)).toArray)):=by
       have hm1:(r'+N) * sz=r' * sz+N * sz:=Ce _ _ _;have hm2:(r'+N) * sz<=rows.length * sz:=Vb _ (by omega);cases hx with
       |sl _ _ _ cap hd hn zo=>
        refine ⟨_,cap,rfl,?_⟩;have Wb:=We A.P (g.ρ b').R ((g.ρ b').o+r' * sz) T fz cs.toList 0 Uw w hR (by simp;omega) (fun j hj=>Tk _ (by simp at hj;omega)) q4;rw [JM];simpa using Wb
       |TG _ _ ad hd=>
        have hN0:N=0:=by omega
        have S9:cs= #[]:=Wg (by rw [q2,hN0];simp);refine ⟨ad,0,rfl,?_⟩;rw [S9];have:=setRow_self w (g.ρ b').R Uw T fz hR;simp only [storeCells,Array.toList_empty,Qm,ek,td,List.take_append_drop,Array.toArray_toList,this];rfl
     obtain ⟨ad,cap,rfl,Wb⟩:=N0;have hm1:(r'+N) * sz=r' * sz+N * sz:=Ce _ _ _;have hm2:(r'+N) * sz<=rows.length * sz:=Vb _ (by omega);obtain ⟨k1,k2,k3⟩:=ue (b:=b') (x:= .cells (rows.take r'++(ys.take N++rows.drop (r'+(ys.take N).length))) sz xB) (w':=w.setRow (g.ρ b').R (Uw.toList.take ((g.ρ b').o+r' * sz)++cs.toList++Uw.toList.drop ((g.ρ b').o+r' * sz+cs.toList.length)).toArray) hw hf Td Of (setRow_size _ _ _) (fun R Nc=>setRow_other _ _ _ _ Nc)
       (fun hle=>⟨V8.setRow _,zf,JM,by simp only [Ud,dc,Kl,Bj];rw [show min r' rows.length+(N+(rows.length-(r'+N)))=rows.length by omega];exact qK,_,Row.set (show Row g w (g.ρ b').R (g.ρ b').e Uw from ⟨T,fz,hR,mJ,Tk,hZ⟩) (by simp;omega),fun r row hr=>by
        obtain ⟨z1,z2⟩:=Gw (vs:=cs.toList) (base:=(g.ρ b').o) (by simp [q2,Bj]) (by rw [Bj];omega) (by rw [mJ];exact qK) Kc (by simpa using q3) r row hr;exact ⟨z1,z2.mono hle⟩⟩)
     rw [Bj] at k1 k2 k3;refine ⟨.int .i64 N,_,g,f,.inl ?_,k1,k2,k3,.int _ _⟩;have kK:ys.length.min n=N:=hN;rw [Wd];simp [Rm,Builtin.copy_,zn,run_underlying hu,gp,kK,Mc hz,pZ,Wb,goInt]
   · simp at h
 · simp at h
end
end Go.V
namespace Go.V
open Go
def VL (g:Gx) (w:World):List AV->List Value->Prop
 |[],[]=>True
 |x::xs,v::vs=>Ya g w x v/\VL g w xs vs
 |_,_=>False
def D4 (g:Gx) (w:World):List (List AV)->List (List Value)->Prop
 |[],[]=>True
 |x::xs,v::vs=>VL g w x v/\D4 g w xs vs
 |_,_=>False
section
variable {A:oh} {g g':Gx} {w w':World}
theorem VL.mono (h:g.Le w g' w'):∀ {xs:List AV} {vs:List Value},VL g w xs vs->VL g' w' xs vs
 |[],[],_=>trivial
 |_::_,_::_,⟨h1,h2⟩=>⟨h1.mono h,h2.mono h⟩
 |[],_::_,h=>h.elim
 |_::_,[],h=>h.elim
theorem D4.mono (h:g.Le w g' w'):∀ {xs:List (List AV)} {vs:List (List Value)},D4 g w xs vs->D4 g' w' xs vs
 |[],[],_=>trivial
 |_::_,_::_,⟨h1,h2⟩=>⟨h1.mono h,h2.mono h⟩
 |[],_::_,h=>h.elim
 |_::_,[],h=>h.elim
theorem zj:∀ {xs:List AV} {vs:List Value},VL g w xs vs↔vs.length=xs.length/\∀ (i:Nat) (x:AV) (v:Value),xs[i]?=some x->vs[i]?=some v->Ya g w x v
 |[],[]=>⟨fun _=>⟨rfl,fun i x v h=>by simp at h⟩,fun _=>trivial⟩
 |x::xs,v::vs=>by
  simp only [VL,zj (xs:=xs) (vs:=vs)];constructor
  · rintro ⟨h1,h2,h3⟩
    refine ⟨by simp [h2],fun i y u hy hu=> ?_⟩;cases i with
    |zero=>simp at hy hu;subst hy;subst hu;exact h1
    |succ i=>exact h3 i y u (by simpa using hy) (by simpa using hu)
  · rintro ⟨h2,h3⟩
    exact ⟨h3 0 x v rfl rfl,by simpa using h2,fun i y u hy hu=>h3 (i+1) y u (by simpa using hy) (by simpa using hu)⟩
 |[],_::_=>⟨fun h=>h.elim,fun h=>by simp at h⟩
 |_::_,[]=>⟨fun h=>h.elim,fun h=>by simp at h⟩
theorem jE:∀ {xs:List (List AV)} {vs:List (List Value)},D4 g w xs vs↔vs.length=xs.length/\∀ (i:Nat) (x:List AV) (v:List Value),xs[i]?=some x->vs[i]?=some v->VL g w x v
 |[],[]=>⟨fun _=>⟨rfl,fun i x v h=>by simp at h⟩,fun _=>trivial⟩
 |x::xs,v::vs=>by
  simp only [D4,jE (xs:=xs) (vs:=vs)];constructor
  · rintro ⟨h1,h2,h3⟩
    refine ⟨by simp [h2],fun i y u hy hu=> ?_⟩;cases i with
    |zero=>simp at hy hu;subst hy;subst hu;exact h1
    |succ i=>exact h3 i y u (by simpa using hy) (by simpa using hu)
  · rintro ⟨h2,h3⟩
    exact ⟨h3 0 x v rfl rfl,by simpa using h2,fun i y u hy hu=>h3 (i+1) y u (by simpa using hy) (by simpa using hu)⟩
 |[],_::_=>⟨fun h=>h.elim,fun h=>by simp at h⟩
 |_::_,[]=>⟨fun h=>h.elim,fun h=>by simp at h⟩
def jM (A:oh) (fz:AH->AV->Option (AV×AH)):Prop:=
 ∀ H x x' H',fz H x=some (x',H')->∀ (g:Gx) (w:World) (v:Value),Ub A.La g w H->Ya g w x v->∃ g',Ub A.La g' w H'/\Ext g w H g' w H'/\Ya g' w x' v
theorem Rj {fz:AH->AV->Option (AV×AH)} (Tk:jM A fz):∀ (xs Ho:List AV) (H H':AH) (g:Gx) (w:World) (vs:List Value),Ig fz H xs=some (Ho,H')->Ub A.La g w H->VL g w xs vs->∃ g',Ub A.La g' w H'/\Ext g w H g' w H'/\VL g' w Ho vs/\Ho.length=xs.length
 |[],Ho,H,H',g,w,vs,h,hw,hv=>by
  simp [Ig] at h;obtain ⟨rfl,rfl⟩:=h;exact ⟨g,hw,.refl _ _ _,hv,rfl⟩
 |x::xs,Ho,H,H',g,w,v::vs,h,hw,hv=>by
  simp only [Ig,aa] at h;obtain ⟨⟨x1,H1⟩,h1,⟨xs1,H2⟩,h2,h⟩:=h;simp at h;obtain ⟨rfl,rfl⟩:=h;obtain ⟨g1,w1,e1,v1⟩:=Tk _ _ _ _ h1 g w v hw hv.1;obtain ⟨g2,w2,e2,v2,l2⟩:=Rj Tk xs xs1 H1 H2 g1 w vs h2 w1 (hv.2.mono (hw.le e1));exact ⟨g2,w2,e1.trans e2,⟨v1.mono (w1.le e2),v2⟩,by simp [l2]⟩
 |_::_,_,_,_,_,_,[],_,_,hv=>hv.elim
theorem ru {fz:AH->AV->Option (AV×AH)} (Tk:jM A fz):∀ (xs Ho:List (List AV)) (H H':AH) (g:Gx) (w:World) (vs:List (List Value)),zh fz H xs=some (Ho,H')->Ub A.La g w H->D4 g w xs vs->∃ g',Ub A.La g' w H'/\Ext g w H g' w H'/\D4 g' w Ho vs/\Ho.length=xs.length/\
  ∀ (i:Nat) (r r':List AV),xs[i]?=some r->Ho[i]?=some r'->r'.length=r.length
 |[],Ho,H,H',g,w,vs,h,hw,hv=>by
  simp [zh] at h;obtain ⟨rfl,rfl⟩:=h;exact ⟨g,hw,.refl _ _ _,hv,rfl,fun i r r' h=>by simp at h⟩
 |x::xs,Ho,H,H',g,w,v::vs,h,hw,hv=>by
  simp only [zh,aa] at h;obtain ⟨⟨x1,H1⟩,h1,⟨xs1,H2⟩,h2,h⟩:=h;simp at h;obtain ⟨rfl,rfl⟩:=h;obtain ⟨g1,w1,e1,v1,l1⟩:=Rj Tk x x1 H H1 g w v h1 hw hv.1;obtain ⟨g2,w2,e2,v2,l2,l3⟩:=ru Tk xs xs1 H1 H2 g1 w vs h2 w1 (hv.2.mono (hw.le e1));refine ⟨g2,w2,e1.trans e2,⟨v1.mono (w1.le e2),v2⟩,by simp [l2],fun i r r' hr Rk=> ?_⟩;cases i with
  |zero=>simp at hr Rk;subst hr;subst Rk;exact l1
  |succ i=>exact l3 i r r' (by simpa using hr) (by simpa using Rk)
 |_::_,_,_,_,_,_,[],_,_,hv=>hv.elim
theorem j8 {H:AH} {b:Nat} (hw:Ub A.La g w H) (hb:live g H b) (Of:H.wm<=b):Ub A.La { g with Z:=fun R=>g.Z R\/R=(g.ρ b).R } w (Ma H b .dead)/\Ext g w H { g with Z:=fun R=>g.Z R\/R=(g.ρ b).R } w (Ma H b .dead):=by
 have hle:g.Le w { g with Z:=fun R=>g.Z R\/R=(g.ρ b).R } w:=⟨fun _ h=>⟨h,rfl⟩,fun _ h=>⟨.inl h,rfl⟩⟩;have lK:∀ b',live { g with Z:=fun R=>g.Z R\/R=(g.ρ b).R } (Ma H b .dead) b'->b'≠b/\live g H b':=fun b' h=>by
   rcases Ak (g:=g) (show live g (Ma H b .dead) b' from h) with ⟨_,h'⟩|h'
   · simp [Sd] at h'
   · exact h'
 refine ⟨⟨fun i row hg=>(hw.La i row hg).mono hle,fun b' hd=>by simpa [Ma] using hw.Ae b' hd,fun b' y hd hy=> ?_,fun b1 b2 h1 h2 Nc=>hw.inj b1 b2 (lK b1 h1).2 (lK b2 h2).2 Nc,fun R hR=> ?_⟩,?_⟩
 · rw [Mi] at hy;split at hy
   · split at hy
     · simp at hy;subst hy;trivial
     · simp at hy
   · rename_i Nc;refine (hw.Oc b' y hd hy).le hle (fun _=>rfl) (fun hl hz=> ?_);rcases hz with hz|hz
     · exact hw.fm ⟨hd,y,hy,hl⟩ hz
     · exact hw.inj b' b ⟨hd,y,hy,hl⟩ hb (fun e=>Nc e.symm) hz
 · rcases hR with hR|rfl
   · exact hw.vt R hR
   · exact hw.lt hb
 · refine ⟨fun _ h=>⟨h,rfl⟩,fun _ h=> .inl h,fun _ h=> .inl h,fun R h=>h.elim .inl (fun e=> .inr (.inl ⟨b,hb,e.symm⟩)),fun R ⟨b',h,e⟩=> .inl ⟨b',(lK b' h).2,e⟩,fun _ _ _=>rfl,oa _,by simp [Ma],rfl,fun b' zd hl=> ?_,fun _ _ _=>rfl,⟨rfl,rfl⟩⟩;rw [Mi,if_neg (by omega)]
theorem ai:∀ d,jM A (freeze d)
 |0=>fun H x x' H' h=>by simp [freeze] at h
 |d+1=>fun H x x' H' h g w v hw hx=>by
  cases x
  case sl b r n=>
   simp only [freeze,aa] at h;obtain ⟨rows,Kc,sz,ae,h⟩:=h;split at h
   case isFalse=>simp at h
   case isTrue Of=>
   simp only [aa] at h;obtain ⟨⟨Qd,H1⟩,XB,h⟩:=h;simp at h;obtain ⟨rfl,rfl⟩:=h;have hblk:∃ Ag xB,H.bl[b]?=some (.cells Ag sz xB):=by
     unfold Aj at ae;split at ae
     · rename_i Ag sz0 xB hb;simp at ae;subst ae;exact ⟨Ag,xB,hb⟩
     · simp at ae
   obtain ⟨Ag,xB,tA⟩:=hblk;have hD:g.D b:=by cases hx<;>assumption
   have Td:live g H b:=⟨hD,_,tA,rfl⟩;obtain ⟨w1,e1⟩:=j8 hw Td Of;have F9:=hw.le e1;by_cases Nc:rows=[]
   · obtain ⟨ao,cap,hv,Kk,_⟩:=Qf Kc hw hx;subst Nc;simp [zh] at XB;obtain ⟨rfl,rfl⟩:=XB;refine ⟨_,w1,e1,?_⟩;have yH:∀ (ad:Addr) (c:Nat),ad.spot=none->Ya { g with Z:=fun R=>g.Z R\/R=(g.ρ b).R } w (.lit sz []) (.slice (some ad) 0 c):=fun ad c hs=>
       .lit [] ad c sz (fun _ _=>undef) hs (Nd _) (fun h=>absurd rfl h) (fun i row h=>by simp at h) (fun i c h=>by simp at h) (fun i c h=>by simp at h) (fun i row c x h=>by simp at h)
     cases hx with
     |sl _ _ _ gC=>injection hv with _ hn _;simp at hn;subst hn;exact yH _ _ rfl
     |TG _ _ ad=>exact .lits sz ad
   · obtain ⟨ao,cap,rfl,Kk,Yh⟩:=Qf Kc hw hx;obtain ⟨ad,Gv,rfl,hs,kp⟩:=Yh Nc;obtain ⟨JZ,CP,hvr⟩:=pick (fun (i:Nat) (row:List AV) (vs:List Value)=>vs.length=row.length/\row.length=Gv/\(∀ u∈vs,u.oneCell'=true)/\(∀ (c:Nat) (u:Value),vs[c]?=some u->w.cell? ⟨ad.block,ad.off+i * Gv+c,none⟩=some u)/\VL g w row vs) rows (fun i row hi=>by
       obtain ⟨h1,h2⟩:=kp i row hi;obtain ⟨vs,k1,k2⟩:=pick (fun (c:Nat) (x:AV) (u:Value)=>w.cell? ⟨ad.block,ad.off+i * Gv+c,none⟩=some u/\u.oneCell'=true/\Ya g w x u) row h2;have hex:∀ (c:Nat) (u:Value),vs[c]?=some u->∃ x,row[c]?=some x:=fun c u hc=>⟨_,ya (by have:=getElem?_lt' hc;omega)⟩
       refine ⟨vs,k1,h1,fun u hu=> ?_,fun c u hc=> ?_,zj.2 ⟨k1,fun i x v hx hv=>(k2 i x v hx hv).2.2⟩⟩
       · obtain ⟨c,hc⟩:=Yd hu;obtain ⟨x,hx⟩:=hex c u hc;exact (k2 c x u hx hc).2.1
       · obtain ⟨x,hx⟩:=hex c u hc;exact (k2 c x u hx hc).1)
     have hrv:∀ (i:Nat) (vs:List Value),JZ[i]?=some vs->∃ row,rows[i]?=some row:=fun i vs hi=>⟨_,ya (by have:=getElem?_lt' hi;omega)⟩
     have Vah:D4 g w rows JZ:=jE.2 ⟨CP,fun i row vs hr hv=>(hvr i row vs hr hv).2.2.2.2⟩;obtain ⟨g2,w2,e2,v2,l2,l3⟩:=ru (ai d) rows Qd _ _ _ w JZ XB w1 (Vah.mono F9);refine ⟨g2,w2,e1.trans e2,?_⟩;have Eag:Gv=sz/\ad.block=(g.ρ b).R:=by
       generalize rows.length=m at hx;cases hx with
       |sl _ _ _ gC hd hn zo=>
         obtain ⟨_,_,_,_,cs,_,j9⟩:=hw.Oc b _ hD tA;cases FP:rows with
         |nil=>exact absurd FP Nc
         |cons aP rest=>
          have h0:rows[0]?=some aP:=by rw [FP];rfl
          obtain ⟨h1,_⟩:=kp 0 aP h0;have h2:=h0;simp only [rowsOf,tA] at Kc;split at Kc
          · simp at Kc;rw [<- Kc,Ab] at h2;split at h2
            · rw [Dc] at h2;exact ⟨h1 ▸ (j9 _ _ h2).1,rfl⟩
            · simp at h2
          · simp at Kc
       |TG=>
         have:rows.length=0:=by
          simp only [rowsOf,tA] at Kc;split at Kc
          · simp at Kc;subst Kc;rfl
          · simp at Kc
         exact absurd (Cr this) Nc
     obtain ⟨rfl,hblk⟩:=Eag;have hzz:g2.Z ad.block:=e2.Z _ (.inr hblk);obtain ⟨q1,q2⟩:=jE.1 v2;have Zh:∀ i c,i<Qd.length->c<Gv->∃ vs u,JZ[i]?=some vs/\vs[c]?=some u/\u.oneCell'=true/\w.cell? ⟨ad.block,ad.off+i * Gv+c,none⟩=some u:=fun i c hi hc=>by
       have nc:i<JZ.length:=by omega
       have hv:=ya nc;obtain ⟨row,hr⟩:=hrv i _ hv;obtain ⟨k1,k2,k3,k4,k5⟩:=hvr i row _ hr hv;have hu:=ya (l:=JZ[i]) (i:=c) (by omega);exact ⟨_,_,hv,hu,k3 _ (jb hu),k4 c _ hu⟩
     rw [<- l2];refine .lit Qd ad cap Gv (fun i c=>((JZ.getD i []).getD c undef)) hs (by omega) (fun _=>hzz) (fun i row hi=> ?_) (fun i c hi hc=> ?_) (fun i c hi hc=> ?_) (fun i row c x hi hx=> ?_)
     · have nc:=getElem?_lt' hi;have hr:=ya (l:=rows) (i:=i) (by omega);rw [l3 i _ _ hr hi];exact (kp i _ hr).1
     · obtain ⟨vs,u,h1,h2,h3,h4⟩:=Zh i c hi hc;simp [List.getD,h1,h2,h4]
     · obtain ⟨vs,u,h1,h2,h3,h4⟩:=Zh i c hi hc;simp [List.getD,h1,h2,h3]
     · have nc:=getElem?_lt' hi;have hv:=ya (l:=JZ) (i:=i) (by omega);obtain ⟨k1,k2⟩:=zj.1 (q2 i row _ hi hv);have hu:=ya (l:=JZ[i]) (i:=c) (by have:=getElem?_lt' hx;omega);have:=k2 c x _ hx hu
       simpa [List.getD,hv,hu] using this
  case agg cs=>
   simp only [freeze,aa] at h;obtain ⟨⟨Bh,H1⟩,h1,h⟩:=h;simp at h;obtain ⟨rfl,rfl⟩:=h;cases hx with
   |agg _ vs hl qy hr=>
     obtain ⟨g1,w1,e1,v1,l1⟩:=Rj (ai d) cs Bh _ _ g w vs h1 hw (zj.2 ⟨hl,hr⟩);obtain ⟨q1,q2⟩:=zj.1 v1;exact ⟨g1,w1,e1,.agg Bh vs q1 qy q2⟩
  case Rc cs=>
   simp only [freeze,aa] at h;obtain ⟨⟨Bh,H1⟩,h1,h⟩:=h;simp at h;obtain ⟨rfl,rfl⟩:=h;cases hx with
   |Rc _ vs hl hr=>
     obtain ⟨g1,w1,e1,v1,l1⟩:=Rj (ai d) cs Bh _ _ g w vs h1 hw (zj.2 ⟨hl,hr⟩);obtain ⟨q1,q2⟩:=zj.1 v1;exact ⟨g1,w1,e1,.Rc Bh vs q1 q2⟩
  all_goals
   simp [freeze] at h;obtain ⟨rfl,rfl⟩:=h;exact ⟨g,hw,.refl _ _ _,hx⟩
theorem ID {G:Nat->Option (List AV)} {g g':Gx} {f:Fx} {w w':World} {H H':AH} {F:List (List AV)} (hw:Ub G g w H) (hf:Jd g f w H F) (h:Ext g w H g' w' H'):Jd g' f w' H' F/\kg g f w H F g' f w' H' F:=by
 have hle:=hw.le h;refine ⟨⟨hf.Ae,fun i row hi Zc=> ?_,hf.inj,fun i hi hp=> ?_⟩,⟨h.D,h.Ay,h.Z,h.gq,h.fp,fun _ h=>⟨h,rfl⟩,fun _ h=> .inl h,fun _ h h'=>absurd h h',fun R hR hn _=>h.qk R hR hn,h.size,h.len,oa _,h.wm,h.quiet,h.still,fun _ _=>Iff.rfl,fun _ h h'=>absurd h h',fun i hi _=>h.qk _ (hf.lt hi) (hf.apart i hi),h.io⟩⟩
 · obtain ⟨cs,⟨T,fz,hR,q1,q2,q3⟩,q4⟩:=hf.Oc i row hi Zc;have nc:=hf.lt hi;refine ⟨cs,⟨T,fz,by rw [h.qk _ nc (hf.apart i hi)];exact hR,q1,q2,fun hz=> ?_⟩,q4.mono hle⟩;rcases h.gq _ hz with hz|hz|hz
   · exact q3 hz
   · exact hf.apart i hi hz
   · omega
 · rcases h.fp _ hp with h1|h1
   · exact hf.apart i hi h1
   · have:=hf.lt hi;omega
end
end Go.V
namespace Go.V
open Go
structure Tu (F:Fence):Prop where
 fn:∀ f,F.fn f
 depth:F.depth=none
 alive:F.alive=false
def xj (A:oh) (call:Callee):Prop:=
 ∀ fv args H r H',call fv args H=some (r,H')->∀ (g:Gx) (w:World) (lU:Value) (vs:List Value),Ub A.La g w H->Ya g w fv lU->args.length=vs.length->
  (∀ (i:Nat) (x:AV) (v:Value),args[i]?=some x->vs[i]?=some v->Ya g w x v)->
  ∀ (F:Fence) (n:Nat) (o:Oper) (a:Act) (next:Act->World->Prop) (Q:Exit->Act->World->Prop),Tu F->
   (∀ g' w' rv,Ya g' w' r rv->Ub A.La g' w' H'->Ext g w H g' w' H'->next (a.put o.dst rv) w')->
   Oper.uponIn F n A.P o a next Q ((do let d <- Deferred.ofValue lU vs.toArray;invoke d.target d.args:Sem Next).run A.P w)
section
variable {A:oh} {g:Gx} {f:Fx} {w:World} {s:S} {a:Act} {call:Callee} {za:List Nat}
theorem RD {s s':S} {t:TypeId} {b:Bool} {cs:List AV} {v:SV} (h:boxed s t b cs=some (v,s')):s'.e=s.e:=by
 unfold boxed at h;split at h
 · simp only [yc] at h;unfold box at h;split at h<;>simp at h<;>obtain ⟨_,rfl⟩:=h<;>rfl
 · simp at h
theorem Po {s s':S} {x:Option AV} {v:SV} (h:Hf s x=some (v,s')):s'=s/\∃ a,x=some a/\v= .v a:=by
 simp only [Hf,ia] at h;obtain ⟨a,ha,h⟩:=h;simp at h;obtain ⟨rfl,rfl⟩:=h;exact ⟨rfl,a,ha,rfl⟩
theorem Oo {s s':S} {x:Option (AV×AH)} {v:SV} (h:fh s x=some (v,s')):∃ a H,x=some (a,H)/\v= .v a/\s'={ s with H:=H }:=by
 simp only [fh,ia] at h;obtain ⟨⟨a,H⟩,ha,h⟩:=h;simp at h;obtain ⟨rfl,rfl⟩:=h;exact ⟨a,H,ha,rfl,rfl⟩
theorem yY {s':S} {v:SV} {r:Result Next} {o:Oper} {F:Fence} {n:Nat} {next:Act->World->Prop} {Q:Exit->Act->World->Prop} (h:pJ A.La g f w s s' v r)
   (hk:∀ g' f' w' rv,Ub A.La g' w' s'.H->Jd g' f' w' s'.H s'.F->kg g f w s.H s.F g' f' w' s'.H s'.F->we g' f' w' v rv->next (a.put o.dst rv) w'):Oper.uponIn F n A.P o a next Q r:=by
 obtain ⟨rv,w',g',f',hr|⟨hr,rfl⟩,h1,h2,h3,h4⟩:=h
 · rw [hr];exact hk g' f' w' rv h1 h2 h3 h4
 · rw [hr];exact hk g' f' w' undef h1 h2 h3 h4
theorem vi {x:Option AV} {v:SV} {s':S} {r:Result Next} (h:Hf s x=some (v,s')) (hw:Ub A.La g w s.H) (hf:Jd g f w s.H s.F)
  (hx:∀ a,x=some a->∃ rv,r= .ok (.value rv) w/\Ya g w a rv):pJ A.La g f w s s' v r/\s'.e=s.e:=by
 obtain ⟨rfl,a,ha,rfl⟩:=Po h;obtain ⟨rv,h1,h2⟩:=hx a ha;exact ⟨Ie hw hf h1 h2,rfl⟩
theorem B8 {o:Oper} {v:SV} {s':S} (h:op A call za s o=some (v,s')) (Sf:∀ c fv,o.op= .call c->c.callee≠ .value fv) (hw:Ub A.La g w s.H) (hf:Jd g f w s.H s.F) (he:Pe g f w s.e a.tmps) (hWr:∀ t x y,o.op= .store t x y->∀ i c,operand A s.e x=some (.loc i c)->f.W i):
   pJ A.La g f w s s' v ((execOp a.eval o).run A.P w)/\s'.e=s.e:=by
 unfold op at h;have nA:∀ {x:Operand},(operand A s.e x).map (fun v=>(v,s))=some (v,s')->pJ A.La g f w s s' v ((pure (.value (a.eval x)):Sem Next).run A.P w)/\s'.e=s.e:=fun {x} h=>by
   simp only [ia] at h;obtain ⟨sv,hsv,h⟩:=h;simp at h;obtain ⟨rfl,rfl⟩:=h;exact ⟨Ie hw hf rfl (me hsv hw he),rfl⟩
 split at h
 · rename_i x ho;unfold execOp;rw [ho];exact nA h
 · rename_i x ho;unfold execOp;rw [ho];exact nA h
 · rename_i c p q ho;simp only [aa] at h;obtain ⟨cv,bU,h⟩:=h;have hc:=Pb bU hw he;unfold execOp;rw [ho];split at h
   · generalize uy:a.eval c=cc at hc;cases hc;have:=nA h
     simpa [uy,asBool] using this
   · generalize uy:a.eval c=cc at hc;cases hc;have:=nA h
     simpa [uy,asBool] using this
   · simp at h
 · rename_i t ho;simp only [aa] at h;obtain ⟨z,hz,h⟩:=h;refine ⟨?_,RD h⟩;obtain ⟨zv,XR,z1,z2,z3⟩:=vz (g:=g) (w:=w) hz;unfold boxed at h;split at h
   case isFalse=>simp at h
   case isTrue zf=>
     simp only [yc] at h;have:=SD (Gg:=(o.dst.map (za.contains ·)).getD false) (t:=t) hw hf z1 z2 z3 (by rw [Ff] at zf;rcases zf with h|h;exact .inr h;exact .inl (of_decide_eq_true h)) (r:=(execOp a.eval o).run A.P w) (by
      unfold execOp;rw [ho];simp only [Instr.alloc,Sem.run_bind,XR,Result.andThen_ok,newVar,newRow,run_newObj,Sem.run_pure];rfl)
     rw [h] at this;exact this
 · rename_i t x ho;simp only [aa] at h;obtain ⟨av,D1,cs,Si,h⟩:=h;refine ⟨?_,RD h⟩;obtain ⟨z1,z2,z3⟩:=El Si (Pb D1 hw he);unfold boxed at h;split at h
   case isFalse=>simp at h
   case isTrue zf=>
     simp only [yc] at h;have:=SD (Gg:=(o.dst.map (za.contains ·)).getD false) (t:=t) hw hf z1 z2 z3 (by rw [Ff] at zf;rcases zf with h|h;exact .inr h;exact .inl (of_decide_eq_true h)) (r:=(execOp a.eval o).run A.P w) (by
      unfold execOp;rw [ho];simp only [Instr.box,Sem.run_bind,newVar,newRow,run_newObj,Sem.run_pure,Result.andThen_ok];rfl)
     rw [h] at this;exact this
 · rename_i t ps ho;simp only [aa] at h;obtain ⟨l,hl,h⟩:=h;have hp:=Vo hl hw he;refine vi h hw hf fun x hx=> ?_
   obtain ⟨rv,h1,h2⟩:=aJ (w:=w) hx hp;refine ⟨rv,?_,h2⟩;unfold execOp;rw [ho];have:(ps.map fun (i,x)=>(i,a.eval x))=(ps.toList.map fun (i,x)=>(i,a.eval x)).toArray:=by apply Array.ext';simp
   simp only [this,Sem.run_bind,h1,Result.andThen_ok,Sem.run_pure]
 · rename_i t n ps ho;simp only [aa] at h;obtain ⟨l,hl,h⟩:=h;obtain ⟨x,H,hx,rfl,rfl⟩:=Oo h;have hp:=Vo hl hw he;simp only [aa] at hx;obtain ⟨⟨x0,H0⟩,hx0,hx⟩:=hx;have N5:=Kw (r:=(execOp a.eval o).run A.P w) hx0 hw hf hp (by
     unfold execOp;rw [ho];have:(ps.map fun (i,x)=>(i,a.eval x))=(ps.toList.map fun (i,x)=>(i,a.eval x)).toArray:=by apply Array.ext';simp
     simp only [this])
   obtain ⟨rv,w1,g1,f1,d1,d2,d3,d4,d5⟩:=N5;simp only at hx;split at hx
   · obtain ⟨g2,k1,k2,k3⟩:=ai 8 _ _ _ _ hx g1 w1 rv d2 d5;obtain ⟨k4,k5⟩:=ID d2 d3 k2;exact ⟨⟨rv,w1,g2,f1,d1,k1,k4,d4.trans k5,k3⟩,rfl⟩
   · simp at hx;obtain ⟨rfl,rfl⟩:=hx;exact ⟨⟨rv,w1,g1,f1,d1,d2,d3,d4,d5⟩,rfl⟩
 · rename_i t x ho;simp only [aa] at h;obtain ⟨p,hp,h⟩:=h;refine vi h hw hf fun y hy=> ?_
   obtain ⟨rv,h1,h2⟩:=fA hy hw hf (me hp hw he);exact ⟨rv,by unfold execOp;rw [ho];simp [h1],h2⟩
 · rename_i t x y ho;simp only [aa,ia] at h;obtain ⟨p,hp,av,D1,s1,kZ,h⟩:=h;simp at h;obtain ⟨rfl,rfl⟩:=h;obtain ⟨w',h1,h2,h3,h4,h5⟩:=PG kZ hw hf (me hp hw he) (Pb D1 hw he) (fun i c e=>hWr _ _ _ ho i c (e ▸ hp));exact ⟨⟨undef,w',g,f,.inr ⟨by unfold execOp;rw [ho];simp [h1],rfl⟩,h2,h3,h4,.Qb _⟩,h5⟩
 · rename_i x ho;simp only [aa] at h;obtain ⟨p,hp,h⟩:=h;have pA:=me hp hw he;have Bo:∀ v':Value,we g f w p v'->a.eval x=v'->p=v/\s=s'->(execOp a.eval o).run A.P w= .ok (.value v') w->pJ A.La g f w s s' v ((execOp a.eval o).run A.P w)/\s'.e=s.e:=fun v' h1 _ h3 h4=>by
     obtain ⟨rfl,rfl⟩:=h3;rw [h4];exact ⟨Ie hw hf rfl h1,rfl⟩
   split at h
   · simp at h;obtain ⟨hi,hv⟩:=pA;exact Bo _ ⟨hi,hv⟩ rfl ⟨h.1,h.2⟩ (by unfold execOp;rw [ho];simp [hv])
   · simp at h;generalize hx:a.eval x=xv at pA;have VE:Ya g w _ xv:=pA;cases VE with
     |ptr _ _ _ hb=>exact Bo _ pA hx ⟨h.1,h.2⟩ (by unfold execOp;rw [ho];simp [hx])
   · simp at h;generalize hx:a.eval x=xv at pA;have VE:Ya g w _ xv:=pA;cases VE with
     |Bd _ ad vs q1 q2 q3 q4 q5=>exact Bo _ pA hx ⟨h.1,h.2⟩ (by unfold execOp;rw [ho];simp [hx])
   · simp at h;generalize hx:a.eval x=xv at pA;have VE:Ya g w _ xv:=pA;cases VE with
     |fn _ _ vs q1 q2=>exact Bo _ pA hx ⟨h.1,h.2⟩ (by unfold execOp;rw [ho];simp [hx])
   · simp at h;generalize hx:a.eval x=xv at pA;have VE:Ya g w _ xv:=pA;cases VE with
     |yl _ q1=>exact Bo _ pA hx ⟨h.1,h.2⟩ (by unfold execOp;rw [ho];simp [hx])
   · simp at h
 · rename_i b t x y yt ho;simp only [aa] at h;obtain ⟨u,hu,v',Pr,h⟩:=h;refine vi h hw hf fun z hz=> ?_
   obtain ⟨rv,h1,h2,h3⟩:=bJ (ox:=x) (oy:=y) hz (Pb hu hw he) (Pb Pr hw he);exact ⟨rv,by unfold execOp;rw [ho];simp [h1,h2],h3⟩
 · rename_i u t x ho;simp only [aa] at h;obtain ⟨v',Pr,h⟩:=h;refine vi h hw hf fun z hz=> ?_
   obtain ⟨rv,h1,h2⟩:=vJ (A:=A) hz (Pb Pr hw he);exact ⟨rv,by unfold execOp;rw [ho];simp [h1],h2⟩
 · rename_i src dst x ho;simp only [aa] at h;obtain ⟨v',Pr,h⟩:=h;obtain ⟨y,H,hy,rfl,rfl⟩:=Oo h;exact ⟨aC hy hw hf (Pb Pr hw he) (by unfold execOp;rw [ho]),rfl⟩
 · rename_i fid first Ug ho
   split at h
   case isFalse=>simp at h
   case isTrue P9=>
   simp only [ia] at h;obtain ⟨l,hl,h⟩:=h;simp at h;obtain ⟨rfl,rfl⟩:=h;obtain ⟨h1,h2⟩:=Sm hl hw he;have hfe:first= #[]:=Wg P9
   refine ⟨Ie hw hf (rv:= .func (.func fid) #[] (Ug.toList.map a.eval).toArray) ?_ (Ya.fn fid l _ (by simpa using h1.symm) h2),rfl⟩;unfold execOp;rw [ho];have:Ug.map a.eval=(Ug.toList.map a.eval).toArray:=by apply Array.ext';simp
   simp [Instr.makeFunc,hfe,this]
 · rename_i t r ho;simp only [aa] at h;obtain ⟨u,hu,h⟩:=h;simp at h;obtain ⟨rfl,rfl⟩:=h;have Wd:(execOp a.eval o).run A.P w= .ok (.value (.map (some w.heap.size))) (w.alloc (.map #[] 0)):=by
     unfold execOp;rw [ho];cases r with
     |none=>simp only [Instr.makeMap,Option.map_none,Sem.run_bind,run_newObj,Sem.run_pure,Result.andThen_ok];rfl
     |some x=>
      simp only at hu;split at hu
      · rename_i kt et hut;simp only [aa,ia] at hu;obtain ⟨v',Pr,n,hn,_⟩:=hu;obtain ⟨k,hk⟩:=Nk hn (Pb Pr hw he);simp only [Instr.makeMap,Jc,Sem.run_bind,run_underlying hut,Result.andThen_ok,hk,asInt,asIntOf,Sem.run_pure,run_newObj];rfl
      · simp at hu
   have nc:w.heap.size<(w.alloc (.map #[] 0)).heap.size:=by show w.heap.size<(w.heap.push _).size;simp
   have hzn:¬ g.Z w.heap.size:=fun hz=>Nat.lt_irrefl _ (hw.vt _ hz)
   obtain ⟨q1,q2,q3⟩:=yq (l:=⟨w.heap.size,0,0,0⟩) (x:= .map []) hw hf (Hr nc) rfl nc (fun R hR=>heap_alloc_old w _ R hR) (fun hle=>⟨#[],0,heap_alloc_new w _,hzn,rfl,fun i k x e h=>by simp at h⟩);refine ⟨⟨_,_,_,f,.inl Wd,q1,q2,q3,?_⟩,rfl⟩;have:=Ya.mp (g:=g.add s.H.bl.length ⟨w.heap.size,0,0,0⟩) (w:=w.alloc (.map #[] 0)) s.H.bl.length (.inr rfl);rw [Xf] at this;exact this
 · rename_i t l c ho;simp only [aa] at h;obtain ⟨u,hu,v',Pr,h⟩:=h;obtain ⟨y,H,hy,rfl,rfl⟩:=Oo h;exact ⟨ay hy hw hf (Pb hu hw he) (Pb Pr hw he) (by unfold execOp;rw [ho]),rfl⟩
 · rename_i t x lo hi ho;simp only [aa] at h;obtain ⟨v',Pr,l,hl,hh,hhh,h⟩:=h;refine vi h hw hf fun z hz=> ?_
   obtain ⟨rv,h1,h2⟩:=UG hz hw (Pb Pr hw he) (Nt hl hw he) (Nt hhh hw he);exact ⟨rv,by unfold execOp;rw [ho];simp [h1],h2⟩
 · rename_i t x hi mx ho;simp only [aa] at h;obtain ⟨v',Pr,l,hl,hh,hhh,h⟩:=h;split at h
   case isFalse=>simp at h
   rename_i hc;simp only [Ia] at hc;refine vi h hw hf fun z hz=> ?_
   obtain ⟨rv,h1,h2⟩:=rE hz (Pb Pr hw he);obtain ⟨k1,e1⟩:=UC hc.1 (Pb hl hw he);obtain ⟨k2,e2⟩:=UC hc.2 (Pb hhh hw he);exact ⟨rv,by unfold execOp;rw [ho];simp [e1,e2,h1],h2⟩
 · rename_i t x i ho;simp only [aa] at h;obtain ⟨p,hp,fd,FH,n,hn,h⟩:=h;split at h
   · simp at h
   · rename_i jK;simp only [ia] at h;obtain ⟨q,hq,h⟩:=h;simp at h;obtain ⟨rfl,rfl⟩:=h;obtain ⟨rv,h1,h2⟩:=vy FH (by rw [hn];simpa using jK) (by rw [hn];rfl) hq (me hp hw he);exact ⟨Ie hw hf (rv:=rv) (by unfold execOp;rw [ho];simp [h1]) h2,rfl⟩
 · rename_i t x i ho;simp only [aa] at h;obtain ⟨v',Pr,h⟩:=h;split at h
   · rename_i cs;simp only [aa] at h;obtain ⟨fd,FH,h⟩:=h;obtain ⟨fs,hu,hi⟩:=BA FH;obtain ⟨vs,p5,hr⟩:=nh (Pb Pr hw he);refine vi h hw hf fun z hz=> ?_
     obtain ⟨rv,h1,h2⟩:=Oi (A:=A) hz hr;exact ⟨rv,by unfold execOp;rw [ho];simp [Instr.field,run_underlying hu,hi,p5,asAgg,h1],h2⟩
   · simp at h
 · rename_i t x i ho;simp only [aa,ia] at h;obtain ⟨p,hp,v',Pr,n,hn,q,hq,h⟩:=h;simp at h;obtain ⟨rfl,rfl⟩:=h;obtain ⟨k,hk⟩:=Nk hn (Pb Pr hw he);obtain ⟨rv,h1,h2⟩:=iy (k:=k) hq hw (me hp hw he);exact ⟨Ie hw hf (rv:=rv) (by unfold execOp;rw [ho];simp [hk,h1]) h2,rfl⟩
 · rename_i t x i ho;simp only [aa] at h;obtain ⟨p,hp,v',Pr,n,hn,h⟩:=h;obtain ⟨k,hk⟩:=Nk hn (Pb Pr hw he);refine vi h hw hf fun z hz=> ?_
   obtain ⟨rv,h1,h2⟩:=uH (k:=k) hz (Pb hp hw he);exact ⟨rv,by unfold execOp;rw [ho];simp [hk,h1],h2⟩
 · rename_i t x i ok ho;simp only [aa] at h;obtain ⟨m,hm,k,hk,h⟩:=h;refine vi h hw hf fun z hz=> ?_
   obtain ⟨rv,h1,h2⟩:=Ut hz hw (Pb hm hw he) (Pb hk hw he);exact ⟨rv,by unfold execOp;rw [ho];simp [h1],h2⟩
 · rename_i t m k x ho;simp only [aa,ia] at h;obtain ⟨mv,hm,kv,hk,xv,hx,H,hH,h⟩:=h;simp at h;obtain ⟨rfl,rfl⟩:=h;obtain ⟨w',h1,h2,h3,h4⟩:=Wn hH hw hf (Pb hm hw he) (Pb hk hw he) (Pb hx hw he);exact ⟨⟨undef,w',g,f,.inr ⟨by unfold execOp;rw [ho];simp [h1],rfl⟩,h2,h3,h4,.Qb _⟩,rfl⟩
 · rename_i t m k x ho;simp only [aa,ia] at h;obtain ⟨mv,hm,kv,hk,xv,hx,H,hH,h⟩:=h;simp at h;obtain ⟨rfl,rfl⟩:=h;obtain ⟨w',h1,h2,h3,h4⟩:=Wn hH hw hf (Pb hm hw he) (Pb hk hw he) (Pb hx hw he);exact ⟨⟨undef,w',g,f,.inr ⟨by unfold execOp;rw [ho];simp [h1],rfl⟩,h2,h3,h4,.Qb _⟩,rfl⟩
 · rename_i x i ho;simp only [aa] at h;obtain ⟨v',Pr,h⟩:=h;split at h
   · rename_i vs;simp only [ia] at h;obtain ⟨y,hy,h⟩:=h;simp at h;obtain ⟨rfl,rfl⟩:=h;have hv:=Pb Pr hw he;generalize hx:a.eval x=xv at hv;cases hv with
     |Rc _ us hl hr=>
      have nc:i<us.length:=by have:=getElem?_lt' hy;omega
      refine ⟨Ie hw hf (rv:=us[i]) ?_ (hr i y _ hy (ya nc)),rfl⟩;unfold execOp;rw [ho];simp [hx,Instr.extract,nc]
   · simp at h
 · rename_i c ho;simp only [aa] at h;obtain ⟨args,KH,h⟩:=h;obtain ⟨l1,l2⟩:=Sm KH hw he;split at h
   · rename_i fv LP;exact absurd LP (Sf c fv ho)
   · rename_i b hb;obtain ⟨y,H,hy,rfl,rfl⟩:=Oo h;refine ⟨iC (vs:=c.args.toList.map a.eval) (ty:=o.type) (consts:=c.args.map fun| .const _=>true|_=>false) hy hw hf (by simpa using l1) l2 ?_,rfl⟩;unfold execOp;rw [ho];have:c.args.map a.eval=(c.args.toList.map a.eval).toArray:=by apply Array.ext';simp
     simp only [resolve,hb,Sem.run_bind,Sem.run_pure,Result.andThen_ok,invoke,this];rfl
   · simp at h
 · simp at h
theorem eH {o:Oper} {v:SV} {s':S} {F:Fence} {n:Nat} {next:Act->World->Prop} {Q:Exit->Act->World->Prop} (hC:xj A call) (h:op A call za s o=some (v,s')) (hw:Ub A.La g w s.H) (hf:Jd g f w s.H s.F) (he:Pe g f w s.e a.tmps) (hF:Tu F) (hWr:∀ t x y,o.op= .store t x y->∀ i c,operand A s.e x=some (.loc i c)->f.W i)
   (hk:s'.e=s.e->∀ g' f' w' rv,Ub A.La g' w' s'.H->Jd g' f' w' s'.H s'.F->kg g f w s.H s.F g' f' w' s'.H s'.F->we g' f' w' v rv->next (a.put o.dst rv) w'):
   o.wpIn F n A.P a w next Q:=by
 refine ⟨fun f _=>hF.fn f,?_⟩;have s9:∀ c,o.op≠ .defer c:=fun c e=>by unfold op at h;rw [e] at h;simp at h
 rw [Oper.semAt_eq F.round a.eval o s9];by_cases Sf:∀ c fv,o.op= .call c->c.callee≠ .value fv
 · obtain ⟨h1,h2⟩:=B8 h Sf hw hf he hWr;exact yY h1 (hk h2)
 · simp only [Classical.not_forall,Classical.not_not] at Sf;obtain ⟨c,fv,ho,hc⟩:=Sf;unfold op at h;rw [ho] at h;simp only [aa,hc] at h;obtain ⟨args,KH,gv,hgv,h⟩:=h;obtain ⟨r,H,hr,rfl,rfl⟩:=Oo h;obtain ⟨l1,l2⟩:=Sm KH hw he;have Bo:=hC gv args s.H r H hr g w (a.eval fv) (c.args.toList.map a.eval) hw (Pb hgv hw he) (by simpa using l1) l2 F n o a next Q hF (fun g' w' rv h1 h2 h3=>by
    have hle:=hw.le h3;refine hk rfl g' f w' rv h2 ⟨hf.Ae,fun i row hi Zc=> ?_,hf.inj,fun i hi h=> ?_⟩ ⟨h3.D,h3.Ay,h3.Z,h3.gq,h3.fp,fun _ h=>⟨h,rfl⟩,fun _ h=> .inl h,fun _ h h'=>absurd h h',fun R hR hn _=>h3.qk R hR hn,h3.size,h3.len,oa _,h3.wm,h3.quiet,h3.still,fun _ _=>Iff.rfl,fun _ h h'=>absurd h h',fun i hi _=>h3.qk _ (hf.lt hi) (hf.apart i hi),h3.io⟩ h1
    · obtain ⟨cs,⟨T,fz,hR,q1,q2,q3⟩,q4⟩:=hf.Oc i row hi Zc;have nc:=hf.lt hi;refine ⟨cs,⟨T,fz,by rw [h3.qk _ nc (hf.apart i hi)];exact hR,q1,q2,fun hz=> ?_⟩,q4.mono hle⟩;rcases h3.gq _ hz with hz|hz|hz
      · exact q3 hz
      · exact hf.apart i hi hz
      · omega
    · rcases h3.fp _ h with h|h
      · exact hf.apart i hi h
      · have:=hf.lt hi;omega)
   have Wd:(execOp a.eval o).run A.P w=((do let d <- Deferred.ofValue (a.eval fv) (c.args.toList.map a.eval).toArray;invoke d.target d.args:Sem Next).run A.P w):=by
    unfold execOp;rw [ho];have:c.args.map a.eval=(c.args.toList.map a.eval).toArray:=by apply Array.ext';simp
    simp only [resolve,hc,this]
   rw [Wd];exact Bo
end
end Go.V
