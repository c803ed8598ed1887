/- An evaluator of the translated code and that it is right: each of its answers is an answer of the model. -/
import Derived.Test.YtjenflkegbmkkaaGreatDoorA2
import Derived.OrdersIn
set_option linter.unusedVariables false
set_option linter.unusedSimpArgs false
set_option linter.unusedSectionVars false
namespace Go.V
open Go
section
variable {A:Par} {g:Gx} {f:Fx} {w:World} {s:S} {a:Act}
theorem load_rows {H:AH} {x:AV} {xv:Value} {rows:List (List AV)} {sz:Nat} (h:rowsOf H x=some rows) (hw:WRel A.glob g w H) (hx:VRel g w x xv) (hsz:∀ row∈rows,row.length=sz):
   ∃ ao cap cs,xv= .slice ao rows.length cap/\rows.length<=cap/\cs.size=rows.length * sz/\RowsR g w sz rows cs/\(rows≠[]->ao≠none)/\(∀ u∈cs.toList,u.oneCell'=true)/\∀ (w':World),w'.heap=w.heap->(Builtin.firstCells sz rows.length xv).run A.P w'= .ok cs w':=by
 obtain ⟨ao,cap,rfl,hcap,hcells⟩:=slice_cells h hw hx;by_cases hne:rows=[]
 · subst hne;refine ⟨ao,cap,#[],rfl,hcap,by simp,⟨by simp,fun r row h=>by simp at h⟩,fun h=>absurd rfl h,fun u hu=>by simp at hu,fun w' hw'=> ?_⟩;cases ao with
   |none=>simp [Builtin.firstCells]
   |some ad=>simp [Builtin.firstCells,loadCells,loadCellsFrom]
 · obtain ⟨ad,sz',rfl,hs,hat⟩:=hcells hne;have hsz':sz'=sz:=by
     cases rows with
     |nil=>exact absurd rfl hne
     |cons row rest=>rw [<- (hat 0 row rfl).1];exact hsz row (by simp)
   subst hsz';have hcell:∀ (i c:Nat) (row:List AV) (x:AV),rows[i]?=some row->row[c]?=some x->∃ v,w.cell? (ad.add (i * sz'+c))=some v/\v.oneCell'=true/\VRel g w x v:=fun i c row x hi hx=>by
     obtain ⟨v,e1,e2,e3⟩:=(hat i row hi).2 c x hx;exact ⟨v,by rw [spot_none hs,add_none,<- Nat.add_assoc];exact e1,e2,e3⟩
   have hin:∀ j,j<rows.length * sz'->∃ (row:List AV) (x:AV),rows[j/sz']?=some row/\row[j%sz']?=some x:=fun j hj=>by
     have hpos:0<sz':=by rcases Nat.eq_zero_or_pos sz' with h|h;subst h;simp at hj;exact h
     have h1:j/sz'<rows.length:=(Nat.div_lt_iff_lt_mul hpos).2 hj;have h2:j%sz'<sz':=Nat.mod_lt _ hpos;have hr:=List.getElem?_eq_getElem h1;exact ⟨_,_,hr,List.getElem?_eq_getElem (by rw [(hat _ _ hr).1];exact h2)⟩
   have hdm:∀ j,j/sz' * sz'+j%sz'=j:=fun j=>by rw [Nat.mul_comm];exact Nat.div_add_mod j sz'
   obtain ⟨fv,hfv⟩:∃ fv:Nat->Value,∀ j,j<rows.length * sz'->w.cell? (ad.add j)=some (fv j)/\(fv j).oneCell'=true:=⟨fun j=>(w.cell? (ad.add j)).getD undef,fun j hj=>by
     obtain ⟨row,x,h1,h2⟩:=hin j hj;obtain ⟨v,e1,e2,_⟩:=hcell _ _ row x h1 h2;rw [hdm] at e1;simp [e1,e2]⟩
   refine ⟨some ad,cap,((List.range (rows.length * sz')).map fv).toArray,rfl,hcap,by simp,⟨by simp,fun r row hr=>⟨(hat r row hr).1,fun c x hx=> ?_⟩⟩,fun _=>by simp,fun u hu=> ?_,fun w' hw'=> ?_⟩
   · obtain ⟨v,e1,e2,e3⟩:=hcell r c row x hr hx;have hlt:r * sz'+c<rows.length * sz':=mul_add_lt (getElem?_lt' hr) (by have:=getElem?_lt' hx;rw [(hat r row hr).1] at this;exact this);have:=(hfv _ hlt).1;rw [e1] at this;simp at this;exact ⟨v,by simp [hlt,this],e2,e3⟩
   · simp at hu;obtain ⟨j,hj,rfl⟩:=hu;exact (hfv j hj).2
   · have:=run_loadCells (P:=A.P) w' ad (rows.length * sz') fv (fun j hj=>by rw [cell_of_heap (w:=w) (by rw [hw'])];exact (hfv j hj).1);simp [Builtin.firstCells,this]
theorem run_append_room_gen {P:Program} {ts:Array TypeId} {t ty e:TypeId} {ad:Addr} {n m cap sz:Nat} {yv:Value} {news:Array Value} {w w':World} (hts:ts[0]?=some t) (hu:P.underlying t=some (.slice e))
  (hz:∀ u,ts[1]?=some u->∃ d,P.underlying u=some d/\∀ k,d≠ .int k) (hsz:(sizeOf e).run P w= .ok sz w)
  (hlen:(Builtin.lenOf yv).run P w= .ok m w) (hnew:(Builtin.firstCells sz m yv).run P w= .ok news w) (hroom:n+m<=cap) (hst:(storeCells (ad.add (n * sz)) news.toList).run P w= .ok () w'):
  (Builtin.append_ ts ty #[.slice (some ad) n cap,yv]).run P w= .ok (.slice (some ad) (n+m) cap) w':=by
 simp only [Builtin.append_,hts];simp only [List.getElem?_toArray,List.getElem?_cons_zero,List.getElem?_cons_succ,Sem.run_bind,run_underlying hu,Result.andThen_ok,hsz];cases h1:ts[1]? with
 |none=>simp only [Sem.run_pure,Result.andThen_ok,Bool.false_eq_true,if_false,hlen,if_pos hroom,Bool.not_false,if_true,Sem.run_bind,hnew,hst]
 |some u=>
  obtain ⟨d,hd,hne⟩:=hz u h1;simp only [Sem.run_bind,run_underlying hd,Result.andThen_ok];cases d<;>first
   |exact absurd rfl (hne _)
   |simp only [Sem.run_pure,Result.andThen_ok,Bool.false_eq_true,if_false,hlen,if_pos hroom,Bool.not_false,if_true,Sem.run_bind,hnew,hst]
theorem run_append_room_none {P:Program} {ts:Array TypeId} {t ty e:TypeId} {sz:Nat} {yv:Value} {news:Array Value} {w:World} (hts:ts[0]?=some t) (hu:P.underlying t=some (.slice e))
  (hz:∀ u,ts[1]?=some u->∃ d,P.underlying u=some d/\∀ k,d≠ .int k) (hsz:(sizeOf e).run P w= .ok sz w)
  (hlen:(Builtin.lenOf yv).run P w= .ok 0 w) (hnew:(Builtin.firstCells sz 0 yv).run P w= .ok news w):
  (Builtin.append_ ts ty #[.slice none 0 0,yv]).run P w= .ok (.slice none 0 0) w:=by
 simp only [Builtin.append_,hts];simp only [List.getElem?_toArray,List.getElem?_cons_zero,List.getElem?_cons_succ,Sem.run_bind,run_underlying hu,Result.andThen_ok,hsz];cases h1:ts[1]? with
 |none=>simp only [Sem.run_pure,Result.andThen_ok,Bool.false_eq_true,if_false,hlen,Nat.add_zero,Nat.le_refl,if_true,Bool.not_false,Sem.run_bind,hnew]
 |some u=>
  obtain ⟨d,hd,hne⟩:=hz u h1;simp only [Sem.run_bind,run_underlying hd,Result.andThen_ok];cases d<;>first
   |exact absurd rfl (hne _)
   |simp only [Sem.run_pure,Result.andThen_ok,Bool.false_eq_true,if_false,hlen,Nat.add_zero,Nat.le_refl,if_true,Bool.not_false,Sem.run_bind,hnew]
theorem run_append_grow_gen {P : Program} {ts : Array TypeId} {t ty e : TypeId} {ao : Option Addr} {n m cap sz by_ : Nat} {yv zv : Value} {olds news : Array Value} {w : World} (hts : ts[0]? = some t) (hu : P.underlying t = some (.slice e))
    (hz : ∀ u, ts[1]? = some u → ∃ d, P.underlying u = some d ∧ ∀ k, d ≠ .int k) (hsz : ∀ w', (sizeOf e).run P w' = .ok sz w') (hby : ∃ i, P.info? e = some i ∧ i.bytes = by_) (hzv : ∀ w', (zeroValue e).run P w' = .ok zv w')
    (hlen : (Builtin.lenOf yv).run P w = .ok m w) (hold : ∀ w', w'.heap = w.heap → (Builtin.firstCells sz n (.slice ao n cap)).run P w' = .ok olds w') (hnew : ∀ w', w'.heap = w.heap → (Builtin.firstCells sz m yv).run P w' = .ok news w')
    (hroom : ¬ n + m ≤ cap) (h63 : n + m < 9223372036854775808) (hfit : Builtin.nextslicecap (n + m) cap * by_ ≤ 281474976710656) (hbne : by_ ≠ 0 ∨ True) :
    (Builtin.append_ ts ty #[.slice ao n cap, yv]).run P w =
      .ok (.slice (some ⟨w.heap.size, 0, none⟩) (n + m) (grownCap w (n + m) cap e)) (w.drew.alloc (.cells (olds ++ news ++ Builtin.zeroCells zv.cells (grownCap w (n + m) cap e - (n + m))) e)) := by
  obtain ⟨i, hi, hib⟩ := hby
  have h1' : ¬ (((n + m : Nat) : Int) > IntKind.i64.max) := by
    have : IntKind.i64.max = 9223372036854775807 := by decide
    rw [this]; omega
  have h2' : ¬ (Builtin.nextslicecap (n + m) cap * i.bytes > 2 ^ 48) := by rw [hib]; omega
  have ho := hold w.drew rfl
  have hn := hnew w.drew rfl
  have hch : (choose (.appendCap (n + m) cap e)).run P w = .ok (grownCap w (n + m) cap e) w.drew := by
    rw [run_choose]; rfl
  simp only [Builtin.append_, hts]
  simp only [List.getElem?_toArray, List.getElem?_cons_zero, List.getElem?_cons_succ, Sem.run_bind, run_underlying hu, Result.andThen_ok, hsz]
  cases h1 : ts[1]? with
  | none =>
    simp only [Sem.run_pure, Result.andThen_ok, Bool.false_eq_true, if_false, hlen, if_neg hroom, h1', false_and, typeInfo, Sem.run_bind, run_program, hi, if_neg h2', hch, run_askRoom, ho, hn, Bool.not_false, if_true, hzv, newRow, run_newObj]
    rfl
  | some u =>
    obtain ⟨d, hd, hne⟩ := hz u h1
    simp only [Sem.run_bind, run_underlying hd, Result.andThen_ok]
    cases d <;> first
      | exact absurd rfl (hne _)
      | (simp only [Sem.run_pure, Result.andThen_ok, Bool.false_eq_true, if_false, hlen, if_neg hroom, h1', false_and, typeInfo, Sem.run_bind, run_program, hi, if_neg h2', hch, run_askRoom, ho, hn, Bool.not_false, if_true, hzv, newRow, run_newObj]
         rfl)
end
end Go.V
namespace Go.V
open Go
section
variable {G:Nat->Option (List AV)} {g:Gx} {f:Fx} {w:World} {H:AH} {F:List (List AV)}
theorem take_block {w':World} {b:Nat} {x:AB} {l:Loc} (hw:WRel G g w H) (hf:FRel g f w H F) (hb:live g H b) (hwm:H.wm<=b)
   (hsize:w'.heap.size=w.heap.size) (hoth:∀ R,R≠(g.ρ b).R->w'.heap[R]?=w.heap[R]?) (hR:l.R=(g.ρ b).R)
   (hx:g.Le w (g.add H.bl.length l) w'->BlockRel (g.add H.bl.length l) w' l x) (hio:w'.os=w.os/\w'.output=w.output:=by first|exact ⟨rfl,rfl⟩|assumption):
   WRel G (g.add H.bl.length l) w' (push (setBl H b .dead) x)/\FRel (g.add H.bl.length l) f w' (push (setBl H b .dead) x) F/\FExt g f w H F (g.add H.bl.length l) f w' (push (setBl H b .dead) x) F:=by
 have hlen:(setBl H b .dead).bl.length=H.bl.length:=by simp [setBl]
 have hold:∀ b,g.D b->(g.add H.bl.length l).ρ b=g.ρ b:=fun b hb=>add_old (by have:=hw.dom b hb;omega)
 have hle:g.Le w (g.add H.bl.length l) w':=⟨fun b hb=>⟨.inl hb,hold b hb⟩,fun R h=>⟨h,hoth R (fun e=>hw.notZ hb (e ▸ h))⟩⟩;have hdom1:∀ b',g.D b'->b'<(setBl H b .dead).bl.length:=fun b' hb'=>by rw [hlen];exact hw.dom b' hb'
 have hlv:∀ b',live (g.add H.bl.length l) (push (setBl H b .dead) x) b'->b'=H.bl.length\/(b'≠b/\live g H b'):=fun b' hb'=>by
   have:=live_add (g:=g) (H:=setBl H b .dead) (l:=l) (x:=x) (b:=b') hdom1 (by rw [hlen];exact hb');rcases this with h|h
   · left;rw [h,hlen]
   · right;rcases live_setBl h with ⟨_,h'⟩|h'
     · simp [liveB] at h'
     · exact h'
 have hfp:∀ R,Fp (g.add H.bl.length l) (push (setBl H b .dead) x) R->Fp g H R:=fun R ⟨b',hb',e⟩=>by
   rcases hlv b' hb' with rfl|⟨_,h⟩
   · exact ⟨b,hb,by rw [<- e,add_new,hR]⟩
   · exact ⟨b',h,by rw [<- e,hold b' h.1]⟩
 refine ⟨⟨fun i row hg=>(hw.glob i row hg).mono hle,fun b' hb'=> ?_,fun b' y hd hy=> ?_,fun b1 b2 h1 h2 hne=> ?_,fun R h=>by rw [hsize];exact hw.zlt R h⟩,
   ⟨hf.dom,fun i row hi hr=> ?_,hf.inj,fun i hi h=>hf.apart i hi (hfp _ h)⟩,?_⟩
 · rcases hb' with hb'|rfl
   · have:=hw.dom b' hb';simp [push,setBl];omega
   · simp [push,setBl]
 · rcases hd with hd|rfl
   · have hlt':=hw.dom b' hd;rw [push_get,if_pos (by rw [hlen];exact hlt'),setBl_get] at hy;rw [hold b' hd];split at hy
     · rw [if_pos (by omega)] at hy;simp at hy;subst hy;trivial
     · rename_i hne;exact (hw.blk b' y hd hy).le hle (fun hl=>hoth _ (hw.inj b' b ⟨hd,y,hy,hl⟩ hb (fun e=>hne e.symm))) (fun hl=>hw.notZ ⟨hd,y,hy,hl⟩)
   · rw [push_get,if_neg (by rw [hlen];omega),if_pos hlen.symm] at hy;simp at hy;subst hy;rw [add_new];exact hx hle
 · rcases hlv b1 h1 with rfl|⟨n1,l1⟩<;>rcases hlv b2 h2 with rfl|⟨n2,l2⟩
   · exact absurd rfl hne
   · rw [add_new,hold _ l2.1,hR];exact hw.inj b b2 hb l2 (fun e=>n2 e.symm)
   · rw [add_new,hold _ l1.1,hR];exact hw.inj b1 b l1 hb n1
   · rw [hold _ l1.1,hold _ l2.1];exact hw.inj _ _ l1 l2 hne
 · obtain ⟨cs,⟨T,fz,hR',h4⟩,h5⟩:=hf.blk i row hi hr;exact ⟨cs,⟨T,fz,by rw [hoth _ (fun e=>hf.apart i hi ⟨b,hb,e.symm⟩)];exact hR',h4⟩,h5.mono hle⟩
 · refine ⟨fun b hb=>⟨.inl hb,hold b hb⟩,fun b hb=>hb.elim .inl (fun e=> .inr (by omega)),fun _ h=>h,fun _ h=> .inl h,
     fun R h=> .inl (hfp R h),fun _ h=>⟨h,rfl⟩,fun _ h=> .inl h,fun _ h h'=>absurd h h',
     fun R hR _ _=>hoth R (fun e=>by rename_i hn _;exact hn ⟨b,hb,e.symm⟩),by rw [hsize];exact Nat.le_refl _,by simp [push,setBl],Nat.le_refl _,rfl,fun b' hb' hl=> ?_,fun b' hb' hv=>hoth _ (hw.inj b' b hv hb (by omega)),fun _ _=>Iff.rfl,fun _ h h'=>absurd h h',fun i hi _=>hoth _ (fun e=>hf.apart i hi ⟨b,hb,e.symm⟩),hio⟩
   rw [push_get,if_pos (by rw [hlen];exact hl),setBl_get,if_neg (by omega)]
theorem kill_block {b:Nat} (hw:WRel G g w H) (hf:FRel g f w H F) (hb:live g H b) (hwm:H.wm<=b):
  WRel G g w (setBl H b .dead)/\FRel g f w (setBl H b .dead) F/\FExt g f w H F g f w (setBl H b .dead) F:=
 write_block hw hf hb hwm rfl (fun _ _=>rfl) (fun _=>trivial)
end
section
variable {A:Par} {g:Gx} {f:Fx} {w:World} {s:S} {a:Act}
theorem RowsR.append {sz:Nat} {xs ys:List (List AV)} {cx cy rest:Array Value} (hx:RowsR g w sz xs cx) (hy:RowsR g w sz ys cy) (hcx:cx.size=xs.length * sz):RowsR g w sz (xs++ys) (cx++cy++rest):=by
 have h1:=hx.1;have h2:=hy.1;refine ⟨by simp [Nat.add_mul];omega,fun r row hr=> ?_⟩;by_cases hlt:r<xs.length
 · rw [List.getElem?_append_left hlt] at hr;obtain ⟨hl,hrr⟩:=hx.2 r row hr;refine ⟨hl,fun c x hxx=> ?_⟩;obtain ⟨v,e1,e2,e3⟩:=hrr c x hxx;have:r * sz+c<xs.length * sz:=mul_add_lt hlt (by have:=getElem?_lt' hxx;omega);exact ⟨v,by rw [Array.append_assoc,Array.getElem?_append_left (by omega)];exact e1,e2,e3⟩
 · rw [List.getElem?_append_right (by omega)] at hr;obtain ⟨hl,hrr⟩:=hy.2 _ row hr;refine ⟨hl,fun c x hxx=> ?_⟩;obtain ⟨v,e1,e2,e3⟩:=hrr c x hxx;have hlt2:(r-xs.length) * sz+c<ys.length * sz:=mul_add_lt (getElem?_lt' hr) (by have:=getElem?_lt' hxx;omega);have hr':r * sz=xs.length * sz+(r-xs.length) * sz:=by rw [<- Nat.add_mul];congr 1;omega
   refine ⟨v,?_,e2,e3⟩;rw [Array.append_assoc,Array.getElem?_append_right (by omega),Array.getElem?_append_left (by omega),<- e1];congr 1;omega
theorem rows_push {bty:Option (TypeId×Nat)} {H1:AH} {rows:List (List AV)} {sz:Nat} {cs:Array Value} {t:TypeId} {w':World} {v:AV} {rv:Value} {r:Result Next} {g1:Gx} (hw1:WRel A.glob g w H1) (hf1:FRel g f w H1 s.F) (hx1:FExt g f w s.H s.F g f w H1 s.F)
  (hpos:0<sz) (hr:RowsR g w sz rows cs) (hheap:w'.heap=w.heap.push (.cells cs t (0,0)))
  (hv:VRel (g.add H1.bl.length ⟨w.heap.size,0,cs.size,sz⟩) w' v rv) (hrun:r= .ok (.value rv) w') (hbty:bty=some (t,1)\/bty=none) (hio:w'.os=w.os/\w'.output=w.output:=by first|exact ⟨rfl,rfl⟩|assumption):
  Did A.glob g f w s { s with H:=push H1 (.cells rows sz bty) } (.v v) r:=by
 obtain ⟨rv',w2,g2,f2,q0,q1,q2,q3,q4⟩:=rows_soundT (A:=A) (s:={ s with H:=H1 }) (fz:=(0,0)) hw1 hf1 hpos hr hheap (fun off _=>by simp) hv hrun hbty;exact ⟨rv',w2,g2,f2,q0,q1,q2,hx1.trans q3,q4⟩
theorem append_sound {ts:Array TypeId} {x y v:AV} {xv yv:Value} {H':AH} {ty:TypeId} {r:Result Next} (h:append A s.H ts x y=some (v,H')) (hw:WRel A.glob g w s.H) (hf:FRel g f w s.H s.F) (hx:VRel g w x xv) (hy:VRel g w y yv)
   (hrun:r=((do pure (.value (<- Builtin.append_ ts ty #[xv,yv]))):Sem Next).run A.P w):Did A.glob g f w s { s with H:=H' } (.v v) r:=by
 unfold append at h;simp only [Option.bind_eq_some_iff] at h;obtain ⟨t,hts,e,he,z,hz,n,hn,_,hu1,xs,hxs,ys,hys,h⟩:=h;split at h
 case isFalse=>simp at h
 case isTrue hc=>
 obtain ⟨hb1,hb2,hpos,hsz,hall⟩:=hc;have hu:=elem_info he;have hzero:∀ u,ts[1]?=some u->∃ d,A.P.underlying u=some d/\∀ k,d≠ .int k:=fun u h1=>by
   rw [h1] at hu1;simp only at hu1;split at hu1
   · simp at hu1
   · rename_i d hne hd;exact ⟨d,hd,fun k e=>hne k e⟩
   · simp at hu1
 have hallr:∀ row∈ys,row.length=z.length:=fun row hrow=>by simpa using List.all_eq_true.1 hall row hrow
 obtain ⟨i,hi,hib⟩:=bytes_info hn;have hzv:∃ zv,∀ w',(zeroValue e).run A.P w'= .ok zv w'/\zv.cells.size=z.length:=by
   unfold zero at hz;rw [hi] at hz;cases hzz:i.zero with
   |none=>simp [hzz] at hz
   |some zv=>
     simp [hzz] at hz;exact ⟨zv,fun w'=>⟨by simp [zeroValue,typeInfo,hi,hzz],by have:=(constCells_sound (g:=g) (w:=w) hz).1;simpa using this⟩⟩
 obtain ⟨zv,hzv⟩:=hzv;have hszr:∀ w',(sizeOf e).run A.P w'= .ok z.length w':=fun w'=>run_size hsz
 obtain ⟨news,hlenY,hnewY,hrY,hcY,honeY⟩:∃ news:Array Value,(Builtin.lenOf yv).run A.P w= .ok ys.length w/\(∀ w',w'.heap=w.heap->(Builtin.firstCells z.length ys.length yv).run A.P w'= .ok news w')/\RowsR g w z.length ys news/\news.size=ys.length * z.length/\∀ u∈news.toList,u.oneCell'=true:=by
   split at hys
   · rename_i sb;simp at hys;subst hys;cases hy;have hbl:(byteRows sb).length=sb.size:=by simp [byteRows]
     rw [hbl];have hsz1:∀ row∈byteRows sb,row.length=1:=fun row hr=>by simp [byteRows] at hr;obtain ⟨b,_,rfl⟩:=hr;rfl
     have hext:(sb.extract 0 sb.size).data=sb.data:=by
       simp
     have hcells:∀ (i:Nat) (b:UInt8),sb.data.toList[i]?=some b->(sb.data.map fun b=>Value.int .u8 (b.toNat:Int))[0+i]?=some (.int .u8 (b.toNat:Int)):=fun i b hb=>by
       simp at hb ⊢;exact ⟨b,hb,rfl⟩
     refine ⟨sb.data.map fun b=> .int .u8 b.toNat,by simp [Builtin.lenOf],fun w' _=>by simp [Builtin.firstCells,hext],?_⟩;by_cases hne:byteRows sb=[]
     · have hs0:sb.size=0:=by rw [<- hbl,hne];rfl
       rw [hne];have:sb.data.size=0:=hs0;refine ⟨⟨by simp,fun r row hr=>by simp at hr⟩,by rw [hs0,Nat.zero_mul,Array.size_map];exact this,fun u hu=>by simp at hu;obtain ⟨b,_,rfl⟩:=hu;rfl⟩
     · have hz1:z.length=1:=by
         cases hr:byteRows sb with
         |nil=>exact absurd hr hne
         |cons row rest=>rw [<- hallr row (by rw [hr];simp),hsz1 row (by rw [hr];simp)]
       rw [hz1];refine ⟨⟨by rw [hbl];simp,fun r row hr=> ?_⟩,by simp,fun u hu=>by simp at hu;obtain ⟨b,_,rfl⟩:=hu;rfl⟩;have:=byteRows_rel (g:=g) (w:=w) sb.data.toList _ 0 hcells r row hr
       simpa using this
   · obtain ⟨ao,cap,cs,rfl,q1,q2,q3,_,q4,q5⟩:=load_rows hys hw hy hallr;exact ⟨cs,by simp [Builtin.lenOf],q5,q3,q2,q4⟩
 have hcap:∀ need old e,need<=grownCap w need old e:=fun need old e=>by simp [grownCap,Question.cut]
 by_cases hy0:ys.length=0
 ·
   rw [if_pos hy0] at h;simp at h;obtain ⟨rfl,rfl⟩:=h;rw [hy0] at hlenY hnewY;obtain ⟨ao,cap,rfl,hle,_⟩:=slice_cells hxs hw hx;refine did_same hw hf (rv:= .slice ao xs.length cap) ?_ hx;rw [hrun];have hn0:news= #[]:=by apply Array.eq_empty_of_size_eq_zero;rw [hcY,hy0];simp
   cases ao with
   |none=>
     have hnn:∀ q,VRel g w x (.slice none q cap)->q=0/\cap=0:=by
       intro q h;cases h with
       |nils=>exact ⟨rfl,rfl⟩
       |junk=>simp [rowsOf] at hxs
     have:=hnn _ hx;rw [this.1,this.2];simp [run_append_room_none (ty:=ty) hts hu hzero (hszr w) hlenY (hnewY w rfl)]
   |some ad=>
     have:=run_append_room_gen (ty:=ty) (ad:=ad) (n:=xs.length) (cap:=cap) (w':=w) hts hu hzero (hszr w) hlenY (hnewY w rfl) (by omega) (by rw [hn0];simp [storeCells]);simp [this]
 · rw [if_neg hy0] at h;split at h
   ·
     simp at h;obtain ⟨rfl,rfl⟩:=h;simp [rowsOf] at hxs;subst hxs;cases hx;have hgr:=run_append_grow_gen (ty:=ty) (ao:=none) (n:=0) (cap:=0) (olds:= #[]) hts hu hzero hszr ⟨i,hi,hib⟩ (fun w'=>(hzv w').1) hlenY (fun w' _=>by simp [Builtin.firstCells]) hnewY (by omega) (by simpa using hb2)
       (growslice_fits (by omega) (by simp at hb1 ⊢;omega)) (.inr trivial)
     simp only [Nat.zero_add,Array.empty_append] at hgr;have hc:=hcap ys.length 0 e;have hzs:=(hzv w).2;have hsize:(news++Builtin.zeroCells zv.cells (grownCap w ys.length 0 e-ys.length)).size=grownCap w ys.length 0 e * z.length:=by
       simp only [Array.size_append,hcY,Builtin.zeroCells,Array.size_map,Array.size_range,hzs,<- Nat.add_mul];congr 1;omega
     refine rows_push (g1:=g) hw hf (.refl _ _ _ _ _) hpos (rows:=ys) (cs:=news++Builtin.zeroCells zv.cells (grownCap w ys.length 0 e-ys.length)) (t:=e) (w':=w.drew.alloc (.cells (news++Builtin.zeroCells zv.cells (grownCap w ys.length 0 e-ys.length)) e)) ?_ rfl
       (vrel_new hc (by rw [hsize];exact Nat.le_refl _) (grown_small (by omega))) (by rw [hrun];simp [hgr]) (.inl rfl)
     have:=RowsR.append (rest:=Builtin.zeroCells zv.cells (grownCap w ys.length 0 e-ys.length)) (xs:=[]) (cx:= #[]) ⟨by simp,fun r row h=>by simp at h⟩ hrY (by simp)
     simpa using this
   ·
     simp at h;obtain ⟨rfl,rfl⟩:=h;simp [rowsOf] at hxs;subst hxs;cases hx with
     |emp ad0=>
     have hgr:=run_append_grow_gen (ty:=ty) (ao:=some ad0) (n:=0) (cap:=0) (olds:= #[]) hts hu hzero hszr ⟨i,hi,hib⟩ (fun w'=>(hzv w').1) hlenY (fun w' _=>by simp [Builtin.firstCells,loadCells,loadCellsFrom]) hnewY (by omega) (by simpa using hb2)
       (growslice_fits (by omega) (by simp at hb1 ⊢;omega)) (.inr trivial)
     simp only [Nat.zero_add,Array.empty_append] at hgr;have hc:=hcap ys.length 0 e;have hzs:=(hzv w).2;have hsize:(news++Builtin.zeroCells zv.cells (grownCap w ys.length 0 e-ys.length)).size=grownCap w ys.length 0 e * z.length:=by
       simp only [Array.size_append,hcY,Builtin.zeroCells,Array.size_map,Array.size_range,hzs,<- Nat.add_mul];congr 1;omega
     refine rows_push (g1:=g) hw hf (.refl _ _ _ _ _) hpos (rows:=ys) (cs:=news++Builtin.zeroCells zv.cells (grownCap w ys.length 0 e-ys.length)) (t:=e) (w':=w.drew.alloc (.cells (news++Builtin.zeroCells zv.cells (grownCap w ys.length 0 e-ys.length)) e)) ?_ rfl
       (vrel_new hc (by rw [hsize];exact Nat.le_refl _) (grown_small (by omega))) (by rw [hrun];simp [hgr]) (.inl rfl)
     have:=RowsR.append (rest:=Builtin.zeroCells zv.cells (grownCap w ys.length 0 e-ys.length)) (xs:=[]) (cx:= #[]) ⟨by simp,fun r row h=>by simp at h⟩ hrY (by simp)
     simpa using this
   · rename_i b r0 k;split at h
     case isFalse=>simp at h
     case isTrue hk=>
     obtain ⟨hwm,hszb⟩:=hk;simp at h;obtain ⟨rfl,rfl⟩:=h;have hbl:∃ rows0 ty0,s.H.bl[b]?=some (.cells rows0 z.length ty0)/\r0+k<=rows0.length/\xs=(rows0.drop r0).take k:=by
       unfold szOf at hszb;split at hszb
       · rename_i rows0 sz0 ty0 hb0;simp at hszb;subst hszb;simp only [rowsOf,hb0] at hxs;split at hxs
         · rename_i hle;simp at hxs;exact ⟨rows0,ty0,hb0,hle,hxs.symm⟩
         · simp at hxs
       · simp at hszb
     obtain ⟨rows0,ty0,hb0,hle0,hxs0⟩:=hbl;have hty0:tyOf s.H b=ty0:=by simp [tyOf,hb0]
     rw [hty0];have htyOn:tyOn ty0 e r0=some (e,1)\/tyOn ty0 e r0=none:=by
       unfold tyOn;split
       · split<;>simp
       · simp
     have hD:g.D b:=by cases hx<;>assumption
     have hlive:live g s.H b:=⟨hD,_,hb0,rfl⟩;obtain ⟨htyb,_,hszρ,hendρ,rcs,⟨T,fz,hR,hce,hfz,hZ⟩,hrows⟩:=hw.blk b _ hD hb0;have hxlen:xs.length=k:=by rw [hxs0];simp;omega
     have hallx:∀ row∈xs,row.length=z.length:=fun row hrow=>by
       rw [hxs0] at hrow;obtain ⟨q,hq⟩:=List.getElem?_of_mem (List.mem_of_mem_drop (List.mem_of_mem_take hrow));exact (hrows q row hq).1
     obtain ⟨ao,cap,cx,hxv,q1,q2,q3,qne,q4,q5⟩:=load_rows hxs hw hx hallx;by_cases hroom:xs.length+ys.length<=cap
     ·
       cases hx with
       |slz=>simp at hxv;obtain ⟨_,_,rfl⟩:=hxv;omega
       |sl _ _ _ cap' hd hn' hend'=>
         injection hxv with e1 e2 e3
         subst e1;subst e3;rw [hszρ] at *
         have hm1:(r0+cap') * z.length=r0 * z.length+cap' * z.length:=Nat.add_mul _ _ _;have hm2:(xs.length+ys.length) * z.length<=cap' * z.length:=Nat.mul_le_mul_right _ hroom;have hm3:(xs.length+ys.length) * z.length=xs.length * z.length+ys.length * z.length:=Nat.add_mul _ _ _;have hst:=run_storeCells_gen A.P (g.ρ b).R ((g.ρ b).o+r0 * z.length+k * z.length) T fz news.toList 0 rcs w hR (by simp;rw [hce];rw [<- hxlen];omega) (fun j hj=>hfz _ (by simp at hj;rw [<- hxlen];omega)) honeY;simp only [Nat.add_zero] at hst;have hrr:=run_append_room_gen (ty:=ty) (ad:=⟨(g.ρ b).R,(g.ρ b).o+r0 * z.length,none⟩) (n:=k) (cap:=cap') hts hu hzero (hszr w) hlenY (hnewY w rfl) (by omega) (by rw [add_none];exact hst);generalize hncs:(rcs.toList.take ((g.ρ b).o+r0 * z.length+k * z.length)++news.toList++rcs.toList.drop ((g.ρ b).o+r0 * z.length+k * z.length+news.toList.length)).toArray=ncs at hrr;have hN:(g.ρ b).o+r0 * z.length+k * z.length<=rcs.size:=by rw [hce,<- hxlen];omega
         have htk:(rcs.toList.take ((g.ρ b).o+r0 * z.length+k * z.length)).length=(g.ρ b).o+r0 * z.length+k * z.length:=by
           rw [List.length_take,Array.length_toList];exact Nat.min_eq_left hN
         have hnsz:ncs.size=(g.ρ b).e:=by
           rw [<- hncs];simp;rw [hce,hcY,<- hxlen];omega
         obtain ⟨p1,p2,p3⟩:=take_block (w':=w.setRow (g.ρ b).R ncs) (l:=⟨(g.ρ b).R,(g.ρ b).o+r0 * z.length,(g.ρ b).e,z.length⟩) (x:= .cells (xs++ys) z.length (tyOn ty0 e r0)) hw hf hlive hwm (setRow_size _ _ _) (fun R hne=>setRow_other _ _ _ _ hne) rfl (fun hle=>by
           refine ⟨?_,hpos,rfl,by simp;omega,ncs,⟨T,fz,setRow_heap w _ rcs ncs T fz hR,hnsz,hfz,hZ⟩,fun r row hr=> ?_⟩
           · cases ty0 with
             |none=>trivial
             |some p=>
              obtain ⟨T0,k0⟩:=p;unfold tyOn;simp only;split
              · rename_i hcnd;obtain ⟨rfl,rfl,hk0⟩:=hcnd;obtain ⟨⟨cs0,fz0,hh0⟩,ho0,_⟩:=htyb;exact ⟨⟨ncs,fz0,setRow_heap w _ cs0 ncs _ fz0 hh0⟩,fun _=>by simp [ho0 hk0],fun h=>by omega⟩
              · trivial
           by_cases hlt:r<xs.length
           · rw [List.getElem?_append_left hlt] at hr;have hr2:=hr;rw [hxs0,List.getElem?_take,if_pos (by omega),List.getElem?_drop] at hr2;obtain ⟨hl,hrel⟩:=hrows _ _ hr2;refine ⟨hl,RowRel.mono hle fun c x hx=> ?_⟩;obtain ⟨v,e1,e2,e3⟩:=hrel c x hx;refine ⟨v,?_,e2,e3⟩;have hc2:=getElem?_lt' hx;have hlt2:r * z.length+c<k * z.length:=mul_add_lt (by omega) (by omega);have hm4:(r0+r) * z.length=r0 * z.length+r * z.length:=Nat.add_mul _ _ _;rw [<- hncs];simp only [List.getElem?_toArray,List.append_assoc];rw [List.getElem?_append_left (by rw [htk];omega),List.getElem?_take,if_pos (by omega)];rw [hm4] at e1
             simpa [Nat.add_assoc] using e1
           · rw [List.getElem?_append_right (by omega)] at hr;obtain ⟨hl,hrel⟩:=hrY.2 _ row hr;refine ⟨hl,RowRel.mono hle fun c x hx=> ?_⟩;obtain ⟨v,e1,e2,e3⟩:=hrel c x hx;refine ⟨v,?_,e2,e3⟩;have hc2:=getElem?_lt' hx;have hlt2:(r-xs.length) * z.length+c<ys.length * z.length:=mul_add_lt (getElem?_lt' hr) (by omega);have hm4:r * z.length=xs.length * z.length+(r-xs.length) * z.length:=by rw [<- Nat.add_mul];congr 1;omega
             rw [<- hncs];simp only [List.getElem?_toArray,List.append_assoc];rw [List.getElem?_append_right (by rw [htk,<- hxlen];omega),htk,List.getElem?_append_left (by simp;rw [hcY,<- hxlen];omega)];have hidx:(g.ρ b).o+(r0 * z.length+(r * z.length+c))-((g.ρ b).o+r0 * z.length+k * z.length)=(r-xs.length) * z.length+c:=by rw [<- hxlen];omega
             have e1':news.toList[(r-xs.length) * z.length+c]?=some v:=by simpa using e1
             rw [<- e1'];congr 1;simp only [Nat.add_assoc] at hidx ⊢;omega)
         refine ⟨.slice (some ⟨(g.ρ b).R,(g.ρ b).o+r0 * z.length,none⟩) (k+ys.length) cap',w.setRow (g.ρ b).R ncs,_,f,.inl (by rw [hrun];simp [hrr]),p1,p2,p3,?_⟩;have:=VRel.sl (g:=g.add s.H.bl.length ⟨(g.ρ b).R,(g.ρ b).o+r0 * z.length,(g.ρ b).e,z.length⟩) (w:=w.setRow (g.ρ b).R ncs) s.H.bl.length 0 (xs.length+ys.length) cap' (.inr rfl) hroom (by rw [add_new];simp;omega) (by omega);rw [add_new] at this;simp only [Nat.zero_mul,Nat.add_zero] at this;rw [<- hxlen];exact this
     ·
       obtain ⟨p1,p2,p3⟩:=kill_block hw hf hlive hwm;have hgr:=run_append_grow_gen (ty:=ty) (ao:=ao) (n:=xs.length) (cap:=cap) (olds:=cx) hts hu hzero hszr ⟨i,hi,hib⟩ (fun w'=>(hzv w').1) hlenY (fun w' hw'=>by rw [<- hxv];exact q5 w' hw') hnewY hroom (by omega)
         (growslice_fits (by omega) (by omega)) (.inr trivial)
       have hc:=hcap (xs.length+ys.length) cap e;have hzs:=(hzv w).2;have hsize:(cx++news++Builtin.zeroCells zv.cells (grownCap w (xs.length+ys.length) cap e-(xs.length+ys.length))).size=grownCap w (xs.length+ys.length) cap e * z.length:=by
         simp only [Array.size_append,q2,hcY,Builtin.zeroCells,Array.size_map,Array.size_range,hzs,<- Nat.add_mul];congr 1;omega
       have hln:s.H.bl.length=(setBl s.H b .dead).bl.length:=by simp [setBl]
       rw [hln];refine rows_push (g1:=g) (H1:=setBl s.H b .dead) p1 p2 p3 hpos (rows:=xs++ys) (cs:=cx++news++Builtin.zeroCells zv.cells (grownCap w (xs.length+ys.length) cap e-(xs.length+ys.length))) (t:=e) (w':=w.drew.alloc (.cells (cx++news++Builtin.zeroCells zv.cells (grownCap w (xs.length+ys.length) cap e-(xs.length+ys.length))) e)) (q3.append hrY q2) rfl
         (vrel_new hc (by rw [hsize];exact Nat.le_refl _) (grown_small (by omega))) (by rw [hrun,hxv];simp [hgr]) htyOn
   · simp at h
end
end Go.V
namespace Go.V
open Go
section
variable {A:Par} {g:Gx} {f:Fx} {w:World} {s:S} {a:Act}
def EsR (g:Gx) (w:World):List (AV×AV)->List MapEntry->Prop
 |[],[]=>True
 |(k,x)::es,e::ces=>AV.isKey k=true/\VRel g w k e.key/\VRel g w x e.val/\EsR g w es ces
 |_,_=>False
theorem esR_iff {g:Gx} {w:World}:∀ {es:List (AV×AV)} {ces:List MapEntry},EsR g w es ces↔ces.length=es.length/\∀ (i:Nat) (k x:AV) (e:MapEntry),es[i]?=some (k,x)->ces[i]?=some e->AV.isKey k=true/\VRel g w k e.key/\VRel g w x e.val
 |[],[]=>⟨fun _=>⟨rfl,fun i k x e h=>by simp at h⟩,fun _=>trivial⟩
 |(k,x)::es,e::ces=>by
  simp only [EsR,esR_iff (es:=es) (ces:=ces)];constructor
  · rintro ⟨h1,h2,h3,h4,h5⟩
    refine ⟨by simp [h4],fun i k' x' e' hi hj=> ?_⟩;cases i with
    |zero=>simp at hi hj;obtain ⟨rfl,rfl⟩:=hi;subst hj;exact ⟨h1,h2,h3⟩
    |succ i=>exact h5 i k' x' e' (by simpa using hi) (by simpa using hj)
  · rintro ⟨h4,h5⟩
    obtain ⟨h1,h2,h3⟩:=h5 0 k x e rfl rfl;exact ⟨h1,h2,h3,by simpa using h4,fun i k' x' e' hi hj=>h5 (i+1) k' x' e' (by simpa using hi) (by simpa using hj)⟩
 |[],_::_=>⟨fun h=>h.elim,fun h=>by simp at h⟩
 |_::_,[]=>⟨fun h=>h.elim,fun h=>by simp at h⟩
theorem keyEq_sound {k k':AV} {kv kv':Value} {b:Bool} {d:TypeDesc} {t:TypeId} (h:keyEq k k'=some b) (hk:VRel g w k kv) (hk':VRel g w k' kv') (hok:keyOK A t k=true) (hd:A.P.underlying t=some d):
   Instr.sameNow d kv kv'=some b/\(b=true->Instr.sameBits 10000 kv' kv=true):=by
 unfold keyOK at hok;rw [hd] at hok;unfold keyEq at h;split at h
 · rename_i q x q' y;split at h
   case isFalse=>simp at h
   case isTrue e=>
     subst e;simp at h;subst h;cases hk;cases hk';split at hok
     · rename_i hh _;simp at hh;subst hh;refine ⟨by simp [Instr.sameNow,BEq.beq],fun hb=> ?_⟩;have:x=y:=by simpa using hb
       subst this;simp [Instr.sameBits]
     · rename_i h1 h2;simp at h2
     · simp at hok
 · rename_i x y;simp at h;subst h;cases hk;cases hk';split at hok
   · rename_i h1 h2;simp at h2
   · rename_i hh _;simp at hh;subst hh;refine ⟨by simp [Instr.sameNow],fun hb=> ?_⟩;rw [beq_toListBytes] at hb;have hb':x.toList=y.toList:=by simpa using hb
     simp [Instr.sameBits,beq_toListBytes,hb']
   · simp at hok
 · simp at h
theorem find_sound {k:AV} {kv:Value} {d:TypeDesc} {t:TypeId} (hk:VRel g w k kv) (hok:keyOK A t k=true) (hd:A.P.underlying t=some d):∀ {es:List (AV×AV)} {ces:List MapEntry} {r:Option AV} (i0:Nat),mapFind k es=some r->EsR g w es ces->
  (r=none/\Instr.findNow d kv ces i0=some none)\/∃ x i v,r=some x/\Instr.findNow d kv ces i0=some (some (i0+i,v))/\VRel g w x v
 |[],[],r,i0,h,_=>by simp [mapFind] at h;subst h;exact .inl ⟨rfl,rfl⟩
 |(k',x)::es,e::ces,r,i0,h,he=>by
  obtain ⟨h1,h2,h3,h4⟩:=he;simp only [mapFind,Option.bind_eq_some_iff] at h;obtain ⟨b,hb,h⟩:=h;obtain ⟨hs,_⟩:=keyEq_sound hb hk h2 hok hd;cases b with
  |true=>
   simp at h;subst h;exact .inr ⟨x,0,e.val,rfl,by simp [Instr.findNow,hs],h3⟩
  |false=>
   simp only at h;rcases find_sound hk hok hd (i0+1) h h4 with ⟨rfl,hf⟩|⟨x',i,v,rfl,hf,hv⟩
   · exact .inl ⟨rfl,by simp [Instr.findNow,hs,hf]⟩
   · exact .inr ⟨x',i+1,v,rfl,by simp [Instr.findNow,hs,hf];omega,hv⟩
 |[],_::_,_,_,_,he=>he.elim
 |_::_,[],_,_,_,he=>by cases ‹AV×AV›;exact he.elim
theorem checkKey_ok {e:Bool} {t:TypeId} {k:AV} {kv:Value} (hok:keyOK A t k=true) (hk:VRel g w k kv):(Instr.checkKey e 10000 t kv).run A.P w= .ok () w:=by
 unfold keyOK at hok;have h10:(10000:Nat)=9999+1:=rfl;rw [h10];generalize 9999=n;split at hok
 · rename_i hu;cases hk;simp [Instr.checkKey,run_underlying hu]
 · rename_i hu;cases hk;simp [Instr.checkKey,run_underlying hu]
 · simp at hok
theorem key_desc {t:TypeId} {k:AV} (hok:keyOK A t k=true):∃ d,A.P.underlying t=some d:=by
 unfold keyOK at hok;split at hok
 · rename_i hu;exact ⟨_,hu⟩
 · rename_i hu;exact ⟨_,hu⟩
 · simp at hok
theorem findKey_run {t:TypeId} {k:AV} {kv:Value} {es:List (AV×AV)} {ces:List MapEntry} {r:Option AV} (hk:VRel g w k kv) (hok:keyOK A t k=true) (h:mapFind k es=some r) (he:EsR g w es ces):
   (r=none/\(Instr.findKey t kv ces).run A.P w= .ok none w)\/∃ x i v,r=some x/\(Instr.findKey t kv ces).run A.P w= .ok (some (i,v)) w/\VRel g w x v:=by
 obtain ⟨d,hd⟩:=key_desc hok;rcases find_sound hk hok hd 0 h he with ⟨rfl,hf⟩|⟨x,i,v,rfl,hf,hv⟩
 · exact .inl ⟨rfl,by simp [Instr.findKey,run_underlying hd,hf]⟩
 · exact .inr ⟨x,0+i,v,rfl,by simp [Instr.findKey,run_underlying hd,hf],hv⟩
theorem mapOf_sound {H:AH} {m:AV} {mv:Value} {es:List (AV×AV)} (h:mapOf H m=some es) (hw:WRel A.glob g w H) (hm:VRel g w m mv):
   (mv= .map none/\es=[])\/∃ r ces clock,mv= .map (some r)/\w.heap[r]?=some (.map ces clock)/\EsR g w es ces.toList:=by
 unfold mapOf at h;split at h
 · simp at h;subst h;cases hm;exact .inl ⟨rfl,rfl⟩
 · rename_i b;split at h
   · rename_i es' hb;simp at h;subst h;cases hm with
     |mp _ hd=>
      obtain ⟨ces,clock,hR,hZ,hl,hrel⟩:=hw.blk b _ hd hb;exact .inr ⟨_,ces,clock,rfl,hR,esR_iff.2 ⟨by simpa using hl,fun i k x e hi he=>hrel i k x e hi (by simpa using he)⟩⟩
   · simp at h
 · simp at h
theorem zeroV_sound {t:TypeId} {x:AV} (h:zeroV A t=some x):∃ v,(zeroValue t).run A.P w= .ok v w/\VRel g w x v:=by
 unfold zeroV at h;cases hi:A.P.info? t with
 |none=>simp [hi] at h
 |some i=>
  simp only [hi,Option.map_some] at h;cases hz:i.zero with
  |none=>simp [hz] at h
  |some v=>
   have hrun:(zeroValue t).run A.P w= .ok v w:=by simp [zeroValue,typeInfo,hi,hz]
   refine ⟨v,hrun,?_⟩;rw [hz] at h;split at h
   · rename_i cs heq;simp at heq;subst heq;simp only [Option.map_eq_some_iff] at h;obtain ⟨l,hl,rfl⟩:=h;obtain ⟨c1,c2,c3⟩:=constCells_sound (g:=g) (w:=w) hl;exact AggR.agg ⟨by simpa using c1,rowRel_new (by simpa using c1) c2 c3⟩
   · rename_i v' _ heq;simp at heq;subst heq;exact constAV_sound h
   · simp at h
theorem lookup_sound {t:TypeId} {m k v:AV} {mv kv:Value} {ok:Bool} (h:lookup A s.H t m k ok=some v) (hw:WRel A.glob g w s.H) (hm:VRel g w m mv) (hk:VRel g w k kv):
   ∃ rv,(Instr.lookup t mv kv ok).run A.P w= .ok rv w/\VRel g w v rv:=by
 unfold lookup at h;split at h
 case h_2=>simp at h
 case h_1 kt et hu=>
 split at h
 case isFalse=>simp at h
 case isTrue hok=>
 simp only [Option.bind_eq_some_iff] at h;obtain ⟨es,hes,r,hr,⟨x,b⟩,hxb,h⟩:=h;simp at h;subst h;have hfin:∀ xv,VRel g w x xv->VRel g w (if ok=true then AV.tup [x,.bool b] else x) (if ok=true then .tuple #[xv,.bool b] else xv):=fun xv hx=>by
   cases ok with
   |true=>
     refine .tup _ [xv,.bool b] rfl (fun i y u hy hu=> ?_)
     match i with
     |0=>simp at hy hu;subst hy;subst hu;exact hx
     |1=>simp at hy hu;subst hy;subst hu;exact .bool b
     |i+2=>simp at hy
   |false=>exact hx
 rcases mapOf_sound hes hw hm with ⟨rfl,rfl⟩|⟨q,ces,clock,rfl,hR,he⟩
 · simp [mapFind] at hr;subst hr;simp only [Option.map_eq_some_iff] at hxb;obtain ⟨z,hz,hxb⟩:=hxb;simp at hxb;obtain ⟨rfl,rfl⟩:=hxb;obtain ⟨zv,hzr,hzv⟩:=zeroV_sound (g:=g) (w:=w) hz;have hf:(Instr.findKey kt kv []).run A.P w= .ok none w:=by
     obtain ⟨d,hd⟩:=key_desc hok;simp [Instr.findKey,run_underlying hd,Instr.findNow]
   refine ⟨_,?_,hfin zv hzv⟩;simp only [Instr.lookup,Sem.run_bind,run_underlying hu,Result.andThen_ok,Sem.run_pure,checkKey_ok hok hk,List.toList_toArray,hf,hzr]
 · have hget:(getObj q).run A.P w= .ok (.map ces clock) w:=by simp [getObj,Sem.run,hR]
   rcases findKey_run hk hok hr he with ⟨rfl,hf⟩|⟨x',i,v,rfl,hf,hv⟩
   · simp only [Option.map_eq_some_iff] at hxb;obtain ⟨z,hz,hxb⟩:=hxb;simp at hxb;obtain ⟨rfl,rfl⟩:=hxb;obtain ⟨zv,hzr,hzv⟩:=zeroV_sound (g:=g) (w:=w) hz;refine ⟨_,?_,hfin zv hzv⟩;simp only [Instr.lookup,Sem.run_bind,run_underlying hu,Result.andThen_ok,Sem.run_pure,hget,checkKey_ok hok hk,hf,hzr]
   · simp at hxb;obtain ⟨rfl,rfl⟩:=hxb;refine ⟨_,?_,hfin v hv⟩;simp only [Instr.lookup,Sem.run_bind,run_underlying hu,Result.andThen_ok,Sem.run_pure,hget,checkKey_ok hok hk,hf]
theorem set_sound {k x:AV} {kv xv:Value} {d:TypeDesc} {t:TypeId} (hk:VRel g w k kv) (hx:VRel g w x xv) (hok:keyOK A t k=true) (hd:A.P.underlying t=some d):∀ {es es':List (AV×AV)} {ces:List MapEntry} (i0:Nat),mapSet k x es=some es'->EsR g w es ces->
  (Instr.findNow d kv ces i0=some none/\∀ born,EsR g w es' (ces++[{ key:=kv,val:=xv,born }]))\/
  ∃ i v e,Instr.findNow d kv ces i0=some (some (i0+i,v))/\ces[i]?=some e/\Instr.sameBits 10000 e.key kv=true/\EsR g w es' (ces.modify i fun e=>{ e with key:=kv,val:=xv })
 |[],es',[],i0,h,_=>by
  simp [mapSet] at h;subst h;have hkk:AV.isKey k=true:=by unfold keyOK at hok;split at hok<;>first|rfl|simp at hok
  exact .inl ⟨rfl,fun born=>⟨hkk,hk,hx,trivial⟩⟩
 |(k',y)::es,es',e::ces,i0,h,he=>by
  obtain ⟨h1,h2,h3,h4⟩:=he;have hkk:AV.isKey k=true:=by unfold keyOK at hok;split at hok<;>first|rfl|simp at hok
  simp only [mapSet,Option.bind_eq_some_iff] at h;obtain ⟨b,hb,h⟩:=h;obtain ⟨hs,hbits⟩:=keyEq_sound hb hk h2 hok hd;cases b with
  |true=>
   simp at h;subst h;exact .inr ⟨0,e.val,e,by simp [Instr.findNow,hs],rfl,hbits rfl,⟨hkk,hk,hx,h4⟩⟩
  |false=>
   simp only [Option.map_eq_some_iff] at h;obtain ⟨es'',hes,rfl⟩:=h;rcases set_sound hk hx hok hd (i0+1) hes h4 with ⟨hf,hr⟩|⟨i,v,e',hf,hi,hbits',hr⟩
   · exact .inl ⟨by simp [Instr.findNow,hs,hf],fun born=>⟨h1,h2,h3,hr born⟩⟩
   · refine .inr ⟨i+1,v,e',by simp [Instr.findNow,hs,hf];omega,by simpa using hi,hbits',?_⟩;simp only [List.modify_succ_cons];exact ⟨h1,h2,h3,hr⟩
 |[],_,_::_,_,_,he=>he.elim
 |_::_,_,[],_,_,he=>by cases ‹AV×AV›;exact he.elim
theorem del_sound {k:AV} {kv:Value} {d:TypeDesc} {t:TypeId} (hk:VRel g w k kv) (hok:keyOK A t k=true) (hd:A.P.underlying t=some d):∀ {es es':List (AV×AV)} {ces:List MapEntry} (i0:Nat),mapDel k es=some es'->EsR g w es ces->
  (Instr.findNow d kv ces i0=some none/\EsR g w es' ces)\/
  ∃ i v,Instr.findNow d kv ces i0=some (some (i0+i,v))/\i<ces.length/\EsR g w es' (ces.eraseIdx i)
 |[],es',[],i0,h,_=>by simp [mapDel] at h;subst h;exact .inl ⟨rfl,trivial⟩
 |(k',y)::es,es',e::ces,i0,h,he=>by
  obtain ⟨h1,h2,h3,h4⟩:=he;simp only [mapDel,Option.bind_eq_some_iff] at h;obtain ⟨b,hb,h⟩:=h;obtain ⟨hs,hbits⟩:=keyEq_sound hb hk h2 hok hd;cases b with
  |true=>
   simp at h;subst h;exact .inr ⟨0,e.val,by simp [Instr.findNow,hs],by simp,by simpa using h4⟩
  |false=>
   simp only [Option.map_eq_some_iff] at h;obtain ⟨es'',hes,rfl⟩:=h;rcases del_sound hk hok hd (i0+1) hes h4 with ⟨hf,hr⟩|⟨i,v,hf,hi,hr⟩
   · exact .inl ⟨by simp [Instr.findNow,hs,hf],h1,h2,h3,hr⟩
   · exact .inr ⟨i+1,v,by simp [Instr.findNow,hs,hf];omega,by simpa using hi,h1,h2,h3,hr⟩
 |[],_,_::_,_,_,he=>he.elim
 |_::_,_,[],_,_,he=>by cases ‹AV×AV›;exact he.elim
theorem EsR.mono {g g':Gx} {w w':World} (hle:g.Le w g' w'):∀ {es:List (AV×AV)} {ces:List MapEntry},EsR g w es ces->EsR g' w' es ces
 |[],[],_=>trivial
 |(k,x)::es,e::ces,⟨h1,h2,h3,h4⟩=>⟨h1,h2.mono hle,h3.mono hle,h4.mono hle⟩
 |[],_::_,h=>h.elim
 |_::_,[],h=>by cases ‹AV×AV›;exact h.elim
theorem map_write {b:Nat} {es es':List (AV×AV)} {ces ces':Array MapEntry} {clock clock':Nat} (hw:WRel A.glob g w s.H) (hf:FRel g f w s.H s.F) (hd:g.D b) (hb:s.H.bl[b]?=some (.map es)) (hwm:s.H.wm<=b)
  (hR:w.heap[(g.ρ b).R]?=some (.map ces clock)) (he:EsR g w es' ces'.toList):
  WRel A.glob g { w with heap:=w.heap.setIfInBounds (g.ρ b).R (.map ces' clock') } (setBl s.H b (.map es'))/\FRel g f { w with heap:=w.heap.setIfInBounds (g.ρ b).R (.map ces' clock') } (setBl s.H b (.map es')) s.F/\
   FExt g f w s.H s.F g f { w with heap:=w.heap.setIfInBounds (g.ρ b).R (.map ces' clock') } (setBl s.H b (.map es')) s.F:=by
 have hlt:=getElem?_lt hR;have hlive:live g s.H b:=⟨hd,_,hb,rfl⟩;refine write_block hw hf hlive hwm (by simp) (fun R hne=>by simp [Array.getElem?_setIfInBounds,Ne.symm hne]) (fun hle=> ?_);obtain ⟨h1,h2⟩:=esR_iff.1 (he.mono hle);exact ⟨ces',clock',by simp [hlt],hw.notZ hlive,by simpa using h1,fun i k x e hi hc=>h2 i k x e hi (by simpa using hc)⟩
theorem mapUpdate_sound {t:TypeId} {m k x:AV} {mv kv xv:Value} {H':AH} (h:mapUpdate A s.H t m k x=some H') (hw:WRel A.glob g w s.H) (hf:FRel g f w s.H s.F) (hm:VRel g w m mv) (hk:VRel g w k kv) (hx:VRel g w x xv):
   ∃ w',(Instr.mapUpdate t mv kv xv).run A.P w= .ok () w'/\WRel A.glob g w' H'/\FRel g f w' H' s.F/\FExt g f w s.H s.F g f w' H' s.F:=by
 unfold mapUpdate at h;split at h
 case h_2=>simp at h
 case h_1 kt et b hu=>
 split at h
 case isFalse=>simp at h
 case isTrue hc=>
 simp only [Bool.and_eq_true,decide_eq_true_eq] at hc;obtain ⟨hok,hwm⟩:=hc;split at h
 case h_2=>simp at h
 case h_1 es hb=>
 simp only [Option.map_eq_some_iff] at h;obtain ⟨es',hes,rfl⟩:=h;cases hm with
 |mp _ hd=>
 obtain ⟨ces,clock,hR,hZ,hl,hrel⟩:=hw.blk b _ hd hb;have hER:EsR g w es ces.toList:=esR_iff.2 ⟨by simpa using hl,fun i k x e hi he=>hrel i k x e hi (by simpa using he)⟩;obtain ⟨d,hdd⟩:=key_desc hok;have hget:(getObj (g.ρ b).R).run A.P w= .ok (.map ces clock) w:=by simp [getObj,Sem.run,hR]
 have hset:∀ o:Obj,(setObj (g.ρ b).R o).run A.P w= .ok () { w with heap:=w.heap.setIfInBounds (g.ρ b).R o }:=fun o=>by simp [setObj,Sem.run,hR]
 rcases set_sound hk hx hok hdd 0 hes hER with ⟨hf',hr⟩|⟨i,v,e,hf',hi,hbits,hr⟩
 · have hfk:(Instr.findKey kt kv ces.toList).run A.P w= .ok none w:=by simp [Instr.findKey,run_underlying hdd,hf']
   refine ⟨_,?_,map_write (ces':=ces.push { key:=kv,val:=xv,born:=clock }) (clock':=clock+1) hw hf hd hb hwm hR (by simpa using hr clock)⟩;simp only [Instr.mapUpdate,Sem.run_bind,run_underlying hu,Result.andThen_ok,hget,checkKey_ok hok hk,hfk,hset]
 · have hfk:(Instr.findKey kt kv ces.toList).run A.P w= .ok (some (i,v)) w:=by simp [Instr.findKey,run_underlying hdd,hf']
   have hkt:(Instr.keyThatStays (((ces[i]?).map (·.key)).getD kv) kv).run A.P w= .ok kv w:=by
    have:ces[i]?=some e:=by simpa using hi
    simp [Instr.keyThatStays,this,hbits]
   refine ⟨_,?_,map_write (ces':=ces.modify i fun e=>{ e with key:=kv,val:=xv }) (clock':=clock) hw hf hd hb hwm hR (by simpa using hr)⟩;simp only [Instr.mapUpdate,Sem.run_bind,run_underlying hu,Result.andThen_ok,hget,checkKey_ok hok hk,hfk,hkt,hset]
theorem mapDelete_sound {ts:Array TypeId} {t ty:TypeId} {m k:AV} {mv kv:Value} {H':AH} (hts:ts[0]?=some t) (h:mapDelete A s.H t m k=some H') (hw:WRel A.glob g w s.H) (hf:FRel g f w s.H s.F) (hm:VRel g w m mv) (hk:VRel g w k kv):
   ∃ w',(Builtin.delete_ ts ty #[mv,kv]).run A.P w= .ok (.tuple #[]) w'/\WRel A.glob g w' H'/\FRel g f w' H' s.F/\FExt g f w s.H s.F g f w' H' s.F:=by
 unfold mapDelete at h;split at h
 · rename_i kt et hu;split at h
   case isFalse=>simp at h
   case isTrue hok=>
   simp at h;subst h;cases hm;refine ⟨w,?_,hw,hf,.refl _ _ _ _ _⟩;simp [Builtin.delete_,hts,run_underlying hu,checkKey_ok hok hk]
 · rename_i kt et b hu;split at h
   case isFalse=>simp at h
   case isTrue hc=>
   simp only [Bool.and_eq_true,decide_eq_true_eq] at hc;obtain ⟨hok,hwm⟩:=hc;split at h
   case h_2=>simp at h
   case h_1 es hb=>
   simp only [Option.map_eq_some_iff] at h;obtain ⟨es',hes,rfl⟩:=h;cases hm with
   |mp _ hd=>
   obtain ⟨ces,clock,hR,hZ,hl,hrel⟩:=hw.blk b _ hd hb;have hER:EsR g w es ces.toList:=esR_iff.2 ⟨by simpa using hl,fun i k x e hi he=>hrel i k x e hi (by simpa using he)⟩;obtain ⟨d,hdd⟩:=key_desc hok;have hget:(getObj (g.ρ b).R).run A.P w= .ok (.map ces clock) w:=by simp [getObj,Sem.run,hR]
   have hset:∀ o:Obj,(setObj (g.ρ b).R o).run A.P w= .ok () { w with heap:=w.heap.setIfInBounds (g.ρ b).R o }:=fun o=>by simp [setObj,Sem.run,hR]
   rcases del_sound hk hok hdd 0 hes hER with ⟨hf',hr⟩|⟨i,v,hf',hi,hr⟩
   · have hfk:(Instr.findKey kt kv ces.toList).run A.P w= .ok none w:=by simp [Instr.findKey,run_underlying hdd,hf']
     refine ⟨_,?_,map_write (ces':=ces) (clock':=clock) hw hf hd hb hwm hR hr⟩;simp only [Builtin.delete_,hts,List.getElem?_toArray,List.getElem?_cons_zero,List.getElem?_cons_succ,Sem.run_bind,run_underlying hu,Result.andThen_ok,hget,checkKey_ok hok hk,hfk,hset,Sem.run_pure]
   · have hfk:(Instr.findKey kt kv ces.toList).run A.P w= .ok (some (i,v)) w:=by simp [Instr.findKey,run_underlying hdd,hf']
     have hil:i<ces.size:=by simpa using hi
     refine ⟨_,?_,map_write (ces':=ces.eraseIdxIfInBounds i) (clock':=clock) hw hf hd hb hwm hR (by simpa [Array.eraseIdxIfInBounds,hil] using hr)⟩;simp only [Builtin.delete_,hts,List.getElem?_toArray,List.getElem?_cons_zero,List.getElem?_cons_succ,Sem.run_bind,run_underlying hu,Result.andThen_ok,hget,checkKey_ok hok hk,hfk,hset,Sem.run_pure]
 · simp at h
end
end Go.V
namespace Go.V
open Go
section
variable {A:Par} {g:Gx} {f:Fx} {w:World} {s:S} {a:Act}
theorem fold_sound {fn:AV->AV->Option AV} {gn:Value->Value->Sem Value} (hfn:∀ (x y z:AV) (xv yv:Value),fn x y=some z->VRel g w x xv->VRel g w y yv->∃ zv,(gn xv yv).run A.P w= .ok zv w/\VRel g w z zv):
  ∀ {ys:List AV} {yv:List Value} {x z:AV} {xv:Value},fold2 fn x ys=some z->VRel g w x xv->yv.length=ys.length->(∀ (i:Nat) (y:AV) (v:Value),ys[i]?=some y->yv[i]?=some v->VRel g w y v)->∃ zv,(yv.foldlM gn xv).run A.P w= .ok zv w/\VRel g w z zv
 |[],[],x,z,xv,h,hx,_,_=>by simp [fold2] at h;subst h;exact ⟨xv,by simp,hx⟩
 |y::ys,v::yv,x,z,xv,h,hx,hl,hr=>by
  simp only [fold2,Option.bind_eq_some_iff] at h;obtain ⟨q,hq,h⟩:=h;obtain ⟨qv,hqv,hqr⟩:=hfn x y q xv v hq hx (hr 0 y v rfl rfl);obtain ⟨zv,h1,h2⟩:=fold_sound hfn h hqr (by simpa using hl) (fun i y' v' hy hv=>hr (i+1) y' v' (by simpa using hy) (by simpa using hv));exact ⟨zv,by simp [List.foldlM_cons,hqv,h1],h2⟩
 |[],_::_,_,_,_,_,_,hl,_=>by simp at hl
 |_::_,[],_,_,_,_,_,hl,_=>by simp at hl
theorem maxAV_sound (x y z:AV) (xv yv:Value) (h:maxAV x y=some z) (hx:VRel g w x xv) (hy:VRel g w y yv):∃ zv,(Builtin.max2 xv yv).run A.P w= .ok zv w/\VRel g w z zv:=by
 unfold maxAV at h;split at h
 · simp at h;subst h;cases hx;cases hy;exact ⟨_,by simp [Builtin.max2],.int _ _⟩
 · simp at h
theorem minAV_sound (x y z:AV) (xv yv:Value) (h:minAV x y=some z) (hx:VRel g w x xv) (hy:VRel g w y yv):∃ zv,(Builtin.min2 xv yv).run A.P w= .ok zv w/\VRel g w z zv:=by
 unfold minAV at h;split at h
 · simp at h;subst h;cases hx;cases hy;exact ⟨_,by simp [Builtin.min2],.int _ _⟩
 · simp at h
theorem copy_rows {sz:Nat} {rows new:List (List AV)} {cs:Array Value} {base r:Nat} {vs:List Value} (hlen:vs.length=new.length * sz) (hfit:r+new.length<=rows.length) (hcs:base+rows.length * sz<=cs.size)
   (hold:∀ (i:Nat) (row:List AV),rows[i]?=some row->row.length=sz/\RowRel g w cs (base+i * sz) row) (hnew:RowsR g w sz new vs.toArray):
   ∀ (i:Nat) (row:List AV),(rows.take r++(new++rows.drop (r+new.length)))[i]?=some row->row.length=sz/\RowRel g w (cs.toList.take (base+r * sz)++vs++cs.toList.drop (base+r * sz+vs.length)).toArray (base+i * sz) row:=by
 intro i row hi;have hm1:(r+new.length) * sz=r * sz+new.length * sz:=Nat.add_mul _ _ _;have hm2:(r+new.length) * sz<=rows.length * sz:=Nat.mul_le_mul_right _ hfit;have htk:(cs.toList.take (base+r * sz)).length=base+r * sz:=by rw [List.length_take,Array.length_toList];omega
 have htr:(rows.take r).length=r:=by rw [List.length_take];omega
 by_cases h1:i<r
 · rw [List.getElem?_append_left (by omega),List.getElem?_take,if_pos h1] at hi;obtain ⟨hl,hr⟩:=hold i row hi;refine ⟨hl,fun c x hx=> ?_⟩;obtain ⟨v,e1,e2,e3⟩:=hr c x hx;have hlt:i * sz+c<r * sz:=mul_add_lt h1 (by have:=getElem?_lt' hx;omega);refine ⟨v,?_,e2,e3⟩;simp only [List.getElem?_toArray,List.append_assoc];rw [List.getElem?_append_left (by omega),List.getElem?_take,if_pos (by omega)];simpa using e1
 · rw [List.getElem?_append_right (by omega),htr] at hi;by_cases h2:i-r<new.length
   · rw [List.getElem?_append_left h2] at hi;obtain ⟨hl,hr⟩:=hnew.2 _ row hi;refine ⟨hl,fun c x hx=> ?_⟩;obtain ⟨v,e1,e2,e3⟩:=hr c x hx;have hlt:(i-r) * sz+c<new.length * sz:=mul_add_lt h2 (by have:=getElem?_lt' hx;omega);have hi':i * sz=r * sz+(i-r) * sz:=by rw [<- Nat.add_mul];congr 1;omega
     refine ⟨v,?_,e2,e3⟩;simp only [List.getElem?_toArray,List.append_assoc] at e1 ⊢;rw [List.getElem?_append_right (by omega),htk,List.getElem?_append_left (by omega),<- e1];congr 1;omega
   · rw [List.getElem?_append_right (by omega),List.getElem?_drop] at hi;have hii:r+new.length+(i-r-new.length)=i:=by omega
     rw [hii] at hi;obtain ⟨hl,hr⟩:=hold i row hi;refine ⟨hl,fun c x hx=> ?_⟩;obtain ⟨v,e1,e2,e3⟩:=hr c x hx;have hge:(r+new.length) * sz<=i * sz:=Nat.mul_le_mul_right _ (by omega);refine ⟨v,?_,e2,e3⟩;simp only [List.getElem?_toArray,List.append_assoc];rw [List.getElem?_append_right (by omega),htk,List.getElem?_append_right (by omega),List.getElem?_drop,show base+r * sz+vs.length+(base+i * sz+c-(base+r * sz)-vs.length)=base+i * sz+c by omega]
     simpa using e1
theorem prefix_rows {H:AH} {x:AV} {xv:Value} {rows:List (List AV)} {k:Nat} (h:rowsOf H x=some rows) (hw:WRel A.glob g w H) (hx:VRel g w x xv) (hk:k<=rows.length):
   ∃ x' xv',rowsOf H x'=some (rows.take k)/\VRel g w x' xv'/\∀ sz,Builtin.firstCells sz k xv'=Builtin.firstCells sz k xv:=by
 unfold rowsOf at h;split at h
 · simp at h;subst h;simp at hk;subst hk;exact ⟨.nils,xv,rfl,hx,fun _=>rfl⟩
 · simp at h;subst h;simp at hk;subst hk;exact ⟨.emp,xv,rfl,hx,fun _=>rfl⟩
 · rename_i sz rows0;simp at h;subst h;cases hx with
   |lits _ ad=>simp at hk;subst hk;exact ⟨.lit sz [],_,rfl,.lits sz ad,fun _=>rfl⟩
   |lit _ ad cap _ vs hs hc hz hl hcell h1c hrel=>
    have hlen:(rows0.take k).length=k:=by simp;omega
    have hget:∀ (i:Nat) (row:List AV),(rows0.take k)[i]?=some row->rows0[i]?=some row:=fun i row hi=>by
     rw [List.getElem?_take] at hi;split at hi;exact hi;simp at hi
    refine ⟨.lit sz (rows0.take k),.slice (some ad) (rows0.take k).length cap,rfl,.lit _ ad cap sz vs hs (by omega) (fun hne=>hz (by intro e;subst e;simp at hne)) (fun i row hi=>hl i row (hget i row hi)) (fun i c hi hc'=>hcell i c (by omega) hc') (fun i c hi hc'=>h1c i c (by omega) hc') (fun i row c x hi hx=>hrel i row c x (hget i row hi) hx),fun _=>rfl⟩
 · rename_i b r n;split at h
   case h_2=>simp at h
   case h_1 rows0 sz ty0 hb=>
   split at h
   case isFalse=>simp at h
   case isTrue hle=>
   simp at h;subst h;have hlen:((rows0.drop r).take n).length=n:=by simp;omega
   have hrr:rowsOf H (.sl b r k)=some (((rows0.drop r).take n).take k):=by
    simp only [rowsOf,hb];rw [if_pos (by omega),List.take_take,Nat.min_eq_left (by omega)]
   cases hx with
   |sl _ _ _ cap hd hn hend hmc=>exact ⟨.sl b r k,_,hrr,.sl b r k cap hd (by omega) hend (by assumption),fun _=>rfl⟩
   |slz _ _ ad hd=>
    have:k=0:=by omega
    subst this;exact ⟨.sl b r 0,_,hrr,.slz b r ad hd,fun _=>rfl⟩
 · simp at h
theorem builtin_sound {b:Builtin} {ts:Array TypeId} {ty:TypeId} {consts:Array Bool} {args:List AV} {vs:List Value} {v:AV} {H':AH} {r:Result Next} (h:builtin A s.H b ts args=some (v,H')) (hw:WRel A.glob g w s.H) (hf:FRel g f w s.H s.F)
   (hl:args.length=vs.length) (hv:∀ (i:Nat) (x:AV) (u:Value),args[i]?=some x->vs[i]?=some u->VRel g w x u) (hrun:r=(Go.builtin b ts ty consts vs.toArray).run A.P w):
   Did A.glob g f w s { s with H:=H' } (.v v) r:=by
 unfold builtin at h;split at h
 · rename_i x y;obtain ⟨xv,yv,rfl⟩:∃ xv yv,vs=[xv,yv]:=by
     match vs,hl with
     |[p,q],_=>exact ⟨p,q,rfl⟩
   exact append_sound h hw hf (hv 0 x xv rfl rfl) (hv 1 y yv rfl rfl) hrun
 · rename_i x;obtain ⟨xv,rfl⟩:∃ xv,vs=[xv]:=by
     match vs,hl with
     |[p],_=>exact ⟨p,rfl⟩
   have hx:=hv 0 x xv rfl rfl;simp only [Option.bind_eq_some_iff] at h;obtain ⟨t,hts,h⟩:=h;have hstr:∀ n:Int,(Builtin.len_ ts ty #[xv]).run A.P w= .ok (.int .i64 n) w->Did A.glob g f w s s (.v (.int .i64 n)) r:=fun n hn=>did_same hw hf (rv:= .int .i64 n) (by rw [hrun];simp [Go.builtin,hn]) (.int _ _)
   split at h
   · rename_i sb hu;simp at h;obtain ⟨rfl,rfl⟩:=h;cases hx;exact hstr _ (by simp [Builtin.len_,hts,run_underlying hu,goInt])
   · rename_i e hu;simp at h;obtain ⟨rfl,rfl⟩:=h;cases hx;exact hstr _ (by simp [Builtin.len_,hts,run_underlying hu,goInt])
   · rename_i e hu;simp at h;obtain ⟨rfl,rfl⟩:=h;cases hx;exact hstr _ (by simp [Builtin.len_,hts,run_underlying hu,goInt])
   · rename_i e sz rows hu;simp at h;obtain ⟨rfl,rfl⟩:=h;cases hx<;>exact hstr _ (by simp [Builtin.len_,hts,run_underlying hu,goInt])
   · rename_i e b' r' n hu;simp at h;obtain ⟨rfl,rfl⟩:=h;cases hx<;>exact hstr _ (by simp [Builtin.len_,hts,run_underlying hu,goInt])
   · rename_i kt et hu;simp only [Option.map_eq_some_iff] at h;obtain ⟨es,hes,h⟩:=h;simp at h;obtain ⟨rfl,rfl⟩:=h;rcases mapOf_sound hes hw hx with ⟨rfl,rfl⟩|⟨q,ces,clock,rfl,hR,he⟩
     · exact hstr _ (by simp [Builtin.len_,hts,run_underlying hu,goInt])
     · have hget:(getObj q).run A.P w= .ok (.map ces clock) w:=by simp [getObj,Sem.run,hR]
       have hcl:=(esR_iff.1 he).1;have hcl':ces.size=es.length:=by simpa using hcl
       exact hstr _ (by simp [Builtin.len_,hts,run_underlying hu,hget,goInt,hcl'])
   · rename_i n e hu;simp at h;obtain ⟨rfl,rfl⟩:=h;exact hstr _ (by simp [Builtin.len_,hts,run_underlying hu,goInt])
   · simp at h
 · rename_i x xs;obtain ⟨xv,xvs,rfl⟩:∃ xv xvs,vs=xv::xvs:=by
     match vs,hl with
     |p::q,_=>exact ⟨p,q,rfl⟩
   simp only [Option.map_eq_some_iff] at h;obtain ⟨z,hz,h⟩:=h;simp at h;obtain ⟨rfl,rfl⟩:=h;obtain ⟨zv,h1,h2⟩:=fold_sound (A:=A) (gn:=Builtin.max2) maxAV_sound hz (hv 0 x xv rfl rfl) (by simpa using hl.symm) (fun i y u hy hu=>hv (i+1) y u (by simpa using hy) (by simpa using hu));exact did_same hw hf (rv:=zv) (by rw [hrun];simp [Go.builtin,Builtin.max_,h1]) h2
 · rename_i x xs;obtain ⟨xv,xvs,rfl⟩:∃ xv xvs,vs=xv::xvs:=by
     match vs,hl with
     |p::q,_=>exact ⟨p,q,rfl⟩
   simp only [Option.map_eq_some_iff] at h;obtain ⟨z,hz,h⟩:=h;simp at h;obtain ⟨rfl,rfl⟩:=h;obtain ⟨zv,h1,h2⟩:=fold_sound (A:=A) (gn:=Builtin.min2) minAV_sound hz (hv 0 x xv rfl rfl) (by simpa using hl.symm) (fun i y u hy hu=>hv (i+1) y u (by simpa using hy) (by simpa using hu));exact did_same hw hf (rv:=zv) (by rw [hrun];simp [Go.builtin,Builtin.min_,h1]) h2
 · rename_i m k;obtain ⟨mv,kv,rfl⟩:∃ xv yv,vs=[xv,yv]:=by
     match vs,hl with
     |[p,q],_=>exact ⟨p,q,rfl⟩
   simp only [Option.bind_eq_some_iff,Option.map_eq_some_iff] at h;obtain ⟨t,hts,H1,hd,h⟩:=h;simp at h;obtain ⟨rfl,rfl⟩:=h;obtain ⟨w',h1,h2,h3,h4⟩:=mapDelete_sound (ty:=ty) hts hd hw hf (hv 0 m mv rfl rfl) (hv 1 k kv rfl rfl);exact ⟨.tuple #[],w',g,f,.inl (by rw [hrun];simp [Go.builtin,h1]),h2,h3,h4,.tup [] [] rfl (fun i x v h=>by simp at h)⟩
 · rename_i x y;obtain ⟨xv,yv,rfl⟩:∃ xv yv,vs=[xv,yv]:=by
     match vs,hl with
     |[p,q],_=>exact ⟨p,q,rfl⟩
   have hx:=hv 0 x xv rfl rfl;have hy:=hv 1 y yv rfl rfl;simp only [Option.bind_eq_some_iff] at h;obtain ⟨t,hts,e,he,z,hz,ys,hys,h⟩:=h;have hu:=elem_info he;obtain ⟨yo,ycap,hyv,hycap,_⟩:=slice_cells hys hw hy;have hlenY:(Builtin.lenOf yv).run A.P w= .ok ys.length w:=by rw [hyv];simp [Builtin.lenOf]
   split at h
   · simp at h;obtain ⟨rfl,rfl⟩:=h;cases hx;obtain ⟨x',xv',p1,p2,p3⟩:=prefix_rows (k:=0) hys hw hy (Nat.zero_le _);obtain ⟨_,_,cs,_,_,q2,_,_,_,q5⟩:=load_rows (sz:=z) p1 hw p2 (fun row h=>by simp at h);have hfc:=q5 w rfl;simp only [List.take_zero,List.length_nil] at hfc;rw [p3] at hfc;refine did_same hw hf (rv:= .int .i64 0) ?_ (.int _ _);have hmin:ys.length.min 0=0:=by simp
     rw [hrun];simp [Go.builtin,Builtin.copy_,hts,run_underlying hu,hlenY,hmin,run_size hz,hfc,goInt]
   · simp at h;obtain ⟨rfl,rfl⟩:=h;cases hx with
     |emp ad0=>
     obtain ⟨x',xv',p1,p2,p3⟩:=prefix_rows (k:=0) hys hw hy (Nat.zero_le _);obtain ⟨_,_,cs,_,_,q2,_,_,_,q5⟩:=load_rows (sz:=z) p1 hw p2 (fun row h=>by simp at h);have hfc:=q5 w rfl;simp only [List.take_zero,List.length_nil] at hfc;rw [p3] at hfc;refine did_same hw hf (rv:= .int .i64 0) ?_ (.int _ _);have hmin:ys.length.min 0=0:=by simp
     rw [hrun];have hcs0:cs= #[]:=Array.eq_empty_of_size_eq_zero (by rw [q2];simp);simp [Go.builtin,Builtin.copy_,hts,run_underlying hu,hlenY,hmin,run_size hz,hfc,goInt,hcs0,storeCells]
   · rename_i b' r' n;split at h
     case h_2=>simp at h
     case h_1 rows sz ty0 hb=>
     split at h
     case isFalse=>simp at h
     case isTrue hc=>
     obtain ⟨hwm,hfit,rfl,hall⟩:=hc;simp at h;obtain ⟨rfl,rfl⟩:=h;have hallr:∀ row∈ys,row.length=sz:=fun row hrow=>by simpa using List.all_eq_true.1 hall row hrow
     have hD:g.D b':=by cases hx<;>assumption
     have hlive:live g s.H b':=⟨hD,_,hb,rfl⟩;obtain ⟨hty0,hpos,hszρ,hendρ,rcs,⟨T,fz,hR,hce,hfz,hZ⟩,hrows⟩:=hw.blk b' _ hD hb;obtain ⟨x',xv',p1,p2,p3⟩:=prefix_rows (k:=min ys.length n) hys hw hy (Nat.min_le_left _ _);obtain ⟨_,_,cs,_,_,q2,q3,_,q4,q5⟩:=load_rows (sz:=sz) p1 hw p2 (fun row hrow=>hallr row (List.mem_of_mem_take hrow));have hnl:(ys.take (min ys.length n)).length=min ys.length n:=by rw [List.length_take];omega
     have hfc:=q5 w rfl;rw [hnl,p3] at hfc;rw [hnl] at q2;generalize hN:min ys.length n=N at *
     have hNn:N<=n:=by omega
     have hres:∃ ad cap,xv= .slice (some ad) n cap/\((storeCells ad cs.toList).run A.P w= .ok () (w.setRow (g.ρ b').R (rcs.toList.take ((g.ρ b').o+r' * sz)++cs.toList++rcs.toList.drop ((g.ρ b').o+r' * sz+cs.toList.length)).toArray)):=by
       have hm1:(r'+N) * sz=r' * sz+N * sz:=Nat.add_mul _ _ _;have hm2:(r'+N) * sz<=rows.length * sz:=Nat.mul_le_mul_right _ (by omega);cases hx with
       |sl _ _ _ cap hd hn hend=>
        refine ⟨_,cap,rfl,?_⟩;have hst:=run_storeCells_gen A.P (g.ρ b').R ((g.ρ b').o+r' * sz) T fz cs.toList 0 rcs w hR (by simp;omega) (fun j hj=>hfz _ (by simp at hj;omega)) q4;rw [hszρ];simpa using hst
       |slz _ _ ad hd=>
        have hN0:N=0:=by omega
        have hcs0:cs= #[]:=Array.eq_empty_of_size_eq_zero (by rw [q2,hN0];simp);refine ⟨ad,0,rfl,?_⟩;rw [hcs0];have:=setRow_self w (g.ρ b').R rcs T fz hR;simp only [storeCells,Array.toList_empty,List.append_nil,List.length_nil,Nat.add_zero,List.take_append_drop,Array.toArray_toList,this];rfl
     obtain ⟨ad,cap,rfl,hst⟩:=hres;have hm1:(r'+N) * sz=r' * sz+N * sz:=Nat.add_mul _ _ _;have hm2:(r'+N) * sz<=rows.length * sz:=Nat.mul_le_mul_right _ (by omega);obtain ⟨k1,k2,k3⟩:=write_block (b:=b') (x:= .cells (rows.take r'++(ys.take N++rows.drop (r'+(ys.take N).length))) sz ty0) (w':=w.setRow (g.ρ b').R (rcs.toList.take ((g.ρ b').o+r' * sz)++cs.toList++rcs.toList.drop ((g.ρ b').o+r' * sz+cs.toList.length)).toArray) hw hf hlive hwm (setRow_size _ _ _) (fun R hne=>setRow_other _ _ _ _ hne)
       (fun hle=>⟨hty0.setRow _,hpos,hszρ,by simp only [List.length_append,List.length_take,List.length_drop,hnl];rw [show min r' rows.length+(N+(rows.length-(r'+N)))=rows.length by omega];exact hendρ,_,Row.set (show Row g w (g.ρ b').R (g.ρ b').e rcs from ⟨T,fz,hR,hce,hfz,hZ⟩) (by simp;omega),fun r row hr=>by
        obtain ⟨z1,z2⟩:=copy_rows (vs:=cs.toList) (base:=(g.ρ b').o) (by simp [q2,hnl]) (by rw [hnl];omega) (by rw [hce];exact hendρ) hrows (by simpa using q3) r row hr;exact ⟨z1,z2.mono hle⟩⟩)
     rw [hnl] at k1 k2 k3;refine ⟨.int .i64 N,_,g,f,.inl ?_,k1,k2,k3,.int _ _⟩;have hmin:ys.length.min n=N:=hN;rw [hrun];simp [Go.builtin,Builtin.copy_,hts,run_underlying hu,hlenY,hmin,run_size hz,hfc,hst,goInt]
   · simp at h
 · simp at h
end
end Go.V
namespace Go.V
open Go
def VL (g:Gx) (w:World):List AV->List Value->Prop
 |[],[]=>True
 |x::xs,v::vs=>VRel g w x v/\VL g w xs vs
 |_,_=>False
def VLL (g:Gx) (w:World):List (List AV)->List (List Value)->Prop
 |[],[]=>True
 |x::xs,v::vs=>VL g w x v/\VLL g w xs vs
 |_,_=>False
section
variable {A:Par} {g g':Gx} {w w':World}
theorem VL.mono (h:g.Le w g' w'):∀ {xs:List AV} {vs:List Value},VL g w xs vs->VL g' w' xs vs
 |[],[],_=>trivial
 |_::_,_::_,⟨h1,h2⟩=>⟨h1.mono h,h2.mono h⟩
 |[],_::_,h=>h.elim
 |_::_,[],h=>h.elim
theorem VLL.mono (h:g.Le w g' w'):∀ {xs:List (List AV)} {vs:List (List Value)},VLL g w xs vs->VLL g' w' xs vs
 |[],[],_=>trivial
 |_::_,_::_,⟨h1,h2⟩=>⟨h1.mono h,h2.mono h⟩
 |[],_::_,h=>h.elim
 |_::_,[],h=>h.elim
theorem vl_iff:∀ {xs:List AV} {vs:List Value},VL g w xs vs↔vs.length=xs.length/\∀ (i:Nat) (x:AV) (v:Value),xs[i]?=some x->vs[i]?=some v->VRel g w x v
 |[],[]=>⟨fun _=>⟨rfl,fun i x v h=>by simp at h⟩,fun _=>trivial⟩
 |x::xs,v::vs=>by
  simp only [VL,vl_iff (xs:=xs) (vs:=vs)];constructor
  · rintro ⟨h1,h2,h3⟩
    refine ⟨by simp [h2],fun i y u hy hu=> ?_⟩;cases i with
    |zero=>simp at hy hu;subst hy;subst hu;exact h1
    |succ i=>exact h3 i y u (by simpa using hy) (by simpa using hu)
  · rintro ⟨h2,h3⟩
    exact ⟨h3 0 x v rfl rfl,by simpa using h2,fun i y u hy hu=>h3 (i+1) y u (by simpa using hy) (by simpa using hu)⟩
 |[],_::_=>⟨fun h=>h.elim,fun h=>by simp at h⟩
 |_::_,[]=>⟨fun h=>h.elim,fun h=>by simp at h⟩
theorem vll_iff:∀ {xs:List (List AV)} {vs:List (List Value)},VLL g w xs vs↔vs.length=xs.length/\∀ (i:Nat) (x:List AV) (v:List Value),xs[i]?=some x->vs[i]?=some v->VL g w x v
 |[],[]=>⟨fun _=>⟨rfl,fun i x v h=>by simp at h⟩,fun _=>trivial⟩
 |x::xs,v::vs=>by
  simp only [VLL,vll_iff (xs:=xs) (vs:=vs)];constructor
  · rintro ⟨h1,h2,h3⟩
    refine ⟨by simp [h2],fun i y u hy hu=> ?_⟩;cases i with
    |zero=>simp at hy hu;subst hy;subst hu;exact h1
    |succ i=>exact h3 i y u (by simpa using hy) (by simpa using hu)
  · rintro ⟨h2,h3⟩
    exact ⟨h3 0 x v rfl rfl,by simpa using h2,fun i y u hy hu=>h3 (i+1) y u (by simpa using hy) (by simpa using hu)⟩
 |[],_::_=>⟨fun h=>h.elim,fun h=>by simp at h⟩
 |_::_,[]=>⟨fun h=>h.elim,fun h=>by simp at h⟩
def FzGoes (A:Par) (fz:AH->AV->Option (AV×AH)):Prop:=
 ∀ H x x' H',fz H x=some (x',H')->∀ (g:Gx) (w:World) (v:Value),WRel A.glob g w H->VRel g w x v->∃ g',WRel A.glob g' w H'/\Ext g w H g' w H'/\VRel g' w x' v
theorem frList_sound {fz:AH->AV->Option (AV×AH)} (hfz:FzGoes A fz):∀ (xs xs':List AV) (H H':AH) (g:Gx) (w:World) (vs:List Value),frList fz H xs=some (xs',H')->WRel A.glob g w H->VL g w xs vs->∃ g',WRel A.glob g' w H'/\Ext g w H g' w H'/\VL g' w xs' vs/\xs'.length=xs.length
 |[],xs',H,H',g,w,vs,h,hw,hv=>by
  simp [frList] at h;obtain ⟨rfl,rfl⟩:=h;exact ⟨g,hw,.refl _ _ _,hv,rfl⟩
 |x::xs,xs',H,H',g,w,v::vs,h,hw,hv=>by
  simp only [frList,Option.bind_eq_some_iff] at h;obtain ⟨⟨x1,H1⟩,h1,⟨xs1,H2⟩,h2,h⟩:=h;simp at h;obtain ⟨rfl,rfl⟩:=h;obtain ⟨g1,w1,e1,v1⟩:=hfz _ _ _ _ h1 g w v hw hv.1;obtain ⟨g2,w2,e2,v2,l2⟩:=frList_sound hfz xs xs1 H1 H2 g1 w vs h2 w1 (hv.2.mono (hw.le e1));exact ⟨g2,w2,e1.trans e2,⟨v1.mono (w1.le e2),v2⟩,by simp [l2]⟩
 |_::_,_,_,_,_,_,[],_,_,hv=>hv.elim
theorem frRows_sound {fz:AH->AV->Option (AV×AH)} (hfz:FzGoes A fz):∀ (xs xs':List (List AV)) (H H':AH) (g:Gx) (w:World) (vs:List (List Value)),frRows fz H xs=some (xs',H')->WRel A.glob g w H->VLL g w xs vs->∃ g',WRel A.glob g' w H'/\Ext g w H g' w H'/\VLL g' w xs' vs/\xs'.length=xs.length/\
  ∀ (i:Nat) (r r':List AV),xs[i]?=some r->xs'[i]?=some r'->r'.length=r.length
 |[],xs',H,H',g,w,vs,h,hw,hv=>by
  simp [frRows] at h;obtain ⟨rfl,rfl⟩:=h;exact ⟨g,hw,.refl _ _ _,hv,rfl,fun i r r' h=>by simp at h⟩
 |x::xs,xs',H,H',g,w,v::vs,h,hw,hv=>by
  simp only [frRows,Option.bind_eq_some_iff] at h;obtain ⟨⟨x1,H1⟩,h1,⟨xs1,H2⟩,h2,h⟩:=h;simp at h;obtain ⟨rfl,rfl⟩:=h;obtain ⟨g1,w1,e1,v1,l1⟩:=frList_sound hfz x x1 H H1 g w v h1 hw hv.1;obtain ⟨g2,w2,e2,v2,l2,l3⟩:=frRows_sound hfz xs xs1 H1 H2 g1 w vs h2 w1 (hv.2.mono (hw.le e1));refine ⟨g2,w2,e1.trans e2,⟨v1.mono (w1.le e2),v2⟩,by simp [l2],fun i r r' hr hr'=> ?_⟩;cases i with
  |zero=>simp at hr hr';subst hr;subst hr';exact l1
  |succ i=>exact l3 i r r' (by simpa using hr) (by simpa using hr')
 |_::_,_,_,_,_,_,[],_,_,hv=>hv.elim
theorem retire {H:AH} {b:Nat} (hw:WRel A.glob g w H) (hb:live g H b) (hwm:H.wm<=b):WRel A.glob { g with Z:=fun R=>g.Z R\/R=(g.ρ b).R } w (setBl H b .dead)/\Ext g w H { g with Z:=fun R=>g.Z R\/R=(g.ρ b).R } w (setBl H b .dead):=by
 have hle:g.Le w { g with Z:=fun R=>g.Z R\/R=(g.ρ b).R } w:=⟨fun _ h=>⟨h,rfl⟩,fun _ h=>⟨.inl h,rfl⟩⟩;have hlv:∀ b',live { g with Z:=fun R=>g.Z R\/R=(g.ρ b).R } (setBl H b .dead) b'->b'≠b/\live g H b':=fun b' h=>by
   rcases live_setBl (g:=g) (show live g (setBl H b .dead) b' from h) with ⟨_,h'⟩|h'
   · simp [liveB] at h'
   · exact h'
 refine ⟨⟨fun i row hg=>(hw.glob i row hg).mono hle,fun b' hd=>by simpa [setBl] using hw.dom b' hd,fun b' y hd hy=> ?_,fun b1 b2 h1 h2 hne=>hw.inj b1 b2 (hlv b1 h1).2 (hlv b2 h2).2 hne,fun R hR=> ?_⟩,?_⟩
 · rw [setBl_get] at hy;split at hy
   · split at hy
     · simp at hy;subst hy;trivial
     · simp at hy
   · rename_i hne;refine (hw.blk b' y hd hy).le hle (fun _=>rfl) (fun hl hz=> ?_);rcases hz with hz|hz
     · exact hw.notZ ⟨hd,y,hy,hl⟩ hz
     · exact hw.inj b' b ⟨hd,y,hy,hl⟩ hb (fun e=>hne e.symm) hz
 · rcases hR with hR|rfl
   · exact hw.zlt R hR
   · exact hw.lt hb
 · refine ⟨fun _ h=>⟨h,rfl⟩,fun _ h=> .inl h,fun _ h=> .inl h,fun R h=>h.elim .inl (fun e=> .inr (.inl ⟨b,hb,e.symm⟩)),fun R ⟨b',h,e⟩=> .inl ⟨b',(hlv b' h).2,e⟩,fun _ _ _=>rfl,Nat.le_refl _,by simp [setBl],rfl,fun b' hb' hl=> ?_,fun _ _ _=>rfl,⟨rfl,rfl⟩⟩;rw [setBl_get,if_neg (by omega)]
theorem freeze_sound:∀ d,FzGoes A (freeze d)
 |0=>fun H x x' H' h=>by simp [freeze] at h
 |d+1=>fun H x x' H' h g w v hw hx=>by
  cases x
  case sl b r n=>
   simp only [freeze,Option.bind_eq_some_iff] at h;obtain ⟨rows,hrows,sz,hsz,h⟩:=h;split at h
   case isFalse=>simp at h
   case isTrue hwm=>
   simp only [Option.bind_eq_some_iff] at h;obtain ⟨⟨rows',H1⟩,hfr,h⟩:=h;simp at h;obtain ⟨rfl,rfl⟩:=h;have hblk:∃ rows0 ty0,H.bl[b]?=some (.cells rows0 sz ty0):=by
     unfold szOf at hsz;split at hsz
     · rename_i rows0 sz0 ty0 hb;simp at hsz;subst hsz;exact ⟨rows0,ty0,hb⟩
     · simp at hsz
   obtain ⟨rows0,ty0,hb0⟩:=hblk;have hD:g.D b:=by cases hx<;>assumption
   have hlive:live g H b:=⟨hD,_,hb0,rfl⟩;obtain ⟨w1,e1⟩:=retire hw hlive hwm;have hle1:=hw.le e1;by_cases hne:rows=[]
   · obtain ⟨ao,cap,hv,hcap,_⟩:=slice_cells hrows hw hx;subst hne;simp [frRows] at hfr;obtain ⟨rfl,rfl⟩:=hfr;refine ⟨_,w1,e1,?_⟩;have hlit:∀ (ad:Addr) (c:Nat),ad.spot=none->VRel { g with Z:=fun R=>g.Z R\/R=(g.ρ b).R } w (.lit sz []) (.slice (some ad) 0 c):=fun ad c hs=>
       .lit [] ad c sz (fun _ _=>undef) hs (Nat.zero_le _) (fun h=>absurd rfl h) (fun i row h=>by simp at h) (fun i c h=>by simp at h) (fun i c h=>by simp at h) (fun i row c x h=>by simp at h)
     cases hx with
     |sl _ _ _ cap'=>injection hv with _ hn _;simp at hn;subst hn;exact hlit _ _ rfl
     |slz _ _ ad=>exact .lits sz ad
   · obtain ⟨ao,cap,rfl,hcap,hcells⟩:=slice_cells hrows hw hx;obtain ⟨ad,sz',rfl,hs,hat⟩:=hcells hne;obtain ⟨vss,hvl,hvr⟩:=pick (fun (i:Nat) (row:List AV) (vs:List Value)=>vs.length=row.length/\row.length=sz'/\(∀ u∈vs,u.oneCell'=true)/\(∀ (c:Nat) (u:Value),vs[c]?=some u->w.cell? ⟨ad.block,ad.off+i * sz'+c,none⟩=some u)/\VL g w row vs) rows (fun i row hi=>by
       obtain ⟨h1,h2⟩:=hat i row hi;obtain ⟨vs,k1,k2⟩:=pick (fun (c:Nat) (x:AV) (u:Value)=>w.cell? ⟨ad.block,ad.off+i * sz'+c,none⟩=some u/\u.oneCell'=true/\VRel g w x u) row h2;have hex:∀ (c:Nat) (u:Value),vs[c]?=some u->∃ x,row[c]?=some x:=fun c u hc=>⟨_,List.getElem?_eq_getElem (by have:=getElem?_lt' hc;omega)⟩
       refine ⟨vs,k1,h1,fun u hu=> ?_,fun c u hc=> ?_,vl_iff.2 ⟨k1,fun i x v hx hv=>(k2 i x v hx hv).2.2⟩⟩
       · obtain ⟨c,hc⟩:=List.getElem?_of_mem hu;obtain ⟨x,hx⟩:=hex c u hc;exact (k2 c x u hx hc).2.1
       · obtain ⟨x,hx⟩:=hex c u hc;exact (k2 c x u hx hc).1)
     have hrv:∀ (i:Nat) (vs:List Value),vss[i]?=some vs->∃ row,rows[i]?=some row:=fun i vs hi=>⟨_,List.getElem?_eq_getElem (by have:=getElem?_lt' hi;omega)⟩
     have hVLL:VLL g w rows vss:=vll_iff.2 ⟨hvl,fun i row vs hr hv=>(hvr i row vs hr hv).2.2.2.2⟩;obtain ⟨g2,w2,e2,v2,l2,l3⟩:=frRows_sound (freeze_sound d) rows rows' _ _ _ w vss hfr w1 (hVLL.mono hle1);refine ⟨g2,w2,e1.trans e2,?_⟩;have hszz:sz'=sz/\ad.block=(g.ρ b).R:=by
       generalize rows.length=m at hx;cases hx with
       |sl _ _ _ cap' hd hn hend=>
         obtain ⟨_,_,_,_,cs,_,hrows'⟩:=hw.blk b _ hD hb0;cases hrs:rows with
         |nil=>exact absurd hrs hne
         |cons row0 rest=>
          have h0:rows[0]?=some row0:=by rw [hrs];rfl
          obtain ⟨h1,_⟩:=hat 0 row0 h0;have h2:=h0;simp only [rowsOf,hb0] at hrows;split at hrows
          · simp at hrows;rw [<- hrows,List.getElem?_take] at h2;split at h2
            · rw [List.getElem?_drop] at h2;exact ⟨h1 ▸ (hrows' _ _ h2).1,rfl⟩
            · simp at h2
          · simp at hrows
       |slz=>
         have:rows.length=0:=by
          simp only [rowsOf,hb0] at hrows;split at hrows
          · simp at hrows;subst hrows;rfl
          · simp at hrows
         exact absurd (List.eq_nil_of_length_eq_zero this) hne
     obtain ⟨rfl,hblk⟩:=hszz;have hzz:g2.Z ad.block:=e2.Z _ (.inr hblk);obtain ⟨q1,q2⟩:=vll_iff.1 v2;have hcell:∀ i c,i<rows'.length->c<sz'->∃ vs u,vss[i]?=some vs/\vs[c]?=some u/\u.oneCell'=true/\w.cell? ⟨ad.block,ad.off+i * sz'+c,none⟩=some u:=fun i c hi hc=>by
       have hlt:i<vss.length:=by omega
       have hv:=List.getElem?_eq_getElem hlt;obtain ⟨row,hr⟩:=hrv i _ hv;obtain ⟨k1,k2,k3,k4,k5⟩:=hvr i row _ hr hv;have hu:=List.getElem?_eq_getElem (l:=vss[i]) (i:=c) (by omega);exact ⟨_,_,hv,hu,k3 _ (List.mem_of_getElem? hu),k4 c _ hu⟩
     rw [<- l2];refine .lit rows' ad cap sz' (fun i c=>((vss.getD i []).getD c undef)) hs (by omega) (fun _=>hzz) (fun i row hi=> ?_) (fun i c hi hc=> ?_) (fun i c hi hc=> ?_) (fun i row c x hi hx=> ?_)
     · have hlt:=getElem?_lt' hi;have hr:=List.getElem?_eq_getElem (l:=rows) (i:=i) (by omega);rw [l3 i _ _ hr hi];exact (hat i _ hr).1
     · obtain ⟨vs,u,h1,h2,h3,h4⟩:=hcell i c hi hc;simp [List.getD,h1,h2,h4]
     · obtain ⟨vs,u,h1,h2,h3,h4⟩:=hcell i c hi hc;simp [List.getD,h1,h2,h3]
     · have hlt:=getElem?_lt' hi;have hv:=List.getElem?_eq_getElem (l:=vss) (i:=i) (by omega);obtain ⟨k1,k2⟩:=vl_iff.1 (q2 i row _ hi hv);have hu:=List.getElem?_eq_getElem (l:=vss[i]) (i:=c) (by have:=getElem?_lt' hx;omega);have:=k2 c x _ hx hu
       simpa [List.getD,hv,hu] using this
  case agg cs=>
   simp only [freeze,Option.bind_eq_some_iff] at h;obtain ⟨⟨cs',H1⟩,h1,h⟩:=h;simp at h;obtain ⟨rfl,rfl⟩:=h;cases hx with
   |agg _ vs hl hone hr=>
     obtain ⟨g1,w1,e1,v1,l1⟩:=frList_sound (freeze_sound d) cs cs' _ _ g w vs h1 hw (vl_iff.2 ⟨hl,hr⟩);obtain ⟨q1,q2⟩:=vl_iff.1 v1;exact ⟨g1,w1,e1,.agg cs' vs q1 hone q2⟩
  case tup cs=>
   simp only [freeze,Option.bind_eq_some_iff] at h;obtain ⟨⟨cs',H1⟩,h1,h⟩:=h;simp at h;obtain ⟨rfl,rfl⟩:=h;cases hx with
   |tup _ vs hl hr=>
     obtain ⟨g1,w1,e1,v1,l1⟩:=frList_sound (freeze_sound d) cs cs' _ _ g w vs h1 hw (vl_iff.2 ⟨hl,hr⟩);obtain ⟨q1,q2⟩:=vl_iff.1 v1;exact ⟨g1,w1,e1,.tup cs' vs q1 q2⟩
  all_goals
   simp [freeze] at h;obtain ⟨rfl,rfl⟩:=h;exact ⟨g,hw,.refl _ _ _,hx⟩
theorem ext_frame {G:Nat->Option (List AV)} {g g':Gx} {f:Fx} {w w':World} {H H':AH} {F:List (List AV)} (hw:WRel G g w H) (hf:FRel g f w H F) (h:Ext g w H g' w' H'):FRel g' f w' H' F/\FExt g f w H F g' f w' H' F:=by
 have hle:=hw.le h;refine ⟨⟨hf.dom,fun i row hi hrow=> ?_,hf.inj,fun i hi hp=> ?_⟩,⟨h.D,h.Dnew,h.Z,h.Znew,h.fp,fun _ h=>⟨h,rfl⟩,fun _ h=> .inl h,fun _ h h'=>absurd h h',fun R hR hn _=>h.unch R hR hn,h.size,h.len,Nat.le_refl _,h.wm,h.quiet,h.still,fun _ _=>Iff.rfl,fun _ h h'=>absurd h h',fun i hi _=>h.unch _ (hf.lt hi) (hf.apart i hi),h.io⟩⟩
 · obtain ⟨cs,⟨T,fz,hR,q1,q2,q3⟩,q4⟩:=hf.blk i row hi hrow;have hlt:=hf.lt hi;refine ⟨cs,⟨T,fz,by rw [h.unch _ hlt (hf.apart i hi)];exact hR,q1,q2,fun hz=> ?_⟩,q4.mono hle⟩;rcases h.Znew _ hz with hz|hz|hz
   · exact q3 hz
   · exact hf.apart i hi hz
   · omega
 · rcases h.fp _ hp with h1|h1
   · exact hf.apart i hi h1
   · have:=hf.lt hi;omega
end
end Go.V
namespace Go.V
open Go
structure Wide (F:Fence):Prop where
 fn:∀ f,F.fn f
 depth:F.depth=none
 alive:F.alive=false
def CallGoes (A:Par) (call:Callee):Prop:=
 ∀ fv args H r H',call fv args H=some (r,H')->∀ (g:Gx) (w:World) (fval:Value) (vs:List Value),WRel A.glob g w H->VRel g w fv fval->args.length=vs.length->
  (∀ (i:Nat) (x:AV) (v:Value),args[i]?=some x->vs[i]?=some v->VRel g w x v)->
  ∀ (F:Fence) (n:Nat) (o:Oper) (a:Act) (next:Act->World->Prop) (Q:Exit->Act->World->Prop),Wide F->
   (∀ g' w' rv,VRel g' w' r rv->WRel A.glob g' w' H'->Ext g w H g' w' H'->next (a.put o.dst rv) w')->
   Oper.uponIn F n A.P o a next Q ((do let d <- Deferred.ofValue fval vs.toArray;invoke d.target d.args:Sem Next).run A.P w)
section
variable {A:Par} {g:Gx} {f:Fx} {w:World} {s:S} {a:Act} {call:Callee} {locs:List Nat}
theorem boxed_env {s s':S} {t:TypeId} {b:Bool} {cs:List AV} {v:SV} (h:boxed s t b cs=some (v,s')):s'.e=s.e:=by
 unfold boxed at h;split at h
 · simp only [Option.some.injEq] at h;unfold box at h;split at h<;>simp at h<;>obtain ⟨_,rfl⟩:=h<;>rfl
 · simp at h
theorem ret1_env {s s':S} {x:Option AV} {v:SV} (h:ret1 s x=some (v,s')):s'=s/\∃ a,x=some a/\v= .v a:=by
 simp only [ret1,Option.map_eq_some_iff] at h;obtain ⟨a,ha,h⟩:=h;simp at h;obtain ⟨rfl,rfl⟩:=h;exact ⟨rfl,a,ha,rfl⟩
theorem retH_env {s s':S} {x:Option (AV×AH)} {v:SV} (h:retH s x=some (v,s')):∃ a H,x=some (a,H)/\v= .v a/\s'={ s with H:=H }:=by
 simp only [retH,Option.map_eq_some_iff] at h;obtain ⟨⟨a,H⟩,ha,h⟩:=h;simp at h;obtain ⟨rfl,rfl⟩:=h;exact ⟨a,H,ha,rfl,rfl⟩
theorem did_upon {s':S} {v:SV} {r:Result Next} {o:Oper} {F:Fence} {n:Nat} {next:Act->World->Prop} {Q:Exit->Act->World->Prop} (h:Did A.glob g f w s s' v r)
   (hk:∀ g' f' w' rv,WRel A.glob g' w' s'.H->FRel g' f' w' s'.H s'.F->FExt g f w s.H s.F g' f' w' s'.H s'.F->SVRel g' f' w' v rv->next (a.put o.dst rv) w'):Oper.uponIn F n A.P o a next Q r:=by
 obtain ⟨rv,w',g',f',hr|⟨hr,rfl⟩,h1,h2,h3,h4⟩:=h
 · rw [hr];exact hk g' f' w' rv h1 h2 h3 h4
 · rw [hr];exact hk g' f' w' undef h1 h2 h3 h4
theorem did_ret1 {x:Option AV} {v:SV} {s':S} {r:Result Next} (h:ret1 s x=some (v,s')) (hw:WRel A.glob g w s.H) (hf:FRel g f w s.H s.F)
  (hx:∀ a,x=some a->∃ rv,r= .ok (.value rv) w/\VRel g w a rv):Did A.glob g f w s s' v r/\s'.e=s.e:=by
 obtain ⟨rfl,a,ha,rfl⟩:=ret1_env h;obtain ⟨rv,h1,h2⟩:=hx a ha;exact ⟨did_same hw hf h1 h2,rfl⟩
theorem op_did {o:Oper} {v:SV} {s':S} (h:op A call locs s o=some (v,s')) (hcall:∀ c fv,o.op= .call c->c.callee≠ .value fv) (hw:WRel A.glob g w s.H) (hf:FRel g f w s.H s.F) (he:EnvRel g f w s.e a.tmps) (hWr:∀ t x y,o.op= .store t x y->∀ i c,operand A s.e x=some (.loc i c)->f.W i):
   Did A.glob g f w s s' v ((execOp a.eval o).run A.P w)/\s'.e=s.e:=by
 unfold op at h;have hsame:∀ {x:Operand},(operand A s.e x).map (fun v=>(v,s))=some (v,s')->Did A.glob g f w s s' v ((pure (.value (a.eval x)):Sem Next).run A.P w)/\s'.e=s.e:=fun {x} h=>by
   simp only [Option.map_eq_some_iff] at h;obtain ⟨sv,hsv,h⟩:=h;simp at h;obtain ⟨rfl,rfl⟩:=h;exact ⟨did_same hw hf rfl (operand_sound hsv hw he),rfl⟩
 split at h
 · rename_i x ho;unfold execOp;rw [ho];exact hsame h
 · rename_i x ho;unfold execOp;rw [ho];exact hsame h
 · rename_i c p q ho;simp only [Option.bind_eq_some_iff] at h;obtain ⟨cv,hcv,h⟩:=h;have hc:=val_sound hcv hw he;unfold execOp;rw [ho];split at h
   · generalize hcc:a.eval c=cc at hc;cases hc;have:=hsame h
     simpa [hcc,asBool] using this
   · generalize hcc:a.eval c=cc at hc;cases hc;have:=hsame h
     simpa [hcc,asBool] using this
   · simp at h
 · rename_i t ho;simp only [Option.bind_eq_some_iff] at h;obtain ⟨z,hz,h⟩:=h;refine ⟨?_,boxed_env h⟩;obtain ⟨zv,hzr,z1,z2,z3⟩:=zero_sound (g:=g) (w:=w) hz;unfold boxed at h;split at h
   case isFalse=>simp at h
   case isTrue hpos=>
     simp only [Option.some.injEq] at h;have:=box_sound (isLoc:=(o.dst.map (locs.contains ·)).getD false) (t:=t) hw hf z1 z2 z3 (by rw [Bool.or_eq_true] at hpos;rcases hpos with h|h;exact .inr h;exact .inl (of_decide_eq_true h)) (r:=(execOp a.eval o).run A.P w) (by
      unfold execOp;rw [ho];simp only [Instr.alloc,Sem.run_bind,hzr,Result.andThen_ok,newVar,newRow,run_newObj,Sem.run_pure];rfl)
     rw [h] at this;exact this
 · rename_i t x ho;simp only [Option.bind_eq_some_iff] at h;obtain ⟨av,hav,cs,hcs,h⟩:=h;refine ⟨?_,boxed_env h⟩;obtain ⟨z1,z2,z3⟩:=cells_sound hcs (val_sound hav hw he);unfold boxed at h;split at h
   case isFalse=>simp at h
   case isTrue hpos=>
     simp only [Option.some.injEq] at h;have:=box_sound (isLoc:=(o.dst.map (locs.contains ·)).getD false) (t:=t) hw hf z1 z2 z3 (by rw [Bool.or_eq_true] at hpos;rcases hpos with h|h;exact .inr h;exact .inl (of_decide_eq_true h)) (r:=(execOp a.eval o).run A.P w) (by
      unfold execOp;rw [ho];simp only [Instr.box,Sem.run_bind,newVar,newRow,run_newObj,Sem.run_pure,Result.andThen_ok];rfl)
     rw [h] at this;exact this
 · rename_i t ps ho;simp only [Option.bind_eq_some_iff] at h;obtain ⟨l,hl,h⟩:=h;have hp:=parts_sound hl hw he;refine did_ret1 h hw hf fun x hx=> ?_
   obtain ⟨rv,h1,h2⟩:=build_sound (w:=w) hx hp;refine ⟨rv,?_,h2⟩;unfold execOp;rw [ho];have:(ps.map fun (i,x)=>(i,a.eval x))=(ps.toList.map fun (i,x)=>(i,a.eval x)).toArray:=by apply Array.ext';simp
   simp only [this,Sem.run_bind,h1,Result.andThen_ok,Sem.run_pure]
 · rename_i t n ps ho;simp only [Option.bind_eq_some_iff] at h;obtain ⟨l,hl,h⟩:=h;obtain ⟨x,H,hx,rfl,rfl⟩:=retH_env h;have hp:=parts_sound hl hw he;simp only [Option.bind_eq_some_iff] at hx;obtain ⟨⟨x0,H0⟩,hx0,hx⟩:=hx;have hbs:=buildSlice_sound (r:=(execOp a.eval o).run A.P w) hx0 hw hf hp (by
     unfold execOp;rw [ho];have:(ps.map fun (i,x)=>(i,a.eval x))=(ps.toList.map fun (i,x)=>(i,a.eval x)).toArray:=by apply Array.ext';simp
     simp only [this])
   obtain ⟨rv,w1,g1,f1,d1,d2,d3,d4,d5⟩:=hbs;simp only at hx;split at hx
   · obtain ⟨g2,k1,k2,k3⟩:=freeze_sound 8 _ _ _ _ hx g1 w1 rv d2 d5;obtain ⟨k4,k5⟩:=ext_frame d2 d3 k2;exact ⟨⟨rv,w1,g2,f1,d1,k1,k4,d4.trans k5,k3⟩,rfl⟩
   · simp at hx;obtain ⟨rfl,rfl⟩:=hx;exact ⟨⟨rv,w1,g1,f1,d1,d2,d3,d4,d5⟩,rfl⟩
 · rename_i t x ho;simp only [Option.bind_eq_some_iff] at h;obtain ⟨p,hp,h⟩:=h;refine did_ret1 h hw hf fun y hy=> ?_
   obtain ⟨rv,h1,h2⟩:=load_sound hy hw hf (operand_sound hp hw he);exact ⟨rv,by unfold execOp;rw [ho];simp [h1],h2⟩
 · rename_i t x y ho;simp only [Option.bind_eq_some_iff,Option.map_eq_some_iff] at h;obtain ⟨p,hp,av,hav,s1,hs1,h⟩:=h;simp at h;obtain ⟨rfl,rfl⟩:=h;obtain ⟨w',h1,h2,h3,h4,h5⟩:=store_sound hs1 hw hf (operand_sound hp hw he) (val_sound hav hw he) (fun i c e=>hWr _ _ _ ho i c (e ▸ hp));exact ⟨⟨undef,w',g,f,.inr ⟨by unfold execOp;rw [ho];simp [h1],rfl⟩,h2,h3,h4,.junk _⟩,h5⟩
 · rename_i x ho;simp only [Option.bind_eq_some_iff] at h;obtain ⟨p,hp,h⟩:=h;have hps:=operand_sound hp hw he;have hgo:∀ v':Value,SVRel g f w p v'->a.eval x=v'->p=v/\s=s'->(execOp a.eval o).run A.P w= .ok (.value v') w->Did A.glob g f w s s' v ((execOp a.eval o).run A.P w)/\s'.e=s.e:=fun v' h1 _ h3 h4=>by
     obtain ⟨rfl,rfl⟩:=h3;rw [h4];exact ⟨did_same hw hf rfl h1,rfl⟩
   split at h
   · simp at h;obtain ⟨hi,hv⟩:=hps;exact hgo _ ⟨hi,hv⟩ rfl ⟨h.1,h.2⟩ (by unfold execOp;rw [ho];simp [hv])
   · simp at h;generalize hx:a.eval x=xv at hps;have hps':VRel g w _ xv:=hps;cases hps' with
     |ptr _ _ _ hb=>exact hgo _ hps hx ⟨h.1,h.2⟩ (by unfold execOp;rw [ho];simp [hx])
   · simp at h;generalize hx:a.eval x=xv at hps;have hps':VRel g w _ xv:=hps;cases hps' with
     |eptr _ ad vs q1 q2 q3 q4 q5=>exact hgo _ hps hx ⟨h.1,h.2⟩ (by unfold execOp;rw [ho];simp [hx])
   · simp at h;generalize hx:a.eval x=xv at hps;have hps':VRel g w _ xv:=hps;cases hps' with
     |fn _ _ vs q1 q2=>exact hgo _ hps hx ⟨h.1,h.2⟩ (by unfold execOp;rw [ho];simp [hx])
   · simp at h;generalize hx:a.eval x=xv at hps;have hps':VRel g w _ xv:=hps;cases hps' with
     |yl _ q1=>exact hgo _ hps hx ⟨h.1,h.2⟩ (by unfold execOp;rw [ho];simp [hx])
   · simp at h
 · rename_i b t x y yt ho;simp only [Option.bind_eq_some_iff] at h;obtain ⟨u,hu,v',hv',h⟩:=h;refine did_ret1 h hw hf fun z hz=> ?_
   obtain ⟨rv,h1,h2,h3⟩:=binop_sound (ox:=x) (oy:=y) hz (val_sound hu hw he) (val_sound hv' hw he);exact ⟨rv,by unfold execOp;rw [ho];simp [h1,h2],h3⟩
 · rename_i u t x ho;simp only [Option.bind_eq_some_iff] at h;obtain ⟨v',hv',h⟩:=h;refine did_ret1 h hw hf fun z hz=> ?_
   obtain ⟨rv,h1,h2⟩:=unop_sound (A:=A) hz (val_sound hv' hw he);exact ⟨rv,by unfold execOp;rw [ho];simp [h1],h2⟩
 · rename_i src dst x ho;simp only [Option.bind_eq_some_iff] at h;obtain ⟨v',hv',h⟩:=h;obtain ⟨y,H,hy,rfl,rfl⟩:=retH_env h;exact ⟨convert_sound hy hw hf (val_sound hv' hw he) (by unfold execOp;rw [ho]),rfl⟩
 · rename_i fid first caps ho
   split at h
   case isFalse=>simp at h
   case isTrue hf0=>
   simp only [Option.map_eq_some_iff] at h;obtain ⟨l,hl,h⟩:=h;simp at h;obtain ⟨rfl,rfl⟩:=h;obtain ⟨h1,h2⟩:=vals_sound hl hw he;have hfe:first= #[]:=Array.eq_empty_of_size_eq_zero hf0
   refine ⟨did_same hw hf (rv:= .func (.func fid) #[] (caps.toList.map a.eval).toArray) ?_ (VRel.fn fid l _ (by simpa using h1.symm) h2),rfl⟩;unfold execOp;rw [ho];have:caps.map a.eval=(caps.toList.map a.eval).toArray:=by apply Array.ext';simp
   simp [Instr.makeFunc,hfe,this]
 · rename_i t r ho;simp only [Option.bind_eq_some_iff] at h;obtain ⟨u,hu,h⟩:=h;simp at h;obtain ⟨rfl,rfl⟩:=h;have hrun:(execOp a.eval o).run A.P w= .ok (.value (.map (some w.heap.size))) (w.alloc (.map #[] 0)):=by
     unfold execOp;rw [ho];cases r with
     |none=>simp only [Instr.makeMap,Option.map_none,Sem.run_bind,run_newObj,Sem.run_pure,Result.andThen_ok];rfl
     |some x=>
      simp only at hu;split at hu
      · rename_i kt et hut;simp only [Option.bind_eq_some_iff,Option.map_eq_some_iff] at hu;obtain ⟨v',hv',n,hn,_⟩:=hu;obtain ⟨k,hk⟩:=toInt_sound hn (val_sound hv' hw he);simp only [Instr.makeMap,Option.map_some,Sem.run_bind,run_underlying hut,Result.andThen_ok,hk,asInt,asIntOf,Sem.run_pure,run_newObj];rfl
      · simp at hu
   have hlt:w.heap.size<(w.alloc (.map #[] 0)).heap.size:=by show w.heap.size<(w.heap.push _).size;simp
   have hzn:¬ g.Z w.heap.size:=fun hz=>Nat.lt_irrefl _ (hw.zlt _ hz)
   obtain ⟨q1,q2,q3⟩:=new_block (l:=⟨w.heap.size,0,0,0⟩) (x:= .map []) hw hf (Nat.le_of_lt hlt) rfl hlt (fun R hR=>heap_alloc_old w _ R hR) (fun hle=>⟨#[],0,heap_alloc_new w _,hzn,rfl,fun i k x e h=>by simp at h⟩);refine ⟨⟨_,_,_,f,.inl hrun,q1,q2,q3,?_⟩,rfl⟩;have:=VRel.mp (g:=g.add s.H.bl.length ⟨w.heap.size,0,0,0⟩) (w:=w.alloc (.map #[] 0)) s.H.bl.length (.inr rfl);rw [add_new] at this;exact this
 · rename_i t l c ho;simp only [Option.bind_eq_some_iff] at h;obtain ⟨u,hu,v',hv',h⟩:=h;obtain ⟨y,H,hy,rfl,rfl⟩:=retH_env h;exact ⟨makeSlice_sound hy hw hf (val_sound hu hw he) (val_sound hv' hw he) (by unfold execOp;rw [ho]),rfl⟩
 · rename_i t x lo hi ho;simp only [Option.bind_eq_some_iff] at h;obtain ⟨v',hv',l,hl,hh,hhh,h⟩:=h;refine did_ret1 h hw hf fun z hz=> ?_
   obtain ⟨rv,h1,h2⟩:=slice_sound hz hw (val_sound hv' hw he) (optInt_sound hl hw he) (optInt_sound hhh hw he);exact ⟨rv,by unfold execOp;rw [ho];simp [h1],h2⟩
 · rename_i t x hi mx ho;simp only [Option.bind_eq_some_iff] at h;obtain ⟨v',hv',l,hl,hh,hhh,h⟩:=h;split at h
   case isFalse=>simp at h
   rename_i hc;simp only [Bool.and_eq_true] at hc;refine did_ret1 h hw hf fun z hz=> ?_
   obtain ⟨rv,h1,h2⟩:=slice0_sound hz (val_sound hv' hw he);obtain ⟨k1,e1⟩:=is0_sound hc.1 (val_sound hl hw he);obtain ⟨k2,e2⟩:=is0_sound hc.2 (val_sound hhh hw he);exact ⟨rv,by unfold execOp;rw [ho];simp [e1,e2,h1],h2⟩
 · rename_i t x i ho;simp only [Option.bind_eq_some_iff] at h;obtain ⟨p,hp,fd,hfd,n,hn,h⟩:=h;split at h
   · simp at h
   · rename_i hn0;simp only [Option.map_eq_some_iff] at h;obtain ⟨q,hq,h⟩:=h;simp at h;obtain ⟨rfl,rfl⟩:=h;obtain ⟨rv,h1,h2⟩:=fieldAddr_sound hfd (by rw [hn];simpa using hn0) (by rw [hn];rfl) hq (operand_sound hp hw he);exact ⟨did_same hw hf (rv:=rv) (by unfold execOp;rw [ho];simp [h1]) h2,rfl⟩
 · rename_i t x i ho;simp only [Option.bind_eq_some_iff] at h;obtain ⟨v',hv',h⟩:=h;split at h
   · rename_i cs;simp only [Option.bind_eq_some_iff] at h;obtain ⟨fd,hfd,h⟩:=h;obtain ⟨fs,hu,hi⟩:=field_info hfd;obtain ⟨vs,hvs,hr⟩:=agg_aggR (val_sound hv' hw he);refine did_ret1 h hw hf fun z hz=> ?_
     obtain ⟨rv,h1,h2⟩:=part_sound (A:=A) hz hr;exact ⟨rv,by unfold execOp;rw [ho];simp [Instr.field,run_underlying hu,hi,hvs,asAgg,h1],h2⟩
   · simp at h
 · rename_i t x i ho;simp only [Option.bind_eq_some_iff,Option.map_eq_some_iff] at h;obtain ⟨p,hp,v',hv',n,hn,q,hq,h⟩:=h;simp at h;obtain ⟨rfl,rfl⟩:=h;obtain ⟨k,hk⟩:=toInt_sound hn (val_sound hv' hw he);obtain ⟨rv,h1,h2⟩:=indexAddr_sound (k:=k) hq hw (operand_sound hp hw he);exact ⟨did_same hw hf (rv:=rv) (by unfold execOp;rw [ho];simp [hk,h1]) h2,rfl⟩
 · rename_i t x i ho;simp only [Option.bind_eq_some_iff] at h;obtain ⟨p,hp,v',hv',n,hn,h⟩:=h;obtain ⟨k,hk⟩:=toInt_sound hn (val_sound hv' hw he);refine did_ret1 h hw hf fun z hz=> ?_
   obtain ⟨rv,h1,h2⟩:=index_sound (k:=k) hz (val_sound hp hw he);exact ⟨rv,by unfold execOp;rw [ho];simp [hk,h1],h2⟩
 · rename_i t x i ok ho;simp only [Option.bind_eq_some_iff] at h;obtain ⟨m,hm,k,hk,h⟩:=h;refine did_ret1 h hw hf fun z hz=> ?_
   obtain ⟨rv,h1,h2⟩:=lookup_sound hz hw (val_sound hm hw he) (val_sound hk hw he);exact ⟨rv,by unfold execOp;rw [ho];simp [h1],h2⟩
 · rename_i t m k x ho;simp only [Option.bind_eq_some_iff,Option.map_eq_some_iff] at h;obtain ⟨mv,hm,kv,hk,xv,hx,H,hH,h⟩:=h;simp at h;obtain ⟨rfl,rfl⟩:=h;obtain ⟨w',h1,h2,h3,h4⟩:=mapUpdate_sound hH hw hf (val_sound hm hw he) (val_sound hk hw he) (val_sound hx hw he);exact ⟨⟨undef,w',g,f,.inr ⟨by unfold execOp;rw [ho];simp [h1],rfl⟩,h2,h3,h4,.junk _⟩,rfl⟩
 · rename_i t m k x ho;simp only [Option.bind_eq_some_iff,Option.map_eq_some_iff] at h;obtain ⟨mv,hm,kv,hk,xv,hx,H,hH,h⟩:=h;simp at h;obtain ⟨rfl,rfl⟩:=h;obtain ⟨w',h1,h2,h3,h4⟩:=mapUpdate_sound hH hw hf (val_sound hm hw he) (val_sound hk hw he) (val_sound hx hw he);exact ⟨⟨undef,w',g,f,.inr ⟨by unfold execOp;rw [ho];simp [h1],rfl⟩,h2,h3,h4,.junk _⟩,rfl⟩
 · rename_i x i ho;simp only [Option.bind_eq_some_iff] at h;obtain ⟨v',hv',h⟩:=h;split at h
   · rename_i vs;simp only [Option.map_eq_some_iff] at h;obtain ⟨y,hy,h⟩:=h;simp at h;obtain ⟨rfl,rfl⟩:=h;have hv:=val_sound hv' hw he;generalize hx:a.eval x=xv at hv;cases hv with
     |tup _ us hl hr=>
      have hlt:i<us.length:=by have:=getElem?_lt' hy;omega
      refine ⟨did_same hw hf (rv:=us[i]) ?_ (hr i y _ hy (List.getElem?_eq_getElem hlt)),rfl⟩;unfold execOp;rw [ho];simp [hx,Instr.extract,hlt]
   · simp at h
 · rename_i c ho;simp only [Option.bind_eq_some_iff] at h;obtain ⟨args,hargs,h⟩:=h;obtain ⟨l1,l2⟩:=vals_sound hargs hw he;split at h
   · rename_i fv hfv;exact absurd hfv (hcall c fv ho)
   · rename_i b hb;obtain ⟨y,H,hy,rfl,rfl⟩:=retH_env h;refine ⟨builtin_sound (vs:=c.args.toList.map a.eval) (ty:=o.type) (consts:=c.args.map fun| .const _=>true|_=>false) hy hw hf (by simpa using l1) l2 ?_,rfl⟩;unfold execOp;rw [ho];have:c.args.map a.eval=(c.args.toList.map a.eval).toArray:=by apply Array.ext';simp
     simp only [resolve,hb,Sem.run_bind,Sem.run_pure,Result.andThen_ok,invoke,this];rfl
   · simp at h
 · simp at h
theorem op_sound {o:Oper} {v:SV} {s':S} {F:Fence} {n:Nat} {next:Act->World->Prop} {Q:Exit->Act->World->Prop} (hC:CallGoes A call) (h:op A call locs s o=some (v,s')) (hw:WRel A.glob g w s.H) (hf:FRel g f w s.H s.F) (he:EnvRel g f w s.e a.tmps) (hF:Wide F) (hWr:∀ t x y,o.op= .store t x y->∀ i c,operand A s.e x=some (.loc i c)->f.W i)
   (hk:s'.e=s.e->∀ g' f' w' rv,WRel A.glob g' w' s'.H->FRel g' f' w' s'.H s'.F->FExt g f w s.H s.F g' f' w' s'.H s'.F->SVRel g' f' w' v rv->next (a.put o.dst rv) w'):
   o.wpIn F n A.P a w next Q:=by
 refine ⟨fun f _=>hF.fn f,?_⟩;have hnd:∀ c,o.op≠ .defer c:=fun c e=>by unfold op at h;rw [e] at h;simp at h
 rw [Oper.semAt_eq F.round a.eval o hnd];by_cases hcall:∀ c fv,o.op= .call c->c.callee≠ .value fv
 · obtain ⟨h1,h2⟩:=op_did h hcall hw hf he hWr;exact did_upon h1 (hk h2)
 · simp only [Classical.not_forall,Classical.not_not] at hcall;obtain ⟨c,fv,ho,hc⟩:=hcall;unfold op at h;rw [ho] at h;simp only [Option.bind_eq_some_iff,hc] at h;obtain ⟨args,hargs,gv,hgv,h⟩:=h;obtain ⟨r,H,hr,rfl,rfl⟩:=retH_env h;obtain ⟨l1,l2⟩:=vals_sound hargs hw he;have hgo:=hC gv args s.H r H hr g w (a.eval fv) (c.args.toList.map a.eval) hw (val_sound hgv hw he) (by simpa using l1) l2 F n o a next Q hF (fun g' w' rv h1 h2 h3=>by
    have hle:=hw.le h3;refine hk rfl g' f w' rv h2 ⟨hf.dom,fun i row hi hrow=> ?_,hf.inj,fun i hi h=> ?_⟩ ⟨h3.D,h3.Dnew,h3.Z,h3.Znew,h3.fp,fun _ h=>⟨h,rfl⟩,fun _ h=> .inl h,fun _ h h'=>absurd h h',fun R hR hn _=>h3.unch R hR hn,h3.size,h3.len,Nat.le_refl _,h3.wm,h3.quiet,h3.still,fun _ _=>Iff.rfl,fun _ h h'=>absurd h h',fun i hi _=>h3.unch _ (hf.lt hi) (hf.apart i hi),h3.io⟩ h1
    · obtain ⟨cs,⟨T,fz,hR,q1,q2,q3⟩,q4⟩:=hf.blk i row hi hrow;have hlt:=hf.lt hi;refine ⟨cs,⟨T,fz,by rw [h3.unch _ hlt (hf.apart i hi)];exact hR,q1,q2,fun hz=> ?_⟩,q4.mono hle⟩;rcases h3.Znew _ hz with hz|hz|hz
      · exact q3 hz
      · exact hf.apart i hi hz
      · omega
    · rcases h3.fp _ h with h|h
      · exact hf.apart i hi h
      · have:=hf.lt hi;omega)
   have hrun:(execOp a.eval o).run A.P w=((do let d <- Deferred.ofValue (a.eval fv) (c.args.toList.map a.eval).toArray;invoke d.target d.args:Sem Next).run A.P w):=by
    unfold execOp;rw [ho];have:c.args.map a.eval=(c.args.toList.map a.eval).toArray:=by apply Array.ext';simp
    simp only [resolve,hc,this]
   rw [hrun];exact hgo
end
end Go.V
