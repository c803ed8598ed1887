/- A second evaluator, over rows of Lean values, and that it is right over the first. -/
import Derived.Test.YtjenflkegbmkkaaGreatDoorB1
set_option linter.unusedVariables false
set_option linter.unusedSimpArgs false
set_option linter.unusedSectionVars false
namespace Go.U
open Go
variable [TB:Tbl]
section
variable {A:V.Par} {glob:Nat->Option (List UV)} {m:Mp} {φ:Nat->Option Nat} {H H':UH} {Hv:V.AH} {X:Type} {out:X}
theorem nil_slice {e:TypeId} {t:TypeId} {lo hi:Option Int} {x':V.AV} {k:Nat} (hu:A.P.underlying t=some (.slice e)) (hz:V.size A e=some k) (hx:x'= .nils\/x'= .emp) (h:0<=lo.getD 0/\lo.getD 0<=hi.getD ((0:Nat):Int)/\hi.getD ((0:Nat):Int)<=((0:Nat):Int)):V.slice A Hv t x' lo hi=some x':=by
 rcases hx with rfl|rfl<;>simp only [V.slice,hu,hz,Option.bind_some,V.bnd]<;>rw [if_pos h]<;>simp
theorem slice_sim {t:TypeId} {x:UV} {lo hi:Option Int} {K:UV->Option X} (h:slice A H t x lo hi K=some out):
   ∃ v,K v=some out/\∀ (m:Mp) (Hv:V.AH) (x':V.AV),RH m H Hv->RV m x x'->∃ a,V.slice A Hv t x' lo hi=some a/\RV m v a:=by
 unfold slice at h;split at h
 · rename_i s hu;obtain ⟨h0,h⟩:=ask_some h;simp only [Bool.and_eq_true,decide_eq_true_eq] at h0;refine ⟨_,h,fun m Hv x' hh hx=> ?_⟩;cases hx with
   |str=>
     refine ⟨_,?_,.str _⟩;simp only [V.slice,hu,V.bnd];rw [if_pos ⟨h0.1.1,h0.1.2,h0.2⟩];rfl
 · rename_i e c l hu;split at h
   case isFalse=>simp at h
   rename_i hz;split at h
   · obtain ⟨h0,h⟩:=ask_some h;simp only [Bool.and_eq_true,decide_eq_true_eq] at h0;refine ⟨_,h,fun m Hv x' hh hx=> ?_⟩;cases hx with
     |lit _ _ rows h1 h2 h3=>
      have hrt:RT m c l rows:=⟨h1,fun i _=>⟨vw_length _ _ _,vw_closed _ _ _⟩,fun i row _=>h2 i row,fun i row k x a _=>h3 i row k x a⟩;refine ⟨.lit (width c) ((rows.take rows.length).drop (lo.getD 0).toNat),?_,?_⟩
      · simp only [V.slice,hu,V.bnd];rw [if_pos ⟨h0.1,by rw [h1];simpa using h0.2,by simp⟩];simp [hz]
      · rw [List.take_length];exact (hrt.drop _).lit
     |lit0 _ a ha=>
      refine ⟨x',nil_slice hu hz ha ⟨h0.1,by simpa using h0.2,by simp⟩,?_⟩;rw [List.drop_nil];exact .lit0 _ _ ha
   · rename_i hv;obtain ⟨h0,h⟩:=ask_some h;simp only [Bool.and_eq_true,decide_eq_true_eq] at h0;refine ⟨_,h,fun m Hv x' hh hx=> ?_⟩;cases hx with
     |lit _ _ rows h1 h2 h3=>
      have hrt:RT m c l rows:=⟨h1,fun i _=>⟨vw_length _ _ _,vw_closed _ _ _⟩,fun i row _=>h2 i row,fun i row k x a _=>h3 i row k x a⟩;refine ⟨.lit (width c) ((rows.take hv.toNat).drop (lo.getD 0).toNat),?_,((hrt.take _).drop _).lit⟩;simp only [V.slice,hu,V.bnd];rw [if_pos ⟨h0.1.1,by simpa using h0.1.2,by rw [h1];simpa using h0.2⟩];simp [hz]
     |lit0 _ a ha=>
      refine ⟨x',nil_slice hu hz ha ⟨h0.1.1,by simpa using h0.1.2,by simpa using h0.2⟩,?_⟩;rw [List.take_nil,List.drop_nil];exact .lit0 _ _ ha
 · rename_i e b r n hu;split at h
   · rename_i c l hb;split at h
     case isFalse=>simp at h
     rename_i hz;obtain ⟨h0,h⟩:=ask_some h;simp only [Bool.and_eq_true,decide_eq_true_eq] at h0;refine ⟨_,h,fun m Hv x' hh hx=> ?_⟩;obtain ⟨kb,kx⟩:=cells_block (s:=⟨[],[],H,0⟩) (sv:=⟨[],[],Hv⟩) hh hb;cases hx with
     |sl _ _ _ xi hxi hle=>
      obtain ⟨rows,ty,j2,j3,j4⟩:=kx xi hxi;have j2':Hv.bl[xi]?=some (.cells rows (width c) ty):=j2;refine ⟨.sl xi (r+(lo.getD 0).toNat) ((hi.getD n).toNat-(lo.getD 0).toNat),?_,?_⟩
      · simp only [V.slice,hu,V.bnd];rw [if_pos ⟨h0.1.1,h0.1.2,h0.2⟩];simp [V.szOf,j2',hz]
      · rw [addN_eq];exact .sl b _ _ xi hxi (by omega)
     |sl0 _ _ a ha=>
      refine ⟨x',nil_slice hu hz ha ⟨h0.1.1,by simpa using h0.1.2,by simpa using h0.2⟩,?_⟩;have:(hi.getD ((0:Nat):Int)).toNat-(lo.getD 0).toNat=0:=by omega
      rw [this];exact .sl0 _ _ _ ha
   · rename_i c l hb;split at h
     case isFalse=>simp at h
     rename_i hz;obtain ⟨h0,h⟩:=ask_some h;simp only [Bool.and_eq_true,decide_eq_true_eq] at h0;refine ⟨_,h,fun m Hv x' hh hx=> ?_⟩;obtain ⟨kb,_,kx⟩:=deep_block (s:=⟨[],[],H,0⟩) (sv:=⟨[],[],Hv⟩) hh hb;cases hx with
     |sl _ _ _ xi hxi hle=>
      obtain ⟨rows,ty,j2,j3,j4⟩:=kx xi hxi;have j2':Hv.bl[xi]?=some (.cells rows 1 ty):=j2;refine ⟨.sl xi (r+(lo.getD 0).toNat) ((hi.getD n).toNat-(lo.getD 0).toNat),?_,?_⟩
      · simp only [V.slice,hu,V.bnd];rw [if_pos ⟨h0.1.1,h0.1.2,h0.2⟩];simp [V.szOf,j2',hz]
      · rw [addN_eq];exact .sl b _ _ xi hxi (by omega)
     |sl0 _ _ a ha=>
      refine ⟨x',nil_slice hu hz ha ⟨h0.1.1,by simpa using h0.1.2,by simpa using h0.2⟩,?_⟩;have:(hi.getD ((0:Nat):Int)).toNat-(lo.getD 0).toNat=0:=by omega
      rw [this];exact .sl0 _ _ _ ha
   · simp at h
 · rename_i e b hu;split at h
   · rename_i c l hb;split at h
     case isFalse=>simp at h
     rename_i hz;obtain ⟨h0,h⟩:=ask_some h;simp only [Bool.and_eq_true,decide_eq_true_eq] at h0;refine ⟨_,h,fun m Hv x' hh hx=> ?_⟩;obtain ⟨kb,kx⟩:=cells_block (s:=⟨[],[],H,0⟩) (sv:=⟨[],[],Hv⟩) hh hb;cases hx with
     |all _ xi hxi=>
      obtain ⟨rows,ty,j2,j3,j4⟩:=kx xi hxi;have j2':Hv.bl[xi]?=some (.cells rows (width c) ty):=j2;refine ⟨.sl xi (0+(lo.getD 0).toNat) ((hi.getD l.length).toNat-(lo.getD 0).toNat),?_,?_⟩
      · simp only [V.slice,hu,V.bnd,kb];rw [if_pos ⟨h0.1.1,h0.1.2,h0.2⟩];simp [V.szOf,j2',hz]
      · rw [Nat.zero_add];exact .sl b _ _ xi hxi (by omega)
     |all0 _ a _ hl ha=>
      have hl0:l.length=0:=by omega
      rw [hl0] at h0 ⊢;refine ⟨x',nil_slice hu hz ha ⟨h0.1.1,by simpa using h0.1.2,by simpa using h0.2⟩,?_⟩;have:(hi.getD ((0:Nat):Int)).toNat-(lo.getD 0).toNat=0:=by omega
      rw [this];exact .sl0 _ _ _ ha
   · rename_i c l hb;split at h
     case isFalse=>simp at h
     rename_i hz;obtain ⟨h0,h⟩:=ask_some h;simp only [Bool.and_eq_true,decide_eq_true_eq] at h0;refine ⟨_,h,fun m Hv x' hh hx=> ?_⟩;obtain ⟨kb,_,kx⟩:=deep_block (s:=⟨[],[],H,0⟩) (sv:=⟨[],[],Hv⟩) hh hb;cases hx with
     |all _ xi hxi=>
      obtain ⟨rows,ty,j2,j3,j4⟩:=kx xi hxi;have j2':Hv.bl[xi]?=some (.cells rows 1 ty):=j2;refine ⟨.sl xi (0+(lo.getD 0).toNat) ((hi.getD l.length).toNat-(lo.getD 0).toNat),?_,?_⟩
      · simp only [V.slice,hu,V.bnd,kb];rw [if_pos ⟨h0.1.1,h0.1.2,h0.2⟩];simp [V.szOf,j2',hz]
      · rw [Nat.zero_add];exact .sl b _ _ xi hxi (by omega)
     |all0 _ a _ hl ha=>
      have hl0:l.length=0:=by omega
      rw [hl0] at h0 ⊢;refine ⟨x',nil_slice hu hz ha ⟨h0.1.1,by simpa using h0.1.2,by simpa using h0.2⟩,?_⟩;have:(hi.getD ((0:Nat):Int)).toNat-(lo.getD 0).toNat=0:=by omega
      rw [this];exact .sl0 _ _ _ ha
   · simp at h
 · simp at h
theorem intOp_sim {op:BinOp} {k:IntKind} {x y:Int} {K:UV->Option X} (h:intOp op k x y K=some out):∃ v,K v=some out/\∃ a,V.intOp op k x y=some a/\∀ m,RV m v a:=by
 unfold intOp at h;split at h
 case h_4=>
  by_cases hy:y=0
  · simp [hy] at h
  · simp [hy] at h;exact ⟨_,h,_,by simp only [V.intOp];rw [if_neg hy],fun _=> .int _ _⟩
 case h_5=>
  by_cases hy:y=0
  · simp [hy] at h
  · simp [hy] at h;exact ⟨_,h,_,by simp only [V.intOp];rw [if_neg hy],fun _=> .int _ _⟩
 case h_6|h_7|h_8|h_9=>
  simp only [Option.bind_eq_some_iff] at h;obtain ⟨n,hn,h⟩:=h;exact ⟨_,h,.int k n,by simp [V.intOp,hn],fun _=> .int _ _⟩
 all_goals first
  |(exact ⟨_,h,_,rfl,fun _=> .int _ _⟩)
  |(exact ⟨_,h,_,rfl,fun _=> .bool _⟩)
  |(simp at h)
theorem eqFields_sim {eq:TypeId->UV->UV->Option Bool} {eqv:TypeId->V.AV->V.AV->Option Bool} {xs ys:List UV} {xs' ys':List V.AV} (he:∀ t x y x' y' b,eq t x y=some b->RV m x x'->RV m y y'->eqv t x' y'=some b)
  (hx:RL m xs xs') (hy:RL m ys ys'):∀ (fs:List Field) (b:Bool),eqFields A eq xs ys fs=some b->V.eqFields A eqv xs' ys' fs=some b
 |[],b,h=>by simpa [eqFields,V.eqFields] using h
 |fd::fs,b,h=>by
  simp only [eqFields] at h;simp only [V.eqFields];split at h
  · rename_i hn;rw [if_pos hn];exact eqFields_sim he hx hy fs b h
  · rename_i hn;rw [if_neg hn];simp only [Option.bind_eq_some_iff,Option.map_eq_some_iff] at h;obtain ⟨x,h1,y,h2,b1,h3,c,h4,rfl⟩:=h;obtain ⟨x',k1,k2⟩:=part_sim h1 hx;obtain ⟨y',k3,k4⟩:=part_sim h2 hy;simp only [k1,k3,Option.bind_some,he _ _ _ _ _ _ h3 k2 k4,eqFields_sim he hx hy fs c h4,Option.map_some]
theorem eqElems_sim {eq:UV->UV->Option Bool} {eqv:V.AV->V.AV->Option Bool} {e:TypeId} {sz:Nat} {xs ys:List UV} {xs' ys':List V.AV} (he:∀ x y x' y' b,eq x y=some b->RV m x x'->RV m y y'->eqv x' y'=some b)
  (hx:RL m xs xs') (hy:RL m ys ys'):∀ (n i:Nat) (b:Bool),eqElems A eq e sz xs ys n i=some b->V.eqElems A eqv e sz xs' ys' n i=some b
 |0,i,b,h=>by simpa [eqElems,V.eqElems] using h
 |n+1,i,b,h=>by
  simp only [eqElems] at h;simp only [V.eqElems];simp only [Option.bind_eq_some_iff,Option.map_eq_some_iff] at h;obtain ⟨x,h1,y,h2,b1,h3,c,h4,rfl⟩:=h;obtain ⟨x',k1,k2⟩:=part_sim h1 hx;obtain ⟨y',k3,k4⟩:=part_sim h2 hy;simp only [k1,k3,Option.bind_some,he _ _ _ _ _ h3 k2 k4,eqElems_sim he hx hy n (i+1) c h4,Option.map_some]
theorem eqT_sim:∀ (d:Nat) {t:TypeId} {x y:UV} {x' y':V.AV} {b:Bool},eqT A d t x y=some b->RV m x x'->RV m y y'->V.eqT A d t x' y'=some b
 |0,t,x,y,x',y',b,h,_,_=>by simp [eqT] at h
 |d+1,t,x,y,x',y',b,h,hx,hy=>by
  simp only [eqT] at h;split at h
  · rename_i hu;cases hx;cases hy;simpa [V.eqT,hu] using h
  · rename_i k a k' b' hu;cases hx;cases hy;simpa [V.eqT,hu] using h
  · rename_i hu;cases hx;cases hy;simpa [V.eqT,hu] using h
  · rename_i fs xs ys hu;split at h
    · simp at h
    rename_i hs;cases hx with
    |agg _ as hl hr=>
      cases hy with
      |agg _ bs hl' hr'=>
       simp only [V.eqT,hu];rw [if_neg hs];exact eqFields_sim (eq:=eqT A d) (eqv:=V.eqT A d) (fun t x y x' y' b h h1 h2=>eqT_sim d h h1 h2) ⟨hl,hr⟩ ⟨hl',hr'⟩ _ _ h
  · rename_i n e xs ys hu;simp only [Option.bind_eq_some_iff] at h;obtain ⟨sz,hsz,h⟩:=h;cases hx with
    |agg _ as hl hr=>
      cases hy with
      |agg _ bs hl' hr'=>
       simp only [V.eqT,hu,hsz,Option.bind_some];exact eqElems_sim (eq:=eqT A d e) (eqv:=V.eqT A d e) (fun x y x' y' b h h1 h2=>eqT_sim d h h1 h2) ⟨hl,hr⟩ ⟨hl',hr'⟩ _ _ _ h
  · simp at h
theorem eqOp_sim {t:TypeId} {x y:UV} {x' y':V.AV} {b:Bool} (h:eqOp A t x y=some b) (hx:RV m x x') (hy:RV m y y'):V.eqOp A t x' y'=some b:=by
 unfold eqOp at h;split at h
 case h_2=>
  rename_i fs xs ys hu;split at h
  · simp at h
  rename_i hs;cases hx with
  |agg _ as hl hr=>
    cases hy with
    |agg _ bs hl' hr'=>
     simp only [V.eqOp,hu];rw [if_neg hs];exact eqT_sim 1000 h (.agg _ _ hl hr) (.agg _ _ hl' hr')
 case h_3=>
  rename_i n e xs ys hu;split at h
  · simp at h
  rename_i hs;cases hx with
  |agg _ as hl hr=>
    cases hy with
    |agg _ bs hl' hr'=>
     simp only [V.eqOp,hu];rw [if_neg hs];exact eqT_sim 1000 h (.agg _ _ hl hr) (.agg _ _ hl' hr')
 all_goals first
  |(simp at h;done)
  |(rename_i hu;cases hx;cases hy;simpa only [V.eqOp,hu] using h)
theorem eqOp_plain {t:TypeId} {x y:UV} {x':V.AV} {b:Bool} (h:eqOp A t x y=some b) (hx:RV m x x'):(∀ k n,x'≠ .int k n)/\∀ s,x'≠ .str s:=by
 unfold eqOp at h;split at h
 all_goals first
  |(simp at h;done)
  |(cases hx;exact ⟨fun _ _ e=>by simp at e,fun _ e=>by simp at e⟩)
theorem strOp_sim {op:BinOp} {x y:ByteArray} {K:UV->Option X} (h:strOp op x y K=some out):∃ v,K v=some out/\∃ a,V.strOp op x y=some a/\∀ m,RV m v a:=by
 unfold strOp at h;split at h
 case h_1=>
  obtain ⟨h0,h⟩:=ask_some h;simp only [decide_eq_true_eq] at h0;exact ⟨_,h,_,by simp only [V.strOp];rw [if_pos h0],fun _=> .str _⟩
 all_goals first
  |(exact ⟨_,h,_,rfl,fun _=> .bool _⟩)
  |(simp at h;done)
theorem binop_sim {op:BinOp} {t:TypeId} {x y:UV} {K:UV->Option X} (h:binop A op t x y K=some out):
   ∃ v,K v=some out/\∀ (m:Mp) (x' y':V.AV),RV m x x'->RV m y y'->∃ a,V.binop A op t x' y'=some a/\RV m v a:=by
 unfold binop at h;split at h
 · obtain ⟨h0,h⟩:=ask_some h;simp only [decide_eq_true_eq] at h0;refine ⟨_,h,fun m x' y' hx hy=> ?_⟩;cases hx;cases hy;exact ⟨_,by simp only [V.binop];rw [if_pos h0],.int _ _⟩
 · obtain ⟨h0,h⟩:=ask_some h;simp only [decide_eq_true_eq] at h0;refine ⟨_,h,fun m x' y' hx hy=> ?_⟩;cases hx;cases hy;exact ⟨_,by simp only [V.binop];rw [if_pos h0],.int _ _⟩
 · rename_i k a k' b hne1 hne2;split at h
   case isFalse=>simp at h
   rename_i hk;obtain ⟨v,h1,a',h2,h3⟩:=intOp_sim h;refine ⟨v,h1,fun m x' y' hx hy=> ?_⟩;cases hx;cases hy;refine ⟨a',?_,h3 m⟩;cases op
   case shl=>exact (hne1 rfl).elim
   case shr=>exact (hne2 rfl).elim
   all_goals (simp only [V.binop];rw [if_pos hk];exact h2)
 · obtain ⟨v,h1,a',h2,h3⟩:=strOp_sim h;refine ⟨v,h1,fun m x' y' hx hy=> ?_⟩;cases hx;cases hy;refine ⟨a',?_,h3 m⟩;cases op<;>first|exact h2|(simp [V.strOp] at h2)
 · simp only [Option.bind_eq_some_iff] at h;obtain ⟨b,hb,h⟩:=h;refine ⟨_,h,fun m x' y' hx hy=>⟨.bool b,?_,.bool b⟩⟩;have h1:=eqOp_sim hb hx hy;have h2:=eqOp_plain hb hx;unfold V.binop;split
   all_goals first
    |(simp at *;done)
    |(rw [h1];rfl)
    |(exfalso;exact h2.1 _ _ rfl)
    |(exfalso;exact h2.2 _ rfl)
    |simp_all
 · simp only [Option.bind_eq_some_iff] at h;obtain ⟨b,hb,h⟩:=h;refine ⟨_,h,fun m x' y' hx hy=>⟨.bool !b,?_,.bool _⟩⟩;have h1:=eqOp_sim hb hx hy;have h2:=eqOp_plain hb hx;unfold V.binop;split
   all_goals first
    |(simp at *;done)
    |(rw [h1];rfl)
    |(exfalso;exact h2.1 _ _ rfl)
    |(exfalso;exact h2.2 _ rfl)
    |simp_all
 · simp at h
end
end Go.U
namespace Go.U
open Go
variable [TB:Tbl]
def PLe (φ φ':Nat->Option Nat):Prop:=∀ i j,φ i=some j->φ' i=some j
section
variable {A:V.Par} {glob:Nat->Option (List UV)} {m:Mp} {φ:Nat->Option Nat} {H H':UH} {Hv:V.AH} {X:Type} {out:X}
theorem unop_sim {op:UnOp} {x v:UV} {x':V.AV} (h:unop op x=some v) (hx:RV m x x'):∃ a,V.unop op x'=some a/\RV m v a:=by
 unfold unop at h;split at h
 · simp only [Option.some.injEq] at h;subst h;cases hx;exact ⟨_,rfl,.int _ _⟩
 · rename_i k n;simp only [Option.map_eq_some_iff] at h;obtain ⟨i,hi,rfl⟩:=h;cases hx;exact ⟨.int k i,by simp only [V.unop,hi,Option.map_some],.int _ _⟩
 · simp at h;subst h;cases hx;exact ⟨_,rfl,.bool _⟩
 · simp at h
theorem byts_rows {l:List Int} {rows:List (List V.AV)} (h:RT m (.int .u8) l rows):V.rowsBytes rows=some (l.map fun n=>UInt8.ofNat n.toNat):=by
 induction rows generalizing l with
 |nil=>
  have:=h.1;cases l with
  |nil=>rfl
  |cons _ _=>simp at this
 |cons row rows ih=>
  have hl:=h.1;cases l with
  |nil=>simp at hl
  |cons n l=>
   have h0:=h.get (i:=0) rfl;obtain ⟨a,as,rfl,h1,h2⟩:=RL.cons' (x:=UV.int .u8 n) (xs:=[]) h0;have:as=[]:=by have:=h2.1;simpa using this
   subst this;cases h1;have hr:RT m (.int .u8) l rows:= .of (Nat.succ.inj hl) fun i row hi hr=>h.get (i:=i+1) (by simpa using hr)
   simp only [V.rowsBytes,ih hr,Option.bind_some,List.map_cons]
theorem convert_sim {src dst:TypeId} {x:UV} {K:UV->UH->Option X} (h:convert A H src dst x K=some out):
   ∃ v H',K v H'=some out/\H'.wm=H.wm/\∀ (m:Mp) (Hv:V.AH) (x':V.AV),RH m H Hv->RV m x x'->∃ a Hv',V.convert A Hv src dst x'=some (a,Hv')/\HGo m Hv v H' a Hv':=by
 unfold convert at h;split at h
 · rename_i h1 h2;refine ⟨_,_,h,rfl,fun m Hv x' hh hx=> ?_⟩;cases hx;exact ⟨_,_,by simp only [V.convert,h1,h2],.same hh (.int _ _)⟩
 · rename_i h1 h2;refine ⟨_,_,h,rfl,fun m Hv x' hh hx=> ?_⟩;cases hx;exact ⟨_,_,by simp only [V.convert,h1,h2],.same hh (.str _)⟩
 · rename_i e s h1 h2;split at h
   case h_2=>simp at h
   rename_i h3;obtain ⟨h0,h⟩:=ask_some h;simp only [decide_eq_true_eq] at h0;refine ⟨_,_,h,rfl,fun m Hv x' hh hx=> ?_⟩;cases hx;have:=hh.newRows (bytes_rows m s) (zl:=1) rfl (ty:=some (e,1));have hl:(bytL s).length=s.size:=(List.length_map ..).trans rfl;refine ⟨.sl Hv.bl.length 0 s.size,V.push Hv (.cells (V.byteRows s) 1 (some (e,1))),?_,by rw [<- hl];exact this⟩;simp only [V.convert,h1,h2,h3];rw [if_pos h0]
 · rename_i e x h1 h2 hns;split at h
   case h_2=>simp at h
   rename_i h3;simp only [Option.bind_eq_some_iff] at h;obtain ⟨l,hr,h⟩:=h;refine ⟨_,_,h,rfl,fun m Hv x' hh hx=> ?_⟩;obtain ⟨rows,k1,k2⟩:=rowsOf_sim hr hh hx;have hb:=byts_rows k2;have hxs:∀ s,x'≠ .str s:=fun s e=>by
    subst e;cases hx with
    |str=>exact hns s rfl
    |junk=>simp [rowsOf] at hr
    |sl0 _ _ _ ha=>simp at ha
    |all0 _ _ _ _ ha=>simp at ha
    |dsl0 _ _ _ _ _ ha=>simp at ha
    |lit0 _ _ ha=>simp at ha
   refine ⟨.str (byts l),Hv,?_,.same hh (.str _)⟩;have k1':V.rowsOf Hv x'=some rows:=by cases x'<;>first|exact k1|exact (hxs _ rfl).elim
   have h4:∀ y:V.AV,(∀ s,y≠ .str s)->V.convert A Hv src dst y=(V.rowsOf Hv y).bind fun rows=>(V.rowsBytes rows).map fun l=>(.str ⟨l.toArray⟩,Hv):=fun y hy=>by
    cases y<;>first|exact (hy _ rfl).elim|simp only [V.convert,h1,h2,h3]
   rw [h4 x' hxs,k1',Option.bind_some,hb,Option.map_some];rfl
 · simp at h
theorem closed_R {d:Nat} {x:UV} (h:closed 8 x=true):closedR (d+1) x=true:=by
 cases x<;>first|exact h|simp [closed] at h
variable {k:KT}
theorem key_eq (i j:KeyT k):V.keyEq (keyAV k i) (keyAV k j)=some (eqK k i j):=by
 cases k with
 |int k=>simp [keyAV,V.keyEq,eqK]
 |str=>rfl
theorem keyOf_sim {x:UV} {i:KeyT k} {x':V.AV} (h:keyOf? k x=some i) (hx:RV m x x'):x'=keyAV k i:=by
 cases k with
 |int k=>
  simp only [keyOf?] at h;split at h
  · split at h
    · rename_i e;subst e;injection h with h;subst h;cases hx;rfl
    · simp at h
  · simp at h
 |str=>
  simp only [keyOf?] at h;split at h
  · injection h with h;subst h;cases hx;rfl
  · simp at h
theorem key_ok {t:TypeId} (h:ktOf A t=some k) (i:KeyT k):V.keyOK A t (keyAV k i)=true:=by
 unfold ktOf at h;unfold V.keyOK;split at h
 · rename_i hu;simp at h;subst h;rw [hu];rfl
 · rename_i hu;simp at h;subst h;rw [hu];rfl
 · simp at h
theorem findL_sim {i:KeyT k} {z:UV} {K:UV->Bool->Option X}:∀ {es:List (KeyT k×UV)},findL i z K es=some out->∃ v b,K v b=some out/\∀ (m:Mp) (es':List (V.AV×V.AV)),MR k m es es'->(b=true/\∃ a,V.mapFind (keyAV k i) es'=some (some a)/\RV m v a)\/(b=false/\v=z/\V.mapFind (keyAV k i) es'=some none)
 |[],h=>⟨z,false,h,fun m es' hm=>by
   cases es' with
   |nil=>exact .inr ⟨rfl,rfl,rfl⟩
   |cons _ _=>exact hm.elim⟩
 |(j,v)::es,h=>by
  simp only [findL] at h;cases he:eqK k i j with
  |true=>
   rw [he] at h;refine ⟨v,true,h,fun m es' hm=> ?_⟩;cases es' with
   |nil=>exact hm.elim
   |cons p es'=>
    obtain ⟨h1,h2,_,_⟩:=hm;refine .inl ⟨rfl,p.2,?_,h2⟩;obtain ⟨key,a⟩:=p;subst h1;simp only [V.mapFind,key_eq,he,Option.bind_some]
  |false=>
   rw [he] at h;obtain ⟨w,b,h1,h2⟩:=findL_sim (es:=es) h;refine ⟨w,b,h1,fun m es' hm=> ?_⟩;cases es' with
   |nil=>exact hm.elim
   |cons p es'=>
    obtain ⟨key,a⟩:=p;obtain ⟨k1,_,_,k4⟩:=hm;subst k1;simp only [V.mapFind,key_eq,he,Option.bind_some];exact h2 m es' k4
theorem setL_sim {i:KeyT k} {v:UV}:∀ {es:List (KeyT k×UV)} {K:List (KeyT k×UV)->Option X},setL i v K es=some out->∃ es1,K es1=some out/\∀ (m:Mp) (es':List (V.AV×V.AV)) (a:V.AV),MR k m es es'->RV m v a->closedR 8 v=true->∃ es1',V.mapSet (keyAV k i) a es'=some es1'/\MR k m es1 es1'
 |[],K,h=>⟨[(i,v)],h,fun m es' a hm hv hc=>by
   cases es' with
   |nil=>exact ⟨[(keyAV k i,a)],rfl,rfl,hv,hc,trivial⟩
   |cons _ _=>exact hm.elim⟩
 |(j,w)::es,K,h=>by
  simp only [setL] at h;cases he:eqK k i j with
  |true=>
   rw [he] at h;refine ⟨_,h,fun m es' a hm hv hc=> ?_⟩;cases es' with
   |nil=>exact hm.elim
   |cons p es'=>
    obtain ⟨key,a'⟩:=p;obtain ⟨k1,_,_,k4⟩:=hm;subst k1;exact ⟨(keyAV k i,a)::es',by simp only [V.mapSet,key_eq,he,Option.bind_some],rfl,hv,hc,k4⟩
  |false=>
   rw [he] at h;obtain ⟨es1,h1,h2⟩:=setL_sim (es:=es) h;refine ⟨_,h1,fun m es' a hm hv hc=> ?_⟩;cases es' with
   |nil=>exact hm.elim
   |cons p es'=>
    obtain ⟨key,a'⟩:=p;obtain ⟨k1,k2,k3,k4⟩:=hm;subst k1;obtain ⟨es1',e1,e2⟩:=h2 m es' a k4 hv hc;exact ⟨(keyAV k j,a')::es1',by simp only [V.mapSet,key_eq,he,Option.bind_some,e1,Option.map_some],rfl,k2,k3,e2⟩
theorem delL_sim {i:KeyT k}:∀ {es:List (KeyT k×UV)} {K:List (KeyT k×UV)->Option X},delL i K es=some out->∃ es1,K es1=some out/\∀ (m:Mp) (es':List (V.AV×V.AV)),MR k m es es'->∃ es1',V.mapDel (keyAV k i) es'=some es1'/\MR k m es1 es1'
 |[],K,h=>⟨[],h,fun m es' hm=>by
   cases es' with
   |nil=>exact ⟨[],rfl,trivial⟩
   |cons _ _=>exact hm.elim⟩
 |(j,w)::es,K,h=>by
  simp only [delL] at h;cases he:eqK k i j with
  |true=>
   rw [he] at h;refine ⟨_,h,fun m es' hm=> ?_⟩;cases es' with
   |nil=>exact hm.elim
   |cons p es'=>
    obtain ⟨key,a'⟩:=p;obtain ⟨k1,_,_,k4⟩:=hm;subst k1;exact ⟨es',by simp only [V.mapDel,key_eq,he,Option.bind_some],k4⟩
  |false=>
   rw [he] at h;obtain ⟨es1,h1,h2⟩:=delL_sim (es:=es) h;refine ⟨_,h1,fun m es' hm=> ?_⟩;cases es' with
   |nil=>exact hm.elim
   |cons p es'=>
    obtain ⟨key,a'⟩:=p;obtain ⟨k1,k2,k3,k4⟩:=hm;subst k1;obtain ⟨es1',e1,e2⟩:=h2 m es' k4;exact ⟨(keyAV k j,a')::es1',by simp only [V.mapDel,key_eq,he,Option.bind_some,e1,Option.map_some],rfl,k2,k3,e2⟩
theorem findT_eq {g:Bool} {c:CT} {i:KeyT k} {z:UV} {K:UV->Bool->Option X}:∀ {l:List (KeyT k×CellT c)},findL i z K (mapEs g c l)=cond (hasT i l) (K (valOf g c (getT i (dflt c) l)) true) (K z false)
 |[]=>rfl
 |(j,x)::l=>by
  simp only [mapEs,List.map_cons,findL,hasT,List.any_cons,getT];cases he:eqK k i j with
  |true=>rfl
  |false=>exact findT_eq (l:=l)
theorem setT_eq {g:Bool} {c:CT} {i:KeyT k} {x:CellT c}:∀ {l:List (KeyT k×CellT c)} {K:List (KeyT k×UV)->Option X},setL i (valOf g c x) K (mapEs g c l)=K (mapEs g c (setT i x l))
 |[],K=>rfl
 |(j,y)::l,K=>by
  simp only [mapEs,List.map_cons,setL,setT];cases he:eqK k i j with
  |true=>rfl
  |false=>exact setT_eq (l:=l)
theorem delT_eq {g:Bool} {c:CT} {i:KeyT k}:∀ {l:List (KeyT k×CellT c)} {K:List (KeyT k×UV)->Option X},delL i K (mapEs g c l)=K (mapEs g c (delT i l))
 |[],K=>rfl
 |(j,y)::l,K=>by
  simp only [mapEs,List.map_cons,delL,delT];cases he:eqK k i j with
  |true=>rfl
  |false=>exact delT_eq (l:=l)
theorem decV_sim {g:Bool} {c:CT} {x:UV} {y:CellT c} (h:decV g c x=some y):closedR 8 (valOf g c y)=true/\∀ (m:Mp) (a:V.AV),RV m x a->RV m (valOf g c y) a:=by
 unfold decV at h;split at h
 · rename_i cs;refine ⟨?_,fun m a ha=> ?_⟩
   · simp only [valOf,closedR,List.all_eq_true];exact fun v hv=>closed_R (enc_closed c y v hv)
   · cases ha with
     |agg _ as hl hr=>have:=dec1_sim h (m:=m) ⟨hl,hr⟩;exact .agg _ _ this.1 this.2
 · split at h
   case isFalse=>simp at h
   rename_i hw;have hlen:=enc_length c y;rw [hw] at hlen;obtain ⟨v,hv⟩:∃ v,enc c y=[v]:=by
     match h1:enc c y,hlen with
     |[v],_=>exact ⟨v,rfl⟩
   have hval:valOf false c y=v:=by simp only [valOf,hv]
   rw [hval];refine ⟨closed_R (enc_closed c y v (by rw [hv];simp)),fun m a ha=> ?_⟩;have:=dec1_sim h (RL.cons ha .nil);rw [hv] at this;exact this.2 0 v a rfl rfl
 · simp at h
theorem lookup_sim {t:TypeId} {x i:UV} {ok:Bool} {K:UV->Option X} (h:lookup A H t x i ok K=some out):
   ∃ v,K v=some out/\∀ (m:Mp) (Hv:V.AH) (x' i':V.AV),RH m H Hv->RV m x x'->RV m i i'->∃ a,V.lookup A Hv t x' i' ok=some a/\RV m v a:=by
 unfold lookup at h;split at h
 case h_2=>simp at h
 rename_i kt et hu;split at h
 case h_2=>simp at h
 rename_i b;have key:∀ {k:KT} {es:List (KeyT k×UV)},(∀ {m:Mp} {Hv:V.AH},RH m H Hv->∃ x es',m.ι b 0=some x/\Hv.bl[x]?=some (.map es')/\MR k m es es')->ktOf A kt=some k->
    ((keyOf? k i).bind fun i=>(zeroV A et).bind fun z=>findL i z (fun v b=>K (if ok then .tup [v,.bool b] else v)) es)=some out->
    ∃ v,K v=some out/\∀ (m:Mp) (Hv:V.AH) (x' i':V.AV),RH m H Hv->RV m (.mp b) x'->RV m i i'->∃ a,V.lookup A Hv t x' i' ok=some a/\RV m v a:=fun {k es} hb hkt h=>by
   simp only [Option.bind_eq_some_iff] at h;obtain ⟨i0,hi,z,hz,h⟩:=h;obtain ⟨z',q1,q2,_⟩:=zeroV_sim hz;obtain ⟨v,b0,h1,h2⟩:=findL_sim h;refine ⟨_,h1,fun m Hv x' i' hh hx hir=> ?_⟩;have hik:=keyOf_sim hi hir;subst hik;cases hx with
   |mp _ xi hxi=>
    obtain ⟨xi',es',k1,k2,k3⟩:=hb hh;rw [hxi] at k1;simp at k1;subst k1;have tupok:∀ {w:UV} {a:V.AV} (b:Bool),RV m w a->RV m (if ok then .tup [w,.bool b] else w) (if ok then .tup [a,.bool b] else a):=fun {w a} b hw=>by
      clear h h1;cases ok with
      |true=>exact .tup [w,.bool b] [a,.bool b] rfl (RL.cons hw (RL.cons (.bool b) .nil)).2
      |false=>exact hw
    rcases h2 m es' k3 with ⟨rfl,a,e1,e2⟩|⟨rfl,rfl,e1⟩
    · refine ⟨_,?_,tupok true e2⟩;simp only [V.lookup,hu,key_ok hkt,if_true,V.mapOf,k2,Option.bind_some,e1]
    · refine ⟨_,?_,tupok false (q2 m)⟩;simp only [V.lookup,hu,key_ok hkt,if_true,V.mapOf,k2,Option.bind_some,e1,q1,Option.map_some]
 split at h
 · rename_i k es hb;split at h
   case isFalse=>simp at h
   rename_i hkt;exact key (fun hh=>hh.blk b _ hb) hkt h
 · rename_i k g c l hb;split at h
   case isFalse=>simp at h
   rename_i hkt;refine key (es:=mapEs g c l) (fun hh=>hh.blk b _ hb) hkt ?_;simp only [Option.bind_eq_some_iff] at h ⊢;obtain ⟨i0,hi,z,hz,h⟩:=h;exact ⟨i0,hi,z,hz,by rw [findT_eq];exact h⟩
 · simp at h
def HStep (m:Mp) (Hv:V.AH) (H':UH) (Hv':V.AH):Prop:=RH m H' Hv'/\Go' m.top m Hv m Hv'
theorem mapUpdate_sim {t:TypeId} {x i y:UV} {K:UH->Option X} (h:mapUpdate A H t x i y K=some out):
   ∃ H',K H'=some out/\H'.wm=H.wm/\∀ (m:Mp) (Hv:V.AH) (x' i' y':V.AV),RH m H Hv->RV m x x'->RV m i i'->RV m y y'->∃ Hv',V.mapUpdate A Hv t x' i' y'=some Hv'/\HStep m Hv H' Hv':=by
 unfold mapUpdate at h;split at h
 case h_2=>simp at h
 rename_i kt et b hu;split at h
 case isFalse=>simp at h
 rename_i hwb;have vside:∀ {m:Mp} {Hv:V.AH} {x' y':V.AV} {k:KT} {i0:KeyT k} {xi:Nat} {es' es1':List (V.AV×V.AV)},RH m H Hv->m.ι b 0=some xi->x'= .mp xi->ktOf A kt=some k->Hv.bl[xi]?=some (.map es')->V.mapSet (keyAV k i0) y' es'=some es1'->
    V.mapUpdate A Hv t x' (keyAV k i0) y'=some (V.setBl Hv xi (.map es1')):=fun {m Hv x' y' k i0 xi es' es1'} hh hxi hx' hkt h2 h3=>by
   subst hx';have hw:=hh.wm b xi hxi hwb;simp [V.mapUpdate,hu,key_ok hkt,hw,h2,h3]
 split at h
 · rename_i k es hb;split at h
   case isFalse=>simp at h
   rename_i hkt;simp only [Option.bind_eq_some_iff] at h;obtain ⟨i0,hi,h⟩:=h;obtain ⟨es1,h1,h2⟩:=setL_sim h;refine ⟨_,h1,rfl,fun m Hv x' i' y' hh hx hir hy=> ?_⟩;have hik:=keyOf_sim hi hir;subst hik;cases hx with
   |mp _ xi hxi=>
    obtain ⟨xi',es',k1,k2,k3⟩:=hh.blk b _ hb;rw [hxi] at k1;simp at k1;subst k1;obtain ⟨es1',e1,e2⟩:=h2 m es' y' k3 hy hkt.2;have hset:=hh.set (y:= .mapL k es1) (yv:= .map es1') ⟨_,hb,rfl⟩ hxi ⟨xi,es1',hxi,by rw [vset_get,if_pos rfl,if_pos (hh.dom b xi hxi).2],e2⟩;exact ⟨_,vside hh hxi rfl hkt.1 k2 e1,hset⟩
 · rename_i k g c l hb;split at h
   case isFalse=>simp at h
   rename_i hkt;simp only [Option.bind_eq_some_iff] at h;obtain ⟨i0,hi,xv,hxv,h⟩:=h;refine ⟨_,h,rfl,fun m Hv x' i' y' hh hx hir hy=> ?_⟩;have hik:=keyOf_sim hi hir;subst hik;cases hx with
   |mp _ xi hxi=>
    obtain ⟨xi',es',k1,k2,k3⟩:=hh.blk b _ hb;rw [hxi] at k1;simp at k1;subst k1;obtain ⟨d1,d2⟩:=decV_sim hxv;have hsl:setL i0 (valOf g c xv) (fun es'=>some es') (mapEs g c l)=some (mapEs g c (setT i0 xv l)):=setT_eq;obtain ⟨es1,e0,h2⟩:=setL_sim hsl;simp at e0;subst e0;obtain ⟨es1',e1,e2⟩:=h2 m es' y' k3 (d2 m y' hy) d1;have hset:=hh.set (y:= .mapT k g c (setT i0 xv l)) (yv:= .map es1') ⟨_,hb,rfl⟩ hxi ⟨xi,es1',hxi,by rw [vset_get,if_pos rfl,if_pos (hh.dom b xi hxi).2],e2⟩;exact ⟨_,vside hh hxi rfl hkt k2 e1,hset⟩
 · simp at h
theorem mapDelete_sim {t:TypeId} {x i:UV} {K:UH->Option X} (h:mapDelete A H t x i K=some out):
   ∃ H',K H'=some out/\H'.wm=H.wm/\∀ (m:Mp) (Hv:V.AH) (x' i':V.AV),RH m H Hv->RV m x x'->RV m i i'->∃ Hv',V.mapDelete A Hv t x' i'=some Hv'/\HStep m Hv H' Hv':=by
 unfold mapDelete at h;split at h
 case h_2=>simp at h
 rename_i kt et b hu;split at h
 case isFalse=>simp at h
 rename_i hwb;have vside:∀ {m:Mp} {Hv:V.AH} {x':V.AV} {k:KT} {i0:KeyT k} {xi:Nat} {es' es1':List (V.AV×V.AV)},RH m H Hv->m.ι b 0=some xi->x'= .mp xi->ktOf A kt=some k->Hv.bl[xi]?=some (.map es')->V.mapDel (keyAV k i0) es'=some es1'->
    V.mapDelete A Hv t x' (keyAV k i0)=some (V.setBl Hv xi (.map es1')):=fun {m Hv x' k i0 xi es' es1'} hh hxi hx' hkt h2 h3=>by
   subst hx';have hw:=hh.wm b xi hxi hwb;simp [V.mapDelete,hu,key_ok hkt,hw,h2,h3]
 split at h
 · rename_i k es hb;split at h
   case isFalse=>simp at h
   rename_i hkt;simp only [Option.bind_eq_some_iff] at h;obtain ⟨i0,hi,h⟩:=h;obtain ⟨es1,h1,h2⟩:=delL_sim h;refine ⟨_,h1,rfl,fun m Hv x' i' hh hx hir=> ?_⟩;have hik:=keyOf_sim hi hir;subst hik;cases hx with
   |mp _ xi hxi=>
    obtain ⟨xi',es',k1,k2,k3⟩:=hh.blk b _ hb;rw [hxi] at k1;simp at k1;subst k1;obtain ⟨es1',e1,e2⟩:=h2 m es' k3;have hset:=hh.set (y:= .mapL k es1) (yv:= .map es1') ⟨_,hb,rfl⟩ hxi ⟨xi,es1',hxi,by rw [vset_get,if_pos rfl,if_pos (hh.dom b xi hxi).2],e2⟩;exact ⟨_,vside hh hxi rfl hkt k2 e1,hset⟩
 · rename_i k g c l hb;split at h
   case isFalse=>simp at h
   rename_i hkt;simp only [Option.bind_eq_some_iff] at h;obtain ⟨i0,hi,h⟩:=h;refine ⟨_,h,rfl,fun m Hv x' i' hh hx hir=> ?_⟩;have hik:=keyOf_sim hi hir;subst hik;cases hx with
   |mp _ xi hxi=>
    obtain ⟨xi',es',k1,k2,k3⟩:=hh.blk b _ hb;rw [hxi] at k1;simp at k1;subst k1;have hsl:delL i0 (fun es'=>some es') (mapEs g c l)=some (mapEs g c (delT i0 l)):=delT_eq;obtain ⟨es1,e0,h2⟩:=delL_sim hsl;simp at e0;subst e0;obtain ⟨es1',e1,e2⟩:=h2 m es' k3;have hset:=hh.set (y:= .mapT k g c (delT i0 l)) (yv:= .map es1') ⟨_,hb,rfl⟩ hxi ⟨xi,es1',hxi,by rw [vset_get,if_pos rfl,if_pos (hh.dom b xi hxi).2],e2⟩;exact ⟨_,vside hh hxi rfl hkt k2 e1,hset⟩
 · simp at h
theorem MR.length:∀ {es:List (KeyT k×UV)} {es':List (V.AV×V.AV)},MR k m es es'->es'.length=es.length
 |[],[],_=>rfl
 |(_,_)::_,(_,_)::_,h=>by simp [MR.length h.2.2.2]
 |[],_::_,h=>h.elim
 |_::_,[],h=>h.elim
theorem fold2_sim {f:UV->UV->Option UV} {g:V.AV->V.AV->Option V.AV} (hf:∀ x y z x' y',f x y=some z->RV m x x'->RV m y y'->∃ z',g x' y'=some z'/\RV m z z'):∀ {ys:List UV} {x z:UV} {ys':List V.AV} {x':V.AV},fold2 f x ys=some z->RV m x x'->RL m ys ys'->∃ z',V.fold2 g x' ys'=some z'/\RV m z z'
 |[],x,z,ys',x',h,hx,hy=>by
  have:ys'=[]:=by have:=hy.1;simpa using this
  subst this;simp [fold2] at h;subst h;exact ⟨x',rfl,hx⟩
 |y::ys,x,z,ys',x',h,hx,hy=>by
  cases ys' with
  |nil=>have:=hy.1;simp at this
  |cons y' ys'=>
   simp only [fold2,Option.bind_eq_some_iff] at h;obtain ⟨w,hw,h⟩:=h;obtain ⟨w',h1,h2⟩:=hf _ _ _ _ _ hw hx (hy.2 0 y y' rfl rfl);obtain ⟨z',h3,h4⟩:=fold2_sim (ys:=ys) (ys':=ys') hf h h2 ⟨by have:=hy.1;simpa using this,fun i a b k1 k2=>hy.2 (i+1) a b (by simpa using k1) (by simpa using k2)⟩;exact ⟨z',by simp [V.fold2,h1,h3],h4⟩
theorem max_sim {x y z:UV} {x' y':V.AV} (h:maxUV x y=some z) (hx:RV m x x') (hy:RV m y y'):∃ z',V.maxAV x' y'=some z'/\RV m z z':=by
 unfold maxUV at h;split at h
 · simp at h;subst h;cases hx;cases hy;exact ⟨_,rfl,.int _ _⟩
 · simp at h
theorem min_sim {x y z:UV} {x' y':V.AV} (h:minUV x y=some z) (hx:RV m x x') (hy:RV m y y'):∃ z',V.minAV x' y'=some z'/\RV m z z':=by
 unfold minUV at h;split at h
 · simp at h;subst h;cases hx;cases hy;exact ⟨_,rfl,.int _ _⟩
 · simp at h
theorem RH.turn (h:RH m H Hv) {b:Nat} {y:UB} (hb:live H b) (hy:RB m Hv b y):RH m (setBl H b y) Hv:=by
 have k:∀ {b'},live (setBl H b y) b'->live H b':=fun h=>by rcases live_set h with ⟨rfl,_⟩|⟨_,h⟩<;>assumption
 refine ⟨fun b' _ x' hb'=>by simpa [setBl] using h.dom b' x' hb',fun b' y' hy'=> ?_,fun b1 b2 _ _ x' h1 h2 e1 e2=>h.inj' b1 b2 x' (k h1) (k h2) e1 e2,h.wm,h.top,by simpa [setBl] using h.len⟩;rw [uset_get] at hy';split at hy'
 · rename_i e;subst e;split at hy'
   · simp at hy';subst hy';exact hy
   · simp at hy'
 · exact h.blk b' y' hy'
theorem RL.two {x y:UV} {as:List V.AV} (h:RL m [x,y] as):∃ a b,as=[a,b]/\RV m x a/\RV m y b:=by
 match as,h with
 |[a,b],h=>exact ⟨a,b,rfl,h.2 0 x a rfl rfl,h.2 1 y b rfl rfl⟩
 |[],h=>have:=h.1;simp at this
 |[_],h=>have:=h.1;simp at this
 |_::_::_::_,h=>have:=h.1;simp at this
theorem RL.one {x:UV} {as:List V.AV} (h:RL m [x] as):∃ a,as=[a]/\RV m x a:=by
 match as,h with
 |[a],h=>exact ⟨a,rfl,h.2 0 x a rfl rfl⟩
 |[],h=>have:=h.1;simp at this
 |_::_::_,h=>have:=h.1;simp at this
theorem len_sim {t:TypeId} {x:UV} {ts:Array TypeId} {K:UV->UH->Option X} (ht:ts[0]?=some t) (h:builtin A H .len ts [x] K=some out):
   ∃ v,K v H=some out/\∀ (m:Mp) (Hv:V.AH) (x':V.AV),RH m H Hv->RV m x x'->∃ a,V.builtin A Hv .len ts [x']=some (a,Hv)/\RV m v a:=by
 simp only [builtin,ht,Option.bind_some] at h;split at h
 · rename_i hu;refine ⟨_,h,fun m Hv x' hh hx=> ?_⟩;cases hx;exact ⟨_,by simp only [V.builtin,ht,Option.bind_some,hu],.int _ _⟩
 · rename_i hu;refine ⟨_,h,fun m Hv x' hh hx=> ?_⟩;cases hx;exact ⟨_,by simp only [V.builtin,ht,Option.bind_some,hu],.int _ _⟩
 · rename_i hu;refine ⟨_,h,fun m Hv x' hh hx=> ?_⟩;cases hx;exact ⟨_,by simp only [V.builtin,ht,Option.bind_some,hu],.int _ _⟩
 · rename_i c l hu;refine ⟨_,h,fun m Hv x' hh hx=> ?_⟩;cases hx with
   |lit _ _ rows hl=>exact ⟨.int .i64 rows.length,by simp only [V.builtin,ht,Option.bind_some,hu],by rw [hl];exact .int _ _⟩
   |lit0 _ _ ha=>exact ⟨.int .i64 0,by rcases ha with rfl|rfl<;>simp only [V.builtin,ht,Option.bind_some,hu],.int _ _⟩
 · rename_i b hu;have key:∀ {n:Nat},(∀ (m:Mp) (Hv:V.AH),RH m H Hv->m.len b 0=n)->K (.int .i64 n) H=some out->∃ v,K v H=some out/\∀ (m:Mp) (Hv:V.AH) (x':V.AV),RH m H Hv->RV m (.all b) x'->∃ a,V.builtin A Hv .len ts [x']=some (a,Hv)/\RV m v a:=fun {n} hn h=>by
     refine ⟨_,h,fun m Hv x' hh hx=> ?_⟩;have k0:=hn m Hv hh;cases hx with
     |all=>exact ⟨.int .i64 (m.len b 0:Nat),by simp only [V.builtin,ht,Option.bind_some,hu],by rw [k0];exact .int _ _⟩
     |all0 _ _ _ hl ha=>exact ⟨.int .i64 0,by rcases ha with rfl|rfl<;>simp only [V.builtin,ht,Option.bind_some,hu],by rw [<- k0,hl];exact .int _ _⟩
   split at h
   · rename_i c l hb;exact key (fun m Hv hh=>(cells_block (s:=⟨[],[],H,0⟩) (sv:=⟨[],[],Hv⟩) hh hb).1) h
   · rename_i c l hb;exact key (fun m Hv hh=>(deep_block (s:=⟨[],[],H,0⟩) (sv:=⟨[],[],Hv⟩) hh hb).1) h
   · simp at h
 · rename_i b r hu;split at h
   case h_2=>simp at h
   rename_i c l hb;refine ⟨_,h,fun m Hv x' hh hx=> ?_⟩;have k0:=(deep_block (s:=⟨[],[],H,0⟩) (sv:=⟨[],[],Hv⟩) hh hb).2.1 r;cases hx with
   |dsl=>exact ⟨.int .i64 (m.len b (r+1):Nat),by simp only [V.builtin,ht,Option.bind_some,hu],by rw [k0];exact .int _ _⟩
   |dsl0 _ _ _ _ hl ha=>exact ⟨.int .i64 0,by rcases ha with rfl|rfl<;>simp only [V.builtin,ht,Option.bind_some,hu],by rw [<- k0,hl];exact .int _ _⟩
 · rename_i n hu;refine ⟨_,h,fun m Hv x' hh hx=> ?_⟩;cases hx with
   |sl=>exact ⟨_,by simp only [V.builtin,ht,Option.bind_some,hu],.int _ _⟩
   |sl0 _ _ _ ha=>exact ⟨.int .i64 0,by rcases ha with rfl|rfl<;>simp only [V.builtin,ht,Option.bind_some,hu],.int _ _⟩
 · rename_i b hu;split at h
   · rename_i k es hb;refine ⟨_,h,fun m Hv x' hh hx=> ?_⟩;cases hx with
     |mp _ xi hxi=>
      obtain ⟨xi',es',h1,h2,h3⟩:=hh.blk b _ hb;rw [hxi] at h1;simp at h1;subst h1;exact ⟨.int .i64 es'.length,by simp only [V.builtin,ht,Option.bind_some,hu,V.mapOf,h2,Option.map_some],by rw [h3.length];exact .int _ _⟩
   · rename_i k g c l hb;refine ⟨_,h,fun m Hv x' hh hx=> ?_⟩;cases hx with
     |mp _ xi hxi=>
      obtain ⟨xi',es',h1,h2,h3⟩:=hh.blk b _ hb;rw [hxi] at h1;simp at h1;subst h1;exact ⟨.int .i64 es'.length,by simp only [V.builtin,ht,Option.bind_some,hu,V.mapOf,h2,Option.map_some],by rw [h3.length,mapEs,List.length_map];exact .int _ _⟩
   · simp at h
 · rename_i n e hu;refine ⟨_,h,fun m Hv x' hh hx=>⟨.int .i64 n,by simp only [V.builtin,ht,Option.bind_some,hu],.int _ _⟩⟩
 · simp at h
theorem copy_rows {c:CT} {l g:List (CellT c)} {rows ys:List (List V.AV)} {r n:Nat} (hr:l.length<=rows.length) (h:RRows m (width c) l.length (vw c l) rows) (hy:RT m c g ys) (hle:r+n<=l.length) (hn:n<=g.length):
   (cpyL r n g l).length=l.length/\l.length<=(rows.take r++(ys.take n++rows.drop (r+n))).length/\RRows m (width c) (cpyL r n g l).length (vw c (cpyL r n g l)) (rows.take r++(ys.take n++rows.drop (r+n))):=by
 have hfull:RT m c l (rows.take l.length):= .of (by simp;omega) fun i row hi hrr=>by
   rw [List.getElem?_take,if_pos hi] at hrr;obtain ⟨row',j1,j2,j3⟩:=h.row hr hi;rw [j1] at hrr;simp at hrr;subst hrr;exact j2
 have hyl:=hy.1;have hl:(cpyL r n g l).length=l.length:=by simp [cpyL];omega
 have hnew:RT m c (cpyL r n g l) ((rows.take l.length).take r++(ys.take n++(rows.take l.length).drop (r+n))):=(hfull.take r).append ((hy.take n).append (hfull.drop (r+n)));have hlen:l.length<=(rows.take r++(ys.take n++rows.drop (r+n))).length:=by simp;omega
 have heq:∀ i,i<l.length->(rows.take r++(ys.take n++rows.drop (r+n)))[i]?=((rows.take l.length).take r++(ys.take n++(rows.take l.length).drop (r+n)))[i]?:=fun i hi=>by
   rw [List.take_take,Nat.min_eq_left (by omega:r<=l.length)];have e1:(rows.take r).length=r:=by simp;omega
   have e2:(ys.take n).length=n:=by simp;omega
   have aux:∀ C:List (List V.AV),(rows.take r++(ys.take n++C))[i]?=if i<r then (rows.take r)[i]? else if i-r<n then (ys.take n)[i-r]? else C[i-r-n]?:=fun C=>by
     split
     · rename_i h1;exact List.getElem?_append_left (by rw [e1];exact h1)
     · rename_i h1;rw [List.getElem?_append_right (by rw [e1];omega),e1];split
       · rename_i h2;exact List.getElem?_append_left (by rw [e2];exact h2)
       · rename_i h2;rw [List.getElem?_append_right (by rw [e2];omega),e2]
   rw [aux,aux];split
   · rfl
   · split
     · rfl
     · rw [List.getElem?_drop,List.getElem?_drop,List.getElem?_take,if_pos (by omega)]
 refine ⟨hl,hlen,fun i _=>⟨vw_length _ _ _,vw_closed _ _ _⟩,fun i row hi hrr=> ?_,fun i row k y a hi hrr h1 h2=> ?_⟩
 · rw [hl] at hi;rw [heq i hi] at hrr;exact hnew.rows (List.mem_of_getElem? hrr)
 · rw [hl] at hi;rw [heq i hi] at hrr;exact (hnew.get hrr).2 k y a h1 h2
theorem copy_sim {x y:UV} {ts:Array TypeId} {K:UV->UH->Option X} (h:builtin A H .copy ts [x,y] K=some out):
   ∃ v H',K v H'=some out/\H'.wm=H.wm/\∀ (m:Mp) (Hv:V.AH) (x' y':V.AV),RH m H Hv->RV m x x'->RV m y y'->∃ a Hv',V.builtin A Hv .copy ts [x',y']=some (a,Hv')/\HGo m Hv v H' a Hv':=by
 simp only [builtin,Option.bind_eq_some_iff] at h;obtain ⟨t,ht,e,he,z,hz,h⟩:=h;split at h
 case isFalse=>simp at h
 rename_i hns;have main:∀ {b r n:Nat} {c:CT} {l g:List (CellT c)},H.bl[b]?=some (.cells c l)->H.wm<=b->width c=z->rowsOf H c y=some g->∀ (m:Mp) (Hv:V.AH) (x' y':V.AV),RH m H Hv->RV m y y'->
     ((∃ xi,m.ι b 0=some xi/\x'= .sl xi r n/\r+n<=l.length)\/((x'= .nils\/x'= .emp)/\n=0))->
     ∃ a Hv',V.builtin A Hv .copy ts [x',y']=some (a,Hv')/\HGo m Hv (.int .i64 (min g.length n:Nat)) (setBl H b (.cells c (cpyL r (min g.length n) g l))) a Hv':=fun {b r n c l g} hb hw hwc hr m Hv x' y' hh hy hx=>by
   obtain ⟨ys,k1,k2⟩:=rowsOf_sim hr hh hy;have hys:V.rowsOf Hv y'=some ys:=by
     cases y'<;>first|exact k1|skip
     cases hy with
     |str=>simp [notStr] at hns
     |junk=>simp [rowsOf] at hr
     |sl0 _ _ _ ha=>simp at ha
     |all0 _ _ _ _ ha=>simp at ha
     |dsl0 _ _ _ _ _ ha=>simp at ha
     |lit0 _ _ ha=>simp at ha
   obtain ⟨kb,kx⟩:=cells_block (s:=⟨[],[],H,0⟩) (sv:=⟨[],[],Hv⟩) hh hb;have hlive:live H b:=⟨_,hb,rfl⟩;rcases hx with ⟨xi,hxi,rfl,hle⟩|⟨ha,rfl⟩
   · obtain ⟨rows,ty,j2,j3,j4⟩:=kx xi hxi;have j2':Hv.bl[xi]?=some (.cells rows (width c) ty):=j2;have hwx:=hh.wm b xi hxi hw;have hall:ys.all (fun q=>q.length==z)=true:=List.all_eq_true.2 fun q hq=>by simp [k2.rows hq,hwc]
     obtain ⟨c1,c2,c3⟩:=copy_rows (r:=r) (n:=min g.length n) j3 j4 k2 (by omega) (by omega);have hnl:(ys.take (min g.length n)).length=min g.length n:=by simp [k2.1]
     have hset:=hh.set (y:= .cells c (cpyL r (min g.length n) g l)) (yv:= .cells (rows.take r++(ys.take (min g.length n)++rows.drop (r+min g.length n))) (width c) ty) hlive hxi
       ⟨by rw [c1];exact kb,.inr ⟨xi,_,_,hxi,by rw [vset_get,if_pos rfl,if_pos (hh.dom b xi hxi).2],by rw [c1];exact c2,c3⟩⟩
     refine ⟨.int .i64 (min g.length n:Nat),V.setBl Hv xi (.cells (rows.take r++(ys.take (min g.length n)++rows.drop (r+min g.length n))) (width c) ty),?_,m,hset.1,.int _ _,.refl m,hset.2⟩;simp only [V.builtin,ht,he,hz,hys,Option.bind_some,j2'];rw [if_pos ⟨hwx,by omega,hwc,hall⟩,k2.1,hnl]
   · have h0:min g.length 0=0:=by omega
     refine ⟨.int .i64 (min g.length 0:Nat),Hv,?_,m,hh.turn hlive ?_,.int _ _,.refl m,.refl Hv (Nat.le_refl _)⟩
     · rw [h0];rcases ha with rfl|rfl<;>simp only [V.builtin,ht,he,hz,hys,Option.bind_some]<;>rfl
     · have:cpyL r (min g.length 0) g l=l:=by rw [h0];simp [cpyL]
       rw [this];exact hh.blk b _ hb
 split at h
 · rename_i b r n;split at h
   case h_2=>simp at h
   rename_i c l hb;split at h
   case isFalse=>simp at h
   rename_i hc;simp only [Option.bind_eq_some_iff] at h;obtain ⟨g,hr,h⟩:=h;refine ⟨_,_,h,rfl,fun m Hv x' y' hh hx hy=>main hb hc.1 hc.2 hr m Hv x' y' hh hy ?_⟩;obtain ⟨kb,_⟩:=cells_block (s:=⟨[],[],H,0⟩) (sv:=⟨[],[],Hv⟩) hh hb;cases hx with
   |sl _ _ _ xi hxi hle=>exact .inl ⟨xi,hxi,rfl,by omega⟩
   |sl0 _ _ _ ha=>exact .inr ⟨ha,rfl⟩
 · rename_i b;split at h
   case h_2=>simp at h
   rename_i c l hb;split at h
   case isFalse=>simp at h
   rename_i hc;simp only [Option.bind_eq_some_iff] at h;obtain ⟨g,hr,h⟩:=h;refine ⟨_,_,h,rfl,fun m Hv x' y' hh hx hy=>main hb hc.1 hc.2 hr m Hv x' y' hh hy ?_⟩;obtain ⟨kb,_⟩:=cells_block (s:=⟨[],[],H,0⟩) (sv:=⟨[],[],Hv⟩) hh hb;cases hx with
   |all _ xi hxi=>exact .inl ⟨xi,hxi,by rw [kb],by omega⟩
   |all0 _ _ _ hl ha=>exact .inr ⟨ha,by omega⟩
 · simp at h
theorem builtin_sim {bi:Builtin} {args:List UV} {ts:Array TypeId} {K:UV->UH->Option X} (h:builtin A H bi ts args K=some out):
   ∃ v H',K v H'=some out/\H'.wm=H.wm/\∀ (m:Mp) (Hv:V.AH) (args':List V.AV),RH m H Hv->RL m args args'->∃ a Hv',V.builtin A Hv bi ts args'=some (a,Hv')/\HGo m Hv v H' a Hv':=by
 have h0:=h;unfold builtin at h;split at h
 · obtain ⟨v,H',h1,h2,h3⟩:=append_sim h;refine ⟨v,H',h1,h2,fun m Hv args' hh ha=> ?_⟩;obtain ⟨a,b,rfl,ha',hb⟩:=ha.two;exact h3 m Hv a b hh ha' hb
 · simp only [Option.bind_eq_some_iff] at h;obtain ⟨t,ht,_⟩:=h;obtain ⟨v,h1,h2⟩:=len_sim ht h0;refine ⟨v,H,h1,rfl,fun m Hv args' hh ha=> ?_⟩;obtain ⟨a,rfl,ha'⟩:=ha.one;obtain ⟨r,h3,h4⟩:=h2 m Hv a hh ha';exact ⟨r,Hv,h3,.same hh h4⟩
 · simp only [Option.bind_eq_some_iff] at h;obtain ⟨v,hv,h⟩:=h;refine ⟨v,H,h,rfl,fun m Hv args' hh ha=> ?_⟩;cases args' with
   |nil=>have:=ha.1;simp at this
   |cons a as=>
    obtain ⟨z,h1,h2⟩:=fold2_sim (g:=V.maxAV) (fun x y z x' y'=>max_sim) hv (ha.2 0 _ a rfl rfl) (ys':=as) ⟨by have:=ha.1;simpa using this,fun i a b k1 k2=>ha.2 (i+1) a b (by simpa using k1) (by simpa using k2)⟩;exact ⟨z,Hv,by simp [V.builtin,h1],.same hh h2⟩
 · simp only [Option.bind_eq_some_iff] at h;obtain ⟨v,hv,h⟩:=h;refine ⟨v,H,h,rfl,fun m Hv args' hh ha=> ?_⟩;cases args' with
   |nil=>have:=ha.1;simp at this
   |cons a as=>
    obtain ⟨z,h1,h2⟩:=fold2_sim (g:=V.minAV) (fun x y z x' y'=>min_sim) hv (ha.2 0 _ a rfl rfl) (ys':=as) ⟨by have:=ha.1;simpa using this,fun i a b k1 k2=>ha.2 (i+1) a b (by simpa using k1) (by simpa using k2)⟩;exact ⟨z,Hv,by simp [V.builtin,h1],.same hh h2⟩
 · simp only [Option.bind_eq_some_iff] at h;obtain ⟨t,ht,h⟩:=h;obtain ⟨H',h1,h2,h3⟩:=mapDelete_sim h;refine ⟨_,H',h1,h2,fun m Hv args' hh ha=> ?_⟩;obtain ⟨a,b,rfl,ha,hb⟩:=ha.two;obtain ⟨Hv',e1,e2⟩:=h3 m Hv a b hh ha hb;exact ⟨.tup [],Hv',by simp [V.builtin,ht,e1],m,e2.1,.tup [] [] rfl (fun i x a h=>by simp at h),.refl m,e2.2⟩
 · obtain ⟨v,H',h1,h2,h3⟩:=copy_sim h0;refine ⟨v,H',h1,h2,fun m Hv args' hh ha=> ?_⟩;obtain ⟨a,b,rfl,ha',hb⟩:=ha.two;exact h3 m Hv a b hh ha' hb
 · simp at h
theorem RF.push {F:List (List UV)} {Fv:List (List V.AV)} (h:RF m φ F Fv) {row:List UV} {row':List V.AV} (hr:RL m row row'):
   RF m (fun i=>if i=F.length then some Fv.length else φ i) (F++[row]) (Fv++[row'])/\PLe φ (fun i=>if i=F.length then some Fv.length else φ i):=by
 have hle:PLe φ (fun i=>if i=F.length then some Fv.length else φ i):=fun i j hij=>by
   have:=(h.dom i j hij).1;simp only;rw [if_neg (by omega)];exact hij
 refine ⟨⟨fun i j hij=> ?_,fun i r hi=> ?_,fun i i' j h1 h2=> ?_⟩,hle⟩
 · split at hij
   · rename_i e;simp at hij;subst hij;subst e;simp
   · have:=h.dom i j hij;simp;omega
 · rcases Nat.lt_trichotomy i F.length with hlt|heq|hgt
   · rw [List.getElem?_append_left hlt] at hi;obtain ⟨j,r',k1,k2,k3⟩:=h.row i r hi;exact ⟨j,r',by rw [if_neg (by omega)];exact k1,by rw [List.getElem?_append_left (getElem?_lt k2)];exact k2,k3⟩
   · subst heq;simp at hi;subst hi;exact ⟨Fv.length,row',by simp,by simp,hr⟩
   · rw [List.getElem?_eq_none (by simp;omega)] at hi;simp at hi
 · split at h1<;>split at h2
   · rename_i e1 e2;rw [e1,e2]
   · simp at h1;subst h1;have:=(h.dom _ _ h2).2;omega
   · simp at h2;subst h2;have:=(h.dom _ _ h1).2;omega
   · exact h.inj i i' j h1 h2
theorem RS.mono {m':Mp} {φ':Nat->Option Nat} {x:US} {a:V.SV} (h:RS m φ x a) (hm:m.Le m') (hp:PLe φ φ'):RS m' φ' x a:=by
 cases x with
 |v x=>
  cases a with
  |v a=>cases x<;>first|trivial|exact RV.mono hm h
  |loc j c=>cases x<;>first|trivial|exact h.elim
 |loc i c=>
  cases a with
  |v a=>exact h.elim
  |loc j c'=>exact ⟨hp i j h.1,h.2⟩
theorem RE.mono {m':Mp} {φ':Nat->Option Nat} {e:List (Nat×US)} {ev:List (Nat×V.SV)} (h:RE m φ e ev) (hm:m.Le m') (hp:PLe φ φ'):RE m' φ' e ev:=fun t=>(h t).mono hm hp
theorem RE.cons {e:List (Nat×US)} {ev:List (Nat×V.SV)} (h:RE m φ e ev) (d:Nat) {x:US} {a:V.SV} (hx:RS m φ x a):RE m φ ((d,x)::e) ((d,a)::ev):=fun t=>by
 simp only [get,V.get];split
 · exact hx
 · exact h t
theorem boxed_sim {s:St} {t:TypeId} {il:Bool} {cs:List UV} {K:US->St->Option X} (h:boxed s t il cs K=some out):
  ∃ v s',K v s'=some out/\s'.base=s.base/\s'.e=s.e/\s'.H.wm=s.H.wm/\∀ (m:Mp) (φ:Nat->Option Nat) (sv:V.S) (cs':List V.AV),Rst m φ s sv->RL m cs cs'->∃ vv sv' m' φ',V.boxed sv t il cs'=some (vv,sv')/\Rst m' φ' s' sv'/\RS m' φ' v vv/\m.Le m'/\PLe φ φ'/\Go' m.top m sv.H m' sv'.H/\sv'.e=sv.e:=by
 unfold boxed at h;split at h
 case isFalse=>simp at h
 rename_i hc;cases il with
 |true=>
  refine ⟨_,_,h,rfl,rfl,rfl,fun m φ sv cs' hs hcs=> ?_⟩;have hp:=hs.f.push hcs;refine ⟨.loc sv.F.length 0,{ sv with F:=sv.F++[cs'] },m,_,by simp [V.boxed,V.box],⟨hs.h,hp.1,hs.e.mono (.refl m) hp.2,hs.b⟩,⟨by simp,rfl⟩,.refl m,hp.2,.refl _ (Nat.le_refl _),rfl⟩
 |false=>
  simp at hc;by_cases hb:t=TB.bT/\isBld cs=true
  · unfold box at h;simp only [if_pos hb,Bool.false_eq_true,if_false] at h;refine ⟨_,_,h,rfl,rfl,rfl,fun m φ sv cs' hs hcs=> ?_⟩;obtain ⟨rfl,hb⟩:=hb;have hcs2:cs=[.nilp,.nils]:=by
      unfold isBld at hb;split at hb
      · rfl
      · simp at hb
    subst hcs2;obtain ⟨a1,l1,rfl,q1,q2⟩:=hcs.cons';obtain ⟨a2,l2,rfl,q3,q4⟩:=q2.cons';have hl2:l2=[]:=List.length_eq_zero_iff.1 q4.1;subst hl2;cases q1;cases q3;have hp:=hs.h.push (Hv':=sv.H) (y:= .byt .empty) (x:=none) (n:=0) (fun _ _ _ _ _=>rfl) (Nat.le_refl _) rfl (fun xv e=>by simp at e) ⟨by rw [add_len];rfl,.inl ⟨rfl,add_ι _ _ _ _⟩⟩;have hlen1:(push s.H (.byt .empty)).bl.length=s.H.bl.length+1:=by simp [push]
    have hnew:=hp.1.new (y:= .bld (.all s.H.bl.length)) (yv:= .cells [[.nilp,.nils]] 2 (some (TB.bT,2))) (n:=0)
      ⟨_,.nilp,.nils,add_ι _ _ _ _,by rw [vpush_get,if_neg (by omega),if_pos rfl],.inl rfl,.all0 _ _ (by rw [hlen1];simp only [Mp.add,Mp.addF];omega) (by rw [hlen1,add_len_ne _ _ _ (by omega),add_len]) (.inl rfl),by simp⟩
    have g1:Go' m.top m sv.H (m.add s.H.bl.length none 0) sv.H:=⟨add_old hs.h _ _,fun _ _ _=>rfl,fun b _ xv hb=>by
      by_cases e:b=s.H.bl.length
      · subst e;obtain ⟨_,e⟩:=add_ιs hb;simp at e
      · rw [add_ι_ne _ _ _ e] at hb;exact .inl ⟨b,_,hb⟩,Nat.le_refl _,rfl⟩
    have hle:m.Le ((m.add s.H.bl.length none 0).add (push s.H (.byt .empty)).bl.length (some sv.H.bl.length) 0):=hp.2.trans hnew.2.1;refine ⟨.v (.ptr sv.H.bl.length 0 0),{ sv with H:=V.push sv.H (.cells [[.nilp,.nils]] 2 (some (TB.bT,2))) },_,φ,?_,⟨hnew.1,hs.f.mono hle,hs.e.mono hle fun _ _ h=>h,?_⟩,?_,hle,fun _ _ h=>h,g1.trans hnew.2.2 (by simp only [Mp.add,Mp.addF];have:=hs.h.len;omega),rfl⟩
    · simp [V.boxed,V.box]
    · have:=hs.b;simp [push];omega
    · rw [<- hlen1];exact RV.ptr _ 0 _ (add_ι _ _ _ _)
  unfold box at h;simp only [if_neg hb,Bool.false_eq_true,if_false] at h;refine ⟨_,_,h,rfl,rfl,rfl,fun m φ sv cs' hs hcs=> ?_⟩;have hnew:=hs.h.new (y:= .opn cs) (yv:= .cells [cs'] cs'.length (some (t,2))) (n:=0) ⟨_,cs',_,add_ι _ _ _ _,by rw [vpush_get,if_neg (by omega),if_pos rfl],hcs.mono (add_le hs.h _ _)⟩;refine ⟨.v (.ptr sv.H.bl.length 0 0),{ sv with H:=V.push sv.H (.cells [cs'] cs'.length (some (t,2))) },_,φ,?_,⟨hnew.1,hs.f.mono hnew.2.1,hs.e.mono hnew.2.1 fun _ _ h=>h,?_⟩,RV.ptr _ 0 _ (add_ι _ _ _ _),hnew.2.1,fun _ _ h=>h,hnew.2.2,rfl⟩
  · simp only [V.boxed,V.box];have:decide (0<cs'.length)=true:=by simp [hcs.1,hc]
    simp [this]
  · have:=hs.b;simp [push];omega
end
end Go.U
namespace Go.U
open Go
variable [TB:Tbl]
section
variable {A:V.Par} {glob:Nat->Option (List UV)} {m:Mp}
theorem frList_self {fz:V.AH->V.AV->Option (V.AV×V.AH)} {H:V.AH}:∀ {l:List V.AV},(∀ a∈l,fz H a=some (a,H))->V.frList fz H l=some (l,H)
 |[],_=>rfl
 |a::l,h=>by
  simp only [V.frList,h a (List.mem_cons_self ..),Option.bind_some,frList_self (l:=l) fun b hb=>h b (List.mem_cons_of_mem _ hb)]
theorem frRows_self {fz:V.AH->V.AV->Option (V.AV×V.AH)} {H:V.AH}:∀ {l:List (List V.AV)},(∀ row∈l,∀ a∈row,fz H a=some (a,H))->V.frRows fz H l=some (l,H)
 |[],_=>rfl
 |a::l,h=>by
  simp only [V.frRows,frList_self (h a (List.mem_cons_self ..)),Option.bind_some,frRows_self (l:=l) fun b hb=>h b (List.mem_cons_of_mem _ hb)]
theorem RL.mem {xs:List UV} {as:List V.AV} (h:RL m xs as) {a:V.AV} (ha:a∈as):∃ x∈xs,RV m x a:=by
 obtain ⟨i,hi⟩:=List.getElem?_of_mem ha;have hx:=List.getElem?_eq_getElem (l:=xs) (i:=i) (by rw [<- h.1];exact getElem?_lt hi);exact ⟨_,List.mem_of_getElem? hx,h.2 i _ a hx hi⟩
theorem freeze_self:∀ (d:Nat) {x:UV} {a:V.AV},closedR d x=true->RV m x a->∀ Hv,V.freeze d Hv a=some (a,Hv)
 |0,x,a,h,hx,Hv=>by simp [closedR] at h
 |d+1,x,a,h,hx,Hv=>by
  cases hx with
  |junk=>simp [closedR,closed] at h
  |sl=>simp [closedR,closed] at h
  |sl0=>simp [closedR,closed] at h
  |all=>simp [closedR,closed] at h
  |all0=>simp [closedR,closed] at h
  |dsl=>simp [closedR,closed] at h
  |dsl0=>simp [closedR,closed] at h
  |dpl=>simp [closedR,closed] at h
  |lit0 _ _ ha=>rcases ha with rfl|rfl<;>rfl
  |agg cs as hl hr=>
   have:V.frList (V.freeze d) Hv as=some (as,Hv):=frList_self fun a ha=>by
    obtain ⟨x,hx,hv⟩:=RL.mem (m:=m) ⟨hl,hr⟩ ha;exact freeze_self d (List.all_eq_true.1 (by simpa [closedR] using h) x hx) hv Hv
   simp only [V.freeze,this,Option.bind_some]
  |tup cs as hl hr=>
   have:V.frList (V.freeze d) Hv as=some (as,Hv):=frList_self fun a ha=>by
    obtain ⟨x,hx,hv⟩:=RL.mem (m:=m) ⟨hl,hr⟩ ha;exact freeze_self d (List.all_eq_true.1 (by simpa [closedR] using h) x hx) hv Hv
   simp only [V.freeze,this,Option.bind_some]
  |_=>rfl
def Fz (d:Nat) (x:UV) (H:UH) (x':UV) (H':UH):Prop:=H'.wm=H.wm/\∀ (m:Mp) (Hv:V.AH) (a:V.AV),RH m H Hv->RV m x a->∃ a' Hv',V.freeze d Hv a=some (a',Hv')/\HGo m Hv x' H' a' Hv'
theorem Fz.same {d:Nat} {x:UV} {H:UH} (h:closedR d x=true):Fz d x H x H:=⟨rfl,fun m Hv a hh hx=>⟨a,Hv,freeze_self d h hx Hv,.same hh hx⟩⟩
theorem lit_fz {H:UH} {d b:Nat} {c:CT} {x:UV} {l:List (CellT c)} (hd:0<d) (hw:H.wm<=b) (hr:rowsOf H c x=some l) (hx:(∃ r n,x= .sl b r n)\/x= .all b):Fz (d+1) x H (.lit c l) (setBl H b .dead):=by
 refine ⟨rfl,fun m Hv a hh hxa=> ?_⟩;have hb:∃ c' l',H.bl[b]?=some (.cells c' l')/\c'=c:=by
   rcases hx with ⟨r,n,rfl⟩|rfl
   all_goals
    simp only [rowsOf] at hr;split at hr
    case h_2=>simp at hr
    rename_i c' l' hb;split at hr
    case isFalse=>simp at hr
    rename_i hc;exact ⟨c',l',hb,hc⟩
 obtain ⟨c',l',hb,rfl⟩:=hb;have hk:=hh.kill b;have hlive:live H b:=⟨_,hb,rfl⟩;obtain ⟨rows,k1,k2⟩:=rowsOf_sim hr hh hxa;obtain ⟨kb,kx⟩:=cells_block (s:=⟨[],[],H,0⟩) (sv:=⟨[],[],Hv⟩) hh hb;have nilc:(a= .nils\/a= .emp)->l=[]->∃ a' Hv',V.freeze (d+1) Hv a=some (a',Hv')/\HGo m Hv (.lit c' l) (setBl H b .dead) a' Hv':=fun ha hl=>by
   subst hl;exact ⟨a,Hv,by rcases ha with rfl|rfl<;>rfl,m,hk,.lit0 _ _ ha,.refl m,.refl Hv (Nat.le_refl _)⟩
 have main:∀ {xi r n:Nat},m.ι b 0=some xi->a= .sl xi r n->∃ a' Hv',V.freeze (d+1) Hv a=some (a',Hv')/\HGo m Hv (.lit c' l) (setBl H b .dead) a' Hv':=fun {xi r n} hxi ha=>by
   subst ha;obtain ⟨rws,ty,j2,j3,j4⟩:=kx xi hxi;have j2':Hv.bl[xi]?=some (.cells rws (width c') ty):=j2;have hwx:=hh.wm b xi hxi hw;have hnl:∀ b' s',live (setBl H b .dead) b'->m.ι b' s'≠some xi:=fun b' s' hl e=>by
    rcases live_set hl with ⟨_,h'⟩|⟨hne,hl'⟩
    · simp [liveB] at h'
    · exact hne (hh.inj b' b xi hl' hlive e hxi)
   have hoth:=hk.other hnl .dead;have k1':V.rowsOf Hv (.sl xi r n)=some rows:=k1;refine ⟨.lit (width c') rows,V.setBl Hv xi .dead,?_,m,hoth,k2.lit,.refl m,⟨.refl (Nat.le_refl _),fun x hx' hn=>by rw [vset_get,if_neg (fun e=>hn b 0 (by rw [<- e];exact hxi))],fun b' s' x hb'=> .inl ⟨b',s',hb'⟩,by simp [V.setBl],rfl⟩⟩;have hfr:V.frRows (V.freeze d) (V.setBl Hv xi .dead) rows=some (rows,V.setBl Hv xi .dead):=frRows_self fun row hrow a ha=>by
    obtain ⟨i,hi⟩:=List.getElem?_of_mem hrow;obtain ⟨x,hxm,hxv⟩:=(k2.get hi).mem ha;obtain ⟨d',rfl⟩:∃ d',d=d'+1:=⟨d-1,by omega⟩;exact freeze_self _ (closed_R (vw_closed _ _ _ x hxm)) hxv _
   simp only [V.freeze,k1',Option.bind_some,V.szOf,j2',hwx,if_true,hfr]
 rcases hx with ⟨r,n,rfl⟩|rfl
 · simp only [rowsOf,hb] at hr;simp at hr;subst hr;cases hxa with
   |sl _ _ _ xi hxi hle=>exact main hxi rfl
   |sl0 _ _ _ ha=>exact nilc ha (by rw [cutL_eq];simp)
 · simp only [rowsOf,hb] at hr;simp at hr;subst hr;cases hxa with
   |all _ xi hxi=>exact main hxi rfl
   |all0 _ _ _ hl ha=>exact nilc ha (List.length_eq_zero_iff.1 (by have:m.len b 0=l'.length:=kb;omega))
theorem frDeep {m:Mp} {c:CT} {d:Nat}:∀ {L:List (List (CellT c))} {rows:List (List V.AV)} {Hc:V.AH} {F:Nat->Option Nat},rows.length=L.length->(∀ r,r<L.length->∃ a,rows[r]?=some [a]/\RowIs m Hc (F r) c (L.getD r []) a)->
  (∀ r r' y,F r=some y->F r'=some y->r=r')->(∀ r y,F r=some y->Hc.wm<=y)->∃ rows' Hc',V.frRows (V.freeze (d+2)) Hc rows=some (rows',Hc')/\rows'.length=L.length/\(∀ r row',r<L.length->rows'[r]?=some row'->RL m [.lit c (L.getD r [])] row')/\Hc'.bl.length=Hc.bl.length/\Hc'.wm=Hc.wm/\∀ x,(∀ r,F r≠some x)->Hc'.bl[x]?=Hc.bl[x]?
 |[],rows,Hc,F,hl,_,_,_=>by
  have:rows=[]:=List.length_eq_zero_iff.1 hl;subst this;exact ⟨[],Hc,rfl,rfl,fun r row' hr=>by simp at hr,rfl,rfl,fun _ _=>rfl⟩
 |l0::L,[],Hc,F,hl,_,_,_=>by simp at hl
 |l0::L,row::rows,Hc,F,hl,hr,hi,hw=>by
  obtain ⟨a,h1,h2⟩:=hr 0 (by simp);simp at h1;subst h1;have h2:RowIs m Hc (F 0) c l0 a:=h2;have step:∃ a' H1,V.freeze (d+2) Hc a=some (a',H1)/\RV m (.lit c l0) a'/\H1.bl.length=Hc.bl.length/\H1.wm=Hc.wm/\∀ x,F 0≠some x->H1.bl[x]?=Hc.bl[x]?:=by
   rcases h2 with ⟨k1,k2,k3⟩|⟨y,ry,ty,k1,rfl,k3,k4,k5⟩
   · have:l0=[]:=List.length_eq_zero_iff.1 k1;subst this;exact ⟨a,Hc,by rcases k3 with rfl|rfl<;>rfl,.lit0 _ _ k3,rfl,rfl,fun _ _=>rfl⟩
   · have hrt:RT m c l0 (ry.take l0.length):= .of (by simp;omega) fun i row hi hr=>by
      rw [List.getElem?_take,if_pos hi] at hr;obtain ⟨row',j1,j2,j3⟩:=k5.row k4 hi;rw [j1] at hr;simp at hr;subst hr;exact j2
     have hro:V.rowsOf Hc (.sl y 0 l0.length)=some (ry.take l0.length):=by
      simp only [V.rowsOf,k3];rw [if_pos (by omega)];simp
     have hfr:V.frRows (V.freeze (d+1)) (V.setBl Hc y .dead) (ry.take l0.length)=some (ry.take l0.length,V.setBl Hc y .dead):=frRows_self fun row hrow a ha=>by
      obtain ⟨i,hi⟩:=List.getElem?_of_mem hrow;obtain ⟨x,hxm,hxv⟩:=(hrt.get hi).mem ha;exact freeze_self _ (closed_R (vw_closed _ _ _ x hxm)) hxv _
     refine ⟨.lit (width c) (ry.take l0.length),V.setBl Hc y .dead,?_,hrt.lit,by simp [V.setBl],rfl,fun x hx=>by rw [vset_get,if_neg];rintro rfl;exact hx k1⟩;simp only [V.freeze,hro,Option.bind_some,V.szOf,k3,hw 0 y k1,if_true,hfr]
  obtain ⟨a',H1,s1,s2,s3,s4,s5⟩:=step;obtain ⟨rows',H2,t1,t2,t3,t4,t5,t6⟩:=frDeep (L:=L) (rows:=rows) (Hc:=H1) (F:=fun r=>F (r+1)) (d:=d) (by simpa using hl) (fun r hr'=>by
     obtain ⟨a,k1,k2⟩:=hr (r+1) (by simp;omega);refine ⟨a,by simpa using k1,?_⟩;have k2:RowIs m Hc (F (r+1)) c (L.getD r []) a:=by simpa using k2
     exact k2.keep (fun _ _ _ h=>h) fun x hx=>s5 x fun e=>by have:=hi _ _ x e hx;omega)
   (fun r r' y e e'=>by have:=hi _ _ y e e';omega) (fun r y e=>by rw [s4];exact hw _ y e)
  refine ⟨[a']::rows',H2,by simp only [V.frRows,V.frList,s1,Option.bind_some,t1],by simp [t2],fun r row' hr' hrow=> ?_,by rw [t4,s3],by rw [t5,s4],fun x hx=>by rw [t6 x fun r=>hx (r+1),s5 x (hx 0)]⟩;cases r with
  |zero=>simp at hrow;subst hrow;exact .cons s2 .nil
  |succ r=>have:=t3 r row' (by simpa using hr') (by simpa using hrow);simpa using this
theorem frz_deep {H:UH} {d b:Nat} {c:CT} {l:List (List (CellT c))} (hd:1<d) (hw:H.wm<=b) (hb:H.bl[b]?=some (.deep c l)):Fz (d+1) (.all b) H (.lit (.slice c) l) (setBl H b .dead):=by
 refine ⟨rfl,fun m Hv a hh hxa=> ?_⟩;have hk:=hh.kill b;have hlive:live H b:=⟨_,hb,rfl⟩;obtain ⟨k0,k1,kx⟩:=deep_block (s:=⟨[],[],H,0⟩) (sv:=⟨[],[],Hv⟩) hh hb;obtain ⟨d',rfl⟩:∃ d',d=d'+2:=⟨d-2,by omega⟩;cases hxa with
 |all0 _ _ _ hl ha=>
  have:l=[]:=List.length_eq_zero_iff.1 (by rw [<- k0];exact hl);subst this;exact ⟨a,Hv,by rcases ha with rfl|rfl<;>rfl,m,hk,.lit0 _ _ ha,.refl m,.refl Hv (Nat.le_refl _)⟩
 |all _ xi hxi=>
  obtain ⟨rws,ty,j2,j3,j4⟩:=kx xi hxi;have j2':Hv.bl[xi]?=some (.cells rws 1 ty):=j2;have hwx:=hh.wm b xi hxi hw;have hro:V.rowsOf Hv (.sl xi 0 (m.len b 0))=some (rws.take l.length):=by
   simp only [V.rowsOf,j2'];rw [k0,if_pos (by omega)];simp
  have hsx:∀ {r y:Nat},m.ι b (r+1)=some y->xi≠y:=fun {r y} e e'=>by subst e';have:=(hh.inj' b b xi hlive hlive hxi e).2;omega
  obtain ⟨rows',H2,t1,t2,t3,t4,t5,t6⟩:=frDeep (m:=m) (L:=l) (rows:=rws.take l.length) (Hc:=V.setBl Hv xi .dead) (F:=fun r=>m.ι b (r+1)) (d:=d') (by simp;omega) (fun r hr=>by
     obtain ⟨a,q1,q2⟩:=j4 r hr;exact ⟨a,by rw [List.getElem?_take,if_pos hr];exact q1,q2.keep (fun _ _ _ h=>h) fun x hx=>by rw [vset_get,if_neg (hsx hx)]⟩)
   (fun r r' y e e'=>by have:=(hh.inj' b b y hlive hlive e e').2;omega) (fun r y e=>hh.wm b y e hw)
  have hrt:RT m (.slice c) l rows':= .of t2 fun i row hi hr=>t3 i row hi hr
  have hst:∀ x,(∀ s,m.ι b s≠some x)->H2.bl[x]?=Hv.bl[x]?:=fun x hx=>by
   rw [t6 x fun r=>hx (r+1),vset_get,if_neg (fun e=>hx 0 (by rw [<- e];exact hxi))]
  have hl2:H2.bl.length=Hv.bl.length:=by rw [t4];simp [V.setBl]
  have hrh:RH m (setBl H b .dead) H2:=hk.alike (fun b' s x hl' e=>hst x fun s' e'=>by
   rcases live_set hl' with ⟨_,h'⟩|⟨hne,hl''⟩
   · simp [liveB] at h'
   · exact hne (hh.inj b' b x hl'' hlive e e')) hl2 t5
  refine ⟨.lit 1 rows',H2,?_,m,hrh,hrt.lit,.refl m,⟨.refl (Nat.le_refl _),fun x hx' hn=>hst x (hn b),fun b' s' x hb'=> .inl ⟨b',s',hb'⟩,by rw [hl2];exact Nat.le_refl _,t5⟩⟩;simp only [V.freeze,hro,Option.bind_some,V.szOf,j2',hwx,if_true,t1]
end
section
variable {φ:Nat->Option Nat} {Hv:V.AH}
def Mo (m:Mp) (H H':UH) (Hv:V.AH) (P:Mp->Prop):Prop:=H'.wm=H.wm/\∃ m',RH m' H' Hv/\m.Le m'/\Go' m.top m Hv m' Hv/\P m'
theorem Mo.same {m:Mp} {H:UH} {P:Mp->Prop} (hh:RH m H Hv) (hp:P m):Mo m H H Hv P:=⟨rfl,m,hh,.refl m,.refl Hv (Nat.le_refl _),hp⟩
theorem Mo.trans {m:Mp} {H H1 H2:UH} {P:Mp->Prop} {Q:Mp->Prop} (h:Mo m H H1 Hv P) (h':∀ m1,RH m1 H1 Hv->m.Le m1->P m1->Mo m1 H1 H2 Hv Q):Mo m H H2 Hv Q:=by
 obtain ⟨w1,m1,h1,h2,h3,h4⟩:=h;obtain ⟨w2,m2,k1,k2,k3,k4⟩:=h' m1 h1 h2 h4;exact ⟨w2.trans w1,m2,k1,h2.trans k2,h3.trans k3 h3.old.1,k4⟩
theorem Mo.imp {m:Mp} {H H1:UH} {P:Mp->Prop} {Q:Mp->Prop} (h:Mo m H H1 Hv P) (h':∀ m1,m.Le m1->P m1->Q m1):Mo m H H1 Hv Q:=by
 obtain ⟨w1,m1,h1,h2,h3,h4⟩:=h;exact ⟨w1,m1,h1,h2,h3,h' m1 h2 h4⟩
theorem mold_own {m:Mp} {H:UH} (hh:RH m H Hv) (c:CT):Mo m H (push H (.cells c [])) Hv fun m'=>∀ a,a= .nils\/a= .emp->RV m' (.all H.bl.length) a:=by
 have hp:=hh.push (Hv':=Hv) (y:= .cells c []) (x:=none) (n:=0) (fun _ _ _ _ _=>rfl) (Nat.le_refl _) rfl (fun xv e=>by simp at e) ⟨add_len _ _ _ _,.inl ⟨rfl,add_ι _ _ _ _⟩⟩;refine ⟨rfl,_,hp.1,hp.2,⟨add_old hh _ _,fun _ _ _=>rfl,fun b _ xv hb=> ?_,Nat.le_refl _,rfl⟩,fun a h=> .all0 _ _ (by simp [Mp.add,Mp.addF]) (add_len _ _ _ _) h⟩;by_cases e:b=H.bl.length
 · subst e;obtain ⟨_,e⟩:=add_ιs hb;simp at e
 · rw [add_ι_ne _ _ _ e] at hb;exact .inl ⟨b,_,hb⟩
end
section
variable {A:V.Par} {glob:Nat->Option (List UV)} {m:Mp}
theorem frzLit_fz {v:UV} {H:UH} {v':UV} {H':UH} (h:frzLit v H=some (v',H')):Fz 8 v H v' H':=by
 unfold frzLit at h;split at h
 case h_2=>simp at h
 split at h
 case isFalse=>simp at h
 rename_i hw;split at h
 · rename_i c l hb;simp at h;obtain ⟨rfl,rfl⟩:=h;exact lit_fz (by omega) hw (by simp [rowsOf,hb]) (.inr rfl)
 · rename_i c l hb;simp at h;obtain ⟨rfl,rfl⟩:=h;exact frz_deep (by omega) hw hb
 · simp at h
theorem slice0_sim {t:TypeId} {x v:UV} {H H':UH} (h:slice0 A H t x=some (v,H')):H'.wm=H.wm/\∀ (m:Mp) (Hv:V.AH) (x':V.AV),RH m H Hv->RV m x x'->∃ a Hv',V.slice0 A t x'=some a/\Hv'=Hv/\HGo m Hv v H' a Hv':=by
 unfold slice0 at h;split at h
 case h_2=>simp at h
 rename_i e hu;split at h
 case isFalse=>simp at h
 rename_i hz;obtain ⟨n,hn⟩:=Option.isSome_iff_exists.1 hz;have go:∀ {m:Mp} {Hv:V.AH} (c:CT) {x':V.AV},RH m H Hv->(∃ a,V.slice0 A t x'=some a/\(a= .nils\/a= .emp))->∃ a Hv',V.slice0 A t x'=some a/\Hv'=Hv/\HGo m Hv (.all H.bl.length) (push H (.cells c [])) a Hv':=fun {m Hv} c {x'} hh ⟨a,h1,h2⟩=>by
   obtain ⟨_,m',k1,k2,k3,k4⟩:=mold_own hh c;exact ⟨a,Hv,h1,rfl,m',k1,k4 a h2,k2,k3⟩
 have sl:∀ x':V.AV,(x'= .nils\/x'= .emp\/(∃ s r,x'= .lit s r)\/∃ b r k,x'= .sl b r k)->∃ a,V.slice0 A t x'=some a/\(a= .nils\/a= .emp):=fun x' hx=>by
   rcases hx with rfl|rfl|⟨_,_,rfl⟩|⟨_,_,_,rfl⟩<;>simp [V.slice0,hu,hn]
 split at h
 · simp at h;obtain ⟨rfl,rfl⟩:=h;exact ⟨rfl,fun m Hv x' hh hx=>by cases hx;exact ⟨.nils,Hv,by simp [V.slice0,hu,hn],rfl,.same hh .nils⟩⟩
 · simp at h;obtain ⟨rfl,rfl⟩:=h;exact ⟨rfl,fun m Hv x' hh hx=>by cases hx;exact ⟨.emp,Hv,by simp [V.slice0,hu,hn],rfl,.same hh .emp⟩⟩
 · simp at h;obtain ⟨rfl,rfl⟩:=h;refine ⟨rfl,fun m Hv x' hh hx=>go _ hh (sl _ ?_)⟩;cases hx with
   |lit=>exact .inr (.inr (.inl ⟨_,_,rfl⟩))
   |lit0 _ _ ha=>rcases ha with rfl|rfl<;>simp
 · split at h
   · simp at h;obtain ⟨rfl,rfl⟩:=h;refine ⟨rfl,fun m Hv x' hh hx=>go _ hh (sl _ ?_)⟩;cases hx with
     |sl=>exact .inr (.inr (.inr ⟨_,_,_,rfl⟩))
     |sl0 _ _ _ ha=>rcases ha with rfl|rfl<;>simp
   · simp at h
 · split at h
   · simp at h;obtain ⟨rfl,rfl⟩:=h;refine ⟨rfl,fun m Hv x' hh hx=>go _ hh (sl _ ?_)⟩;cases hx with
     |all=>exact .inr (.inr (.inr ⟨_,_,_,rfl⟩))
     |all0 _ _ _ _ ha=>rcases ha with rfl|rfl<;>simp
   · simp at h
 · simp at h
theorem is0_sim {m:Mp} {x:UV} {a:V.AV} (h:is0 x=true) (hx:RV m x a):V.is0 a=true:=by
 unfold is0 at h;split at h
 · cases hx;simpa [V.is0] using h
 · simp at h
end
end Go.U
namespace Go.U
open Go
variable [TB:Tbl]
def SimCall (C:V.Callee) (call:(X:Type)->UV->List UV->UH->(UV->UH->Option X)->Option X):Prop:=
 ∀ (X:Type) (fv:UV) (args:List UV) (H:UH) (K:UV->UH->Option X) (out:X),call X fv args H K=some out->
  ∃ r H',K r H'=some out/\H'.wm=H.wm/\∀ (m:Mp) (Hv:V.AH) (fv':V.AV) (args':List V.AV),RH m H Hv->RV m fv fv'->RL m args args'->∃ r' Hv',C fv' args' Hv=some (r',Hv')/\HGo m Hv r H' r' Hv'
def OpTo (A:V.Par) (C:V.Callee) (locs:List Nat) (s:St) (o:Oper) (v:US) (s':St):Prop:=
 s'.base=s.base/\s'.e=s.e/\s'.H.wm=s.H.wm/\∀ (m:Mp) (φ:Nat->Option Nat) (sv:V.S),Rst m φ s sv->∃ vv sv' m' φ',V.op A C locs sv o=some (vv,sv')/\Rst m' φ' s' sv'/\RS m' φ' v vv/\m.Le m'/\PLe φ φ'/\Go' m.top m sv.H m' sv'.H/\sv'.e=sv.e
section
variable {A:V.Par} {C:V.Callee} {glob:Nat->Option (List UV)} {locs:List Nat} {s:St} {o:Oper} {X:Type} {out:X}
theorem PLe.refl (φ:Nat->Option Nat):PLe φ φ:=fun _ _ h=>h
theorem PLe.trans {φ φ' φ'':Nat->Option Nat} (h:PLe φ φ') (h':PLe φ' φ''):PLe φ φ'':=fun i j hij=>h' i j (h i j hij)
theorem OpTo.slot {v:US} (h:∀ (m:Mp) (φ:Nat->Option Nat) (sv:V.S),Rst m φ s sv->∃ vv,V.op A C locs sv o=some (vv,sv)/\RS m φ v vv):OpTo A C locs s o v s:=
 ⟨rfl,rfl,rfl,fun m φ sv hs=>let ⟨vv,h1,h2⟩:=h m φ sv hs;⟨vv,sv,m,φ,h1,hs,h2,.refl m,.refl φ,.refl _ (Nat.le_refl _),rfl⟩⟩
theorem OpTo.pure {v:UV} (h:∀ (m:Mp) (φ:Nat->Option Nat) (sv:V.S),Rst m φ s sv->∃ a,V.op A C locs sv o=some (.v a,sv)/\RV m v a):OpTo A C locs s o (.v v) s:=
 .slot fun m φ sv hs=>let ⟨a,h1,h2⟩:=h m φ sv hs;⟨.v a,h1,h2.rs⟩
theorem OpTo.heap {v:UV} {H':UH} (hw:H'.wm=s.H.wm) (h:∀ (m:Mp) (φ:Nat->Option Nat) (sv:V.S),Rst m φ s sv->∃ a Hv',V.op A C locs sv o=some (.v a,{ sv with H:=Hv' })/\HGo m sv.H v H' a Hv'):OpTo A C locs s o (.v v) { s with H:=H' }:=
 ⟨rfl,rfl,hw,fun m φ sv hs=>by
  obtain ⟨a,Hv',h1,m',h2,h3,h4,h5⟩:=h m φ sv hs;refine ⟨.v a,_,m',φ,h1,⟨h2,hs.f.mono h4,hs.e.mono h4 (.refl φ),?_⟩,h3.rs,h4,.refl φ,h5,rfl⟩;have:=h5.old.1;have:=h2.len;have:=hs.h.len;have:=hs.b;show s.base<=H'.bl.length;omega⟩
theorem toInt_sim {m:Mp} {x:UV} {a:V.AV} {n:Int} (h:toInt x=some n) (hx:RV m x a):V.toInt a=some n:=by
 unfold toInt at h;split at h
 · cases hx;simpa [V.toInt] using h
 · simp at h
theorem optInt_sim (hg:GlobOK A glob) {m:Mp} {φ:Nat->Option Nat} {e:List (Nat×US)} {ev:List (Nat×V.SV)} {x:Option Operand} {n:Option Int} (h:optInt glob e x=some n) (he:RE m φ e ev):V.optInt A ev x=some n:=by
 cases x with
 |none=>simpa [optInt,V.optInt] using h
 |some x=>
  simp only [optInt,Option.bind_eq_some_iff] at h;obtain ⟨a,ha,h⟩:=h;obtain ⟨a',h1,h2⟩:=val_sim hg ha he;simp only [Option.map_eq_some_iff] at h;obtain ⟨i,hi,rfl⟩:=h;simp [V.optInt,h1,toInt_sim hi h2]
theorem op_sim (hg:GlobOK A glob) {env:Env} (hc:SimCall C env.call) {K:US->St->Option X} (h:op A glob env locs s o K=some out):∃ v s',K v s'=some out/\OpTo A C locs s o v s':=by
 unfold op at h;split at h
 · rename_i x ho;simp only [Option.bind_eq_some_iff] at h;obtain ⟨v,hv,h⟩:=h;refine ⟨v,s,h,.slot fun m φ sv hs=> ?_⟩;obtain ⟨vv,h1,h2⟩:=operand_sim hg hv hs.e;exact ⟨vv,by simp [V.op,ho,h1],h2⟩
 · rename_i x ho;simp only [Option.bind_eq_some_iff] at h;obtain ⟨v,hv,h⟩:=h;refine ⟨v,s,h,.slot fun m φ sv hs=> ?_⟩;obtain ⟨vv,h1,h2⟩:=operand_sim hg hv hs.e;exact ⟨vv,by simp [V.op,ho,h1],h2⟩
 · rename_i c a b ho;simp only [Option.bind_eq_some_iff] at h;obtain ⟨cv,hcv,h⟩:=h;split at h
   case h_2=>simp at h
   rename_i p;cases p with
   |true=>
     simp only [cond_true,Option.bind_eq_some_iff] at h;obtain ⟨v,hv,h⟩:=h;refine ⟨v,s,h,.slot fun m φ sv hs=> ?_⟩;obtain ⟨c',h1,h2⟩:=val_sim hg hcv hs.e;cases h2;obtain ⟨vv,h3,h4⟩:=operand_sim hg hv hs.e;exact ⟨vv,by simp [V.op,ho,h1,h3],h4⟩
   |false=>
     simp only [cond_false,Option.bind_eq_some_iff] at h;obtain ⟨v,hv,h⟩:=h;refine ⟨v,s,h,.slot fun m φ sv hs=> ?_⟩;obtain ⟨c',h1,h2⟩:=val_sim hg hcv hs.e;cases h2;obtain ⟨vv,h3,h4⟩:=operand_sim hg hv hs.e;exact ⟨vv,by simp [V.op,ho,h1,h3],h4⟩
 · rename_i t ho;simp only [Option.bind_eq_some_iff] at h;obtain ⟨z,hz,h⟩:=h;obtain ⟨z',q1,q2,_⟩:=zero_sim hz;obtain ⟨v,s',h1,h2,h3,h4,h5⟩:=boxed_sim h;refine ⟨v,s',h1,h2,h3,h4,fun m φ sv hs=> ?_⟩;obtain ⟨vv,sv',m',φ',k1,k2⟩:=h5 m φ sv z' hs (q2 m);exact ⟨vv,sv',m',φ',by simp only [V.op,ho,q1,Option.bind_some];exact k1,k2⟩
 · rename_i x0 x ho;simp only [Option.bind_eq_some_iff] at h;obtain ⟨a,ha,cs,hcs,h⟩:=h;obtain ⟨v,s',h1,h2,h3,h4,h5⟩:=boxed_sim h;refine ⟨v,s',h1,h2,h3,h4,fun m φ sv hs=> ?_⟩;obtain ⟨a',q1,q2⟩:=val_sim hg ha hs.e;obtain ⟨cs',q3,q4⟩:=cells_sim hcs q2;obtain ⟨vv,sv',m',φ',k1,k2⟩:=h5 m φ sv cs' hs q4;exact ⟨vv,sv',m',φ',by simp only [V.op,ho,q1,q3,Option.bind_some];exact k1,k2⟩
 · rename_i t ps ho;simp only [Option.bind_eq_some_iff] at h;obtain ⟨l,hl,v,hv,h⟩:=h;refine ⟨_,s,h,.pure fun m φ sv hs=> ?_⟩;obtain ⟨l',h1,h2⟩:=parts_sim hg hs.e hl;obtain ⟨a,h3,h4⟩:=build_sim hv h2;exact ⟨a,by simp [V.op,ho,h1,h3,V.ret1],h4⟩
 · rename_i t n ps ho;simp only [Option.bind_eq_some_iff] at h;obtain ⟨l,hl,⟨v,H'⟩,hv,⟨v2,H2⟩,hv2,h⟩:=h;have hw:H'.wm=s.H.wm:=by
     simp only [buildSlice,Option.bind_eq_some_iff] at hv;obtain ⟨_,_,_,_,_,_,hv⟩:=hv;split at hv
     · split at hv
       · simp at hv;rw [<- hv.2]
       · split at hv
         · rename_i hd;simp at hv;subst hv;unfold deepOf at hd;split at hd
           · split at hd
             · simp only [Option.bind_eq_some_iff] at hd;obtain ⟨⟨L,H1⟩,h1,hd⟩:=hd;simp at hd;rw [<- hd.2];exact (show (push H1 (UB.deep _ L)).wm=H1.wm from rfl).trans (deepRows_wm h1)
             · simp at hd
           · simp at hd
         simp only [Option.bind_eq_some_iff] at hv;obtain ⟨_,_,_,_,hv⟩:=hv;simp at hv;rw [<- hv.2];rfl
     · simp at hv
   by_cases hlit:V.litOp locs o=true
   · rw [hlit,cond_true] at hv2;obtain ⟨z1,z2⟩:=frzLit_fz hv2;refine ⟨_,_,h,.heap (z1.trans hw) fun m φ sv hs=> ?_⟩;obtain ⟨l',h1,h2⟩:=parts_sim hg hs.e hl;obtain ⟨a,Hv',h3,m1,h5,h6,h7,h8⟩:=buildSlice_sim hv hs.h h2;obtain ⟨a',Hv2,e1,m2,e2,e3,e4,e5⟩:=z2 m1 Hv' a h5 h6;exact ⟨a',Hv2,by simp [V.op,ho,h1,h3,V.retH,hlit,e1],m2,e2,e3,h7.trans e4,h8.trans e5 h8.old.1⟩
   · have hlit:V.litOp locs o=false:=by simpa using hlit
     rw [hlit,cond_false] at hv2;simp at hv2;obtain ⟨rfl,rfl⟩:=hv2;refine ⟨_,_,h,.heap hw fun m φ sv hs=> ?_⟩;obtain ⟨l',h1,h2⟩:=parts_sim hg hs.e hl;obtain ⟨a,Hv',h3,h4⟩:=buildSlice_sim hv hs.h h2;exact ⟨a,Hv',by simp [V.op,ho,h1,h3,V.retH,hlit],h4⟩
 · rename_i t x ho;simp only [Option.bind_eq_some_iff] at h;obtain ⟨p,hp,v,hv,h⟩:=h;refine ⟨_,s,h,.pure fun m φ sv hs=> ?_⟩;obtain ⟨pv,h1,h2⟩:=operand_sim hg hp hs.e;obtain ⟨a,h3,h4⟩:=load_sim hv hs.h hs.f h2;exact ⟨a,by simp [V.op,ho,h1,h3,V.ret1],h4⟩
 · rename_i t x y ho;simp only [Option.bind_eq_some_iff] at h;obtain ⟨p,hp,a,ha,s',hst,h⟩:=h;have hb:s'.base=s.base/\s'.e=s.e/\s'.H.wm=s.H.wm/\s.H.bl.length<=s'.H.bl.length:=by
     simp only [store,fL_eq,Option.bind_eq_some_iff] at hst;obtain ⟨_,_,_,_,hst⟩:=hst;split at hst
     case isFalse=>simp at hst
     split at hst
     · simp only [Option.bind_eq_some_iff] at hst;obtain ⟨_,_,_,_,hst⟩:=hst;simp at hst;subst hst;simp
     · split at hst
       case h_2=>simp at hst
       split at hst
       case isFalse=>simp at hst
       simp only [Option.bind_eq_some_iff] at hst;obtain ⟨_,_,hst⟩:=hst;simp at hst;subst hst;simp [setBl]
     · split at hst
       case h_2=>simp at hst
       split at hst
       case isFalse=>simp at hst
       simp only [Option.bind_eq_some_iff] at hst;obtain ⟨_,_,_,_,hst⟩:=hst;simp at hst;subst hst;simp [setBl]
     · split at hst
       case h_2=>simp at hst
       split at hst
       case isFalse=>simp at hst
       simp only [Option.bind_eq_some_iff] at hst;obtain ⟨_,_,_,_,hst⟩:=hst;simp at hst;subst hst;simp [setBl]
     · simp at hst
   refine ⟨_,s',h,hb.1,hb.2.1,hb.2.2.1,fun m φ sv hs=> ?_⟩;obtain ⟨pv,h1,h2⟩:=operand_sim hg hp hs.e;obtain ⟨a',h3,h4⟩:=val_sim hg ha hs.e;obtain ⟨sv',h5,h6,h7,h8,h9,h10,h11⟩:=store_sim hst hs.h hs.f h2 h4;refine ⟨.v .junk,sv',m,φ,by simp [V.op,ho,h1,h3,h5],⟨h6,h7,by rw [h9,h10];exact hs.e,by have:=hs.b;omega⟩,trivial,.refl m,.refl φ,h8,h10⟩
 · rename_i x ho;simp only [Option.bind_eq_some_iff] at h;obtain ⟨p,hp,h⟩:=h;have fin:∀ {v:US},p=v->K v s=some out->(∀ {m:Mp} {φ:Nat->Option Nat} {vv:V.SV},RS m φ v vv->(∃ i c,vv= .loc i c)\/(∃ b r c,vv= .v (.ptr b r c))\/(∃ r,vv= .v (.eptr r))\/(∃ f cs,vv= .v (.fn f cs))\/∃ b,vv= .v (.yl b))->∃ v s',K v s'=some out/\OpTo A C locs s o v s':=fun {v} hpv hk hv=>by
     subst hpv;refine ⟨p,s,hk,.slot fun m φ sv hs=> ?_⟩;obtain ⟨vv,h1,h2⟩:=operand_sim hg hp hs.e;refine ⟨vv,?_,h2⟩;rcases hv h2 with ⟨i,c,rfl⟩|⟨b,r,c,rfl⟩|⟨r,rfl⟩|⟨f,cs,rfl⟩|⟨b,rfl⟩<;>simp [V.op,ho,h1]
   split at h
   · exact fin rfl h fun {m φ vv} hr=>by cases vv with
       |loc i c=>exact .inl ⟨_,_,rfl⟩
       |v a=>exact hr.elim
   · exact fin rfl h fun {m φ vv} hr=>by obtain ⟨a,rfl,hr⟩:=hr.val (by simp);cases hr;exact .inr (.inl ⟨_,_,_,rfl⟩)
   · exact fin rfl h fun {m φ vv} hr=>by obtain ⟨a,rfl,hr⟩:=hr.val (by simp);cases hr;exact .inr (.inl ⟨_,_,_,rfl⟩)
   · exact fin rfl h fun {m φ vv} hr=>by obtain ⟨a,rfl,hr⟩:=hr.val (by simp);cases hr;exact .inr (.inl ⟨_,_,_,rfl⟩)
   · exact fin rfl h fun {m φ vv} hr=>by obtain ⟨a,rfl,hr⟩:=hr.val (by simp);cases hr;exact .inr (.inr (.inl ⟨_,rfl⟩))
   · exact fin rfl h fun {m φ vv} hr=>by obtain ⟨a,rfl,hr⟩:=hr.val (by simp);cases hr;exact .inr (.inr (.inr (.inl ⟨_,_,rfl⟩)))
   · exact fin rfl h fun {m φ vv} hr=>by obtain ⟨a,rfl,hr⟩:=hr.val (by simp);cases hr;exact .inr (.inr (.inr (.inr ⟨_,rfl⟩)))
   · simp at h
 · rename_i b t x y z ho;simp only [Option.bind_eq_some_iff] at h;obtain ⟨u,hu,v,hv,h⟩:=h;obtain ⟨r,h1,h2⟩:=binop_sim h;refine ⟨_,s,h1,.pure fun m φ sv hs=> ?_⟩;obtain ⟨u',k1,k2⟩:=val_sim hg hu hs.e;obtain ⟨v',k3,k4⟩:=val_sim hg hv hs.e;obtain ⟨a,k5,k6⟩:=h2 m u' v' k2 k4;exact ⟨a,by simp [V.op,ho,k1,k3,k5,V.ret1],k6⟩
 · rename_i u t x ho;simp only [Option.bind_eq_some_iff] at h;obtain ⟨v,hv,r,hr,h⟩:=h;refine ⟨_,s,h,.pure fun m φ sv hs=> ?_⟩;obtain ⟨v',k1,k2⟩:=val_sim hg hv hs.e;obtain ⟨a,k3,k4⟩:=unop_sim hr k2;exact ⟨a,by simp [V.op,ho,k1,k3,V.ret1],k4⟩
 · rename_i src dst x ho;simp only [Option.bind_eq_some_iff] at h;obtain ⟨v,hv,h⟩:=h;obtain ⟨r,H',h1,h2,h3⟩:=convert_sim h;refine ⟨_,_,h1,.heap h2 fun m φ sv hs=> ?_⟩;obtain ⟨v',k1,k2⟩:=val_sim hg hv hs.e;obtain ⟨a,Hv',k3,k4⟩:=h3 m sv.H v' hs.h k2;exact ⟨a,Hv',by simp [V.op,ho,k1,k3,V.retH],k4⟩
 · rename_i f first caps ho
   split at h
   case isFalse=>simp at h
   rename_i h0;simp only [Option.bind_eq_some_iff] at h;obtain ⟨l,hl,h⟩:=h;refine ⟨_,s,h,.pure fun m φ sv hs=> ?_⟩;obtain ⟨l',h1,h2⟩:=vals_sim hg hs.e hl;exact ⟨.fn f l',by simp [V.op,ho,h0,h1],.fn f l l' h2.1 h2.2⟩
 · rename_i t r ho;simp only [Option.bind_eq_some_iff] at h;obtain ⟨_,hr,h⟩:=h;have hvr:∀ {m:Mp} {φ:Nat->Option Nat} {sv:V.S},Rst m φ s sv->V.op A C locs sv o=some (.v (.mp sv.H.bl.length),{ sv with H:=V.push sv.H (.map []) }):=fun {m φ sv} hs=>by
     cases r with
     |none=>simp [V.op,ho]
     |some x=>
       simp only at hr;split at hr
       case h_2=>simp at hr
       rename_i kt et hu;simp only [Option.bind_eq_some_iff,Option.map_eq_some_iff] at hr;obtain ⟨v,hv,n,hn,_⟩:=hr;obtain ⟨v',k1,k2⟩:=val_sim hg hv hs.e;simp [V.op,ho,hu,k1,toInt_sim hn k2]
   split at h
   case h_2=>simp at h
   rename_i kt et _;simp only [Option.bind_eq_some_iff] at h;obtain ⟨k,hk,h⟩:=h;refine ⟨_,_,h,.heap rfl fun m φ sv hs=>⟨_,_,hvr hs,?_⟩⟩;have hrb:∀ {m:Mp} {Hv:V.AH} {b x:Nat},m.ι b 0=some x->Hv.bl[x]?=some (.map [])->RB m Hv b (newMap A k et):=fun {m Hv b x} h1 h2=>by
     unfold newMap;split
     · split
       · exact ⟨x,[],h1,h2,trivial⟩
       · exact ⟨x,[],h1,h2,trivial⟩
     · exact ⟨x,[],h1,h2,trivial⟩
   have hnew:=hs.h.new (y:=newMap A k et) (yv:= .map []) (n:=0) (hrb (add_ι _ _ _ _) (by rw [vpush_get,if_neg (by omega),if_pos rfl]));exact ⟨_,hnew.1,.mp _ _ (add_ι _ _ _ _),hnew.2.1,hnew.2.2⟩
 · rename_i t l c ho;simp only [Option.bind_eq_some_iff] at h;obtain ⟨u,hu,v,hv,h⟩:=h;obtain ⟨r,H',h1,h2,h3⟩:=makeSlice_sim h;refine ⟨_,_,h1,.heap h2 fun m φ sv hs=> ?_⟩;obtain ⟨u',k1,k2⟩:=val_sim hg hu hs.e;obtain ⟨v',k3,k4⟩:=val_sim hg hv hs.e;obtain ⟨a,Hv',k5,k6⟩:=h3 m sv.H u' v' hs.h k2 k4;exact ⟨a,Hv',by simp [V.op,ho,k1,k3,k5,V.retH],k6⟩
 · rename_i t x lo hi ho;simp only [Option.bind_eq_some_iff] at h;obtain ⟨v,hv,l,hl,hh,hhh,h⟩:=h;obtain ⟨r,h1,h2⟩:=slice_sim h;refine ⟨_,s,h1,.pure fun m φ sv hs=> ?_⟩;obtain ⟨v',k1,k2⟩:=val_sim hg hv hs.e;obtain ⟨a,k3,k4⟩:=h2 m sv.H v' hs.h k2;exact ⟨a,by simp [V.op,ho,k1,optInt_sim hg hl hs.e,optInt_sim hg hhh hs.e,k3,V.ret1],k4⟩
 · rename_i t x hi mx ho;simp only [Option.bind_eq_some_iff] at h;obtain ⟨v,hv,a,ha,b,hb,h⟩:=h;split at h
   case isFalse=>simp at h
   rename_i hc;simp only [Bool.and_eq_true] at hc;simp only [Option.bind_eq_some_iff] at h;obtain ⟨⟨r,H'⟩,hr,h⟩:=h;obtain ⟨z1,z2⟩:=slice0_sim hr;refine ⟨_,_,h,.heap z1 fun m φ sv hs=> ?_⟩;obtain ⟨v',k1,k2⟩:=val_sim hg hv hs.e;obtain ⟨a',k3,k4⟩:=val_sim hg ha hs.e;obtain ⟨b',k5,k6⟩:=val_sim hg hb hs.e;obtain ⟨r',Hv',e1,rfl,e2⟩:=z2 m sv.H v' hs.h k2;exact ⟨r',sv.H,by simp [V.op,ho,k1,k3,k5,is0_sim hc.1 k4,is0_sim hc.2 k6,e1,V.ret1],e2⟩
 · rename_i t x f ho;simp only [Option.bind_eq_some_iff] at h;obtain ⟨p,hp,fd,hfd,n,hn,h⟩:=h;split at h
   case isTrue=>simp at h
   rename_i h0;simp only [Option.bind_eq_some_iff] at h;obtain ⟨v,hv,h⟩:=h;refine ⟨v,s,h,.slot fun m φ sv hs=> ?_⟩;obtain ⟨pv,h1,h2⟩:=operand_sim hg hp hs.e;obtain ⟨pv',h3,h4⟩:=addCell_sim hv h2;exact ⟨pv',by simp [V.op,ho,h1,hfd,hn,h0,h3],h4⟩
 · rename_i t x f ho;simp only [Option.bind_eq_some_iff] at h;obtain ⟨v,hv,h⟩:=h;split at h
   case h_2=>simp at h
   rename_i cs;simp only [Option.bind_eq_some_iff] at h;obtain ⟨fd,hfd,r,hr,h⟩:=h;refine ⟨_,s,h,.pure fun m φ sv hs=> ?_⟩;obtain ⟨v',k1,k2⟩:=val_sim hg hv hs.e;cases k2 with
   |agg _ as hl hrr=>
     obtain ⟨a,k3,k4⟩:=part_sim hr ⟨hl,hrr⟩;exact ⟨a,by simp [V.op,ho,k1,hfd,k3,V.ret1],k4⟩
 · rename_i t x i ho;simp only [Option.bind_eq_some_iff] at h;obtain ⟨p,hp,n,hn,k,hk,h⟩:=h;obtain ⟨v,h1,h2⟩:=indexAddr_sim h;refine ⟨v,s,h1,.slot fun m φ sv hs=> ?_⟩;obtain ⟨pv,k1,k2⟩:=operand_sim hg hp hs.e;obtain ⟨n',k3,k4⟩:=val_sim hg hn hs.e;obtain ⟨vv,k5,k6⟩:=h2 m φ sv pv hs.h k2;exact ⟨vv,by simp [V.op,ho,k1,k3,toInt_sim hk k4,k5],k6⟩
 · rename_i t x i ho;simp only [Option.bind_eq_some_iff] at h;obtain ⟨v,hv,n,hn,k,hk,h⟩:=h;obtain ⟨r,h1,h2⟩:=index_sim h;refine ⟨_,s,h1,.pure fun m φ sv hs=> ?_⟩;obtain ⟨v',k1,k2⟩:=val_sim hg hv hs.e;obtain ⟨n',k3,k4⟩:=val_sim hg hn hs.e;obtain ⟨a,k5,k6⟩:=h2 m v' k2;exact ⟨a,by simp [V.op,ho,k1,k3,toInt_sim hk k4,k5,V.ret1],k6⟩
 · rename_i t x i ok ho;simp only [Option.bind_eq_some_iff] at h;obtain ⟨v,hv,k,hk,h⟩:=h;obtain ⟨r,h1,h2⟩:=lookup_sim h;refine ⟨_,s,h1,.pure fun m φ sv hs=> ?_⟩;obtain ⟨v',k1,k2⟩:=val_sim hg hv hs.e;obtain ⟨n',k3,k4⟩:=val_sim hg hk hs.e;obtain ⟨a,k5,k6⟩:=h2 m sv.H v' n' hs.h k2 k4;exact ⟨a,by simp [V.op,ho,k1,k3,k5,V.ret1],k6⟩
 · rename_i t x k y ho;simp only [Option.bind_eq_some_iff] at h;obtain ⟨mv,hm,kv,hk,v,hv,h⟩:=h;obtain ⟨H',h1,h2,h3⟩:=mapUpdate_sim h;refine ⟨_,_,h1,.heap h2 fun m φ sv hs=> ?_⟩;obtain ⟨m',k1,k2⟩:=val_sim hg hm hs.e;obtain ⟨k',k3,k4⟩:=val_sim hg hk hs.e;obtain ⟨v',k5,k6⟩:=val_sim hg hv hs.e;obtain ⟨Hv',k7,k8⟩:=h3 m sv.H m' k' v' hs.h k2 k4 k6;exact ⟨.junk,Hv',by simp [V.op,ho,k1,k3,k5,k7],m,k8.1,.junk _,.refl m,k8.2⟩
 · rename_i t x k y ho;simp only [Option.bind_eq_some_iff] at h;obtain ⟨mv,hm,kv,hk,v,hv,h⟩:=h;obtain ⟨H',h1,h2,h3⟩:=mapUpdate_sim h;refine ⟨_,_,h1,.heap h2 fun m φ sv hs=> ?_⟩;obtain ⟨m',k1,k2⟩:=val_sim hg hm hs.e;obtain ⟨k',k3,k4⟩:=val_sim hg hk hs.e;obtain ⟨v',k5,k6⟩:=val_sim hg hv hs.e;obtain ⟨Hv',k7,k8⟩:=h3 m sv.H m' k' v' hs.h k2 k4 k6;exact ⟨.junk,Hv',by simp [V.op,ho,k1,k3,k5,k7],m,k8.1,.junk _,.refl m,k8.2⟩
 · rename_i x i ho;simp only [Option.bind_eq_some_iff] at h;obtain ⟨v,hv,h⟩:=h;split at h
   case h_2=>simp at h
   rename_i vs;simp only [Option.bind_eq_some_iff] at h;obtain ⟨r,hr,h⟩:=h;refine ⟨_,s,h,.pure fun m φ sv hs=> ?_⟩;obtain ⟨v',k1,k2⟩:=val_sim hg hv hs.e;cases k2 with
   |tup _ as hl hrr=>
     obtain ⟨a,k3,k4⟩:=RL.get (m:=m) ⟨hl,hrr⟩ hr;exact ⟨a,by simp [V.op,ho,k1,k3],k4⟩
 · rename_i c ho;simp only [Option.bind_eq_some_iff] at h;obtain ⟨args,ha,h⟩:=h;split at h
   · rename_i f hf;simp only [Option.bind_eq_some_iff] at h;obtain ⟨g,hgv,h⟩:=h;obtain ⟨r,H',h1,h2,h3⟩:=hc X g args s.H _ out h;refine ⟨_,_,h1,.heap h2 fun m φ sv hs=> ?_⟩;obtain ⟨as,k1,k2⟩:=vals_sim hg hs.e ha;obtain ⟨g',k3,k4⟩:=val_sim hg hgv hs.e;obtain ⟨r',Hv',k5,k6⟩:=h3 m sv.H g' as hs.h k4 k2;exact ⟨r',Hv',by simp [V.op,ho,k1,hf,k3,k5,V.retH],k6⟩
   · rename_i b hb;obtain ⟨r,H',h1,h2,h3⟩:=builtin_sim h;refine ⟨_,_,h1,.heap h2 fun m φ sv hs=> ?_⟩;obtain ⟨as,k1,k2⟩:=vals_sim hg hs.e ha;obtain ⟨r',Hv',k5,k6⟩:=h3 m sv.H as hs.h k2;exact ⟨r',Hv',by simp [V.op,ho,k1,hb,k5,V.retH],k6⟩
   · simp at h
 · simp at h
end
end Go.U
namespace Go.U
open Go
variable [TB:Tbl] {rf:Bool}
def STo (step:V.S->Option V.S) (s s':St):Prop:=
 s'.base=s.base/\s'.H.wm=s.H.wm/\∀ (m:Mp) (φ:Nat->Option Nat) (sv:V.S),Rst m φ s sv->∃ sv' m' φ',step sv=some sv'/\Rst m' φ' s' sv'/\m.Le m'/\PLe φ φ'/\Go' m.top m sv.H m' sv'.H
section
variable {A:V.Par} {C:V.Callee} {glob:Nat->Option (List UV)} {locs:List Nat} {n:Nat} {s:St} {X:Type} {out:X}
theorem guard_sim {os:Array Oper} {o:Oper} {K:Bool->St->Option X} (h:guard os s o K=some out):
   ∃ b s',K b s'=some out/\s'.base=s.base/\s'.H=s.H/\∀ (m:Mp) (φ:Nat->Option Nat) (sv:V.S),Rst m φ s sv->V.guardOn os sv o=some b/\Rst m φ s' sv:=by
 unfold guard at h;split at h
 · rename_i hg;exact ⟨true,s,h,rfl,rfl,fun m φ sv hs=>⟨by simp [V.guardOn,hg],hs⟩⟩
 · rename_i j want hg;split at h
   case h_2=>simp at h
   rename_i d hd;split at h
   case h_3=>simp at h
   case h_2=>
    rename_i hb;refine ⟨false,s,h,rfl,rfl,fun m φ sv hs=>⟨?_,hs⟩⟩;have h1:=hs.e d;rw [hb] at h1;obtain ⟨a,ha,hr⟩:=RS.val h1 (by simp);cases hr with
    |tup _ as hl _=>
      have:as=[]:=List.length_eq_zero_iff.1 hl;subst this;simp [V.guardOn,hg,hd,ha]
   rename_i b hb;have ref:∀ {m:Mp} {φ:Nat->Option Nat} {sv:V.S},Rst m φ s sv->V.get sv.e d= .v (.bool b)/\Rst m φ { s with e:=(d,.v (.bool b))::s.e } sv:=fun {m φ sv} hs=>by
    have h1:=hs.e d;rw [hb] at h1;obtain ⟨a,ha,hr⟩:=RS.val h1 (by simp);cases hr;refine ⟨ha,hs.h,hs.f,fun t=> ?_,hs.b⟩;simp only [get];split
    · rename_i e;subst e;rw [ha];exact RV.rs (.bool b)
    · exact hs.e t
   cases b with
   |true=>
    refine ⟨want,_,h,rfl,rfl,fun m φ sv hs=> ?_⟩;obtain ⟨h1,h2⟩:=ref hs;exact ⟨by simp [V.guardOn,hg,hd,h1],h2⟩
   |false=>
    refine ⟨!want,_,h,rfl,rfl,fun m φ sv hs=> ?_⟩;obtain ⟨h1,h2⟩:=ref hs;exact ⟨by simp [V.guardOn,hg,hd,h1],h2⟩
theorem put_sim {d:Option Nat} {v:US} {s':St} (h:put s n d v=some s'):
   s'.base=s.base/\s'.H=s.H/\∀ (m:Mp) (φ:Nat->Option Nat) (sv:V.S) (vv:V.SV),Rst m φ s sv->RS m φ v vv->∃ sv',V.put sv n d vv=some sv'/\sv'.H=sv.H/\Rst m φ s' sv':=by
 unfold put at h;split at h
 · simp at h;subst h;exact ⟨rfl,rfl,fun m φ sv vv hs hv=>⟨sv,rfl,rfl,hs⟩⟩
 · rename_i d;split at h
   case isFalse=>simp at h
   rename_i hd;simp at h;subst h;exact ⟨rfl,rfl,fun m φ sv vv hs hv=>⟨{ sv with e:=(d,vv)::sv.e },by simp [V.put,hd],rfl,hs.h,hs.f,hs.e.cons d hv,hs.b⟩⟩
theorem STo.trans {f g:V.S->Option V.S} {s s1 s2:St} (h:STo f s s1) (h':STo g s1 s2):STo (fun x=>(f x).bind g) s s2:=
 ⟨h'.1.trans h.1,h'.2.1.trans h.2.1,fun m φ sv hs=>by
  obtain ⟨sv1,m1,φ1,h1,h2,h3,h4,h5⟩:=h.2.2 m φ sv hs;obtain ⟨sv2,m2,φ2,k1,k2,k3,k4,k5⟩:=h'.2.2 m1 φ1 sv1 h2;exact ⟨sv2,m2,φ2,by simp [h1,k1],k2,h3.trans k3,h4.trans k4,h5.trans k5 h5.old.1⟩⟩
theorem junk_rs {m:Mp} {φ:Nat->Option Nat}:RS m φ (.v (.tup [])) (.v (.tup [])):=RV.tup [] [] rfl fun i x a h=>by simp at h
theorem ops_sim (hg:GlobOK A glob) {env:Env} (hc:SimCall C env.call) {all:Array Oper}:∀ {os:List Oper} {s:St} {K:St->Option X},ops A glob env locs n all os s K=some out->∃ s',K s'=some out/\STo (V.ops A C locs n all os) s s'
 |[],s,K,h=>⟨s,h,rfl,rfl,fun m φ sv hs=>⟨sv,m,φ,rfl,hs,.refl m,.refl φ,.refl _ (Nat.le_refl _)⟩⟩
 |o::os,s,K,h=>by
  simp only [ops,fU_eq,fSt_eq] at h;obtain ⟨b,s1,h1,h2,h3,h4⟩:=guard_sim h;cases b with
  |true=>
   simp only at h1;obtain ⟨v,s2,k1,k2,k3,k4,k5⟩:=op_sim hg hc h1;simp only [Option.bind_eq_some_iff] at k1;obtain ⟨s3,hp,k1⟩:=k1;obtain ⟨p1,p2,p3⟩:=put_sim hp;obtain ⟨s4,q1,q2,q3,q4⟩:=ops_sim hg hc k1;refine ⟨s4,q1,by rw [q2,p1,k2,h2],by rw [q3,p2,k4,h3],fun m φ sv hs=> ?_⟩;obtain ⟨g1,g2⟩:=h4 m φ sv hs;obtain ⟨vv,sv2,m2,φ2,e1,e2,e3,e4,e5,e6,_⟩:=k5 m φ sv g2;obtain ⟨sv3,e7,e8,e9⟩:=p3 m2 φ2 sv2 vv e2 e3;obtain ⟨sv4,m4,φ4,e10,e11,e12,e13,e14⟩:=q4 m2 φ2 sv3 e9;rw [e8] at e14;exact ⟨sv4,m4,φ4,by simp [V.ops,g1,e1,e7,e10],e11,e4.trans e12,e5.trans e13,e6.trans e14 e6.old.1⟩
  |false=>
   simp only [Option.bind_eq_some_iff] at h1;obtain ⟨s3,hp,h1⟩:=h1;obtain ⟨p1,p2,p3⟩:=put_sim hp;obtain ⟨s4,q1,q2,q3,q4⟩:=ops_sim hg hc h1;refine ⟨s4,q1,by rw [q2,p1,h2],by rw [q3,p2,h3],fun m φ sv hs=> ?_⟩;obtain ⟨g1,g2⟩:=h4 m φ sv hs;obtain ⟨sv3,e7,e8,e9⟩:=p3 m φ sv (.v (.tup [])) g2 junk_rs;obtain ⟨sv4,m4,φ4,e10,e11,e12,e13,e14⟩:=q4 m φ sv3 e9;rw [e8] at e14;exact ⟨sv4,m4,φ4,by simp [V.ops,g1,e7,e10],e11,e12,e13,e14⟩
def TR (φ:Nat->Option Nat):V.Tch->V.Tch->Prop
 | .no,.no=>True
 | .heap w,.no=>w=false
 | .heap w,.heap w'=>w=w'
 | .box i w,.box j w'=>φ i=some j/\w=w'
 |_,_=>False
theorem TR.mono {φ φ':Nat->Option Nat} (h:PLe φ φ') {t t':V.Tch} (ht:TR φ t t'):TR φ' t t':=by
 cases t<;>cases t'<;>first|exact ht|exact ⟨h _ _ ht.1,ht.2⟩
theorem TR.same (φ:Nat->Option Nat) {t:V.Tch} (h:∀ i w,t≠ .box i w):TR φ t t:=by
 cases t<;>first|trivial|rfl|exact (h _ _ rfl).elim
theorem touchAt_sim {m:Mp} {φ:Nat->Option Nat} {w:Bool} {p:US} {pv:V.SV} (h:RS m φ p pv) (hn:p≠ .v .junk):TR φ (touchAt w (some p)) (V.touchAt w (some pv)):=by
 cases p with
 |loc i c=>
  cases pv with
  |v a=>exact h.elim
  |loc j c'=>exact ⟨h.1,rfl⟩
 |v x=>
  obtain ⟨a,rfl,hr⟩:=h.val (fun e=>hn (by rw [e]));cases hr<;>first|exact (hn rfl).elim|exact rfl|(cases w<;>first|exact rfl|trivial)|skip
  all_goals (rename_i ha;rcases ha with rfl|rfl<;>exact rfl)
theorem load_addr {s:St} {t:TypeId} {p:US} {v:UV} (h:load A s t p=some v):p≠ .v .junk:=by
 rintro rfl;simp [load] at h
theorem store_addr {s s':St} {t:TypeId} {p:US} {v:UV} (h:store A s t p v=some s'):p≠ .v .junk:=by
 rintro rfl
 simp only [store,fL_eq,Option.bind_eq_some_iff] at h;obtain ⟨_,_,_,_,h⟩:=h;split at h<;>simp at h
theorem cases_junk {X:Type} {i:Int} {sz:Nat} {K:US->Option X}:∀ n j,cases i (fun j=>(addCell (j * sz) (.v .junk)).bind K) n j=none
 |0,j=>rfl
 |n+1,j=>by
  have:=cases_junk (i:=i) (sz:=sz) (K:=K) n (j+1);simp only [cases,addCell,Option.bind_none] at this ⊢;rw [this];cases decide (i=(j:Int))<;>rfl
theorem vals_junk {e:List (Nat×US)}:∀ {l:List Operand} {as:List UV},vals glob e l=some as->∀ a∈as,a≠ .junk
 |[],as,h,a,ha=>by simp [vals] at h;subst h;simp at ha
 |x::l,as,h,a,ha=>by
  simp only [vals,Option.bind_eq_some_iff] at h;obtain ⟨b,hb,l',hl,h⟩:=h;simp at h;subst h;rcases List.mem_cons.1 ha with rfl|ha
  · exact (val_some hb).2
  · exact vals_junk hl a ha
theorem touch_sim (hg:GlobOK A glob) {env:Env} {s0:St} {o:Oper} {q:Bool} {K:US->St->Option X} (h:op A glob env locs s0 o K=some out) (he:s0.e=s.e):
  ∀ (m:Mp) (φ:Nat->Option Nat) (sv:V.S),Rst m φ s sv->TR φ (touch glob locs s o q) (V.touch A locs sv o q):=fun m φ sv hs=>by
 rcases o with ⟨dst,op',ty,pos,after,gd⟩
 cases op' with
 |load t x=>
  simp only [op,Option.bind_eq_some_iff] at h;obtain ⟨p,hp,v,hv,h⟩:=h;rw [he] at hp;obtain ⟨pv,h1,h2⟩:=operand_sim hg hp hs.e;simp only [touch,V.touch,hp,h1];exact touchAt_sim h2 (load_addr hv)
 |store t x y=>
  simp only [op,Option.bind_eq_some_iff] at h;obtain ⟨p,hp,a,ha,s',hst,h⟩:=h;rw [he] at hp;obtain ⟨pv,h1,h2⟩:=operand_sim hg hp hs.e;simp only [touch,V.touch,hp,h1];exact touchAt_sim h2 (store_addr hst)
 |alloc t=>
  simp only [touch,V.touch];split<;>first|trivial|exact rfl
 |box t x=>
  simp only [touch,V.touch];split<;>first|trivial|exact rfl
 |call c=>
  rcases c with ⟨callee,args,_⟩
  cases callee with
  |builtin b=>
   cases b<;>first|trivial|exact rfl|skip
   simp only [op,Option.bind_eq_some_iff] at h;obtain ⟨l,hl,h⟩:=h;rw [he] at hl;obtain ⟨l',h1,h2,h3⟩:=vals_sim hg hs.e hl;have hj:=vals_junk hl;simp only [touch,V.touch,hl,h1];unfold touchLen;split
   · rename_i e;simp at e;subst e;unfold V.touchLen;split<;>first|exact rfl|trivial
   · rename_i hne e;simp at e;subst e;have:V.touchLen (some l')= .no:=by
       unfold V.touchLen;split
       · rename_i b e;simp at e;subst e
         match l,h2,h3,hne,hj with
         |[x],_,h3,hne,hj=>
          have:=h3 0 x _ rfl rfl;cases this with
          |mp b'=>exact absurd rfl (hne b')
          |junk=>exact absurd rfl (hj _ (List.mem_singleton.2 rfl))
          |_=>simp_all
         |[],h2,_,_,_=>simp at h2
         |_::_::_,h2,_,_,_=>simp at h2
       · rfl
       · rename_i e;simp at e
     rw [this];trivial
   · rename_i e;simp at e
  |_=>first|trivial|exact rfl
 |indexAddr t x i=>
  simp only [op,Option.bind_eq_some_iff] at h;obtain ⟨p,hp,u,hu,n,hn,h⟩:=h;rw [he] at hp;obtain ⟨pv,h1,h2⟩:=operand_sim hg hp hs.e;simp only [touch,V.touch,hp,h1];cases p with
  |loc i c=>
   cases pv with
   |v a=>exact h2.elim
   |loc j c'=>exact trivial
  |v x=>
   by_cases hx:x= .junk
   · subst hx;unfold indexAddr at h;split at h
     · simp only [Option.bind_eq_some_iff] at h;obtain ⟨sz,_,h⟩:=h;rw [cases_junk] at h;simp at h
     · simp at h
     · simp at h
   · obtain ⟨a,rfl,hr⟩:=h2.val hx;cases hr<;>first|exact (hx rfl).elim|trivial|exact rfl|skip
     all_goals (rename_i ha;rcases ha with rfl|rfl<;>first|trivial|exact rfl)
 |_=>first|trivial|exact rfl
inductive TRs (φ:Nat->Option Nat):List V.Tch->List V.Tch->Prop
 |nil:TRs φ [] []
 |cons {t t':V.Tch} {l l':List V.Tch}:TR φ t t'->TRs φ l l'->TRs φ (t::l) (t'::l')
theorem TRs.get {φ:Nat->Option Nat} {l l':List V.Tch} (h:TRs φ l l'):∀ {i:Nat} {t':V.Tch},l'[i]?=some t'->∃ t,l[i]?=some t/\TR φ t t':=by
 induction h with
 |nil=>intro i t' hi;simp at hi
 |cons h hs ih=>
  intro i t' hi;cases i with
  |zero=>simp at hi;subst hi;exact ⟨_,rfl,h⟩
  |succ i=>simpa using ih (by simpa using hi)
theorem TRs.mono {φ φ':Nat->Option Nat} (h:PLe φ φ') {l l':List V.Tch} (hl:TRs φ l l'):TRs φ' l l':=by
 induction hl with
 |nil=>exact .nil
 |cons h1 _ ih=>exact .cons (h1.mono h) ih
theorem trace_sim {φ:Nat->Option Nat} (hi:∀ i i' j,φ i=some j->φ i'=some j->i=i') {b:List Nat} {l l':List V.Tch} (hl:TRs φ l l') (h:V.traceOK b l=true):V.traceOK b l'=true:=by
 simp only [V.traceOK,List.all_eq_true,Bool.or_eq_true,Bool.not_eq_true',Prod.forall,List.mem_zipIdx_iff_getElem?] at h ⊢;intro tj' j hj';obtain ⟨tj,hj,hrj⟩:=hl.get hj';have hw:tj.writes=tj'.writes:=by
   cases tj<;>cases tj'<;>first|rfl|exact hrj.elim|(have:=hrj;simp only [TR] at this;simp [V.Tch.writes,this])|skip
 rcases h tj j hj with h0|h0
 · exact .inl (by rw [<- hw];exact h0)
 · refine .inr fun ti' i hi'=> ?_
   obtain ⟨ti,hii,hri⟩:=hl.get hi';have hcf:V.conflict ti tj=false->V.conflict ti' tj'=false:=by
     cases ti' with
     |no=>intro _;cases tj'<;>rfl
     |heap a'=>
      cases tj' with
      |no=>intro _;rfl
      |box j w=>intro _;rfl
      |heap b'=>
       cases ti<;>first|exact hri.elim|skip
       cases tj<;>first|exact hrj.elim|skip
       simp only [TR] at hri hrj;subst hri;subst hrj;exact id
     |box i1 w1=>
      cases tj' with
      |no=>intro _;rfl
      |heap b'=>intro _;rfl
      |box j1 w2=>
       cases ti<;>first|exact hri.elim|skip
       cases tj<;>first|exact hrj.elim|skip
       rename_i a1 v1 a2 v2;simp only [TR] at hri hrj;obtain ⟨e1,rfl⟩:=hri;obtain ⟨e2,rfl⟩:=hrj;intro h;simp only [V.conflict,Bool.and_eq_false_iff] at h ⊢;rcases h with h|h
       · refine .inl ?_;rw [beq_eq_false_iff_ne] at h ⊢
         rintro rfl
         exact h (hi _ _ _ e1 e2)
       · exact .inr h
   rcases h0 ti i hii with h1|h1
   · exact .inl h1
   · exact .inr (hcf h1)
theorem RB.bl {m:Mp} {Hv Hv':V.AH} {b:Nat} {y:UB} (h:RB m Hv b y) (e:Hv'.bl=Hv.bl):RB m Hv' b y:=
 h.keep (.refl m) rfl rfl fun _ _ _ _=>by rw [e]
theorem RH.wmTop {m:Mp} {H:UH} {Hv:V.AH} (h:RH m H Hv):RH m { H with wm:=H.bl.length } { Hv with wm:=Hv.bl.length }:=
 ⟨h.dom,fun b y hb=>(h.blk b y hb).bl rfl,h.inj',fun b _ x hb hw=>by have:=(h.dom b x hb).1;simp only at hw;omega,Nat.le_refl _,h.len⟩
theorem RH.wmBack {m m':Mp} {H H':UH} {Hv Hv':V.AH} (h:RH m H Hv) (h':RH m' H' Hv') (hw:H'.wm=H.bl.length) (ho:Old m.top m m') (hl:Hv.bl.length<=Hv'.bl.length) (hwv:Hv'.wm=Hv.bl.length):RH m' { H' with wm:=H.wm } { Hv' with wm:=Hv.wm }:=
 ⟨h'.dom,fun b y hb=>(h'.blk b y hb).bl rfl,h'.inj',fun b _ x hb hwb=>by
  rcases Nat.lt_or_ge b m.top with hlt|hge
  · rw [(ho.2 b hlt).1] at hb;exact h.wm b x hb hwb
  · have:=h'.wm b x hb (by rw [hw,<- h.len];exact hge);have:=h.top;show Hv.wm<=x;omega,Nat.le_trans h.top hl,h'.len⟩
def isW:V.Tch->Bool
 | .heap true=>true
 |_=>false
theorem TR.isW {φ:Nat->Option Nat} {t t':V.Tch} (h:TR φ t t'):isW t=isW t':=by
 cases t<;>cases t'<;>first|rfl|exact h.elim|(simp only [TR] at h;subst h;rfl)
theorem opD_ne {env:Env} {t:V.Tch} {o:Oper} {K:US->St->Option X} (h:isW t=false):opD A glob env locs t s o K=op A glob env locs { s with H:={ s.H with wm:=s.H.bl.length } } o fun v s'=>K v { s' with H:={ s'.H with wm:=s.H.wm } }:=by
 cases t with
 |heap w=>cases w<;>first|rfl|simp [isW] at h
 |_=>rfl
theorem vopD_ne {t:V.Tch} {o:Oper} {sv:V.S} (h:isW t=false):V.opD A C locs t sv o=(V.op A C locs { sv with H:={ sv.H with wm:=sv.H.bl.length } } o).map fun (v,s')=>(v,{ s' with H:={ s'.H with wm:=sv.H.wm } }):=by
 cases t with
 |heap w=>cases w<;>first|rfl|simp [isW] at h
 |_=>rfl
theorem opD_sim (hg:GlobOK A glob) {env:Env} (hc:SimCall C env.call) {o:Oper} {q:Bool} {K:US->St->Option X} (h:opD A glob env locs (touch glob locs s o q) s o K=some out):
  ∃ v s',K v s'=some out/\s'.base=s.base/\s'.H.wm=s.H.wm/\∀ (m:Mp) (φ:Nat->Option Nat) (sv:V.S),Rst m φ s sv->TR φ (touch glob locs s o q) (V.touch A locs sv o q)/\∃ vv sv' m' φ',V.opD A C locs (V.touch A locs sv o q) sv o=some (vv,sv')/\Rst m' φ' s' sv'/\RS m' φ' v vv/\m.Le m'/\PLe φ φ'/\Go' m.top m sv.H m' sv'.H:=by
 cases hw:isW (touch glob locs s o q) with
 |true=>
  have ht:touch glob locs s o q= .heap true:=by
   revert hw;generalize touch glob locs s o q=t;intro hw
   cases t with
   |heap w=>cases w<;>first|rfl|simp [isW] at hw
   |_=>simp [isW] at hw
  rw [ht] at h;have h':op A glob env locs s o K=some out:=h;obtain ⟨v,s',k1,k2,k3,k4,k5⟩:=op_sim hg hc h';refine ⟨v,s',k1,k2,k4,fun m φ sv hs=> ?_⟩;have htr:=touch_sim (q:=q) hg h' rfl m φ sv hs;obtain ⟨vv,sv',m',φ',e1,e2,e3,e4,e5,e6,_⟩:=k5 m φ sv hs;refine ⟨htr,vv,sv',m',φ',?_,e2,e3,e4,e5,e6⟩;have:V.touch A locs sv o q= .heap true:=by
   rw [ht] at htr
   revert htr;generalize V.touch A locs sv o q=t;intro htr
   cases t<;>first|(exact htr.elim)|(simp only [TR] at htr;rw [<- htr])|(simp [TR] at htr)
  rw [this];exact e1
 |false=>
  rw [opD_ne hw] at h;obtain ⟨v,s',k1,k2,k3,k4,k5⟩:=op_sim hg hc h;refine ⟨v,_,k1,k2,rfl,fun m φ sv hs=> ?_⟩;have htr:=touch_sim (s:=s) (q:=q) hg h rfl m φ sv hs;have hs':Rst m φ { s with H:={ s.H with wm:=s.H.bl.length } } { sv with H:={ sv.H with wm:=sv.H.bl.length } }:=⟨hs.h.wmTop,hs.f,hs.e,hs.b⟩;obtain ⟨vv,sv',m',φ',e1,e2,e3,e4,e5,e6,_⟩:=k5 m φ _ hs';refine ⟨htr,vv,{ sv' with H:={ sv'.H with wm:=sv.H.wm } },m',φ',?_,⟨hs.h.wmBack e2.h k4 e6.old e6.len e6.wm,e2.f,e2.e,e2.b⟩,e3,e4,e5,⟨e6.old,e6.stay,e6.new,e6.len,rfl⟩⟩;rw [vopD_ne (by rw [<- htr.isW];exact hw),e1];rfl
theorem sameF_eq {m m':Mp} {v w:UV} {a a':V.AV} (h:sameF v w=true) (hv:RV m v a) (hw:RV m' w a'):a=a':=by
 unfold sameF at h;split at h
 · rename_i f f';have:f=f':=by simpa using h
   subst this;cases hv with
   |fn _ _ as hl _=>
    cases hw with
    |fn _ _ as' hl' _=>
     have e1:as=[]:=List.length_eq_zero_iff.1 hl;have e2:as'=[]:=List.length_eq_zero_iff.1 hl';rw [e1,e2]
 · cases hv;cases hw;rfl
 · simp at h
theorem sameKey_eq {k k':KT} {i:KeyT k} {j:KeyT k'} (h:sameKey k k' i j=true):keyAV k i=keyAV k' j:=by
 cases k with
 |int a=>
  cases k' with
  |int b=>
   have h':(decide (a=b)&&@decide (@Eq Int i j) (Int.instDecidableEq i j))=true:=h;rw [Bool.and_eq_true] at h';have h1:=of_decide_eq_true h'.1;have h2:@Eq Int i j:=@of_decide_eq_true _ (Int.instDecidableEq i j) h'.2;show V.AV.int a i=V.AV.int b j;rw [h1,h2]
  |str=>exact absurd h (by intro h;exact Bool.noConfusion h)
 |str=>exact absurd h (by cases k'<;>(intro h;exact Bool.noConfusion h))
theorem sameEs_eq {m m':Mp} {k k':KT}:∀ {es:List (KeyT k×UV)} {es':List (KeyT k'×UV)} {x x':List (V.AV×V.AV)},sameEs k k' es es'=true->MR k m es x->MR k' m' es' x'->x=x'
 |[],[],[],[],_,_,_=>rfl
 |[],[],[],_::_,_,_,h=>h.elim
 |[],[],_::_,_,_,h,_=>h.elim
 |(i,v)::es,(j,w)::es',[],_,_,h,_=>h.elim
 |(i,v)::es,(j,w)::es',_::_,[],_,_,h=>h.elim
 |(i,v)::es,(j,w)::es',(q,a)::x,(q',a')::x',h,h1,h2=>by
  simp only [sameEs,Bool.and_eq_true] at h;obtain ⟨⟨h3,h4⟩,h5⟩:=h;obtain ⟨rfl,k2,_,k4⟩:=h1;obtain ⟨rfl,l2,_,l4⟩:=h2;rw [sameKey_eq h3,sameF_eq h4 k2 l2,sameEs_eq h5 k4 l4]
 |[],_::_,_,_,h,_,_=>by simp [sameEs] at h
 |_::_,[],_,_,h,_,_=>by simp [sameEs] at h
theorem sameP_eq {m m':Mp} {v w:UV} {a a':V.AV} (h:sameP v w=true) (hm:m.Le m') (hv:RV m v a) (hw:RV m' w a'):a'=a:=by
 unfold sameP at h;split at h
 · rename_i b b';have:b=b':=by simpa using h
   subst this;cases hv with
   |mp _ x hx=>
    cases hw with
    |mp _ y hy=>
     rw [(hm.of b x hx).1] at hy;simp at hy;rw [hy]
 · rename_i f f';have:f=f':=by simpa using h
   subst this;cases hv with
   |fn _ _ as hl _=>
    cases hw with
    |fn _ _ as' hl' _=>
     have e1:as=[]:=List.length_eq_zero_iff.1 hl;have e2:as'=[]:=List.length_eq_zero_iff.1 hl';rw [e1,e2]
 · cases hv;cases hw;rfl
 · cases hv;cases hw;rfl
 · simp at h
def RecR (A:V.Par) (C:V.Callee) (locs:List Nat) (m:Mp) (r:Rec) (vr:Oper×List (Nat×V.SV)×V.SV):Prop:=
 ∀ (m':Mp) (φ':Nat->Option Nat) (s:St) (sv:V.S),m.Le m'->Rst m' φ' s sv->recOK A s r=true->∃ sv',V.op A C locs { sv with e:=vr.2.1 } vr.1=some (vr.2.2,sv')
inductive RecRs (A:V.Par) (C:V.Callee) (locs:List Nat) (m:Mp):List Rec->List (Oper×List (Nat×V.SV)×V.SV)->Prop
 |nil:RecRs A C locs m [] []
 |snoc {rs:List Rec} {vrs:List (Oper×List (Nat×V.SV)×V.SV)} {r:Rec} {vr:Oper×List (Nat×V.SV)×V.SV}:RecRs A C locs m rs vrs->RecR A C locs m r vr->RecRs A C locs m (rs++[r]) (vrs++[vr])
theorem RecR.mono {m m':Mp} {r:Rec} {vr:Oper×List (Nat×V.SV)×V.SV} (h:RecR A C locs m r vr) (hm:m.Le m'):RecR A C locs m' r vr:=fun m2 φ2 s sv h2 hs hr=>h m2 φ2 s sv (hm.trans h2) hs hr
theorem RecRs.mono {m m':Mp} {rs:List Rec} {vrs:List (Oper×List (Nat×V.SV)×V.SV)} (h:RecRs A C locs m rs vrs) (hm:m.Le m'):RecRs A C locs m' rs vrs:=by
 induction h with
 |nil=>exact .nil
 |snoc _ h2 ih=>exact .snoc ih (h2.mono hm)
theorem RecRs.all {m:Mp} {φ:Nat->Option Nat} {rs:List Rec} {vrs:List (Oper×List (Nat×V.SV)×V.SV)} (h:RecRs A C locs m rs vrs) {s:St} {sv:V.S} (hs:Rst m φ s sv) (hr:rs.all (recOK A s)=true):V.StillAll A C locs vrs sv:=by
 induction h with
 |nil=>exact fun r hr=>by simp at hr
 |snoc _ h2 ih=>
  simp only [List.all_append,Bool.and_eq_true] at hr;intro r hm;rcases List.mem_append.1 hm with hm|hm
  · exact ih hr.1 r hm
  · simp at hm;subst hm;exact h2 m φ s sv (.refl m) hs (by simpa using hr.2)
theorem plain_sim {m:Mp} {φ:Nat->Option Nat} {sv:V.S} {v:US} {vv:V.SV} (hp:plainUS s.H.bl.length v=true) (hs:Rst m φ s sv) (hv:RS m φ v vv):V.plainSV sv.H.bl.length vv=true:=by
 unfold plainUS at hp;split at hp
 · obtain ⟨a,rfl,hr⟩:=hv.val (by simp);cases hr with
   |mp _ x hx=>exact decide_eq_true (hs.h.dom _ x hx).2
 · obtain ⟨a,rfl,hr⟩:=hv.val (by simp);cases hr with
   |fn f _ as hl _=>
    have e1:as=[]:=List.length_eq_zero_iff.1 hl;rw [e1];rfl
 · obtain ⟨a,rfl,hr⟩:=hv.val (by simp);cases hr;rfl
 · obtain ⟨a,rfl,hr⟩:=hv.val (by simp);cases hr;rfl
 · simp at hp
theorem vput_F {sv sv':V.S} {n:Nat} {d:Option Nat} {v:V.SV} (h:V.put sv n d v=some sv'):sv'.F=sv.F:=by
 unfold V.put at h;split at h
 · simp at h;rw [h]
 · split at h
   · simp at h;rw [<- h]
   · simp at h
theorem vload_H {t:TypeId} {pv:V.AV} {sv sv':V.S} (h:sv.H=sv'.H):V.load A sv t (.v pv)=V.load A sv' t (.v pv):=by
 unfold V.load;cases pv<;>simp only [h]
theorem still_sim (hg:GlobOK A glob) {env:Env} (hc:SimCall C env.call) {o:Oper} {K:US->St->Option X} (h:op A glob env locs s o K=some out) (hst:isStill A glob s o=true):
   ∃ v,K v s=some out/\(plainUS s.H.bl.length v=true->∀ r,recOf glob s o v=some r->∀ (m:Mp) (φ:Nat->Option Nat) (sv:V.S),Rst m φ s sv->V.isStill A sv o=true/\∃ vv,(∃ sv',V.op A C locs sv o=some (vv,sv'))/\RS m φ v vv/\RecR A C locs m r (o,sv.e,vv)):=by
 unfold isStill at hst;simp only [Bool.and_eq_true] at hst;obtain ⟨hst0,hst1⟩:=hst;have hst2:=hst0;unfold V.stillOp at hst0;split at hst0
 · rename_i t x ho;unfold op at h;rw [ho] at h;simp only [Option.bind_eq_some_iff] at h;obtain ⟨p,hp,v,hv,h⟩:=h;refine ⟨_,h,fun hpl r hr m φ sv hs=> ?_⟩;simp only [ho,hp] at hst1;obtain ⟨pv,e1,e2⟩:=operand_sim (m:=m) (φ:=φ) hg hp hs.e;obtain ⟨a,e3,e4⟩:=load_sim hv hs.h hs.f e2;have hpn:=load_addr hv;unfold recOf at hr;rw [ho] at hr;simp only [hp] at hr;cases p with
   |loc i c=>simp at hst1
   |v p=>
    obtain ⟨pa,rfl,e5⟩:=e2.val (fun e=>hpn (by rw [e]));simp only [Option.some.injEq] at hr;subst hr;refine ⟨?_,.v a,⟨sv,?_⟩,e4.rs,fun m' φ' s' sv' hm hs' hok=> ?_⟩
    · unfold V.isStill;rw [hst2,ho];simp only [e1,Bool.true_and];cases e5<;>first|rfl|simp at hst1
    · unfold V.op;rw [ho];simp only [e1,Option.bind_some,e3];rfl
    · simp only [recOK] at hok;split at hok
      case h_2=>simp at hok
      rename_i a' ha';obtain ⟨y,k1,k2⟩:=load_sim (sv:=sv') ha' hs'.h hs'.f (RV.rs (φ:=φ') (e5.mono hm));have:=sameP_eq hok hm e4 k2;subst this;refine ⟨{ sv' with e:=sv.e },?_⟩;unfold V.op;rw [ho];simp only [e1,Option.bind_some];have e9:=vload_H (A:=A) (t:=t) (pv:=pa) (sv:={ sv' with e:=sv.e }) (sv':=sv') rfl;rw [e9,k1];rfl
 · rename_i t x i ho;unfold op at h;rw [ho] at h;simp only [Option.bind_eq_some_iff] at h;obtain ⟨mv,hm,kv,hk,h⟩:=h;obtain ⟨v,h1,h2⟩:=lookup_sim h;refine ⟨_,h1,fun hpl r hr m φ sv hs=> ?_⟩;obtain ⟨mv',e1,e2⟩:=val_sim (m:=m) (φ:=φ) hg hm hs.e;obtain ⟨kv',e3,e4⟩:=val_sim (m:=m) (φ:=φ) hg hk hs.e;obtain ⟨a,e5,e6⟩:=h2 m sv.H mv' kv' hs.h e2 e4;unfold recOf at hr;rw [ho] at hr;simp only [hm] at hr;split at hr
   case h_2=>simp at hr
   rename_i b hb;simp only [Option.some.injEq] at hb;subst hb;split at hr
   case h_2=>simp at hr
   rename_i kt es hbl;split at hr
   case isFalse=>simp at hr
   simp only [Option.some.injEq] at hr;subst hr;cases e2 with
   |mp _ xb hx=>
    obtain ⟨x1,es1,q1,q2,q3⟩:=hs.h.blk b _ hbl;rw [hx] at q1;simp at q1;subst q1;refine ⟨?_,.v a,⟨sv,?_⟩,e6.rs,fun m' φ' s' sv' hm' hs' hok=> ?_⟩
    · unfold V.isStill;rw [hst2,ho];rfl
    · unfold V.op;rw [ho];simp only [e1,e3,Option.bind_some,e5];rfl
    · simp only [recOK] at hok;split at hok
      case h_2=>simp at hok
      rename_i kt' es' hbl';obtain ⟨x2,es2,w1,w2,w3⟩:=hs'.h.blk b _ hbl';rw [(hm'.of b xb hx).1] at w1;simp at w1;subst w1;have he:es1=es2:=sameEs_eq hok q3 w3;have hl:V.lookup A sv'.H t (.mp xb) kv' false=some a:=by
       rw [<- e5];unfold V.lookup V.mapOf;simp only [q2,w2,he]
      refine ⟨{ sv' with e:=sv.e },?_⟩;unfold V.op;rw [ho];simp only [e1,e3,Option.bind_some,hl];rfl
 · simp at hst0
theorem ordW_sim {φ:Nat->Option Nat} {b:List Nat} {i:Nat} {l l':List V.Tch} (hl:TRs φ l l') (h:V.ordW b i l=true):V.ordW b i l'=true:=by
 simp only [V.ordW,List.all_eq_true,Bool.or_eq_true,Bool.not_eq_true',Prod.forall,List.mem_zipIdx_iff_getElem?] at h ⊢;intro t' j hj';obtain ⟨t,hj,hr⟩:=hl.get hj';have hw:(t.isHeap&&t.writes)=(t'.isHeap&&t'.writes):=by
   cases t<;>cases t'<;>first|rfl|exact hr.elim|(have:=hr;simp only [TR] at this;simp [V.Tch.writes,V.Tch.isHeap,this])
 rcases h t j hj with h0|h0
 · exact .inl (by rw [<- hw];exact h0)
 · exact .inr h0
theorem TRs.snoc {φ:Nat->Option Nat} {l l':List V.Tch} {t t':V.Tch} (h:TRs φ l l') (ht:TR φ t t'):TRs φ (l++[t]) (l'++[t']):=by
 induction h with
 |nil=>exact .cons ht .nil
 |cons h1 _ ih=>exact .cons h1 ih
theorem isStill_sim (hg:GlobOK A glob) {env:Env} {o:Oper} {K:US->St->Option X} {s0:St} (h:op A glob env locs s0 o K=some out) (he:s0.e=s.e) (hst:isStill A glob s o=false) {m:Mp} {φ:Nat->Option Nat} {sv:V.S} (hs:Rst m φ s sv):V.isStill A sv o=false:=by
 unfold isStill at hst;unfold V.isStill;cases h0:V.stillOp A o with
 |false=>rfl
 |true=>
  rw [h0,Bool.true_and] at hst;rw [Bool.true_and];split at hst
  · rename_i t x ho;unfold op at h;rw [ho] at h;simp only [Option.bind_eq_some_iff] at h;obtain ⟨p,hp,v,hv,h⟩:=h;rw [he] at hp;obtain ⟨pv,e1,e2⟩:=operand_sim (m:=m) (φ:=φ) hg hp hs.e;have hpn:=load_addr hv;simp only [hp] at hst;simp only [ho,e1];cases p with
    |loc i c=>
     cases pv with
     |v a=>exact e2.elim
     |loc j c'=>rfl
    |v p=>
     obtain ⟨pa,rfl,e5⟩:=e2.val (fun e=>hpn (by rw [e]));cases e5<;>first|(exact (hpn rfl).elim)|rfl|(simp at hst;done)|skip
     all_goals (rename_i ha;rcases ha with rfl|rfl<;>rfl)
  · simp at hst
theorem opsD_sim (hg:GlobOK A glob) {env:Env} (hc:SimCall C env.call) {all:Array Oper} {b:List Nat}:∀ {os:List Oper} {i:Nat} {s:St} {l:List V.Tch} {rs:List Rec} {K:St->List V.Tch->Option X},opsD A glob env locs n all b os i s l rs K=some out->
  ∃ s' l1,K s' (l++l1)=some out/\s'.base=s.base/\s'.H.wm=s.H.wm/\∀ (m:Mp) (φ:Nat->Option Nat) (sv:V.S) (lv:List V.Tch) (vrs:List (Oper×List (Nat×V.SV)×V.SV)),Rst m φ s sv->TRs φ l lv->RecRs A C locs m rs vrs->V.StillAll A C locs vrs sv->∃ sv' m' φ' l1v,V.opsD A C locs n all b os i sv lv vrs=some (sv',lv++l1v)/\Rst m' φ' s' sv'/\m.Le m'/\PLe φ φ'/\Go' m.top m sv.H m' sv'.H/\TRs φ' l1 l1v
 |[],i,s,l,rs,K,h=>⟨s,[],by simpa [opsD] using h,rfl,rfl,fun m φ sv lv vrs hs _ _ _=>⟨sv,m,φ,[],by simp [V.opsD],hs,.refl m,.refl φ,.refl _ (Nat.le_refl _),.nil⟩⟩
 |o::os,i,s,l,rs,K,h=>by
  simp only [opsD,fU_eq,fSt_eq] at h;obtain ⟨g,s1,h1,h2,h3,h4⟩:=guard_sim h;cases g with
  |true=>
   simp only at h1;split at h1
   · rename_i hstill;obtain ⟨v,k1,k2⟩:=still_sim (C:=C) hg hc h1 hstill;split at k1
     case isFalse=>simp at k1
     rename_i hpl;simp only [Bool.and_eq_true] at hpl;simp only [Option.bind_eq_some_iff] at k1;obtain ⟨r,hr,s3,hp,k1⟩:=k1;obtain ⟨p1,p2,p3⟩:=put_sim hp;obtain ⟨s4,l1,q1,q2,q3,q4⟩:=opsD_sim hg hc k1;refine ⟨s4,.no::l1,by rw [List.append_assoc] at q1;exact q1,by rw [q2,p1,h2],by rw [q3,p2,h3],fun m φ sv lv vrs hs htl hrs hall=> ?_⟩;obtain ⟨g1,g2⟩:=h4 m φ sv hs;obtain ⟨f1,vv,⟨svx,f2⟩,f3,f5⟩:=k2 hpl.1 r hr m φ sv g2;have f4:=plain_sim hpl.1 g2 f3;obtain ⟨sv3,e7,e8,e9⟩:=p3 m φ sv vv g2 f3;have hsv3:sv3.F=sv.F:=(vput_F e7);have hall3:V.StillAll A C locs (vrs++[(o,sv.e,vv)]) sv3:=fun r hr=>by
      have e:∀ e',({ sv3 with e:=e' }:V.S)={ sv with e:=e' }:=fun e'=>by
        obtain ⟨a1,a2,a3⟩:=sv3;obtain ⟨b1,b2,b3⟩:=sv;simp only at e8 hsv3;subst e8;subst hsv3;rfl
      rw [e];rcases List.mem_append.1 hr with hr|hr
      · exact hall r hr
      · simp at hr;subst hr;exact ⟨svx,f2⟩
     obtain ⟨sv4,m4,φ4,l1v,e10,e11,e12,e13,e14,e15⟩:=q4 m φ sv3 (lv++[.no]) _ e9 (htl.snoc (show TR _ .no .no from trivial)) (.snoc hrs f5) hall3;rw [e8] at e14;refine ⟨sv4,m4,φ4,.no::l1v,?_,e11,e12,e13,e14,.cons trivial e15⟩;simp only [V.opsD,g1,Option.bind_some,f1,if_true,f2,f4,ordW_sim htl hpl.2,Bool.true_and,e7,if_pos hall3,e10]
     simp
   · rename_i hstill;have h1':=h1;obtain ⟨v,s2,k1,k2,k4,k5⟩:=opD_sim hg hc h1;simp only [Option.bind_eq_some_iff] at k1;obtain ⟨s3,hp,k1⟩:=k1;split at k1
     case isFalse=>simp at k1
     rename_i hrec;obtain ⟨p1,p2,p3⟩:=put_sim hp;obtain ⟨s4,l1,q1,q2,q3,q4⟩:=opsD_sim hg hc k1;refine ⟨s4,touch glob locs s1 o (V.quietAt A locs all.toList b i o)::l1,by rw [List.append_assoc] at q1;exact q1,by rw [q2,p1,k2,h2],by rw [q3,p2,k4,h3],fun m φ sv lv vrs hs htl hrs hall=> ?_⟩;obtain ⟨g1,g2⟩:=h4 m φ sv hs;obtain ⟨htr,vv,sv2,m2,φ2,e1,e2,e3,e4,e5,e6⟩:=k5 m φ sv g2;obtain ⟨sv3,e7,e8,e9⟩:=p3 m2 φ2 sv2 vv e2 e3;have hall3:=(hrs.mono e4).all e9 hrec;obtain ⟨sv4,m4,φ4,l1v,e10,e11,e12,e13,e14,e15⟩:=q4 m2 φ2 sv3 (lv++[V.touch A locs sv o (V.quietAt A locs all.toList b i o)]) vrs e9 ((htl.mono e5).snoc (htr.mono e5)) (hrs.mono e4) hall3;rw [e8] at e14;refine ⟨sv4,m4,φ4,_::l1v,?_,e11,e4.trans e12,e5.trans e13,e6.trans e14 e6.old.1,.cons (htr.mono (e5.trans e13)) e15⟩;have hns:V.isStill A sv o=false:=by
      have hf:isStill A glob s1 o=false:=by simpa using hstill
      cases hw:isW (touch glob locs s1 o (V.quietAt A locs all.toList b i o)) with
      |true=>
        revert h1'
        generalize touch glob locs s1 o (V.quietAt A locs all.toList b i o)=t at hw;intro h1';cases t with
        |heap w=>
         cases w with
         |true=>simp only [opD] at h1';exact isStill_sim (s:=s1) (env:=env) hg h1' rfl hf g2
         |false=>simp [isW] at hw
        |_=>simp [isW] at hw
      |false=>rw [opD_ne hw] at h1';exact isStill_sim (s:=s1) hg h1' rfl hf g2
     simp only [V.opsD,g1,Option.bind_some,hns,Bool.false_eq_true,if_false,e1,e7,if_pos hall3,e10]
     simp
  |false=>
   simp only [Option.bind_eq_some_iff] at h1;obtain ⟨s3,hp,h1⟩:=h1;obtain ⟨p1,p2,p3⟩:=put_sim hp;obtain ⟨s4,l1,q1,q2,q3,q4⟩:=opsD_sim hg hc h1;refine ⟨s4,.no::l1,by rw [List.append_assoc] at q1;exact q1,by rw [q2,p1,h2],by rw [q3,p2,h3],fun m φ sv lv vrs hs htl hrs hall=> ?_⟩;obtain ⟨g1,g2⟩:=h4 m φ sv hs;obtain ⟨sv3,e7,e8,e9⟩:=p3 m φ sv (.v (.tup [])) g2 junk_rs;have hsv3:sv3.F=sv.F:=(vput_F e7);have hall3:V.StillAll A C locs vrs sv3:=fun r hr=>by
     have e:∀ e',({ sv3 with e:=e' }:V.S)={ sv with e:=e' }:=fun e'=>by
      obtain ⟨a1,a2,a3⟩:=sv3;obtain ⟨b1,b2,b3⟩:=sv;simp only at e8 hsv3;subst e8;subst hsv3;rfl
     rw [e];exact hall r hr
   obtain ⟨sv4,m4,φ4,l1v,e10,e11,e12,e13,e14,e15⟩:=q4 m φ sv3 (lv++[.no]) vrs e9 (htl.snoc (show TR _ .no .no from trivial)) hrs hall3;rw [e8] at e14;refine ⟨sv4,m4,φ4,.no::l1v,?_,e11,e12,e13,e14,.cons trivial e15⟩;simp only [V.opsD,g1,Option.bind_some,e7,if_pos hall3,e10]
   simp
theorem region_sim (hg:GlobOK A glob) {env:Env} (hc:SimCall C env.call) {os:Array Oper} {draw:Bool} {K:St->Option X} (h:region A glob env locs n os draw s K=some out):∃ s',K s'=some out/\STo (V.region A C locs n os draw) s s':=by
 unfold region at h;split at h
 · rename_i hd;split at h
   case isFalse=>simp at h
   rename_i hsl;obtain ⟨s',l1,h1,h2,h3,h4⟩:=opsD_sim hg hc h;rw [List.nil_append] at h1;split at h1
   case isFalse=>simp at h1
   rename_i htr;refine ⟨s',h1,h2,h3,fun m φ sv hs=> ?_⟩;obtain ⟨sv',m',φ',l1v,e1,e2,e3,e4,e5,e6⟩:=h4 m φ sv [] [] hs .nil .nil (fun r hr=>by simp at hr);have:=trace_sim e2.f.inj e6 htr;refine ⟨sv',m',φ',?_,e2,e3,e4,e5⟩;unfold V.region;rw [if_pos hd,if_pos hsl,e1];simp [this]
 · rename_i hd;obtain ⟨s',h1,h2⟩:=ops_sim hg hc h;refine ⟨s',h1,h2.1,h2.2.1,fun m φ sv hs=> ?_⟩;unfold V.region;rw [if_neg hd];exact h2.2.2 m φ sv hs
def CTo (run:V.S->Option (V.Ex×V.S)) (s:St) (ex:V.Ex) (s':St):Prop:=
 s'.base=s.base/\s'.H.wm=s.H.wm/\∀ (m:Mp) (φ:Nat->Option Nat) (sv:V.S),Rst m φ s sv->∃ sv' m' φ',run sv=some (ex,sv')/\Rst m' φ' s' sv'/\Go' s.base m sv.H m' sv'.H
def loops (j:Nat->Bool):Code->List Code
 | .seq a b=>loops j a++loops j b
 | .region id os d=>cond (j (2000000+id)) [.region id os d] []
 | .cond c a b=>cond (j (1000000+loopKey a)) [.cond c a b] (loops j a++loops j b)
 | .block _ c=>loops j c
 | .scope c=>loops j c
 | .loop c=>[.loop c]
 | .rangeFunc g ps a b=>[.rangeFunc g ps a b]
 |_=>[]
def keyOf:Code->Nat
 | .loop c=>loopKey c
 | .region id _ _=>2000000+id
 | .cond _ a _=>1000000+loopKey a
 |c=>loopKey c
def LoopSim (orc:(X:Type)->Nat->St->(V.Ex->St->Option X)->Option X) (run:Code->V.S->Option (V.Ex×V.S)) (c:Code):Prop:=
 ∀ (X:Type) (s:St) (K:V.Ex->St->Option X) (out:X),orc X (keyOf c) s K=some out->∃ ex s',K ex s'=some out/\CTo (run c) s ex s'
theorem CTo.same {run:V.S->Option (V.Ex×V.S)} {ex:V.Ex} (h:∀ sv,run sv=some (ex,sv)):CTo run s ex s:=
 ⟨rfl,rfl,fun m φ sv hs=>⟨sv,m,φ,h sv,hs,.refl _ (by rw [hs.h.len];exact hs.b)⟩⟩
theorem CTo.trans {f g k:V.S->Option (V.Ex×V.S)} {s s1 s2:St} {ex ex1:V.Ex} (h:CTo f s ex s1) (h':CTo g s1 ex1 s2) (hk:∀ sv sv',f sv=some (ex,sv')->k sv=g sv'):CTo k s ex1 s2:=
 ⟨h'.1.trans h.1,h'.2.1.trans h.2.1,fun m φ sv hs=>by
  obtain ⟨sv1,m1,φ1,h1,h2,h3⟩:=h.2.2 m φ sv hs;obtain ⟨sv2,m2,φ2,k1,k2,k3⟩:=h'.2.2 m1 φ1 sv1 h2;rw [h.1] at k3;exact ⟨sv2,m2,φ2,by rw [hk sv sv1 h1];exact k1,k2,h3.trans k3 (Nat.le_refl _)⟩⟩
theorem CTo.map {f k:V.S->Option (V.Ex×V.S)} {s s1:St} {ex ex1:V.Ex} (h:CTo f s ex s1) (hk:∀ sv sv',f sv=some (ex,sv')->k sv=some (ex1,sv')):CTo k s ex1 s1:=
 ⟨h.1,h.2.1,fun m φ sv hs=>let ⟨sv1,m1,φ1,h1,h2,h3⟩:=h.2.2 m φ sv hs;⟨sv1,m1,φ1,hk _ _ h1,h2,h3⟩⟩
theorem setTmp_sim {c:Operand} {b:Bool} (hc:val glob s.e c=some (.bool b)):(setTmp s c b).base=s.base/\(setTmp s c b).H=s.H/\∀ (m:Mp) (φ:Nat->Option Nat) (sv:V.S),Rst m φ s sv->Rst m φ (setTmp s c b) sv:=by
 unfold setTmp;split
 · rename_i t;refine ⟨rfl,rfl,fun m φ sv hs=>⟨hs.h,hs.f,fun t'=> ?_,hs.b⟩⟩;simp only [get];split
   · rename_i e;subst e;have h1:=(val_some hc).1;simp [operand] at h1;have:=hs.e t';rw [h1] at this;exact this
   · exact hs.e t'
 · exact ⟨rfl,rfl,fun m φ sv hs=>hs⟩
theorem code_sim (hg:GlobOK A glob) {env:Env} (hc:SimCall C env.call) {keep:List Nat}:∀ {c:Code} {s:St} {K:V.Ex->St->Option X},(∀ c'∈loops env.join c,LoopSim env.loop (V.code A C rf locs keep n) c')->code A glob env locs n c s K=some out->∃ ex s',K ex s'=some out/\CTo (V.code A C rf locs keep n c) s ex s'
 | .skip,s,K,_,h=>⟨.normal,s,h,.same fun _=>rfl⟩
 | .label _,s,K,_,h=>⟨.normal,s,h,.same fun _=>rfl⟩
 | .exit id,s,K,_,h=>⟨.exit id,s,h,.same fun _=>rfl⟩
 | .ret,s,K,_,h=>⟨.ret,s,h,.same fun _=>rfl⟩
 | .region id os draw,s,K,hl,h=>by
  simp only [code] at h;cases hj:env.join (2000000+id) with
  |true=>
   rw [hj] at h;exact hl (.region id os draw) (by simp [loops,hj]) X s K out h
  |false=>
  rw [hj] at h;simp only [cond_false] at h;obtain ⟨s',h1,h2⟩:=region_sim hg hc h;refine ⟨.normal,s',h1,h2.1,h2.2.1,fun m φ sv hs=> ?_⟩;obtain ⟨sv',m',φ',e1,e2,e3,e4,e5⟩:=h2.2.2 m φ sv hs;exact ⟨sv',m',φ',by simp [V.code,e1],e2,e5.less (by rw [hs.h.len];exact hs.b)⟩
 | .seq a b,s,K,hl,h=>by
  simp only [code] at h;obtain ⟨ex,s1,h1,h2⟩:=code_sim hg hc (fun c' hc'=>hl c' (by simp [loops,hc'])) h;cases ex with
  |normal=>
   simp only at h1;obtain ⟨ex2,s2,k1,k2⟩:=code_sim hg hc (fun c' hc'=>hl c' (by simp [loops,hc'])) h1;exact ⟨ex2,s2,k1,h2.trans k2 fun sv sv' e=>by simp [V.code,e]⟩
  |exit id=>exact ⟨.exit id,s1,h1,h2.map fun sv sv' e=>by simp [V.code,e]⟩
  |ret=>exact ⟨.ret,s1,h1,h2.map fun sv sv' e=>by simp [V.code,e]⟩
 | .cond c x y,s,K,hl,h=>by
  simp only [code] at h;cases hj:env.join (1000000+loopKey x) with
  |true=>
   rw [hj] at h;exact hl (.cond c x y) (by simp [loops,hj]) X s K out h
  |false=>
  rw [hj] at h;simp only [cond_false,Option.bind_eq_some_iff] at h;have hl:∀ c'∈loops env.join x++loops env.join y,LoopSim env.loop (V.code A C rf locs keep n) c':=fun c' hc'=>hl c' (by simp only [loops,hj,cond_false];exact hc')
  obtain ⟨cv,hcv,h⟩:=h;split at h
  case h_2=>simp at h
  rename_i b;have key:∀ {z:Code} {ex:V.Ex} {s':St},CTo (V.code A C rf locs keep n z) (setTmp s c b) ex s'->(∀ sv,V.val A sv.e c=some (.bool b)->V.code A C rf locs keep n (.cond c x y) sv=V.code A C rf locs keep n z sv)->CTo (V.code A C rf locs keep n (.cond c x y)) s ex s':=fun {z ex s'} h1 h2=>by
   obtain ⟨q1,q2,q3⟩:=setTmp_sim hcv;refine ⟨h1.1.trans q1,h1.2.1.trans (by rw [q2]),fun m φ sv hs=> ?_⟩;obtain ⟨cv',e1,e2⟩:=val_sim hg hcv hs.e;cases e2;obtain ⟨sv',m',φ',k1,k2,k3⟩:=h1.2.2 m φ sv (q3 m φ sv hs);rw [q1] at k3;exact ⟨sv',m',φ',by rw [h2 sv e1];exact k1,k2,k3⟩
  cases b with
  |true=>
   simp only [cond_true] at h;obtain ⟨ex,s1,h1,h2⟩:=code_sim hg hc (fun c' hc'=>hl c' (by simp [hc'])) h;exact ⟨ex,s1,h1,key h2 fun sv e=>by simp [V.code,e]⟩
  |false=>
   simp only [cond_false] at h;obtain ⟨ex,s1,h1,h2⟩:=code_sim hg hc (fun c' hc'=>hl c' (by simp [hc'])) h;exact ⟨ex,s1,h1,key h2 fun sv e=>by simp [V.code,e]⟩
 | .block id c,s,K,hl,h=>by
  simp only [code] at h;obtain ⟨ex,s1,h1,h2⟩:=code_sim hg hc (fun c' hc'=>hl c' (by simpa [loops] using hc')) h;cases ex with
  |normal=>exact ⟨.normal,s1,h1,h2.map fun sv sv' e=>by simp [V.code,e]⟩
  |ret=>exact ⟨.ret,s1,h1,h2.map fun sv sv' e=>by simp [V.code,e]⟩
  |exit id'=>
   simp only at h1;split at h1
   · rename_i hid;exact ⟨.normal,s1,h1,h2.map fun sv sv' e=>by simp [V.code,e,hid]⟩
   · rename_i hid;exact ⟨.exit id',s1,h1,h2.map fun sv sv' e=>by simp [V.code,e,hid]⟩
 | .loop c,s,K,hl,h=>by
  simp only [code] at h;exact hl (.loop c) (by simp [loops]) X s K out h
 | .rangeFunc g ps a b,s,K,hl,h=>by
  simp only [code] at h;exact hl (.rangeFunc g ps a b) (by simp [loops]) X s K out h
 | .scope c,s,K,hl,h=>by
  simp only [code] at h;obtain ⟨ex,s1,h1,h2⟩:=code_sim hg hc (fun c' hc'=>hl c' (by simpa [loops] using hc')) h;exact ⟨ex,s1,h1,h2.map fun sv sv' e=>by simp [V.code,e]⟩
 | .goto _,s,K,_,h=>by simp [code] at h
 | .refuse _,s,K,_,h=>by simp [code] at h
end
end Go.U
