/- A second evaluator, over rows of Lean values, and that it is right over the first. -/
import Derived.Test.YtjenflkegbmkkaaGreatDoorB1
set_option linter.unusedVariables false
set_option linter.unusedSimpArgs false
set_option linter.unusedSectionVars false
open Bool renaming and_eq_true→Ia,false_eq_true→se,or_eq_true→Ff,and_eq_false_iff→Dr,true_and→uo
open List renaming take_length→qo,map_cons→Dd,length_map→Ec,all_eq_true→Yb,getElem?_take→Ab,getElem?_append_left→Fa,getElem?_append_right→Ka,getElem?_drop→Dc,mem_of_getElem?→jb,getElem?_eq_none→mb,length_eq_zero_iff→Da,mem_cons_self→zc,mem_cons_of_mem→Gb,getElem?_of_mem→Yd,getElem?_eq_getElem→ya,mem_cons→oc,mem_append→Tn,append_assoc→od
open Nat renaming zero_add→de,le_refl→oa,lt_or_ge→Rb,le_trans→Ib
open Nat.succ renaming inj→nC
open Option renaming bind_some→da,bind_eq_some_iff→aa,map_eq_some_iff→ia,map_some→Jc
open Option.some renaming injEq→yc
namespace Go.U
open Go
variable [TB:sB]
section
variable {A:V.oh} {La:Nat->Option (List UV)} {m:Mp} {φ:Nat->Option Nat} {H H':UH} {Hv:V.AH} {X:Type} {out:X}
theorem ik {e:TypeId} {t:TypeId} {lo hi:Option Int} {x':V.AV} {k:Nat} (hu:A.P.underlying t=some (.slice e)) (hz:V.size A e=some k) (hx:x'= .Wa\/x'= .Kd) (h:0<=lo.getD 0/\lo.getD 0<=hi.getD ((0:Nat):Int)/\hi.getD ((0:Nat):Int)<=((0:Nat):Int)):V.slice A Hv t x' lo hi=some x':=by
 rcases hx with rfl|rfl<;>simp only [V.slice,hu,hz,da,V.aM]<;>rw [if_pos h]<;>simp
theorem YO {t:TypeId} {x:UV} {lo hi:Option Int} {K:UV->Option X} (h:slice A H t x lo hi K=some out):
   ∃ v,K v=some out/\∀ (m:Mp) (Hv:V.AH) (x':V.AV),RH m H Hv->RV m x x'->∃ a,V.slice A Hv t x' lo hi=some a/\RV m v a:=by
 unfold slice at h;split at h
 · rename_i s hu;obtain ⟨h0,h⟩:=Ad h;simp only [Ia,decide_eq_true_eq] at h0;refine ⟨_,h,fun m Hv x' hh hx=> ?_⟩;cases hx with
   |str=>
     refine ⟨_,?_,.str _⟩;simp only [V.slice,hu,V.aM];rw [if_pos ⟨h0.1.1,h0.1.2,h0.2⟩];rfl
 · rename_i e c l hu;split at h
   case isFalse=>simp at h
   rename_i hz;split at h
   · obtain ⟨h0,h⟩:=Ad h;simp only [Ia,decide_eq_true_eq] at h0;refine ⟨_,h,fun m Hv x' hh hx=> ?_⟩;cases hx with
     |lit _ _ rows h1 h2 h3=>
      have cS:RT m c l rows:=⟨h1,fun i _=>⟨tf _ _ _,Pd _ _ _⟩,fun i row _=>h2 i row,fun i row k x a _=>h3 i row k x a⟩;refine ⟨.lit (width c) ((rows.take rows.length).drop (lo.getD 0).toNat),?_,?_⟩
      · simp only [V.slice,hu,V.aM];rw [if_pos ⟨h0.1,by rw [h1];simpa using h0.2,by simp⟩];simp [hz]
      · rw [qo];exact (cS.drop _).lit
     |Qh _ a ha=>
      refine ⟨x',ik hu hz ha ⟨h0.1,by simpa using h0.2,by simp⟩,?_⟩;rw [List.drop_nil];exact .Qh _ _ ha
   · rename_i hv;obtain ⟨h0,h⟩:=Ad h;simp only [Ia,decide_eq_true_eq] at h0;refine ⟨_,h,fun m Hv x' hh hx=> ?_⟩;cases hx with
     |lit _ _ rows h1 h2 h3=>
      have cS:RT m c l rows:=⟨h1,fun i _=>⟨tf _ _ _,Pd _ _ _⟩,fun i row _=>h2 i row,fun i row k x a _=>h3 i row k x a⟩;refine ⟨.lit (width c) ((rows.take hv.toNat).drop (lo.getD 0).toNat),?_,((cS.take _).drop _).lit⟩;simp only [V.slice,hu,V.aM];rw [if_pos ⟨h0.1.1,by simpa using h0.1.2,by rw [h1];simpa using h0.2⟩];simp [hz]
     |Qh _ a ha=>
      refine ⟨x',ik hu hz ha ⟨h0.1.1,by simpa using h0.1.2,by simpa using h0.2⟩,?_⟩;rw [List.take_nil,List.drop_nil];exact .Qh _ _ ha
 · rename_i e b r n hu;split at h
   · rename_i c l hb;split at h
     case isFalse=>simp at h
     rename_i hz;obtain ⟨h0,h⟩:=Ad h;simp only [Ia,decide_eq_true_eq] at h0;refine ⟨_,h,fun m Hv x' hh hx=> ?_⟩;obtain ⟨kb,kx⟩:=uc (s:=⟨[],[],H,0⟩) (sv:=⟨[],[],Hv⟩) hh hb;cases hx with
     |sl _ _ _ xi Ef hle=>
      obtain ⟨rows,ty,j2,j3,j4⟩:=kx xi Ef;have BM:Hv.bl[xi]?=some (.cells rows (width c) ty):=j2;refine ⟨.sl xi (r+(lo.getD 0).toNat) ((hi.getD n).toNat-(lo.getD 0).toNat),?_,?_⟩
      · simp only [V.slice,hu,V.aM];rw [if_pos ⟨h0.1.1,h0.1.2,h0.2⟩];simp [V.Aj,BM,hz]
      · rw [oz];exact .sl b _ _ xi Ef (by omega)
     |Jr _ _ a ha=>
      refine ⟨x',ik hu hz ha ⟨h0.1.1,by simpa using h0.1.2,by simpa using h0.2⟩,?_⟩;have:(hi.getD ((0:Nat):Int)).toNat-(lo.getD 0).toNat=0:=by omega
      rw [this];exact .Jr _ _ _ ha
   · rename_i c l hb;split at h
     case isFalse=>simp at h
     rename_i hz;obtain ⟨h0,h⟩:=Ad h;simp only [Ia,decide_eq_true_eq] at h0;refine ⟨_,h,fun m Hv x' hh hx=> ?_⟩;obtain ⟨kb,_,kx⟩:=Od (s:=⟨[],[],H,0⟩) (sv:=⟨[],[],Hv⟩) hh hb;cases hx with
     |sl _ _ _ xi Ef hle=>
      obtain ⟨rows,ty,j2,j3,j4⟩:=kx xi Ef;have BM:Hv.bl[xi]?=some (.cells rows 1 ty):=j2;refine ⟨.sl xi (r+(lo.getD 0).toNat) ((hi.getD n).toNat-(lo.getD 0).toNat),?_,?_⟩
      · simp only [V.slice,hu,V.aM];rw [if_pos ⟨h0.1.1,h0.1.2,h0.2⟩];simp [V.Aj,BM,hz]
      · rw [oz];exact .sl b _ _ xi Ef (by omega)
     |Jr _ _ a ha=>
      refine ⟨x',ik hu hz ha ⟨h0.1.1,by simpa using h0.1.2,by simpa using h0.2⟩,?_⟩;have:(hi.getD ((0:Nat):Int)).toNat-(lo.getD 0).toNat=0:=by omega
      rw [this];exact .Jr _ _ _ ha
   · simp at h
 · rename_i e b hu;split at h
   · rename_i c l hb;split at h
     case isFalse=>simp at h
     rename_i hz;obtain ⟨h0,h⟩:=Ad h;simp only [Ia,decide_eq_true_eq] at h0;refine ⟨_,h,fun m Hv x' hh hx=> ?_⟩;obtain ⟨kb,kx⟩:=uc (s:=⟨[],[],H,0⟩) (sv:=⟨[],[],Hv⟩) hh hb;cases hx with
     |all _ xi Ef=>
      obtain ⟨rows,ty,j2,j3,j4⟩:=kx xi Ef;have BM:Hv.bl[xi]?=some (.cells rows (width c) ty):=j2;refine ⟨.sl xi (0+(lo.getD 0).toNat) ((hi.getD l.length).toNat-(lo.getD 0).toNat),?_,?_⟩
      · simp only [V.slice,hu,V.aM,kb];rw [if_pos ⟨h0.1.1,h0.1.2,h0.2⟩];simp [V.Aj,BM,hz]
      · rw [de];exact .sl b _ _ xi Ef (by omega)
     |Nf _ a _ hl ha=>
      have CH:l.length=0:=by omega
      rw [CH] at h0 ⊢;refine ⟨x',ik hu hz ha ⟨h0.1.1,by simpa using h0.1.2,by simpa using h0.2⟩,?_⟩;have:(hi.getD ((0:Nat):Int)).toNat-(lo.getD 0).toNat=0:=by omega
      rw [this];exact .Jr _ _ _ ha
   · rename_i c l hb;split at h
     case isFalse=>simp at h
     rename_i hz;obtain ⟨h0,h⟩:=Ad h;simp only [Ia,decide_eq_true_eq] at h0;refine ⟨_,h,fun m Hv x' hh hx=> ?_⟩;obtain ⟨kb,_,kx⟩:=Od (s:=⟨[],[],H,0⟩) (sv:=⟨[],[],Hv⟩) hh hb;cases hx with
     |all _ xi Ef=>
      obtain ⟨rows,ty,j2,j3,j4⟩:=kx xi Ef;have BM:Hv.bl[xi]?=some (.cells rows 1 ty):=j2;refine ⟨.sl xi (0+(lo.getD 0).toNat) ((hi.getD l.length).toNat-(lo.getD 0).toNat),?_,?_⟩
      · simp only [V.slice,hu,V.aM,kb];rw [if_pos ⟨h0.1.1,h0.1.2,h0.2⟩];simp [V.Aj,BM,hz]
      · rw [de];exact .sl b _ _ xi Ef (by omega)
     |Nf _ a _ hl ha=>
      have CH:l.length=0:=by omega
      rw [CH] at h0 ⊢;refine ⟨x',ik hu hz ha ⟨h0.1.1,by simpa using h0.1.2,by simpa using h0.2⟩,?_⟩;have:(hi.getD ((0:Nat):Int)).toNat-(lo.getD 0).toNat=0:=by omega
      rw [this];exact .Jr _ _ _ ha
   · simp at h
 · simp at h
theorem yP {op:BinOp} {k:IntKind} {x y:Int} {K:UV->Option X} (h:bp op k x y K=some out):∃ v,K v=some out/\∃ a,V.bp op k x y=some a/\∀ m,RV m v a:=by
 unfold bp at h;split at h
 case h_4=>
  by_cases hy:y=0
  · simp [hy] at h
  · simp [hy] at h;exact ⟨_,h,_,by simp only [V.bp];rw [if_neg hy],fun _=> .int _ _⟩
 case h_5=>
  by_cases hy:y=0
  · simp [hy] at h
  · simp [hy] at h;exact ⟨_,h,_,by simp only [V.bp];rw [if_neg hy],fun _=> .int _ _⟩
 case h_6|h_7|h_8|h_9=>
  simp only [aa] at h;obtain ⟨n,hn,h⟩:=h;exact ⟨_,h,.int k n,by simp [V.bp,hn],fun _=> .int _ _⟩
 all_goals first
  |(exact ⟨_,h,_,rfl,fun _=> .int _ _⟩)
  |(exact ⟨_,h,_,rfl,fun _=> .bool _⟩)
  |(simp at h)
theorem Nn {eq:TypeId->UV->UV->Option Bool} {eqv:TypeId->V.AV->V.AV->Option Bool} {xs ys:List UV} {Ho ys':List V.AV} (he:∀ t x y x' y' b,eq t x y=some b->RV m x x'->RV m y y'->eqv t x' y'=some b)
  (hx:RL m xs Ho) (hy:RL m ys ys'):∀ (fs:List Field) (b:Bool),eqFields A eq xs ys fs=some b->V.eqFields A eqv Ho ys' fs=some b
 |[],b,h=>by simpa [eqFields,V.eqFields] using h
 |fd::fs,b,h=>by
  simp only [eqFields] at h;simp only [V.eqFields];split at h
  · rename_i hn;rw [if_pos hn];exact Nn he hx hy fs b h
  · rename_i hn;rw [if_neg hn];simp only [aa,ia] at h;obtain ⟨x,h1,y,h2,b1,h3,c,h4,rfl⟩:=h;obtain ⟨x',k1,k2⟩:=Yf h1 hx;obtain ⟨y',k3,k4⟩:=Yf h2 hy;simp only [k1,k3,da,he _ _ _ _ _ _ h3 k2 k4,Nn he hx hy fs c h4,Jc]
theorem Ox {eq:UV->UV->Option Bool} {eqv:V.AV->V.AV->Option Bool} {e:TypeId} {sz:Nat} {xs ys:List UV} {Ho ys':List V.AV} (he:∀ x y x' y' b,eq x y=some b->RV m x x'->RV m y y'->eqv x' y'=some b)
  (hx:RL m xs Ho) (hy:RL m ys ys'):∀ (n i:Nat) (b:Bool),sg A eq e sz xs ys n i=some b->V.sg A eqv e sz Ho ys' n i=some b
 |0,i,b,h=>by simpa [sg,V.sg] using h
 |n+1,i,b,h=>by
  simp only [sg] at h;simp only [V.sg];simp only [aa,ia] at h;obtain ⟨x,h1,y,h2,b1,h3,c,h4,rfl⟩:=h;obtain ⟨x',k1,k2⟩:=Yf h1 hx;obtain ⟨y',k3,k4⟩:=Yf h2 hy;simp only [k1,k3,da,he _ _ _ _ _ h3 k2 k4,Ox he hx hy n (i+1) c h4,Jc]
theorem lz:∀ (d:Nat) {t:TypeId} {x y:UV} {x' y':V.AV} {b:Bool},Lu A d t x y=some b->RV m x x'->RV m y y'->V.Lu A d t x' y'=some b
 |0,t,x,y,x',y',b,h,_,_=>by simp [Lu] at h
 |d+1,t,x,y,x',y',b,h,hx,hy=>by
  simp only [Lu] at h;split at h
  · rename_i hu;cases hx;cases hy;simpa [V.Lu,hu] using h
  · rename_i k a k' b' hu;cases hx;cases hy;simpa [V.Lu,hu] using h
  · rename_i hu;cases hx;cases hy;simpa [V.Lu,hu] using h
  · rename_i fs xs ys hu;split at h
    · simp at h
    rename_i hs;cases hx with
    |agg _ as hl hr=>
      cases hy with
      |agg _ bs Pf Rk=>
       simp only [V.Lu,hu];rw [if_neg hs];exact Nn (eq:=Lu A d) (eqv:=V.Lu A d) (fun t x y x' y' b h h1 h2=>lz d h h1 h2) ⟨hl,hr⟩ ⟨Pf,Rk⟩ _ _ h
  · rename_i n e xs ys hu;simp only [aa] at h;obtain ⟨sz,ae,h⟩:=h;cases hx with
    |agg _ as hl hr=>
      cases hy with
      |agg _ bs Pf Rk=>
       simp only [V.Lu,hu,ae,da];exact Ox (eq:=Lu A d e) (eqv:=V.Lu A d e) (fun x y x' y' b h h1 h2=>lz d h h1 h2) ⟨hl,hr⟩ ⟨Pf,Rk⟩ _ _ _ h
  · simp at h
theorem LI {t:TypeId} {x y:UV} {x' y':V.AV} {b:Bool} (h:og A t x y=some b) (hx:RV m x x') (hy:RV m y y'):V.og A t x' y'=some b:=by
 unfold og at h;split at h
 case h_2=>
  rename_i fs xs ys hu;split at h
  · simp at h
  rename_i hs;cases hx with
  |agg _ as hl hr=>
    cases hy with
    |agg _ bs Pf Rk=>
     simp only [V.og,hu];rw [if_neg hs];exact lz 1000 h (.agg _ _ hl hr) (.agg _ _ Pf Rk)
 case h_3=>
  rename_i n e xs ys hu;split at h
  · simp at h
  rename_i hs;cases hx with
  |agg _ as hl hr=>
    cases hy with
    |agg _ bs Pf Rk=>
     simp only [V.og,hu];rw [if_neg hs];exact lz 1000 h (.agg _ _ hl hr) (.agg _ _ Pf Rk)
 all_goals first
  |(simp at h;done)
  |(rename_i hu;cases hx;cases hy;simpa only [V.og,hu] using h)
theorem WA {t:TypeId} {x y:UV} {x':V.AV} {b:Bool} (h:og A t x y=some b) (hx:RV m x x'):(∀ k n,x'≠ .int k n)/\∀ s,x'≠ .str s:=by
 unfold og at h;split at h
 all_goals first
  |(simp at h;done)
  |(cases hx;exact ⟨fun _ _ e=>by simp at e,fun _ e=>by simp at e⟩)
theorem TO {op:BinOp} {x y:ByteArray} {K:UV->Option X} (h:Ir op x y K=some out):∃ v,K v=some out/\∃ a,V.Ir op x y=some a/\∀ m,RV m v a:=by
 unfold Ir at h;split at h
 case h_1=>
  obtain ⟨h0,h⟩:=Ad h;simp only [decide_eq_true_eq] at h0;exact ⟨_,h,_,by simp only [V.Ir];rw [if_pos h0],fun _=> .str _⟩
 all_goals first
  |(exact ⟨_,h,_,rfl,fun _=> .bool _⟩)
  |(simp at h;done)
theorem RR {op:BinOp} {t:TypeId} {x y:UV} {K:UV->Option X} (h:binop A op t x y K=some out):
   ∃ v,K v=some out/\∀ (m:Mp) (x' y':V.AV),RV m x x'->RV m y y'->∃ a,V.binop A op t x' y'=some a/\RV m v a:=by
 unfold binop at h;split at h
 · obtain ⟨h0,h⟩:=Ad h;simp only [decide_eq_true_eq] at h0;refine ⟨_,h,fun m x' y' hx hy=> ?_⟩;cases hx;cases hy;exact ⟨_,by simp only [V.binop];rw [if_pos h0],.int _ _⟩
 · obtain ⟨h0,h⟩:=Ad h;simp only [decide_eq_true_eq] at h0;refine ⟨_,h,fun m x' y' hx hy=> ?_⟩;cases hx;cases hy;exact ⟨_,by simp only [V.binop];rw [if_pos h0],.int _ _⟩
 · rename_i k a k' b cah bah;split at h
   case isFalse=>simp at h
   rename_i hk;obtain ⟨v,h1,a',h2,h3⟩:=yP h;refine ⟨v,h1,fun m x' y' hx hy=> ?_⟩;cases hx;cases hy;refine ⟨a',?_,h3 m⟩;cases op
   case shl=>exact (cah rfl).elim
   case shr=>exact (bah rfl).elim
   all_goals (simp only [V.binop];rw [if_pos hk];exact h2)
 · obtain ⟨v,h1,a',h2,h3⟩:=TO h;refine ⟨v,h1,fun m x' y' hx hy=> ?_⟩;cases hx;cases hy;refine ⟨a',?_,h3 m⟩;cases op<;>first|exact h2|(simp [V.Ir] at h2)
 · simp only [aa] at h;obtain ⟨b,hb,h⟩:=h;refine ⟨_,h,fun m x' y' hx hy=>⟨.bool b,?_,.bool b⟩⟩;have h1:=LI hb hx hy;have h2:=WA hb hx;unfold V.binop;split
   all_goals first
    |(simp at *;done)
    |(rw [h1];rfl)
    |(exfalso;exact h2.1 _ _ rfl)
    |(exfalso;exact h2.2 _ rfl)
    |simp_all
 · simp only [aa] at h;obtain ⟨b,hb,h⟩:=h;refine ⟨_,h,fun m x' y' hx hy=>⟨.bool !b,?_,.bool _⟩⟩;have h1:=LI hb hx hy;have h2:=WA hb hx;unfold V.binop;split
   all_goals first
    |(simp at *;done)
    |(rw [h1];rfl)
    |(exfalso;exact h2.1 _ _ rfl)
    |(exfalso;exact h2.2 _ rfl)
    |simp_all
 · simp at h
end
end Go.U
namespace Go.U
open Go
variable [TB:sB]
def eJ (φ zg:Nat->Option Nat):Prop:=∀ i j,φ i=some j->zg i=some j
section
variable {A:V.oh} {La:Nat->Option (List UV)} {m:Mp} {φ:Nat->Option Nat} {H H':UH} {Hv:V.AH} {X:Type} {out:X}
theorem vS {op:UnOp} {x v:UV} {x':V.AV} (h:unop op x=some v) (hx:RV m x x'):∃ a,V.unop op x'=some a/\RV m v a:=by
 unfold unop at h;split at h
 · simp only [yc] at h;subst h;cases hx;exact ⟨_,rfl,.int _ _⟩
 · rename_i k n;simp only [ia] at h;obtain ⟨i,hi,rfl⟩:=h;cases hx;exact ⟨.int k i,by simp only [V.unop,hi,Jc],.int _ _⟩
 · simp at h;subst h;cases hx;exact ⟨_,rfl,.bool _⟩
 · simp at h
theorem OR {l:List Int} {rows:List (List V.AV)} (h:RT m (.int .u8) l rows):V.Fh rows=some (l.map fun n=>UInt8.ofNat n.toNat):=by
 induction rows generalizing l with
 |nil=>
  have:=h.1;cases l with
  |nil=>rfl
  |cons _ _=>simp at this
 |cons row rows ih=>
  have hl:=h.1;cases l with
  |nil=>simp at hl
  |cons n l=>
   have h0:=h.get (i:=0) rfl;obtain ⟨a,as,rfl,h1,h2⟩:=RL.Oh (x:=UV.int .u8 n) (xs:=[]) h0;have:as=[]:=by have:=h2.1;simpa using this
   subst this;cases h1;have hr:RT m (.int .u8) l rows:= .of (nC hl) fun i row hi hr=>h.get (i:=i+1) (by simpa using hr)
   simp only [V.Fh,ih hr,da,Dd]
theorem UI {src dst:TypeId} {x:UV} {K:UV->UH->Option X} (h:convert A H src dst x K=some out):
   ∃ v H',K v H'=some out/\H'.wm=H.wm/\∀ (m:Mp) (Hv:V.AH) (x':V.AV),RH m H Hv->RV m x x'->∃ a Ic,V.convert A Hv src dst x'=some (a,Ic)/\Co m Hv v H' a Ic:=by
 unfold convert at h;split at h
 · rename_i h1 h2;refine ⟨_,_,h,rfl,fun m Hv x' hh hx=> ?_⟩;cases hx;exact ⟨_,_,by simp only [V.convert,h1,h2],.same hh (.int _ _)⟩
 · rename_i h1 h2;refine ⟨_,_,h,rfl,fun m Hv x' hh hx=> ?_⟩;cases hx;exact ⟨_,_,by simp only [V.convert,h1,h2],.same hh (.str _)⟩
 · rename_i e s h1 h2;split at h
   case h_2=>simp at h
   rename_i h3;obtain ⟨h0,h⟩:=Ad h;simp only [decide_eq_true_eq] at h0;refine ⟨_,_,h,rfl,fun m Hv x' hh hx=> ?_⟩;cases hx;have:=hh.zq (kB m s) (zl:=1) rfl (ty:=some (e,1));have hl:(YL s).length=s.size:=(Ec ..).trans rfl;refine ⟨.sl Hv.bl.length 0 s.size,V.push Hv (.cells (V.ic s) 1 (some (e,1))),?_,by rw [<- hl];exact this⟩;simp only [V.convert,h1,h2,h3];rw [if_pos h0]
 · rename_i e x h1 h2 xH;split at h
   case h_2=>simp at h
   rename_i h3;simp only [aa] at h;obtain ⟨l,hr,h⟩:=h;refine ⟨_,_,h,rfl,fun m Hv x' hh hx=> ?_⟩;obtain ⟨rows,k1,k2⟩:=vh hr hh hx;have hb:=OR k2;have Fq:∀ s,x'≠ .str s:=fun s e=>by
    subst e;cases hx with
    |str=>exact xH s rfl
    |Qb=>simp [rowsOf] at hr
    |Jr _ _ _ ha=>simp at ha
    |Nf _ _ _ _ ha=>simp at ha
    |Ts _ _ _ _ _ ha=>simp at ha
    |Qh _ _ ha=>simp at ha
   refine ⟨.str (Nae l),Hv,?_,.same hh (.str _)⟩;have k1':V.rowsOf Hv x'=some rows:=by cases x'<;>first|exact k1|exact (Fq _ rfl).elim
   have h4:∀ y:V.AV,(∀ s,y≠ .str s)->V.convert A Hv src dst y=(V.rowsOf Hv y).bind fun rows=>(V.Fh rows).map fun l=>(.str ⟨l.toArray⟩,Hv):=fun y hy=>by
    cases y<;>first|exact (hy _ rfl).elim|simp only [V.convert,h1,h2,h3]
   rw [h4 x' Fq,k1',da,hb,Jc];rfl
 · simp at h
theorem Qu {d:Nat} {x:UV} (h:closed 8 x=true):Nb (d+1) x=true:=by
 cases x<;>first|exact h|simp [closed] at h
variable {k:KT}
theorem bw (i j:jd k):V.iA (Hh k i) (Hh k j)=some (HG k i j):=by
 cases k with
 |int k=>simp [Hh,V.iA,HG]
 |str=>rfl
theorem ym {x:UV} {i:jd k} {x':V.AV} (h:keyOf? k x=some i) (hx:RV m x x'):x'=Hh k i:=by
 cases k with
 |int k=>
  simp only [keyOf?] at h;split at h
  · split at h
    · rename_i e;subst e;injection h with h;subst h;cases hx;rfl
    · simp at h
  · simp at h
 |str=>
  simp only [keyOf?] at h;split at h
  · injection h with h;subst h;cases hx;rfl
  · simp at h
theorem ME {t:TypeId} (h:gy A t=some k) (i:jd k):V.Hi A t (Hh k i)=true:=by
 unfold gy at h;unfold V.Hi;split at h
 · rename_i hu;simp at h;subst h;rw [hu];rfl
 · rename_i hu;simp at h;subst h;rw [hu];rfl
 · simp at h
theorem jD {i:jd k} {z:UV} {K:UV->Bool->Option X}:∀ {es:List (jd k×UV)},AA i z K es=some out->∃ v b,K v b=some out/\∀ (m:Mp) (qd:List (V.AV×V.AV)),MR k m es qd->(b=true/\∃ a,V.Xh (Hh k i) qd=some (some a)/\RV m v a)\/(b=false/\v=z/\V.Xh (Hh k i) qd=some none)
 |[],h=>⟨z,false,h,fun m qd hm=>by
   cases qd with
   |nil=>exact .inr ⟨rfl,rfl,rfl⟩
   |cons _ _=>exact hm.elim⟩
 |(j,v)::es,h=>by
  simp only [AA] at h;cases he:HG k i j with
  |true=>
   rw [he] at h;refine ⟨v,true,h,fun m qd hm=> ?_⟩;cases qd with
   |nil=>exact hm.elim
   |cons p qd=>
    obtain ⟨h1,h2,_,_⟩:=hm;refine .inl ⟨rfl,p.2,?_,h2⟩;obtain ⟨key,a⟩:=p;subst h1;simp only [V.Xh,bw,he,da]
  |false=>
   rw [he] at h;obtain ⟨w,b,h1,h2⟩:=jD (es:=es) h;refine ⟨w,b,h1,fun m qd hm=> ?_⟩;cases qd with
   |nil=>exact hm.elim
   |cons p qd=>
    obtain ⟨key,a⟩:=p;obtain ⟨k1,_,_,k4⟩:=hm;subst k1;simp only [V.Xh,bw,he,da];exact h2 m qd k4
theorem Mz {i:jd k} {v:UV}:∀ {es:List (jd k×UV)} {K:List (jd k×UV)->Option X},JJ i v K es=some out->∃ IL,K IL=some out/\∀ (m:Mp) (qd:List (V.AV×V.AV)) (a:V.AV),MR k m es qd->RV m v a->Nb 8 v=true->∃ ri,V.sn (Hh k i) a qd=some ri/\MR k m IL ri
 |[],K,h=>⟨[(i,v)],h,fun m qd a hm hv hc=>by
   cases qd with
   |nil=>exact ⟨[(Hh k i,a)],rfl,rfl,hv,hc,trivial⟩
   |cons _ _=>exact hm.elim⟩
 |(j,w)::es,K,h=>by
  simp only [JJ] at h;cases he:HG k i j with
  |true=>
   rw [he] at h;refine ⟨_,h,fun m qd a hm hv hc=> ?_⟩;cases qd with
   |nil=>exact hm.elim
   |cons p qd=>
    obtain ⟨key,a'⟩:=p;obtain ⟨k1,_,_,k4⟩:=hm;subst k1;exact ⟨(Hh k i,a)::qd,by simp only [V.sn,bw,he,da],rfl,hv,hc,k4⟩
  |false=>
   rw [he] at h;obtain ⟨IL,h1,h2⟩:=Mz (es:=es) h;refine ⟨_,h1,fun m qd a hm hv hc=> ?_⟩;cases qd with
   |nil=>exact hm.elim
   |cons p qd=>
    obtain ⟨key,a'⟩:=p;obtain ⟨k1,k2,k3,k4⟩:=hm;subst k1;obtain ⟨ri,e1,e2⟩:=h2 m qd a k4 hv hc;exact ⟨(Hh k j,a')::ri,by simp only [V.sn,bw,he,da,e1,Jc],rfl,k2,k3,e2⟩
theorem cB {i:jd k}:∀ {es:List (jd k×UV)} {K:List (jd k×UV)->Option X},On i K es=some out->∃ IL,K IL=some out/\∀ (m:Mp) (qd:List (V.AV×V.AV)),MR k m es qd->∃ ri,V.vn (Hh k i) qd=some ri/\MR k m IL ri
 |[],K,h=>⟨[],h,fun m qd hm=>by
   cases qd with
   |nil=>exact ⟨[],rfl,trivial⟩
   |cons _ _=>exact hm.elim⟩
 |(j,w)::es,K,h=>by
  simp only [On] at h;cases he:HG k i j with
  |true=>
   rw [he] at h;refine ⟨_,h,fun m qd hm=> ?_⟩;cases qd with
   |nil=>exact hm.elim
   |cons p qd=>
    obtain ⟨key,a'⟩:=p;obtain ⟨k1,_,_,k4⟩:=hm;subst k1;exact ⟨qd,by simp only [V.vn,bw,he,da],k4⟩
  |false=>
   rw [he] at h;obtain ⟨IL,h1,h2⟩:=cB (es:=es) h;refine ⟨_,h1,fun m qd hm=> ?_⟩;cases qd with
   |nil=>exact hm.elim
   |cons p qd=>
    obtain ⟨key,a'⟩:=p;obtain ⟨k1,k2,k3,k4⟩:=hm;subst k1;obtain ⟨ri,e1,e2⟩:=h2 m qd k4;exact ⟨(Hh k j,a')::ri,by simp only [V.vn,bw,he,da,e1,Jc],rfl,k2,k3,e2⟩
theorem SH {g:Bool} {c:CT} {i:jd k} {z:UV} {K:UV->Bool->Option X}:∀ {l:List (jd k×Eb c)},AA i z K (Gj g c l)=cond (uA i l) (K (valOf g c (Ps i (FR c) l)) true) (K z false)
 |[]=>rfl
 |(j,x)::l=>by
  simp only [Gj,Dd,AA,uA,List.any_cons,Ps];cases he:HG k i j with
  |true=>rfl
  |false=>exact SH (l:=l)
theorem oM {g:Bool} {c:CT} {i:jd k} {x:Eb c}:∀ {l:List (jd k×Eb c)} {K:List (jd k×UV)->Option X},JJ i (valOf g c x) K (Gj g c l)=K (Gj g c (Lv i x l))
 |[],K=>rfl
 |(j,y)::l,K=>by
  simp only [Gj,Dd,JJ,Lv];cases he:HG k i j with
  |true=>rfl
  |false=>exact oM (l:=l)
theorem tO {g:Bool} {c:CT} {i:jd k}:∀ {l:List (jd k×Eb c)} {K:List (jd k×UV)->Option X},On i K (Gj g c l)=K (Gj g c (xy i l))
 |[],K=>rfl
 |(j,y)::l,K=>by
  simp only [Gj,Dd,On,xy];cases he:HG k i j with
  |true=>rfl
  |false=>exact tO (l:=l)
theorem RI {g:Bool} {c:CT} {x:UV} {y:Eb c} (h:U3 g c x=some y):Nb 8 (valOf g c y)=true/\∀ (m:Mp) (a:V.AV),RV m x a->RV m (valOf g c y) a:=by
 unfold U3 at h;split at h
 · rename_i cs;refine ⟨?_,fun m a ha=> ?_⟩
   · simp only [valOf,Nb,Yb];exact fun v hv=>Qu (Fk c y v hv)
   · cases ha with
     |agg _ as hl hr=>have:=Jm h (m:=m) ⟨hl,hr⟩;exact .agg _ _ this.1 this.2
 · split at h
   case isFalse=>simp at h
   rename_i hw;have hlen:=Ah c y;rw [hw] at hlen;obtain ⟨v,hv⟩:∃ v,enc c y=[v]:=by
     match h1:enc c y,hlen with
     |[v],_=>exact ⟨v,rfl⟩
   have ep:valOf false c y=v:=by simp only [valOf,hv]
   rw [ep];refine ⟨Qu (Fk c y v (by rw [hv];simp)),fun m a ha=> ?_⟩;have:=Jm h (RL.cons ha .nil);rw [hv] at this;exact this.2 0 v a rfl rfl
 · simp at h
theorem eA {t:TypeId} {x i:UV} {ok:Bool} {K:UV->Option X} (h:lookup A H t x i ok K=some out):
   ∃ v,K v=some out/\∀ (m:Mp) (Hv:V.AH) (x' i':V.AV),RH m H Hv->RV m x x'->RV m i i'->∃ a,V.lookup A Hv t x' i' ok=some a/\RV m v a:=by
 unfold lookup at h;split at h
 case h_2=>simp at h
 rename_i kt et hu;split at h
 case h_2=>simp at h
 rename_i b;have key:∀ {k:KT} {es:List (jd k×UV)},(∀ {m:Mp} {Hv:V.AH},RH m H Hv->∃ x qd,m.ι b 0=some x/\Hv.bl[x]?=some (.map qd)/\MR k m es qd)->gy A kt=some k->
    ((keyOf? k i).bind fun i=>(zeroV A et).bind fun z=>AA i z (fun v b=>K (if ok then .Rc [v,.bool b] else v)) es)=some out->
    ∃ v,K v=some out/\∀ (m:Mp) (Hv:V.AH) (x' i':V.AV),RH m H Hv->RV m (.mp b) x'->RV m i i'->∃ a,V.lookup A Hv t x' i' ok=some a/\RV m v a:=fun {k es} hb WB h=>by
   simp only [aa] at h;obtain ⟨i0,hi,z,hz,h⟩:=h;obtain ⟨z',q1,q2,_⟩:=FO hz;obtain ⟨v,b0,h1,h2⟩:=jD h;refine ⟨_,h1,fun m Hv x' i' hh hx V0=> ?_⟩;have NM:=ym hi V0;subst NM;cases hx with
   |mp _ xi Ef=>
    obtain ⟨xi',qd,k1,k2,k3⟩:=hb hh;rw [Ef] at k1;simp at k1;subst k1;have M4:∀ {w:UV} {a:V.AV} (b:Bool),RV m w a->RV m (if ok then .Rc [w,.bool b] else w) (if ok then .Rc [a,.bool b] else a):=fun {w a} b hw=>by
      clear h h1;cases ok with
      |true=>exact .Rc [w,.bool b] [a,.bool b] rfl (RL.cons hw (RL.cons (.bool b) .nil)).2
      |false=>exact hw
    rcases h2 m qd k3 with ⟨rfl,a,e1,e2⟩|⟨rfl,rfl,e1⟩
    · refine ⟨_,?_,M4 true e2⟩;simp only [V.lookup,hu,ME WB,if_true,V.mapOf,k2,da,e1]
    · refine ⟨_,?_,M4 false (q2 m)⟩;simp only [V.lookup,hu,ME WB,if_true,V.mapOf,k2,da,e1,q1,Jc]
 split at h
 · rename_i k es hb;split at h
   case isFalse=>simp at h
   rename_i WB;exact key (fun hh=>hh.Oc b _ hb) WB h
 · rename_i k g c l hb;split at h
   case isFalse=>simp at h
   rename_i WB;refine key (es:=Gj g c l) (fun hh=>hh.Oc b _ hb) WB ?_;simp only [aa] at h ⊢;obtain ⟨i0,hi,z,hz,h⟩:=h;exact ⟨i0,hi,z,hz,by rw [SH];exact h⟩
 · simp at h
def P7 (m:Mp) (Hv:V.AH) (H':UH) (Ic:V.AH):Prop:=RH m H' Ic/\Ej m.top m Hv m Ic
theorem Mr {t:TypeId} {x i y:UV} {K:UH->Option X} (h:mapUpdate A H t x i y K=some out):
   ∃ H',K H'=some out/\H'.wm=H.wm/\∀ (m:Mp) (Hv:V.AH) (x' i' y':V.AV),RH m H Hv->RV m x x'->RV m i i'->RV m y y'->∃ Ic,V.mapUpdate A Hv t x' i' y'=some Ic/\P7 m Hv H' Ic:=by
 unfold mapUpdate at h;split at h
 case h_2=>simp at h
 rename_i kt et b hu;split at h
 case isFalse=>simp at h
 rename_i WC;have Un:∀ {m:Mp} {Hv:V.AH} {x' y':V.AV} {k:KT} {i0:jd k} {xi:Nat} {qd ri:List (V.AV×V.AV)},RH m H Hv->m.ι b 0=some xi->x'= .mp xi->gy A kt=some k->Hv.bl[xi]?=some (.map qd)->V.sn (Hh k i0) y' qd=some ri->
    V.mapUpdate A Hv t x' (Hh k i0) y'=some (V.Ma Hv xi (.map ri)):=fun {m Hv x' y' k i0 xi qd ri} hh Ef jk WB h2 h3=>by
   subst jk;have hw:=hh.wm b xi Ef WC;simp [V.mapUpdate,hu,ME WB,hw,h2,h3]
 split at h
 · rename_i k es hb;split at h
   case isFalse=>simp at h
   rename_i WB;simp only [aa] at h;obtain ⟨i0,hi,h⟩:=h;obtain ⟨IL,h1,h2⟩:=Mz h;refine ⟨_,h1,rfl,fun m Hv x' i' y' hh hx V0 hy=> ?_⟩;have NM:=ym hi V0;subst NM;cases hx with
   |mp _ xi Ef=>
    obtain ⟨xi',qd,k1,k2,k3⟩:=hh.Oc b _ hb;rw [Ef] at k1;simp at k1;subst k1;obtain ⟨ri,e1,e2⟩:=h2 m qd y' k3 hy WB.2;have yh:=hh.set (y:= .Nj k IL) (yv:= .map ri) ⟨_,hb,rfl⟩ Ef ⟨xi,ri,Ef,by rw [Ac,if_pos rfl,if_pos (hh.Ae b xi Ef).2],e2⟩;exact ⟨_,Un hh Ef rfl WB.1 k2 e1,yh⟩
 · rename_i k g c l hb;split at h
   case isFalse=>simp at h
   rename_i WB;simp only [aa] at h;obtain ⟨i0,hi,xv,xT,h⟩:=h;refine ⟨_,h,rfl,fun m Hv x' i' y' hh hx V0 hy=> ?_⟩;have NM:=ym hi V0;subst NM;cases hx with
   |mp _ xi Ef=>
    obtain ⟨xi',qd,k1,k2,k3⟩:=hh.Oc b _ hb;rw [Ef] at k1;simp at k1;subst k1;obtain ⟨d1,d2⟩:=RI xT;have FG:JJ i0 (valOf g c xv) (fun qd=>some qd) (Gj g c l)=some (Gj g c (Lv i0 xv l)):=oM;obtain ⟨IL,e0,h2⟩:=Mz FG;simp at e0;subst e0;obtain ⟨ri,e1,e2⟩:=h2 m qd y' k3 (d2 m y' hy) d1;have yh:=hh.set (y:= .ah k g c (Lv i0 xv l)) (yv:= .map ri) ⟨_,hb,rfl⟩ Ef ⟨xi,ri,Ef,by rw [Ac,if_pos rfl,if_pos (hh.Ae b xi Ef).2],e2⟩;exact ⟨_,Un hh Ef rfl WB k2 e1,yh⟩
 · simp at h
theorem MB {t:TypeId} {x i:UV} {K:UH->Option X} (h:uf A H t x i K=some out):
   ∃ H',K H'=some out/\H'.wm=H.wm/\∀ (m:Mp) (Hv:V.AH) (x' i':V.AV),RH m H Hv->RV m x x'->RV m i i'->∃ Ic,V.uf A Hv t x' i'=some Ic/\P7 m Hv H' Ic:=by
 unfold uf at h;split at h
 case h_2=>simp at h
 rename_i kt et b hu;split at h
 case isFalse=>simp at h
 rename_i WC;have Un:∀ {m:Mp} {Hv:V.AH} {x':V.AV} {k:KT} {i0:jd k} {xi:Nat} {qd ri:List (V.AV×V.AV)},RH m H Hv->m.ι b 0=some xi->x'= .mp xi->gy A kt=some k->Hv.bl[xi]?=some (.map qd)->V.vn (Hh k i0) qd=some ri->
    V.uf A Hv t x' (Hh k i0)=some (V.Ma Hv xi (.map ri)):=fun {m Hv x' k i0 xi qd ri} hh Ef jk WB h2 h3=>by
   subst jk;have hw:=hh.wm b xi Ef WC;simp [V.uf,hu,ME WB,hw,h2,h3]
 split at h
 · rename_i k es hb;split at h
   case isFalse=>simp at h
   rename_i WB;simp only [aa] at h;obtain ⟨i0,hi,h⟩:=h;obtain ⟨IL,h1,h2⟩:=cB h;refine ⟨_,h1,rfl,fun m Hv x' i' hh hx V0=> ?_⟩;have NM:=ym hi V0;subst NM;cases hx with
   |mp _ xi Ef=>
    obtain ⟨xi',qd,k1,k2,k3⟩:=hh.Oc b _ hb;rw [Ef] at k1;simp at k1;subst k1;obtain ⟨ri,e1,e2⟩:=h2 m qd k3;have yh:=hh.set (y:= .Nj k IL) (yv:= .map ri) ⟨_,hb,rfl⟩ Ef ⟨xi,ri,Ef,by rw [Ac,if_pos rfl,if_pos (hh.Ae b xi Ef).2],e2⟩;exact ⟨_,Un hh Ef rfl WB k2 e1,yh⟩
 · rename_i k g c l hb;split at h
   case isFalse=>simp at h
   rename_i WB;simp only [aa] at h;obtain ⟨i0,hi,h⟩:=h;refine ⟨_,h,rfl,fun m Hv x' i' hh hx V0=> ?_⟩;have NM:=ym hi V0;subst NM;cases hx with
   |mp _ xi Ef=>
    obtain ⟨xi',qd,k1,k2,k3⟩:=hh.Oc b _ hb;rw [Ef] at k1;simp at k1;subst k1;have FG:On i0 (fun qd=>some qd) (Gj g c l)=some (Gj g c (xy i0 l)):=tO;obtain ⟨IL,e0,h2⟩:=cB FG;simp at e0;subst e0;obtain ⟨ri,e1,e2⟩:=h2 m qd k3;have yh:=hh.set (y:= .ah k g c (xy i0 l)) (yv:= .map ri) ⟨_,hb,rfl⟩ Ef ⟨xi,ri,Ef,by rw [Ac,if_pos rfl,if_pos (hh.Ae b xi Ef).2],e2⟩;exact ⟨_,Un hh Ef rfl WB k2 e1,yh⟩
 · simp at h
theorem MR.length:∀ {es:List (jd k×UV)} {qd:List (V.AV×V.AV)},MR k m es qd->qd.length=es.length
 |[],[],_=>rfl
 |(_,_)::_,(_,_)::_,h=>by simp [MR.length h.2.2.2]
 |[],_::_,h=>h.elim
 |_::_,[],h=>h.elim
theorem nw {f:UV->UV->Option UV} {g:V.AV->V.AV->Option V.AV} (hf:∀ x y z x' y',f x y=some z->RV m x x'->RV m y y'->∃ z',g x' y'=some z'/\RV m z z'):∀ {ys:List UV} {x z:UV} {ys':List V.AV} {x':V.AV},Ck f x ys=some z->RV m x x'->RL m ys ys'->∃ z',V.Ck g x' ys'=some z'/\RV m z z'
 |[],x,z,ys',x',h,hx,hy=>by
  have:ys'=[]:=by have:=hy.1;simpa using this
  subst this;simp [Ck] at h;subst h;exact ⟨x',rfl,hx⟩
 |y::ys,x,z,ys',x',h,hx,hy=>by
  cases ys' with
  |nil=>have:=hy.1;simp at this
  |cons y' ys'=>
   simp only [Ck,aa] at h;obtain ⟨w,hw,h⟩:=h;obtain ⟨w',h1,h2⟩:=hf _ _ _ _ _ hw hx (hy.2 0 y y' rfl rfl);obtain ⟨z',h3,h4⟩:=nw (ys:=ys) (ys':=ys') hf h h2 ⟨by have:=hy.1;simpa using this,fun i a b k1 k2=>hy.2 (i+1) a b (by simpa using k1) (by simpa using k2)⟩;exact ⟨z',by simp [V.Ck,h1,h3],h4⟩
theorem UZ {x y z:UV} {x' y':V.AV} (h:kT x y=some z) (hx:RV m x x') (hy:RV m y y'):∃ z',V.mH x' y'=some z'/\RV m z z':=by
 unfold kT at h;split at h
 · simp at h;subst h;cases hx;cases hy;exact ⟨_,rfl,.int _ _⟩
 · simp at h
theorem TZ {x y z:UV} {x' y':V.AV} (h:gT x y=some z) (hx:RV m x x') (hy:RV m y y'):∃ z',V.kH x' y'=some z'/\RV m z z':=by
 unfold gT at h;split at h
 · simp at h;subst h;cases hx;cases hy;exact ⟨_,rfl,.int _ _⟩
 · simp at h
theorem RH.X7 (h:RH m H Hv) {b:Nat} {y:UB} (hb:live H b) (hy:RB m Hv b y):RH m (Ma H b y) Hv:=by
 have k:∀ {b'},live (Ma H b y) b'->live H b':=fun h=>by rcases ag h with ⟨rfl,_⟩|⟨_,h⟩<;>assumption
 refine ⟨fun b' _ x' zd=>by simpa [Ma] using h.Ae b' x' zd,fun b' y' If=> ?_,fun b1 b2 _ _ x' h1 h2 e1 e2=>h.zm b1 b2 x' (k h1) (k h2) e1 e2,h.wm,h.top,by simpa [Ma] using h.len⟩;rw [Ft] at If;split at If
 · rename_i e;subst e;split at If
   · simp at If;subst If;exact hy
   · simp at If
 · exact h.Oc b' y' If
theorem RL.two {x y:UV} {as:List V.AV} (h:RL m [x,y] as):∃ a b,as=[a,b]/\RV m x a/\RV m y b:=by
 match as,h with
 |[a,b],h=>exact ⟨a,b,rfl,h.2 0 x a rfl rfl,h.2 1 y b rfl rfl⟩
 |[],h=>have:=h.1;simp at this
 |[_],h=>have:=h.1;simp at this
 |_::_::_::_,h=>have:=h.1;simp at this
theorem RL.one {x:UV} {as:List V.AV} (h:RL m [x] as):∃ a,as=[a]/\RV m x a:=by
 match as,h with
 |[a],h=>exact ⟨a,rfl,h.2 0 x a rfl rfl⟩
 |[],h=>have:=h.1;simp at this
 |_::_::_,h=>have:=h.1;simp at this
theorem XZ {t:TypeId} {x:UV} {ts:Array TypeId} {K:UV->UH->Option X} (ht:ts[0]?=some t) (h:builtin A H .len ts [x] K=some out):
   ∃ v,K v H=some out/\∀ (m:Mp) (Hv:V.AH) (x':V.AV),RH m H Hv->RV m x x'->∃ a,V.builtin A Hv .len ts [x']=some (a,Hv)/\RV m v a:=by
 simp only [builtin,ht,da] at h;split at h
 · rename_i hu;refine ⟨_,h,fun m Hv x' hh hx=> ?_⟩;cases hx;exact ⟨_,by simp only [V.builtin,ht,da,hu],.int _ _⟩
 · rename_i hu;refine ⟨_,h,fun m Hv x' hh hx=> ?_⟩;cases hx;exact ⟨_,by simp only [V.builtin,ht,da,hu],.int _ _⟩
 · rename_i hu;refine ⟨_,h,fun m Hv x' hh hx=> ?_⟩;cases hx;exact ⟨_,by simp only [V.builtin,ht,da,hu],.int _ _⟩
 · rename_i c l hu;refine ⟨_,h,fun m Hv x' hh hx=> ?_⟩;cases hx with
   |lit _ _ rows hl=>exact ⟨.int .i64 rows.length,by simp only [V.builtin,ht,da,hu],by rw [hl];exact .int _ _⟩
   |Qh _ _ ha=>exact ⟨.int .i64 0,by rcases ha with rfl|rfl<;>simp only [V.builtin,ht,da,hu],.int _ _⟩
 · rename_i b hu;have key:∀ {n:Nat},(∀ (m:Mp) (Hv:V.AH),RH m H Hv->m.len b 0=n)->K (.int .i64 n) H=some out->∃ v,K v H=some out/\∀ (m:Mp) (Hv:V.AH) (x':V.AV),RH m H Hv->RV m (.all b) x'->∃ a,V.builtin A Hv .len ts [x']=some (a,Hv)/\RV m v a:=fun {n} hn h=>by
     refine ⟨_,h,fun m Hv x' hh hx=> ?_⟩;have k0:=hn m Hv hh;cases hx with
     |all=>exact ⟨.int .i64 (m.len b 0:Nat),by simp only [V.builtin,ht,da,hu],by rw [k0];exact .int _ _⟩
     |Nf _ _ _ hl ha=>exact ⟨.int .i64 0,by rcases ha with rfl|rfl<;>simp only [V.builtin,ht,da,hu],by rw [<- k0,hl];exact .int _ _⟩
   split at h
   · rename_i c l hb;exact key (fun m Hv hh=>(uc (s:=⟨[],[],H,0⟩) (sv:=⟨[],[],Hv⟩) hh hb).1) h
   · rename_i c l hb;exact key (fun m Hv hh=>(Od (s:=⟨[],[],H,0⟩) (sv:=⟨[],[],Hv⟩) hh hb).1) h
   · simp at h
 · rename_i b r hu;split at h
   case h_2=>simp at h
   rename_i c l hb;refine ⟨_,h,fun m Hv x' hh hx=> ?_⟩;have k0:=(Od (s:=⟨[],[],H,0⟩) (sv:=⟨[],[],Hv⟩) hh hb).2.1 r;cases hx with
   |cr=>exact ⟨.int .i64 (m.len b (r+1):Nat),by simp only [V.builtin,ht,da,hu],by rw [k0];exact .int _ _⟩
   |Ts _ _ _ _ hl ha=>exact ⟨.int .i64 0,by rcases ha with rfl|rfl<;>simp only [V.builtin,ht,da,hu],by rw [<- k0,hl];exact .int _ _⟩
 · rename_i n hu;refine ⟨_,h,fun m Hv x' hh hx=> ?_⟩;cases hx with
   |sl=>exact ⟨_,by simp only [V.builtin,ht,da,hu],.int _ _⟩
   |Jr _ _ _ ha=>exact ⟨.int .i64 0,by rcases ha with rfl|rfl<;>simp only [V.builtin,ht,da,hu],.int _ _⟩
 · rename_i b hu;split at h
   · rename_i k es hb;refine ⟨_,h,fun m Hv x' hh hx=> ?_⟩;cases hx with
     |mp _ xi Ef=>
      obtain ⟨xi',qd,h1,h2,h3⟩:=hh.Oc b _ hb;rw [Ef] at h1;simp at h1;subst h1;exact ⟨.int .i64 qd.length,by simp only [V.builtin,ht,da,hu,V.mapOf,h2,Jc],by rw [h3.length];exact .int _ _⟩
   · rename_i k g c l hb;refine ⟨_,h,fun m Hv x' hh hx=> ?_⟩;cases hx with
     |mp _ xi Ef=>
      obtain ⟨xi',qd,h1,h2,h3⟩:=hh.Oc b _ hb;rw [Ef] at h1;simp at h1;subst h1;exact ⟨.int .i64 qd.length,by simp only [V.builtin,ht,da,hu,V.mapOf,h2,Jc],by rw [h3.length,Gj,Ec];exact .int _ _⟩
   · simp at h
 · rename_i n e hu;refine ⟨_,h,fun m Hv x' hh hx=>⟨.int .i64 n,by simp only [V.builtin,ht,da,hu],.int _ _⟩⟩
 · simp at h
theorem Gw {c:CT} {l g:List (Eb c)} {rows ys:List (List V.AV)} {r n:Nat} (hr:l.length<=rows.length) (h:Hj m (width c) l.length (vw c l) rows) (hy:RT m c g ys) (hle:r+n<=l.length) (hn:n<=g.length):
   (yy r n g l).length=l.length/\l.length<=(rows.take r++(ys.take n++rows.drop (r+n))).length/\Hj m (width c) (yy r n g l).length (vw c (yy r n g l)) (rows.take r++(ys.take n++rows.drop (r+n))):=by
 have PM:RT m c l (rows.take l.length):= .of (by simp;omega) fun i row hi Pj=>by
   rw [Ab,if_pos hi] at Pj;obtain ⟨Jb,j1,j2,j3⟩:=h.row hr hi;rw [j1] at Pj;simp at Pj;subst Pj;exact j2
 have BP:=hy.1;have hl:(yy r n g l).length=l.length:=by simp [yy];omega
 have oe:RT m c (yy r n g l) ((rows.take l.length).take r++(ys.take n++(rows.take l.length).drop (r+n))):=(PM.take r).append ((hy.take n).append (PM.drop (r+n)));have hlen:l.length<=(rows.take r++(ys.take n++rows.drop (r+n))).length:=by simp;omega
 have heq:∀ i,i<l.length->(rows.take r++(ys.take n++rows.drop (r+n)))[i]?=((rows.take l.length).take r++(ys.take n++(rows.take l.length).drop (r+n)))[i]?:=fun i hi=>by
   rw [List.take_take,Nat.min_eq_left (by omega:r<=l.length)];have e1:(rows.take r).length=r:=by simp;omega
   have e2:(ys.take n).length=n:=by simp;omega
   have aux:∀ C:List (List V.AV),(rows.take r++(ys.take n++C))[i]?=if i<r then (rows.take r)[i]? else if i-r<n then (ys.take n)[i-r]? else C[i-r-n]?:=fun C=>by
     split
     · rename_i h1;exact Fa (by rw [e1];exact h1)
     · rename_i h1;rw [Ka (by rw [e1];omega),e1];split
       · rename_i h2;exact Fa (by rw [e2];exact h2)
       · rename_i h2;rw [Ka (by rw [e2];omega),e2]
   rw [aux,aux];split
   · rfl
   · split
     · rfl
     · rw [Dc,Dc,Ab,if_pos (by omega)]
 refine ⟨hl,hlen,fun i _=>⟨tf _ _ _,Pd _ _ _⟩,fun i row hi Pj=> ?_,fun i row k y a hi Pj h1 h2=> ?_⟩
 · rw [hl] at hi;rw [heq i hi] at Pj;exact oe.rows (jb Pj)
 · rw [hl] at hi;rw [heq i hi] at Pj;exact (oe.get Pj).2 k y a h1 h2
theorem GY {x y:UV} {ts:Array TypeId} {K:UV->UH->Option X} (h:builtin A H .copy ts [x,y] K=some out):
   ∃ v H',K v H'=some out/\H'.wm=H.wm/\∀ (m:Mp) (Hv:V.AH) (x' y':V.AV),RH m H Hv->RV m x x'->RV m y y'->∃ a Ic,V.builtin A Hv .copy ts [x',y']=some (a,Ic)/\Co m Hv v H' a Ic:=by
 simp only [builtin,aa] at h;obtain ⟨t,ht,e,he,z,hz,h⟩:=h;split at h
 case isFalse=>simp at h
 rename_i xH;have main:∀ {b r n:Nat} {c:CT} {l g:List (Eb c)},H.bl[b]?=some (.cells c l)->H.wm<=b->width c=z->rowsOf H c y=some g->∀ (m:Mp) (Hv:V.AH) (x' y':V.AV),RH m H Hv->RV m y y'->
     ((∃ xi,m.ι b 0=some xi/\x'= .sl xi r n/\r+n<=l.length)\/((x'= .Wa\/x'= .Kd)/\n=0))->
     ∃ a Ic,V.builtin A Hv .copy ts [x',y']=some (a,Ic)/\Co m Hv (.int .i64 (min g.length n:Nat)) (Ma H b (.cells c (yy r (min g.length n) g l))) a Ic:=fun {b r n c l g} hb hw iZ hr m Hv x' y' hh hy hx=>by
   obtain ⟨ys,k1,k2⟩:=vh hr hh hy;have dw:V.rowsOf Hv y'=some ys:=by
     cases y'<;>first|exact k1|skip
     cases hy with
     |str=>simp [cT] at xH
     |Qb=>simp [rowsOf] at hr
     |Jr _ _ _ ha=>simp at ha
     |Nf _ _ _ _ ha=>simp at ha
     |Ts _ _ _ _ _ ha=>simp at ha
     |Qh _ _ ha=>simp at ha
   obtain ⟨kb,kx⟩:=uc (s:=⟨[],[],H,0⟩) (sv:=⟨[],[],Hv⟩) hh hb;have Td:live H b:=⟨_,hb,rfl⟩;rcases hx with ⟨xi,Ef,rfl,hle⟩|⟨ha,rfl⟩
   · obtain ⟨rows,ty,j2,j3,j4⟩:=kx xi Ef;have BM:Hv.bl[xi]?=some (.cells rows (width c) ty):=j2;have G0:=hh.wm b xi Ef hw;have Af:ys.all (fun q=>q.length==z)=true:=Yb.2 fun q hq=>by simp [k2.rows hq,iZ]
     obtain ⟨c1,c2,c3⟩:=Gw (r:=r) (n:=min g.length n) j3 j4 k2 (by omega) (by omega);have Bj:(ys.take (min g.length n)).length=min g.length n:=by simp [k2.1]
     have yh:=hh.set (y:= .cells c (yy r (min g.length n) g l)) (yv:= .cells (rows.take r++(ys.take (min g.length n)++rows.drop (r+min g.length n))) (width c) ty) Td Ef
       ⟨by rw [c1];exact kb,.inr ⟨xi,_,_,Ef,by rw [Ac,if_pos rfl,if_pos (hh.Ae b xi Ef).2],by rw [c1];exact c2,c3⟩⟩
     refine ⟨.int .i64 (min g.length n:Nat),V.Ma Hv xi (.cells (rows.take r++(ys.take (min g.length n)++rows.drop (r+min g.length n))) (width c) ty),?_,m,yh.1,.int _ _,.refl m,yh.2⟩;simp only [V.builtin,ht,he,hz,dw,da,BM];rw [if_pos ⟨G0,by omega,iZ,Af⟩,k2.1,Bj]
   · have h0:min g.length 0=0:=by omega
     refine ⟨.int .i64 (min g.length 0:Nat),Hv,?_,m,hh.X7 Td ?_,.int _ _,.refl m,.refl Hv (oa _)⟩
     · rw [h0];rcases ha with rfl|rfl<;>simp only [V.builtin,ht,he,hz,dw,da]<;>rfl
     · have:yy r (min g.length 0) g l=l:=by rw [h0];simp [yy]
       rw [this];exact hh.Oc b _ hb
 split at h
 · rename_i b r n;split at h
   case h_2=>simp at h
   rename_i c l hb;split at h
   case isFalse=>simp at h
   rename_i hc;simp only [aa] at h;obtain ⟨g,hr,h⟩:=h;refine ⟨_,_,h,rfl,fun m Hv x' y' hh hx hy=>main hb hc.1 hc.2 hr m Hv x' y' hh hy ?_⟩;obtain ⟨kb,_⟩:=uc (s:=⟨[],[],H,0⟩) (sv:=⟨[],[],Hv⟩) hh hb;cases hx with
   |sl _ _ _ xi Ef hle=>exact .inl ⟨xi,Ef,rfl,by omega⟩
   |Jr _ _ _ ha=>exact .inr ⟨ha,rfl⟩
 · rename_i b;split at h
   case h_2=>simp at h
   rename_i c l hb;split at h
   case isFalse=>simp at h
   rename_i hc;simp only [aa] at h;obtain ⟨g,hr,h⟩:=h;refine ⟨_,_,h,rfl,fun m Hv x' y' hh hx hy=>main hb hc.1 hc.2 hr m Hv x' y' hh hy ?_⟩;obtain ⟨kb,_⟩:=uc (s:=⟨[],[],H,0⟩) (sv:=⟨[],[],Hv⟩) hh hb;cases hx with
   |all _ xi Ef=>exact .inl ⟨xi,Ef,by rw [kb],by omega⟩
   |Nf _ _ _ hl ha=>exact .inr ⟨ha,by omega⟩
 · simp at h
theorem ZI {bi:Builtin} {args:List UV} {ts:Array TypeId} {K:UV->UH->Option X} (h:builtin A H bi ts args K=some out):
   ∃ v H',K v H'=some out/\H'.wm=H.wm/\∀ (m:Mp) (Hv:V.AH) (Yg:List V.AV),RH m H Hv->RL m args Yg->∃ a Ic,V.builtin A Hv bi ts Yg=some (a,Ic)/\Co m Hv v H' a Ic:=by
 have h0:=h;unfold builtin at h;split at h
 · obtain ⟨v,H',h1,h2,h3⟩:=bM h;refine ⟨v,H',h1,h2,fun m Hv Yg hh ha=> ?_⟩;obtain ⟨a,b,rfl,C',hb⟩:=ha.two;exact h3 m Hv a b hh C' hb
 · simp only [aa] at h;obtain ⟨t,ht,_⟩:=h;obtain ⟨v,h1,h2⟩:=XZ ht h0;refine ⟨v,H,h1,rfl,fun m Hv Yg hh ha=> ?_⟩;obtain ⟨a,rfl,C'⟩:=ha.one;obtain ⟨r,h3,h4⟩:=h2 m Hv a hh C';exact ⟨r,Hv,h3,.same hh h4⟩
 · simp only [aa] at h;obtain ⟨v,hv,h⟩:=h;refine ⟨v,H,h,rfl,fun m Hv Yg hh ha=> ?_⟩;cases Yg with
   |nil=>have:=ha.1;simp at this
   |cons a as=>
    obtain ⟨z,h1,h2⟩:=nw (g:=V.mH) (fun x y z x' y'=>UZ) hv (ha.2 0 _ a rfl rfl) (ys':=as) ⟨by have:=ha.1;simpa using this,fun i a b k1 k2=>ha.2 (i+1) a b (by simpa using k1) (by simpa using k2)⟩;exact ⟨z,Hv,by simp [V.builtin,h1],.same hh h2⟩
 · simp only [aa] at h;obtain ⟨v,hv,h⟩:=h;refine ⟨v,H,h,rfl,fun m Hv Yg hh ha=> ?_⟩;cases Yg with
   |nil=>have:=ha.1;simp at this
   |cons a as=>
    obtain ⟨z,h1,h2⟩:=nw (g:=V.kH) (fun x y z x' y'=>TZ) hv (ha.2 0 _ a rfl rfl) (ys':=as) ⟨by have:=ha.1;simpa using this,fun i a b k1 k2=>ha.2 (i+1) a b (by simpa using k1) (by simpa using k2)⟩;exact ⟨z,Hv,by simp [V.builtin,h1],.same hh h2⟩
 · simp only [aa] at h;obtain ⟨t,ht,h⟩:=h;obtain ⟨H',h1,h2,h3⟩:=MB h;refine ⟨_,H',h1,h2,fun m Hv Yg hh ha=> ?_⟩;obtain ⟨a,b,rfl,ha,hb⟩:=ha.two;obtain ⟨Ic,e1,e2⟩:=h3 m Hv a b hh ha hb;exact ⟨.Rc [],Ic,by simp [V.builtin,ht,e1],m,e2.1,.Rc [] [] rfl (fun i x a h=>by simp at h),.refl m,e2.2⟩
 · obtain ⟨v,H',h1,h2,h3⟩:=GY h0;refine ⟨v,H',h1,h2,fun m Hv Yg hh ha=> ?_⟩;obtain ⟨a,b,rfl,C',hb⟩:=ha.two;exact h3 m Hv a b hh C' hb
 · simp at h
theorem RF.push {F:List (List UV)} {Fv:List (List V.AV)} (h:RF m φ F Fv) {row:List UV} {Jb:List V.AV} (hr:RL m row Jb):
   RF m (fun i=>if i=F.length then some Fv.length else φ i) (F++[row]) (Fv++[Jb])/\eJ φ (fun i=>if i=F.length then some Fv.length else φ i):=by
 have hle:eJ φ (fun i=>if i=F.length then some Fv.length else φ i):=fun i j Ky=>by
   have:=(h.Ae i j Ky).1;simp only;rw [if_neg (by omega)];exact Ky
 refine ⟨⟨fun i j Ky=> ?_,fun i r hi=> ?_,fun i i' j h1 h2=> ?_⟩,hle⟩
 · split at Ky
   · rename_i e;simp at Ky;subst Ky;subst e;simp
   · have:=h.Ae i j Ky;simp;omega
 · rcases Nat.lt_trichotomy i F.length with nc|heq|hgt
   · rw [Fa nc] at hi;obtain ⟨j,r',k1,k2,k3⟩:=h.row i r hi;exact ⟨j,r',by rw [if_neg (by omega)];exact k1,by rw [Fa (Ua k2)];exact k2,k3⟩
   · subst heq;simp at hi;subst hi;exact ⟨Fv.length,Jb,by simp,by simp,hr⟩
   · rw [mb (by simp;omega)] at hi;simp at hi
 · split at h1<;>split at h2
   · rename_i e1 e2;rw [e1,e2]
   · simp at h1;subst h1;have:=(h.Ae _ _ h2).2;omega
   · simp at h2;subst h2;have:=(h.Ae _ _ h1).2;omega
   · exact h.inj i i' j h1 h2
theorem RS.mono {m':Mp} {zg:Nat->Option Nat} {x:US} {a:V.SV} (h:RS m φ x a) (hm:m.Le m') (hp:eJ φ zg):RS m' zg x a:=by
 cases x with
 |v x=>
  cases a with
  |v a=>cases x<;>first|trivial|exact RV.mono hm h
  |loc j c=>cases x<;>first|trivial|exact h.elim
 |loc i c=>
  cases a with
  |v a=>exact h.elim
  |loc j c'=>exact ⟨hp i j h.1,h.2⟩
theorem RE.mono {m':Mp} {zg:Nat->Option Nat} {e:List (Nat×US)} {ev:List (Nat×V.SV)} (h:RE m φ e ev) (hm:m.Le m') (hp:eJ φ zg):RE m' zg e ev:=fun t=>(h t).mono hm hp
theorem RE.cons {e:List (Nat×US)} {ev:List (Nat×V.SV)} (h:RE m φ e ev) (d:Nat) {x:US} {a:V.SV} (hx:RS m φ x a):RE m φ ((d,x)::e) ((d,a)::ev):=fun t=>by
 simp only [get,V.get];split
 · exact hx
 · exact h t
theorem QD {s:St} {t:TypeId} {il:Bool} {cs:List UV} {K:US->St->Option X} (h:boxed s t il cs K=some out):
  ∃ v s',K v s'=some out/\s'.base=s.base/\s'.e=s.e/\s'.H.wm=s.H.wm/\∀ (m:Mp) (φ:Nat->Option Nat) (sv:V.S) (Bh:List V.AV),Gl m φ s sv->RL m cs Bh->∃ vv je m' zg,V.boxed sv t il Bh=some (vv,je)/\Gl m' zg s' je/\RS m' zg v vv/\m.Le m'/\eJ φ zg/\Ej m.top m sv.H m' je.H/\je.e=sv.e:=by
 unfold boxed at h;split at h
 case isFalse=>simp at h
 rename_i hc;cases il with
 |true=>
  refine ⟨_,_,h,rfl,rfl,rfl,fun m φ sv Bh hs Si=> ?_⟩;have hp:=hs.f.push Si;refine ⟨.loc sv.F.length 0,{ sv with F:=sv.F++[Bh] },m,_,by simp [V.boxed,V.box],⟨hs.h,hp.1,hs.e.mono (.refl m) hp.2,hs.b⟩,⟨by simp,rfl⟩,.refl m,hp.2,.refl _ (oa _),rfl⟩
 |false=>
  simp at hc;by_cases hb:t=TB.bT/\rT cs=true
  · unfold box at h;simp only [if_pos hb,se,if_false] at h;refine ⟨_,_,h,rfl,rfl,rfl,fun m φ sv Bh hs Si=> ?_⟩;obtain ⟨rfl,hb⟩:=hb;have Hah:cs=[.De,.Wa]:=by
      unfold rT at hb;split at hb
      · rfl
      · simp at hb
    subst Hah;obtain ⟨a1,l1,rfl,q1,q2⟩:=Si.Oh;obtain ⟨a2,l2,rfl,q3,q4⟩:=q2.Oh;have BH:l2=[]:=Da.1 q4.1;subst BH;cases q1;cases q3;have hp:=hs.h.push (Ic:=sv.H) (y:= .ko .empty) (x:=none) (n:=0) (fun _ _ _ _ _=>rfl) (oa _) rfl (fun xv e=>by simp at e) ⟨by rw [xd];rfl,.inl ⟨rfl,Vd _ _ _ _⟩⟩;have QT:(push s.H (.ko .empty)).bl.length=s.H.bl.length+1:=by simp [push]
    have oe:=hp.1.new (y:= .Fl (.all s.H.bl.length)) (yv:= .cells [[.De,.Wa]] 2 (some (TB.bT,2))) (n:=0)
      ⟨_,.De,.Wa,Vd _ _ _ _,by rw [Be,if_neg (by omega),if_pos rfl],.inl rfl,.Nf _ _ (by rw [QT];simp only [Mp.add,Mp.Fi];omega) (by rw [QT,cM _ _ _ (by omega),xd]) (.inl rfl),by simp⟩
    have g1:Ej m.top m sv.H (m.add s.H.bl.length none 0) sv.H:=⟨tg hs.h _ _,fun _ _ _=>rfl,fun b _ xv hb=>by
      by_cases e:b=s.H.bl.length
      · subst e;obtain ⟨_,e⟩:=zi hb;simp at e
      · rw [vf _ _ _ e] at hb;exact .inl ⟨b,_,hb⟩,oa _,rfl⟩
    have hle:m.Le ((m.add s.H.bl.length none 0).add (push s.H (.ko .empty)).bl.length (some sv.H.bl.length) 0):=hp.2.trans oe.2.1;refine ⟨.v (.ptr sv.H.bl.length 0 0),{ sv with H:=V.push sv.H (.cells [[.De,.Wa]] 2 (some (TB.bT,2))) },_,φ,?_,⟨oe.1,hs.f.mono hle,hs.e.mono hle fun _ _ h=>h,?_⟩,?_,hle,fun _ _ h=>h,g1.trans oe.2.2 (by simp only [Mp.add,Mp.Fi];have:=hs.h.len;omega),rfl⟩
    · simp [V.boxed,V.box]
    · have:=hs.b;simp [push];omega
    · rw [<- QT];exact RV.ptr _ 0 _ (Vd _ _ _ _)
  unfold box at h;simp only [if_neg hb,se,if_false] at h;refine ⟨_,_,h,rfl,rfl,rfl,fun m φ sv Bh hs Si=> ?_⟩;have oe:=hs.h.new (y:= .fb cs) (yv:= .cells [Bh] Bh.length (some (t,2))) (n:=0) ⟨_,Bh,_,Vd _ _ _ _,by rw [Be,if_neg (by omega),if_pos rfl],Si.mono (dM hs.h _ _)⟩;refine ⟨.v (.ptr sv.H.bl.length 0 0),{ sv with H:=V.push sv.H (.cells [Bh] Bh.length (some (t,2))) },_,φ,?_,⟨oe.1,hs.f.mono oe.2.1,hs.e.mono oe.2.1 fun _ _ h=>h,?_⟩,RV.ptr _ 0 _ (Vd _ _ _ _),oe.2.1,fun _ _ h=>h,oe.2.2,rfl⟩
  · simp only [V.boxed,V.box];have:decide (0<Bh.length)=true:=by simp [Si.1,hc]
    simp [this]
  · have:=hs.b;simp [push];omega
end
end Go.U
namespace Go.U
open Go
variable [TB:sB]
section
variable {A:V.oh} {La:Nat->Option (List UV)} {m:Mp}
theorem Vk {fz:V.AH->V.AV->Option (V.AV×V.AH)} {H:V.AH}:∀ {l:List V.AV},(∀ a∈l,fz H a=some (a,H))->V.Ig fz H l=some (l,H)
 |[],_=>rfl
 |a::l,h=>by
  simp only [V.Ig,h a (zc ..),da,Vk (l:=l) fun b hb=>h b (Gb _ hb)]
theorem vp {fz:V.AH->V.AV->Option (V.AV×V.AH)} {H:V.AH}:∀ {l:List (List V.AV)},(∀ row∈l,∀ a∈row,fz H a=some (a,H))->V.zh fz H l=some (l,H)
 |[],_=>rfl
 |a::l,h=>by
  simp only [V.zh,Vk (h a (zc ..)),da,vp (l:=l) fun b hb=>h b (Gb _ hb)]
theorem RL.mem {xs:List UV} {as:List V.AV} (h:RL m xs as) {a:V.AV} (ha:a∈as):∃ x∈xs,RV m x a:=by
 obtain ⟨i,hi⟩:=Yd ha;have hx:=ya (l:=xs) (i:=i) (by rw [<- h.1];exact Ua hi);exact ⟨_,jb hx,h.2 i _ a hx hi⟩
theorem mj:∀ (d:Nat) {x:UV} {a:V.AV},Nb d x=true->RV m x a->∀ Hv,V.freeze d Hv a=some (a,Hv)
 |0,x,a,h,hx,Hv=>by simp [Nb] at h
 |d+1,x,a,h,hx,Hv=>by
  cases hx with
  |Qb=>simp [Nb,closed] at h
  |sl=>simp [Nb,closed] at h
  |Jr=>simp [Nb,closed] at h
  |all=>simp [Nb,closed] at h
  |Nf=>simp [Nb,closed] at h
  |cr=>simp [Nb,closed] at h
  |Ts=>simp [Nb,closed] at h
  |Ao=>simp [Nb,closed] at h
  |Qh _ _ ha=>rcases ha with rfl|rfl<;>rfl
  |agg cs as hl hr=>
   have:V.Ig (V.freeze d) Hv as=some (as,Hv):=Vk fun a ha=>by
    obtain ⟨x,hx,hv⟩:=RL.mem (m:=m) ⟨hl,hr⟩ ha;exact mj d (Yb.1 (by simpa [Nb] using h) x hx) hv Hv
   simp only [V.freeze,this,da]
  |Rc cs as hl hr=>
   have:V.Ig (V.freeze d) Hv as=some (as,Hv):=Vk fun a ha=>by
    obtain ⟨x,hx,hv⟩:=RL.mem (m:=m) ⟨hl,hr⟩ ha;exact mj d (Yb.1 (by simpa [Nb] using h) x hx) hv Hv
   simp only [V.freeze,this,da]
  |_=>rfl
def Fz (d:Nat) (x:UV) (H:UH) (x':UV) (H':UH):Prop:=H'.wm=H.wm/\∀ (m:Mp) (Hv:V.AH) (a:V.AV),RH m H Hv->RV m x a->∃ a' Ic,V.freeze d Hv a=some (a',Ic)/\Co m Hv x' H' a' Ic
theorem Fz.same {d:Nat} {x:UV} {H:UH} (h:Nb d x=true):Fz d x H x H:=⟨rfl,fun m Hv a hh hx=>⟨a,Hv,mj d h hx Hv,.same hh hx⟩⟩
theorem XJ {H:UH} {d b:Nat} {c:CT} {x:UV} {l:List (Eb c)} (hd:0<d) (hw:H.wm<=b) (hr:rowsOf H c x=some l) (hx:(∃ r n,x= .sl b r n)\/x= .all b):Fz (d+1) x H (.lit c l) (Ma H b .dead):=by
 refine ⟨rfl,fun m Hv a hh hxa=> ?_⟩;have hb:∃ c' l',H.bl[b]?=some (.cells c' l')/\c'=c:=by
   rcases hx with ⟨r,n,rfl⟩|rfl
   all_goals
    simp only [rowsOf] at hr;split at hr
    case h_2=>simp at hr
    rename_i c' l' hb;split at hr
    case isFalse=>simp at hr
    rename_i hc;exact ⟨c',l',hb,hc⟩
 obtain ⟨c',l',hb,rfl⟩:=hb;have hk:=hh.kill b;have Td:live H b:=⟨_,hb,rfl⟩;obtain ⟨rows,k1,k2⟩:=vh hr hh hxa;obtain ⟨kb,kx⟩:=uc (s:=⟨[],[],H,0⟩) (sv:=⟨[],[],Hv⟩) hh hb;have gac:(a= .Wa\/a= .Kd)->l=[]->∃ a' Ic,V.freeze (d+1) Hv a=some (a',Ic)/\Co m Hv (.lit c' l) (Ma H b .dead) a' Ic:=fun ha hl=>by
   subst hl;exact ⟨a,Hv,by rcases ha with rfl|rfl<;>rfl,m,hk,.Qh _ _ ha,.refl m,.refl Hv (oa _)⟩
 have main:∀ {xi r n:Nat},m.ι b 0=some xi->a= .sl xi r n->∃ a' Ic,V.freeze (d+1) Hv a=some (a',Ic)/\Co m Hv (.lit c' l) (Ma H b .dead) a' Ic:=fun {xi r n} Ef ha=>by
   subst ha;obtain ⟨rws,ty,j2,j3,j4⟩:=kx xi Ef;have BM:Hv.bl[xi]?=some (.cells rws (width c') ty):=j2;have G0:=hh.wm b xi Ef hw;have Bj:∀ b' s',live (Ma H b .dead) b'->m.ι b' s'≠some xi:=fun b' s' hl e=>by
    rcases ag hl with ⟨_,h'⟩|⟨Nc,Pf⟩
    · simp [Sd] at h'
    · exact Nc (hh.inj b' b xi Pf Td e Ef)
   have Cd:=hk.other Bj .dead;have k1':V.rowsOf Hv (.sl xi r n)=some rows:=k1;refine ⟨.lit (width c') rows,V.Ma Hv xi .dead,?_,m,Cd,k2.lit,.refl m,⟨.refl (oa _),fun x jk hn=>by rw [Ac,if_neg (fun e=>hn b 0 (by rw [<- e];exact Ef))],fun b' s' x zd=> .inl ⟨b',s',zd⟩,by simp [V.Ma],rfl⟩⟩;have XB:V.zh (V.freeze d) (V.Ma Hv xi .dead) rows=some (rows,V.Ma Hv xi .dead):=vp fun row Zc a ha=>by
    obtain ⟨i,hi⟩:=Yd Zc;obtain ⟨x,hxm,xT⟩:=(k2.get hi).mem ha;obtain ⟨d',rfl⟩:∃ d',d=d'+1:=⟨d-1,by omega⟩;exact mj _ (Qu (Pd _ _ _ x hxm)) xT _
   simp only [V.freeze,k1',da,V.Aj,BM,G0,if_true,XB]
 rcases hx with ⟨r,n,rfl⟩|rfl
 · simp only [rowsOf,hb] at hr;simp at hr;subst hr;cases hxa with
   |sl _ _ _ xi Ef hle=>exact main Ef rfl
   |Jr _ _ _ ha=>exact gac ha (by rw [ak];simp)
 · simp only [rowsOf,hb] at hr;simp at hr;subst hr;cases hxa with
   |all _ xi Ef=>exact main Ef rfl
   |Nf _ _ _ hl ha=>exact gac ha (Da.1 (by have:m.len b 0=l'.length:=kb;omega))
theorem nU {m:Mp} {c:CT} {d:Nat}:∀ {L:List (List (Eb c))} {rows:List (List V.AV)} {Hc:V.AH} {F:Nat->Option Nat},rows.length=L.length->(∀ r,r<L.length->∃ a,rows[r]?=some [a]/\Ik m Hc (F r) c (L.getD r []) a)->
  (∀ r r' y,F r=some y->F r'=some y->r=r')->(∀ r y,F r=some y->Hc.wm<=y)->∃ Qd Hc',V.zh (V.freeze (d+2)) Hc rows=some (Qd,Hc')/\Qd.length=L.length/\(∀ r Jb,r<L.length->Qd[r]?=some Jb->RL m [.lit c (L.getD r [])] Jb)/\Hc'.bl.length=Hc.bl.length/\Hc'.wm=Hc.wm/\∀ x,(∀ r,F r≠some x)->Hc'.bl[x]?=Hc.bl[x]?
 |[],rows,Hc,F,hl,_,_,_=>by
  have:rows=[]:=Da.1 hl;subst this;exact ⟨[],Hc,rfl,rfl,fun r Jb hr=>by simp at hr,rfl,rfl,fun _ _=>rfl⟩
 |l0::L,[],Hc,F,hl,_,_,_=>by simp at hl
 |l0::L,row::rows,Hc,F,hl,hr,hi,hw=>by
  obtain ⟨a,h1,h2⟩:=hr 0 (by simp);simp at h1;subst h1;have h2:Ik m Hc (F 0) c l0 a:=h2;have step:∃ a' H1,V.freeze (d+2) Hc a=some (a',H1)/\RV m (.lit c l0) a'/\H1.bl.length=Hc.bl.length/\H1.wm=Hc.wm/\∀ x,F 0≠some x->H1.bl[x]?=Hc.bl[x]?:=by
   rcases h2 with ⟨k1,k2,k3⟩|⟨y,ry,ty,k1,rfl,k3,k4,k5⟩
   · have:l0=[]:=Da.1 k1;subst this;exact ⟨a,Hc,by rcases k3 with rfl|rfl<;>rfl,.Qh _ _ k3,rfl,rfl,fun _ _=>rfl⟩
   · have cS:RT m c l0 (ry.take l0.length):= .of (by simp;omega) fun i row hi hr=>by
      rw [Ab,if_pos hi] at hr;obtain ⟨Jb,j1,j2,j3⟩:=k5.row k4 hi;rw [j1] at hr;simp at hr;subst hr;exact j2
     have mZ:V.rowsOf Hc (.sl y 0 l0.length)=some (ry.take l0.length):=by
      simp only [V.rowsOf,k3];rw [if_pos (by omega)];simp
     have XB:V.zh (V.freeze (d+1)) (V.Ma Hc y .dead) (ry.take l0.length)=some (ry.take l0.length,V.Ma Hc y .dead):=vp fun row Zc a ha=>by
      obtain ⟨i,hi⟩:=Yd Zc;obtain ⟨x,hxm,xT⟩:=(cS.get hi).mem ha;exact mj _ (Qu (Pd _ _ _ x hxm)) xT _
     refine ⟨.lit (width c) (ry.take l0.length),V.Ma Hc y .dead,?_,cS.lit,by simp [V.Ma],rfl,fun x hx=>by rw [Ac,if_neg];rintro rfl;exact hx k1⟩;simp only [V.freeze,mZ,da,V.Aj,k3,hw 0 y k1,if_true,XB]
  obtain ⟨a',H1,s1,s2,s3,s4,s5⟩:=step;obtain ⟨Qd,H2,t1,t2,t3,t4,t5,t6⟩:=nU (L:=L) (rows:=rows) (Hc:=H1) (F:=fun r=>F (r+1)) (d:=d) (by simpa using hl) (fun r Rk=>by
     obtain ⟨a,k1,k2⟩:=hr (r+1) (by simp;omega);refine ⟨a,by simpa using k1,?_⟩;have k2:Ik m Hc (F (r+1)) c (L.getD r []) a:=by simpa using k2
     exact k2.keep (fun _ _ _ h=>h) fun x hx=>s5 x fun e=>by have:=hi _ _ x e hx;omega)
   (fun r r' y e e'=>by have:=hi _ _ y e e';omega) (fun r y e=>by rw [s4];exact hw _ y e)
  refine ⟨[a']::Qd,H2,by simp only [V.zh,V.Ig,s1,da,t1],by simp [t2],fun r Jb Rk Zc=> ?_,by rw [t4,s3],by rw [t5,s4],fun x hx=>by rw [t6 x fun r=>hx (r+1),s5 x (hx 0)]⟩;cases r with
  |zero=>simp at Zc;subst Zc;exact .cons s2 .nil
  |succ r=>have:=t3 r Jb (by simpa using Rk) (by simpa using Zc);simpa using this
theorem NH {H:UH} {d b:Nat} {c:CT} {l:List (List (Eb c))} (hd:1<d) (hw:H.wm<=b) (hb:H.bl[b]?=some (.deep c l)):Fz (d+1) (.all b) H (.lit (.slice c) l) (Ma H b .dead):=by
 refine ⟨rfl,fun m Hv a hh hxa=> ?_⟩;have hk:=hh.kill b;have Td:live H b:=⟨_,hb,rfl⟩;obtain ⟨k0,k1,kx⟩:=Od (s:=⟨[],[],H,0⟩) (sv:=⟨[],[],Hv⟩) hh hb;obtain ⟨d',rfl⟩:∃ d',d=d'+2:=⟨d-2,by omega⟩;cases hxa with
 |Nf _ _ _ hl ha=>
  have:l=[]:=Da.1 (by rw [<- k0];exact hl);subst this;exact ⟨a,Hv,by rcases ha with rfl|rfl<;>rfl,m,hk,.Qh _ _ ha,.refl m,.refl Hv (oa _)⟩
 |all _ xi Ef=>
  obtain ⟨rws,ty,j2,j3,j4⟩:=kx xi Ef;have BM:Hv.bl[xi]?=some (.cells rws 1 ty):=j2;have G0:=hh.wm b xi Ef hw;have mZ:V.rowsOf Hv (.sl xi 0 (m.len b 0))=some (rws.take l.length):=by
   simp only [V.rowsOf,BM];rw [k0,if_pos (by omega)];simp
  have hsx:∀ {r y:Nat},m.ι b (r+1)=some y->xi≠y:=fun {r y} e e'=>by subst e';have:=(hh.zm b b xi Td Td Ef e).2;omega
  obtain ⟨Qd,H2,t1,t2,t3,t4,t5,t6⟩:=nU (m:=m) (L:=l) (rows:=rws.take l.length) (Hc:=V.Ma Hv xi .dead) (F:=fun r=>m.ι b (r+1)) (d:=d') (by simp;omega) (fun r hr=>by
     obtain ⟨a,q1,q2⟩:=j4 r hr;exact ⟨a,by rw [Ab,if_pos hr];exact q1,q2.keep (fun _ _ _ h=>h) fun x hx=>by rw [Ac,if_neg (hsx hx)]⟩)
   (fun r r' y e e'=>by have:=(hh.zm b b y Td Td e e').2;omega) (fun r y e=>hh.wm b y e hw)
  have cS:RT m (.slice c) l Qd:= .of t2 fun i row hi hr=>t3 i row hi hr
  have Wb:∀ x,(∀ s,m.ι b s≠some x)->H2.bl[x]?=Hv.bl[x]?:=fun x hx=>by
   rw [t6 x fun r=>hx (r+1),Ac,if_neg (fun e=>hx 0 (by rw [<- e];exact Ef))]
  have BH:H2.bl.length=Hv.bl.length:=by rw [t4];simp [V.Ma]
  have hrh:RH m (Ma H b .dead) H2:=hk.alike (fun b' s x Pf e=>Wb x fun s' e'=>by
   rcases ag Pf with ⟨_,h'⟩|⟨Nc,nah⟩
   · simp [Sd] at h'
   · exact Nc (hh.inj b' b x nah Td e e')) BH t5
  refine ⟨.lit 1 Qd,H2,?_,m,hrh,cS.lit,.refl m,⟨.refl (oa _),fun x jk hn=>Wb x (hn b),fun b' s' x zd=> .inl ⟨b',s',zd⟩,by rw [BH];exact oa _,t5⟩⟩;simp only [V.freeze,mZ,da,V.Aj,BM,G0,if_true,t1]
end
section
variable {φ:Nat->Option Nat} {Hv:V.AH}
def Mo (m:Mp) (H H':UH) (Hv:V.AH) (P:Mp->Prop):Prop:=H'.wm=H.wm/\∃ m',RH m' H' Hv/\m.Le m'/\Ej m.top m Hv m' Hv/\P m'
theorem Mo.same {m:Mp} {H:UH} {P:Mp->Prop} (hh:RH m H Hv) (hp:P m):Mo m H H Hv P:=⟨rfl,m,hh,.refl m,.refl Hv (oa _),hp⟩
theorem Mo.trans {m:Mp} {H H1 H2:UH} {P:Mp->Prop} {Q:Mp->Prop} (h:Mo m H H1 Hv P) (h':∀ m1,RH m1 H1 Hv->m.Le m1->P m1->Mo m1 H1 H2 Hv Q):Mo m H H2 Hv Q:=by
 obtain ⟨w1,m1,h1,h2,h3,h4⟩:=h;obtain ⟨w2,m2,k1,k2,k3,k4⟩:=h' m1 h1 h2 h4;exact ⟨w2.trans w1,m2,k1,h2.trans k2,h3.trans k3 h3.gk.1,k4⟩
theorem Mo.imp {m:Mp} {H H1:UH} {P:Mp->Prop} {Q:Mp->Prop} (h:Mo m H H1 Hv P) (h':∀ m1,m.Le m1->P m1->Q m1):Mo m H H1 Hv Q:=by
 obtain ⟨w1,m1,h1,h2,h3,h4⟩:=h;exact ⟨w1,m1,h1,h2,h3,h' m1 h2 h4⟩
theorem Qt {m:Mp} {H:UH} (hh:RH m H Hv) (c:CT):Mo m H (push H (.cells c [])) Hv fun m'=>∀ a,a= .Wa\/a= .Kd->RV m' (.all H.bl.length) a:=by
 have hp:=hh.push (Ic:=Hv) (y:= .cells c []) (x:=none) (n:=0) (fun _ _ _ _ _=>rfl) (oa _) rfl (fun xv e=>by simp at e) ⟨xd _ _ _ _,.inl ⟨rfl,Vd _ _ _ _⟩⟩;refine ⟨rfl,_,hp.1,hp.2,⟨tg hh _ _,fun _ _ _=>rfl,fun b _ xv hb=> ?_,oa _,rfl⟩,fun a h=> .Nf _ _ (by simp [Mp.add,Mp.Fi]) (xd _ _ _ _) h⟩;by_cases e:b=H.bl.length
 · subst e;obtain ⟨_,e⟩:=zi hb;simp at e
 · rw [vf _ _ _ e] at hb;exact .inl ⟨b,_,hb⟩
end
section
variable {A:V.oh} {La:Nat->Option (List UV)} {m:Mp}
theorem SP {v:UV} {H:UH} {v':UV} {H':UH} (h:yK v H=some (v',H')):Fz 8 v H v' H':=by
 unfold yK at h;split at h
 case h_2=>simp at h
 split at h
 case isFalse=>simp at h
 rename_i hw;split at h
 · rename_i c l hb;simp at h;obtain ⟨rfl,rfl⟩:=h;exact XJ (by omega) hw (by simp [rowsOf,hb]) (.inr rfl)
 · rename_i c l hb;simp at h;obtain ⟨rfl,rfl⟩:=h;exact NH (by omega) hw hb
 · simp at h
theorem HJ {t:TypeId} {x v:UV} {H H':UH} (h:Vh A H t x=some (v,H')):H'.wm=H.wm/\∀ (m:Mp) (Hv:V.AH) (x':V.AV),RH m H Hv->RV m x x'->∃ a Ic,V.Vh A t x'=some a/\Ic=Hv/\Co m Hv v H' a Ic:=by
 unfold Vh at h;split at h
 case h_2=>simp at h
 rename_i e hu;split at h
 case isFalse=>simp at h
 rename_i hz;obtain ⟨n,hn⟩:=Option.isSome_iff_exists.1 hz;have go:∀ {m:Mp} {Hv:V.AH} (c:CT) {x':V.AV},RH m H Hv->(∃ a,V.Vh A t x'=some a/\(a= .Wa\/a= .Kd))->∃ a Ic,V.Vh A t x'=some a/\Ic=Hv/\Co m Hv (.all H.bl.length) (push H (.cells c [])) a Ic:=fun {m Hv} c {x'} hh ⟨a,h1,h2⟩=>by
   obtain ⟨_,m',k1,k2,k3,k4⟩:=Qt hh c;exact ⟨a,Hv,h1,rfl,m',k1,k4 a h2,k2,k3⟩
 have sl:∀ x':V.AV,(x'= .Wa\/x'= .Kd\/(∃ s r,x'= .lit s r)\/∃ b r k,x'= .sl b r k)->∃ a,V.Vh A t x'=some a/\(a= .Wa\/a= .Kd):=fun x' hx=>by
   rcases hx with rfl|rfl|⟨_,_,rfl⟩|⟨_,_,_,rfl⟩<;>simp [V.Vh,hu,hn]
 split at h
 · simp at h;obtain ⟨rfl,rfl⟩:=h;exact ⟨rfl,fun m Hv x' hh hx=>by cases hx;exact ⟨.Wa,Hv,by simp [V.Vh,hu,hn],rfl,.same hh .Wa⟩⟩
 · simp at h;obtain ⟨rfl,rfl⟩:=h;exact ⟨rfl,fun m Hv x' hh hx=>by cases hx;exact ⟨.Kd,Hv,by simp [V.Vh,hu,hn],rfl,.same hh .Kd⟩⟩
 · simp at h;obtain ⟨rfl,rfl⟩:=h;refine ⟨rfl,fun m Hv x' hh hx=>go _ hh (sl _ ?_)⟩;cases hx with
   |lit=>exact .inr (.inr (.inl ⟨_,_,rfl⟩))
   |Qh _ _ ha=>rcases ha with rfl|rfl<;>simp
 · split at h
   · simp at h;obtain ⟨rfl,rfl⟩:=h;refine ⟨rfl,fun m Hv x' hh hx=>go _ hh (sl _ ?_)⟩;cases hx with
     |sl=>exact .inr (.inr (.inr ⟨_,_,_,rfl⟩))
     |Jr _ _ _ ha=>rcases ha with rfl|rfl<;>simp
   · simp at h
 · split at h
   · simp at h;obtain ⟨rfl,rfl⟩:=h;refine ⟨rfl,fun m Hv x' hh hx=>go _ hh (sl _ ?_)⟩;cases hx with
     |all=>exact .inr (.inr (.inr ⟨_,_,_,rfl⟩))
     |Nf _ _ _ _ ha=>rcases ha with rfl|rfl<;>simp
   · simp at h
 · simp at h
theorem EM {m:Mp} {x:UV} {a:V.AV} (h:tT x=true) (hx:RV m x a):V.tT a=true:=by
 unfold tT at h;split at h
 · cases hx;simpa [V.tT] using h
 · simp at h
end
end Go.U
namespace Go.U
open Go
variable [TB:sB]
def Sa (C:V.Callee) (call:(X:Type)->UV->List UV->UH->(UV->UH->Option X)->Option X):Prop:=
 ∀ (X:Type) (fv:UV) (args:List UV) (H:UH) (K:UV->UH->Option X) (out:X),call X fv args H K=some out->
  ∃ r H',K r H'=some out/\H'.wm=H.wm/\∀ (m:Mp) (Hv:V.AH) (vZ:V.AV) (Yg:List V.AV),RH m H Hv->RV m fv vZ->RL m args Yg->∃ r' Ic,C vZ Yg Hv=some (r',Ic)/\Co m Hv r H' r' Ic
def fJ (A:V.oh) (C:V.Callee) (za:List Nat) (s:St) (o:Oper) (v:US) (s':St):Prop:=
 s'.base=s.base/\s'.e=s.e/\s'.H.wm=s.H.wm/\∀ (m:Mp) (φ:Nat->Option Nat) (sv:V.S),Gl m φ s sv->∃ vv je m' zg,V.op A C za sv o=some (vv,je)/\Gl m' zg s' je/\RS m' zg v vv/\m.Le m'/\eJ φ zg/\Ej m.top m sv.H m' je.H/\je.e=sv.e
section
variable {A:V.oh} {C:V.Callee} {La:Nat->Option (List UV)} {za:List Nat} {s:St} {o:Oper} {X:Type} {out:X}
theorem eJ.refl (φ:Nat->Option Nat):eJ φ φ:=fun _ _ h=>h
theorem eJ.trans {φ zg Lab:Nat->Option Nat} (h:eJ φ zg) (h':eJ zg Lab):eJ φ Lab:=fun i j Ky=>h' i j (h i j Ky)
theorem fJ.slot {v:US} (h:∀ (m:Mp) (φ:Nat->Option Nat) (sv:V.S),Gl m φ s sv->∃ vv,V.op A C za sv o=some (vv,sv)/\RS m φ v vv):fJ A C za s o v s:=
 ⟨rfl,rfl,rfl,fun m φ sv hs=>let ⟨vv,h1,h2⟩:=h m φ sv hs;⟨vv,sv,m,φ,h1,hs,h2,.refl m,.refl φ,.refl _ (oa _),rfl⟩⟩
theorem fJ.pure {v:UV} (h:∀ (m:Mp) (φ:Nat->Option Nat) (sv:V.S),Gl m φ s sv->∃ a,V.op A C za sv o=some (.v a,sv)/\RV m v a):fJ A C za s o (.v v) s:=
 .slot fun m φ sv hs=>let ⟨a,h1,h2⟩:=h m φ sv hs;⟨.v a,h1,h2.rs⟩
theorem fJ.heap {v:UV} {H':UH} (hw:H'.wm=s.H.wm) (h:∀ (m:Mp) (φ:Nat->Option Nat) (sv:V.S),Gl m φ s sv->∃ a Ic,V.op A C za sv o=some (.v a,{ sv with H:=Ic })/\Co m sv.H v H' a Ic):fJ A C za s o (.v v) { s with H:=H' }:=
 ⟨rfl,rfl,hw,fun m φ sv hs=>by
  obtain ⟨a,Ic,h1,m',h2,h3,h4,h5⟩:=h m φ sv hs;refine ⟨.v a,_,m',φ,h1,⟨h2,hs.f.mono h4,hs.e.mono h4 (.refl φ),?_⟩,h3.rs,h4,.refl φ,h5,rfl⟩;have:=h5.gk.1;have:=h2.len;have:=hs.h.len;have:=hs.b;show s.base<=H'.bl.length;omega⟩
theorem oq {m:Mp} {x:UV} {a:V.AV} {n:Int} (h:toInt x=some n) (hx:RV m x a):V.toInt a=some n:=by
 unfold toInt at h;split at h
 · cases hx;simpa [V.toInt] using h
 · simp at h
theorem Vz (hg:xe A La) {m:Mp} {φ:Nat->Option Nat} {e:List (Nat×US)} {ev:List (Nat×V.SV)} {x:Option Operand} {n:Option Int} (h:Bg La e x=some n) (he:RE m φ e ev):V.Bg A ev x=some n:=by
 cases x with
 |none=>simpa [Bg,V.Bg] using h
 |some x=>
  simp only [Bg,aa] at h;obtain ⟨a,ha,h⟩:=h;obtain ⟨a',h1,h2⟩:=Gc hg ha he;simp only [ia] at h;obtain ⟨i,hi,rfl⟩:=h;simp [V.Bg,h1,oq hi h2]
theorem NJ (hg:xe A La) {env:Env} (hc:Sa C env.call) {K:US->St->Option X} (h:op A La env za s o K=some out):∃ v s',K v s'=some out/\fJ A C za s o v s':=by
 unfold op at h;split at h
 · rename_i x ho;simp only [aa] at h;obtain ⟨v,hv,h⟩:=h;refine ⟨v,s,h,.slot fun m φ sv hs=> ?_⟩;obtain ⟨vv,h1,h2⟩:=yd hg hv hs.e;exact ⟨vv,by simp [V.op,ho,h1],h2⟩
 · rename_i x ho;simp only [aa] at h;obtain ⟨v,hv,h⟩:=h;refine ⟨v,s,h,.slot fun m φ sv hs=> ?_⟩;obtain ⟨vv,h1,h2⟩:=yd hg hv hs.e;exact ⟨vv,by simp [V.op,ho,h1],h2⟩
 · rename_i c a b ho;simp only [aa] at h;obtain ⟨cv,bU,h⟩:=h;split at h
   case h_2=>simp at h
   rename_i p;cases p with
   |true=>
     simp only [cond_true,aa] at h;obtain ⟨v,hv,h⟩:=h;refine ⟨v,s,h,.slot fun m φ sv hs=> ?_⟩;obtain ⟨c',h1,h2⟩:=Gc hg bU hs.e;cases h2;obtain ⟨vv,h3,h4⟩:=yd hg hv hs.e;exact ⟨vv,by simp [V.op,ho,h1,h3],h4⟩
   |false=>
     simp only [cond_false,aa] at h;obtain ⟨v,hv,h⟩:=h;refine ⟨v,s,h,.slot fun m φ sv hs=> ?_⟩;obtain ⟨c',h1,h2⟩:=Gc hg bU hs.e;cases h2;obtain ⟨vv,h3,h4⟩:=yd hg hv hs.e;exact ⟨vv,by simp [V.op,ho,h1,h3],h4⟩
 · rename_i t ho;simp only [aa] at h;obtain ⟨z,hz,h⟩:=h;obtain ⟨z',q1,q2,_⟩:=Fo hz;obtain ⟨v,s',h1,h2,h3,h4,h5⟩:=QD h;refine ⟨v,s',h1,h2,h3,h4,fun m φ sv hs=> ?_⟩;obtain ⟨vv,je,m',zg,k1,k2⟩:=h5 m φ sv z' hs (q2 m);exact ⟨vv,je,m',zg,by simp only [V.op,ho,q1,da];exact k1,k2⟩
 · rename_i x0 x ho;simp only [aa] at h;obtain ⟨a,ha,cs,Si,h⟩:=h;obtain ⟨v,s',h1,h2,h3,h4,h5⟩:=QD h;refine ⟨v,s',h1,h2,h3,h4,fun m φ sv hs=> ?_⟩;obtain ⟨a',q1,q2⟩:=Gc hg ha hs.e;obtain ⟨Bh,q3,q4⟩:=dr Si q2;obtain ⟨vv,je,m',zg,k1,k2⟩:=h5 m φ sv Bh hs q4;exact ⟨vv,je,m',zg,by simp only [V.op,ho,q1,q3,da];exact k1,k2⟩
 · rename_i t ps ho;simp only [aa] at h;obtain ⟨l,hl,v,hv,h⟩:=h;refine ⟨_,s,h,.pure fun m φ sv hs=> ?_⟩;obtain ⟨l',h1,h2⟩:=uq hg hs.e hl;obtain ⟨a,h3,h4⟩:=PR hv h2;exact ⟨a,by simp [V.op,ho,h1,h3,V.Hf],h4⟩
 · rename_i t n ps ho;simp only [aa] at h;obtain ⟨l,hl,⟨v,H'⟩,hv,⟨v2,H2⟩,J0,h⟩:=h;have hw:H'.wm=s.H.wm:=by
     simp only [buildSlice,aa] at hv;obtain ⟨_,_,_,_,_,_,hv⟩:=hv;split at hv
     · split at hv
       · simp at hv;rw [<- hv.2]
       · split at hv
         · rename_i hd;simp at hv;subst hv;unfold PL at hd;split at hd
           · split at hd
             · simp only [aa] at hd;obtain ⟨⟨L,H1⟩,h1,hd⟩:=hd;simp at hd;rw [<- hd.2];exact (show (push H1 (UB.deep _ L)).wm=H1.wm from rfl).trans (Bl h1)
             · simp at hd
           · simp at hd
         simp only [aa] at hv;obtain ⟨_,_,_,_,hv⟩:=hv;simp at hv;rw [<- hv.2];rfl
     · simp at hv
   by_cases yH:V.xm za o=true
   · rw [yH,cond_true] at J0;obtain ⟨z1,z2⟩:=SP J0;refine ⟨_,_,h,.heap (z1.trans hw) fun m φ sv hs=> ?_⟩;obtain ⟨l',h1,h2⟩:=uq hg hs.e hl;obtain ⟨a,Ic,h3,m1,h5,h6,h7,h8⟩:=Xp hv hs.h h2;obtain ⟨a',Hv2,e1,m2,e2,e3,e4,e5⟩:=z2 m1 Ic a h5 h6;exact ⟨a',Hv2,by simp [V.op,ho,h1,h3,V.fh,yH,e1],m2,e2,e3,h7.trans e4,h8.trans e5 h8.gk.1⟩
   · have yH:V.xm za o=false:=by simpa using yH
     rw [yH,cond_false] at J0;simp at J0;obtain ⟨rfl,rfl⟩:=J0;refine ⟨_,_,h,.heap hw fun m φ sv hs=> ?_⟩;obtain ⟨l',h1,h2⟩:=uq hg hs.e hl;obtain ⟨a,Ic,h3,h4⟩:=Xp hv hs.h h2;exact ⟨a,Ic,by simp [V.op,ho,h1,h3,V.fh,yH],h4⟩
 · rename_i t x ho;simp only [aa] at h;obtain ⟨p,hp,v,hv,h⟩:=h;refine ⟨_,s,h,.pure fun m φ sv hs=> ?_⟩;obtain ⟨pv,h1,h2⟩:=yd hg hp hs.e;obtain ⟨a,h3,h4⟩:=Vt hv hs.h hs.f h2;exact ⟨a,by simp [V.op,ho,h1,h3,V.Hf],h4⟩
 · rename_i t x y ho;simp only [aa] at h;obtain ⟨p,hp,a,ha,s',Wb,h⟩:=h;have hb:s'.base=s.base/\s'.e=s.e/\s'.H.wm=s.H.wm/\s.H.bl.length<=s'.H.bl.length:=by
     simp only [store,mD,aa] at Wb;obtain ⟨_,_,_,_,Wb⟩:=Wb;split at Wb
     case isFalse=>simp at Wb
     split at Wb
     · simp only [aa] at Wb;obtain ⟨_,_,_,_,Wb⟩:=Wb;simp at Wb;subst Wb;simp
     · split at Wb
       case h_2=>simp at Wb
       split at Wb
       case isFalse=>simp at Wb
       simp only [aa] at Wb;obtain ⟨_,_,Wb⟩:=Wb;simp at Wb;subst Wb;simp [Ma]
     · split at Wb
       case h_2=>simp at Wb
       split at Wb
       case isFalse=>simp at Wb
       simp only [aa] at Wb;obtain ⟨_,_,_,_,Wb⟩:=Wb;simp at Wb;subst Wb;simp [Ma]
     · split at Wb
       case h_2=>simp at Wb
       split at Wb
       case isFalse=>simp at Wb
       simp only [aa] at Wb;obtain ⟨_,_,_,_,Wb⟩:=Wb;simp at Wb;subst Wb;simp [Ma]
     · simp at Wb
   refine ⟨_,s',h,hb.1,hb.2.1,hb.2.2.1,fun m φ sv hs=> ?_⟩;obtain ⟨pv,h1,h2⟩:=yd hg hp hs.e;obtain ⟨a',h3,h4⟩:=Gc hg ha hs.e;obtain ⟨je,h5,h6,h7,h8,h9,h10,h11⟩:=UO Wb hs.h hs.f h2 h4;refine ⟨.v .Qb,je,m,φ,by simp [V.op,ho,h1,h3,h5],⟨h6,h7,by rw [h9,h10];exact hs.e,by have:=hs.b;omega⟩,trivial,.refl m,.refl φ,h8,h10⟩
 · rename_i x ho;simp only [aa] at h;obtain ⟨p,hp,h⟩:=h;have fin:∀ {v:US},p=v->K v s=some out->(∀ {m:Mp} {φ:Nat->Option Nat} {vv:V.SV},RS m φ v vv->(∃ i c,vv= .loc i c)\/(∃ b r c,vv= .v (.ptr b r c))\/(∃ r,vv= .v (.Bd r))\/(∃ f cs,vv= .v (.fn f cs))\/∃ b,vv= .v (.yl b))->∃ v s',K v s'=some out/\fJ A C za s o v s':=fun {v} hpv hk hv=>by
     subst hpv;refine ⟨p,s,hk,.slot fun m φ sv hs=> ?_⟩;obtain ⟨vv,h1,h2⟩:=yd hg hp hs.e;refine ⟨vv,?_,h2⟩;rcases hv h2 with ⟨i,c,rfl⟩|⟨b,r,c,rfl⟩|⟨r,rfl⟩|⟨f,cs,rfl⟩|⟨b,rfl⟩<;>simp [V.op,ho,h1]
   split at h
   · exact fin rfl h fun {m φ vv} hr=>by cases vv with
       |loc i c=>exact .inl ⟨_,_,rfl⟩
       |v a=>exact hr.elim
   · exact fin rfl h fun {m φ vv} hr=>by obtain ⟨a,rfl,hr⟩:=hr.val (by simp);cases hr;exact .inr (.inl ⟨_,_,_,rfl⟩)
   · exact fin rfl h fun {m φ vv} hr=>by obtain ⟨a,rfl,hr⟩:=hr.val (by simp);cases hr;exact .inr (.inl ⟨_,_,_,rfl⟩)
   · exact fin rfl h fun {m φ vv} hr=>by obtain ⟨a,rfl,hr⟩:=hr.val (by simp);cases hr;exact .inr (.inl ⟨_,_,_,rfl⟩)
   · exact fin rfl h fun {m φ vv} hr=>by obtain ⟨a,rfl,hr⟩:=hr.val (by simp);cases hr;exact .inr (.inr (.inl ⟨_,rfl⟩))
   · exact fin rfl h fun {m φ vv} hr=>by obtain ⟨a,rfl,hr⟩:=hr.val (by simp);cases hr;exact .inr (.inr (.inr (.inl ⟨_,_,rfl⟩)))
   · exact fin rfl h fun {m φ vv} hr=>by obtain ⟨a,rfl,hr⟩:=hr.val (by simp);cases hr;exact .inr (.inr (.inr (.inr ⟨_,rfl⟩)))
   · simp at h
 · rename_i b t x y z ho;simp only [aa] at h;obtain ⟨u,hu,v,hv,h⟩:=h;obtain ⟨r,h1,h2⟩:=RR h;refine ⟨_,s,h1,.pure fun m φ sv hs=> ?_⟩;obtain ⟨u',k1,k2⟩:=Gc hg hu hs.e;obtain ⟨v',k3,k4⟩:=Gc hg hv hs.e;obtain ⟨a,k5,k6⟩:=h2 m u' v' k2 k4;exact ⟨a,by simp [V.op,ho,k1,k3,k5,V.Hf],k6⟩
 · rename_i u t x ho;simp only [aa] at h;obtain ⟨v,hv,r,hr,h⟩:=h;refine ⟨_,s,h,.pure fun m φ sv hs=> ?_⟩;obtain ⟨v',k1,k2⟩:=Gc hg hv hs.e;obtain ⟨a,k3,k4⟩:=vS hr k2;exact ⟨a,by simp [V.op,ho,k1,k3,V.Hf],k4⟩
 · rename_i src dst x ho;simp only [aa] at h;obtain ⟨v,hv,h⟩:=h;obtain ⟨r,H',h1,h2,h3⟩:=UI h;refine ⟨_,_,h1,.heap h2 fun m φ sv hs=> ?_⟩;obtain ⟨v',k1,k2⟩:=Gc hg hv hs.e;obtain ⟨a,Ic,k3,k4⟩:=h3 m sv.H v' hs.h k2;exact ⟨a,Ic,by simp [V.op,ho,k1,k3,V.fh],k4⟩
 · rename_i f first Ug ho
   split at h
   case isFalse=>simp at h
   rename_i h0;simp only [aa] at h;obtain ⟨l,hl,h⟩:=h;refine ⟨_,s,h,.pure fun m φ sv hs=> ?_⟩;obtain ⟨l',h1,h2⟩:=Io hg hs.e hl;exact ⟨.fn f l',by simp [V.op,ho,h0,h1],.fn f l l' h2.1 h2.2⟩
 · rename_i t r ho;simp only [aa] at h;obtain ⟨_,hr,h⟩:=h;have hvr:∀ {m:Mp} {φ:Nat->Option Nat} {sv:V.S},Gl m φ s sv->V.op A C za sv o=some (.v (.mp sv.H.bl.length),{ sv with H:=V.push sv.H (.map []) }):=fun {m φ sv} hs=>by
     cases r with
     |none=>simp [V.op,ho]
     |some x=>
       simp only at hr;split at hr
       case h_2=>simp at hr
       rename_i kt et hu;simp only [aa,ia] at hr;obtain ⟨v,hv,n,hn,_⟩:=hr;obtain ⟨v',k1,k2⟩:=Gc hg hv hs.e;simp [V.op,ho,hu,k1,oq hn k2]
   split at h
   case h_2=>simp at h
   rename_i kt et _;simp only [aa] at h;obtain ⟨k,hk,h⟩:=h;refine ⟨_,_,h,.heap rfl fun m φ sv hs=>⟨_,_,hvr hs,?_⟩⟩;have hrb:∀ {m:Mp} {Hv:V.AH} {b x:Nat},m.ι b 0=some x->Hv.bl[x]?=some (.map [])->RB m Hv b (FE A k et):=fun {m Hv b x} h1 h2=>by
     unfold FE;split
     · split
       · exact ⟨x,[],h1,h2,trivial⟩
       · exact ⟨x,[],h1,h2,trivial⟩
     · exact ⟨x,[],h1,h2,trivial⟩
   have oe:=hs.h.new (y:=FE A k et) (yv:= .map []) (n:=0) (hrb (Vd _ _ _ _) (by rw [Be,if_neg (by omega),if_pos rfl]));exact ⟨_,oe.1,.mp _ _ (Vd _ _ _ _),oe.2.1,oe.2.2⟩
 · rename_i t l c ho;simp only [aa] at h;obtain ⟨u,hu,v,hv,h⟩:=h;obtain ⟨r,H',h1,h2,h3⟩:=NB h;refine ⟨_,_,h1,.heap h2 fun m φ sv hs=> ?_⟩;obtain ⟨u',k1,k2⟩:=Gc hg hu hs.e;obtain ⟨v',k3,k4⟩:=Gc hg hv hs.e;obtain ⟨a,Ic,k5,k6⟩:=h3 m sv.H u' v' hs.h k2 k4;exact ⟨a,Ic,by simp [V.op,ho,k1,k3,k5,V.fh],k6⟩
 · rename_i t x lo hi ho;simp only [aa] at h;obtain ⟨v,hv,l,hl,hh,hhh,h⟩:=h;obtain ⟨r,h1,h2⟩:=YO h;refine ⟨_,s,h1,.pure fun m φ sv hs=> ?_⟩;obtain ⟨v',k1,k2⟩:=Gc hg hv hs.e;obtain ⟨a,k3,k4⟩:=h2 m sv.H v' hs.h k2;exact ⟨a,by simp [V.op,ho,k1,Vz hg hl hs.e,Vz hg hhh hs.e,k3,V.Hf],k4⟩
 · rename_i t x hi mx ho;simp only [aa] at h;obtain ⟨v,hv,a,ha,b,hb,h⟩:=h;split at h
   case isFalse=>simp at h
   rename_i hc;simp only [Ia] at hc;simp only [aa] at h;obtain ⟨⟨r,H'⟩,hr,h⟩:=h;obtain ⟨z1,z2⟩:=HJ hr;refine ⟨_,_,h,.heap z1 fun m φ sv hs=> ?_⟩;obtain ⟨v',k1,k2⟩:=Gc hg hv hs.e;obtain ⟨a',k3,k4⟩:=Gc hg ha hs.e;obtain ⟨b',k5,k6⟩:=Gc hg hb hs.e;obtain ⟨r',Ic,e1,rfl,e2⟩:=z2 m sv.H v' hs.h k2;exact ⟨r',sv.H,by simp [V.op,ho,k1,k3,k5,EM hc.1 k4,EM hc.2 k6,e1,V.Hf],e2⟩
 · rename_i t x f ho;simp only [aa] at h;obtain ⟨p,hp,fd,FH,n,hn,h⟩:=h;split at h
   case isTrue=>simp at h
   rename_i h0;simp only [aa] at h;obtain ⟨v,hv,h⟩:=h;refine ⟨v,s,h,.slot fun m φ sv hs=> ?_⟩;obtain ⟨pv,h1,h2⟩:=yd hg hp hs.e;obtain ⟨pv',h3,h4⟩:=Rx hv h2;exact ⟨pv',by simp [V.op,ho,h1,FH,hn,h0,h3],h4⟩
 · rename_i t x f ho;simp only [aa] at h;obtain ⟨v,hv,h⟩:=h;split at h
   case h_2=>simp at h
   rename_i cs;simp only [aa] at h;obtain ⟨fd,FH,r,hr,h⟩:=h;refine ⟨_,s,h,.pure fun m φ sv hs=> ?_⟩;obtain ⟨v',k1,k2⟩:=Gc hg hv hs.e;cases k2 with
   |agg _ as hl Pj=>
     obtain ⟨a,k3,k4⟩:=Yf hr ⟨hl,Pj⟩;exact ⟨a,by simp [V.op,ho,k1,FH,k3,V.Hf],k4⟩
 · rename_i t x i ho;simp only [aa] at h;obtain ⟨p,hp,n,hn,k,hk,h⟩:=h;obtain ⟨v,h1,h2⟩:=PB h;refine ⟨v,s,h1,.slot fun m φ sv hs=> ?_⟩;obtain ⟨pv,k1,k2⟩:=yd hg hp hs.e;obtain ⟨n',k3,k4⟩:=Gc hg hn hs.e;obtain ⟨vv,k5,k6⟩:=h2 m φ sv pv hs.h k2;exact ⟨vv,by simp [V.op,ho,k1,k3,oq hk k4,k5],k6⟩
 · rename_i t x i ho;simp only [aa] at h;obtain ⟨v,hv,n,hn,k,hk,h⟩:=h;obtain ⟨r,h1,h2⟩:=zP h;refine ⟨_,s,h1,.pure fun m φ sv hs=> ?_⟩;obtain ⟨v',k1,k2⟩:=Gc hg hv hs.e;obtain ⟨n',k3,k4⟩:=Gc hg hn hs.e;obtain ⟨a,k5,k6⟩:=h2 m v' k2;exact ⟨a,by simp [V.op,ho,k1,k3,oq hk k4,k5,V.Hf],k6⟩
 · rename_i t x i ok ho;simp only [aa] at h;obtain ⟨v,hv,k,hk,h⟩:=h;obtain ⟨r,h1,h2⟩:=eA h;refine ⟨_,s,h1,.pure fun m φ sv hs=> ?_⟩;obtain ⟨v',k1,k2⟩:=Gc hg hv hs.e;obtain ⟨n',k3,k4⟩:=Gc hg hk hs.e;obtain ⟨a,k5,k6⟩:=h2 m sv.H v' n' hs.h k2 k4;exact ⟨a,by simp [V.op,ho,k1,k3,k5,V.Hf],k6⟩
 · rename_i t x k y ho;simp only [aa] at h;obtain ⟨mv,hm,kv,hk,v,hv,h⟩:=h;obtain ⟨H',h1,h2,h3⟩:=Mr h;refine ⟨_,_,h1,.heap h2 fun m φ sv hs=> ?_⟩;obtain ⟨m',k1,k2⟩:=Gc hg hm hs.e;obtain ⟨k',k3,k4⟩:=Gc hg hk hs.e;obtain ⟨v',k5,k6⟩:=Gc hg hv hs.e;obtain ⟨Ic,k7,k8⟩:=h3 m sv.H m' k' v' hs.h k2 k4 k6;exact ⟨.Qb,Ic,by simp [V.op,ho,k1,k3,k5,k7],m,k8.1,.Qb _,.refl m,k8.2⟩
 · rename_i t x k y ho;simp only [aa] at h;obtain ⟨mv,hm,kv,hk,v,hv,h⟩:=h;obtain ⟨H',h1,h2,h3⟩:=Mr h;refine ⟨_,_,h1,.heap h2 fun m φ sv hs=> ?_⟩;obtain ⟨m',k1,k2⟩:=Gc hg hm hs.e;obtain ⟨k',k3,k4⟩:=Gc hg hk hs.e;obtain ⟨v',k5,k6⟩:=Gc hg hv hs.e;obtain ⟨Ic,k7,k8⟩:=h3 m sv.H m' k' v' hs.h k2 k4 k6;exact ⟨.Qb,Ic,by simp [V.op,ho,k1,k3,k5,k7],m,k8.1,.Qb _,.refl m,k8.2⟩
 · rename_i x i ho;simp only [aa] at h;obtain ⟨v,hv,h⟩:=h;split at h
   case h_2=>simp at h
   rename_i vs;simp only [aa] at h;obtain ⟨r,hr,h⟩:=h;refine ⟨_,s,h,.pure fun m φ sv hs=> ?_⟩;obtain ⟨v',k1,k2⟩:=Gc hg hv hs.e;cases k2 with
   |Rc _ as hl Pj=>
     obtain ⟨a,k3,k4⟩:=RL.get (m:=m) ⟨hl,Pj⟩ hr;exact ⟨a,by simp [V.op,ho,k1,k3],k4⟩
 · rename_i c ho;simp only [aa] at h;obtain ⟨args,ha,h⟩:=h;split at h
   · rename_i f hf;simp only [aa] at h;obtain ⟨g,hgv,h⟩:=h;obtain ⟨r,H',h1,h2,h3⟩:=hc X g args s.H _ out h;refine ⟨_,_,h1,.heap h2 fun m φ sv hs=> ?_⟩;obtain ⟨as,k1,k2⟩:=Io hg hs.e ha;obtain ⟨g',k3,k4⟩:=Gc hg hgv hs.e;obtain ⟨r',Ic,k5,k6⟩:=h3 m sv.H g' as hs.h k4 k2;exact ⟨r',Ic,by simp [V.op,ho,k1,hf,k3,k5,V.fh],k6⟩
   · rename_i b hb;obtain ⟨r,H',h1,h2,h3⟩:=ZI h;refine ⟨_,_,h1,.heap h2 fun m φ sv hs=> ?_⟩;obtain ⟨as,k1,k2⟩:=Io hg hs.e ha;obtain ⟨r',Ic,k5,k6⟩:=h3 m sv.H as hs.h k2;exact ⟨r',Ic,by simp [V.op,ho,k1,hb,k5,V.fh],k6⟩
   · simp at h
 · simp at h
end
end Go.U
namespace Go.U
open Go
variable [TB:sB] {rf:Bool}
def STo (step:V.S->Option V.S) (s s':St):Prop:=
 s'.base=s.base/\s'.H.wm=s.H.wm/\∀ (m:Mp) (φ:Nat->Option Nat) (sv:V.S),Gl m φ s sv->∃ je m' zg,step sv=some je/\Gl m' zg s' je/\m.Le m'/\eJ φ zg/\Ej m.top m sv.H m' je.H
section
variable {A:V.oh} {C:V.Callee} {La:Nat->Option (List UV)} {za:List Nat} {n:Nat} {s:St} {X:Type} {out:X}
theorem bD {os:Array Oper} {o:Oper} {K:Bool->St->Option X} (h:guard os s o K=some out):
   ∃ b s',K b s'=some out/\s'.base=s.base/\s'.H=s.H/\∀ (m:Mp) (φ:Nat->Option Nat) (sv:V.S),Gl m φ s sv->V.Sc os sv o=some b/\Gl m φ s' sv:=by
 unfold guard at h;split at h
 · rename_i hg;exact ⟨true,s,h,rfl,rfl,fun m φ sv hs=>⟨by simp [V.Sc,hg],hs⟩⟩
 · rename_i j want hg;split at h
   case h_2=>simp at h
   rename_i d hd;split at h
   case h_3=>simp at h
   case h_2=>
    rename_i hb;refine ⟨false,s,h,rfl,rfl,fun m φ sv hs=>⟨?_,hs⟩⟩;have h1:=hs.e d;rw [hb] at h1;obtain ⟨a,ha,hr⟩:=RS.val h1 (by simp);cases hr with
    |Rc _ as hl _=>
      have:as=[]:=Da.1 hl;subst this;simp [V.Sc,hg,hd,ha]
   rename_i b hb;have ref:∀ {m:Mp} {φ:Nat->Option Nat} {sv:V.S},Gl m φ s sv->V.get sv.e d= .v (.bool b)/\Gl m φ { s with e:=(d,.v (.bool b))::s.e } sv:=fun {m φ sv} hs=>by
    have h1:=hs.e d;rw [hb] at h1;obtain ⟨a,ha,hr⟩:=RS.val h1 (by simp);cases hr;refine ⟨ha,hs.h,hs.f,fun t=> ?_,hs.b⟩;simp only [get];split
    · rename_i e;subst e;rw [ha];exact RV.rs (.bool b)
    · exact hs.e t
   cases b with
   |true=>
    refine ⟨want,_,h,rfl,rfl,fun m φ sv hs=> ?_⟩;obtain ⟨h1,h2⟩:=ref hs;exact ⟨by simp [V.Sc,hg,hd,h1],h2⟩
   |false=>
    refine ⟨!want,_,h,rfl,rfl,fun m φ sv hs=> ?_⟩;obtain ⟨h1,h2⟩:=ref hs;exact ⟨by simp [V.Sc,hg,hd,h1],h2⟩
theorem Lt {d:Option Nat} {v:US} {s':St} (h:put s n d v=some s'):
   s'.base=s.base/\s'.H=s.H/\∀ (m:Mp) (φ:Nat->Option Nat) (sv:V.S) (vv:V.SV),Gl m φ s sv->RS m φ v vv->∃ je,V.put sv n d vv=some je/\je.H=sv.H/\Gl m φ s' je:=by
 unfold put at h;split at h
 · simp at h;subst h;exact ⟨rfl,rfl,fun m φ sv vv hs hv=>⟨sv,rfl,rfl,hs⟩⟩
 · rename_i d;split at h
   case isFalse=>simp at h
   rename_i hd;simp at h;subst h;exact ⟨rfl,rfl,fun m φ sv vv hs hv=>⟨{ sv with e:=(d,vv)::sv.e },by simp [V.put,hd],rfl,hs.h,hs.f,hs.e.cons d hv,hs.b⟩⟩
theorem STo.trans {f g:V.S->Option V.S} {s s1 s2:St} (h:STo f s s1) (h':STo g s1 s2):STo (fun x=>(f x).bind g) s s2:=
 ⟨h'.1.trans h.1,h'.2.1.trans h.2.1,fun m φ sv hs=>by
  obtain ⟨Jj,m1,rz,h1,h2,h3,h4,h5⟩:=h.2.2 m φ sv hs;obtain ⟨xS,m2,Dy,k1,k2,k3,k4,k5⟩:=h'.2.2 m1 rz Jj h2;exact ⟨xS,m2,Dy,by simp [h1,k1],k2,h3.trans k3,h4.trans k4,h5.trans k5 h5.gk.1⟩⟩
theorem AM {m:Mp} {φ:Nat->Option Nat}:RS m φ (.v (.Rc [])) (.v (.Rc [])):=RV.Rc [] [] rfl fun i x a h=>by simp at h
theorem BE (hg:xe A La) {env:Env} (hc:Sa C env.call) {all:Array Oper}:∀ {os:List Oper} {s:St} {K:St->Option X},ops A La env za n all os s K=some out->∃ s',K s'=some out/\STo (V.ops A C za n all os) s s'
 |[],s,K,h=>⟨s,h,rfl,rfl,fun m φ sv hs=>⟨sv,m,φ,rfl,hs,.refl m,.refl φ,.refl _ (oa _)⟩⟩
 |o::os,s,K,h=>by
  simp only [ops,U5,tU] at h;obtain ⟨b,s1,h1,h2,h3,h4⟩:=bD h;cases b with
  |true=>
   simp only at h1;obtain ⟨v,s2,k1,k2,k3,k4,k5⟩:=NJ hg hc h1;simp only [aa] at k1;obtain ⟨s3,hp,k1⟩:=k1;obtain ⟨p1,p2,p3⟩:=Lt hp;obtain ⟨s4,q1,q2,q3,q4⟩:=BE hg hc k1;refine ⟨s4,q1,by rw [q2,p1,k2,h2],by rw [q3,p2,k4,h3],fun m φ sv hs=> ?_⟩;obtain ⟨g1,g2⟩:=h4 m φ sv hs;obtain ⟨vv,xS,m2,Dy,e1,e2,e3,e4,e5,e6,_⟩:=k5 m φ sv g2;obtain ⟨JB,e7,e8,e9⟩:=p3 m2 Dy xS vv e2 e3;obtain ⟨MZ,m4,AZ,aB,sO,DR,CR,oJ⟩:=q4 m2 Dy JB e9;rw [e8] at oJ;exact ⟨MZ,m4,AZ,by simp [V.ops,g1,e1,e7,aB],sO,e4.trans DR,e5.trans CR,e6.trans oJ e6.gk.1⟩
  |false=>
   simp only [aa] at h1;obtain ⟨s3,hp,h1⟩:=h1;obtain ⟨p1,p2,p3⟩:=Lt hp;obtain ⟨s4,q1,q2,q3,q4⟩:=BE hg hc h1;refine ⟨s4,q1,by rw [q2,p1,h2],by rw [q3,p2,h3],fun m φ sv hs=> ?_⟩;obtain ⟨g1,g2⟩:=h4 m φ sv hs;obtain ⟨JB,e7,e8,e9⟩:=p3 m φ sv (.v (.Rc [])) g2 AM;obtain ⟨MZ,m4,AZ,aB,sO,DR,CR,oJ⟩:=q4 m φ JB e9;rw [e8] at oJ;exact ⟨MZ,m4,AZ,by simp [V.ops,g1,e7,aB],sO,DR,CR,oJ⟩
def TR (φ:Nat->Option Nat):V.Ze->V.Ze->Prop
 | .no,.no=>True
 | .heap w,.no=>w=false
 | .heap w,.heap w'=>w=w'
 | .box i w,.box j w'=>φ i=some j/\w=w'
 |_,_=>False
theorem TR.mono {φ zg:Nat->Option Nat} (h:eJ φ zg) {t t':V.Ze} (ht:TR φ t t'):TR zg t t':=by
 cases t<;>cases t'<;>first|exact ht|exact ⟨h _ _ ht.1,ht.2⟩
theorem TR.same (φ:Nat->Option Nat) {t:V.Ze} (h:∀ i w,t≠ .box i w):TR φ t t:=by
 cases t<;>first|trivial|rfl|exact (h _ _ rfl).elim
theorem Rw {m:Mp} {φ:Nat->Option Nat} {w:Bool} {p:US} {pv:V.SV} (h:RS m φ p pv) (hn:p≠ .v .Qb):TR φ (af w (some p)) (V.af w (some pv)):=by
 cases p with
 |loc i c=>
  cases pv with
  |v a=>exact h.elim
  |loc j c'=>exact ⟨h.1,rfl⟩
 |v x=>
  obtain ⟨a,rfl,hr⟩:=h.val (fun e=>hn (by rw [e]));cases hr<;>first|exact (hn rfl).elim|exact rfl|(cases w<;>first|exact rfl|trivial)|skip
  all_goals (rename_i ha;rcases ha with rfl|rfl<;>exact rfl)
theorem Yv {s:St} {t:TypeId} {p:US} {v:UV} (h:load A s t p=some v):p≠ .v .Qb:=by
 rintro rfl;simp [load] at h
theorem BJ {s s':St} {t:TypeId} {p:US} {v:UV} (h:store A s t p v=some s'):p≠ .v .Qb:=by
 rintro rfl
 simp only [store,mD,aa] at h;obtain ⟨_,_,_,_,h⟩:=h;split at h<;>simp at h
theorem iB {X:Type} {i:Int} {sz:Nat} {K:US->Option X}:∀ n j,cases i (fun j=>(ug (j * sz) (.v .Qb)).bind K) n j=none
 |0,j=>rfl
 |n+1,j=>by
  have:=iB (i:=i) (sz:=sz) (K:=K) n (j+1);simp only [cases,ug,Option.bind_none] at this ⊢;rw [this];cases decide (i=(j:Int))<;>rfl
theorem sC {e:List (Nat×US)}:∀ {l:List Operand} {as:List UV},Pg La e l=some as->∀ a∈as,a≠ .Qb
 |[],as,h,a,ha=>by simp [Pg] at h;subst h;simp at ha
 |x::l,as,h,a,ha=>by
  simp only [Pg,aa] at h;obtain ⟨b,hb,l',hl,h⟩:=h;simp at h;subst h;rcases oc.1 ha with rfl|ha
  · exact (Cz hb).2
  · exact sC hl a ha
theorem yC (hg:xe A La) {env:Env} {s0:St} {o:Oper} {q:Bool} {K:US->St->Option X} (h:op A La env za s0 o K=some out) (he:s0.e=s.e):
  ∀ (m:Mp) (φ:Nat->Option Nat) (sv:V.S),Gl m φ s sv->TR φ (Uc La za s o q) (V.Uc A za sv o q):=fun m φ sv hs=>by
 rcases o with ⟨dst,op',ty,pos,after,gd⟩
 cases op' with
 |load t x=>
  simp only [op,aa] at h;obtain ⟨p,hp,v,hv,h⟩:=h;rw [he] at hp;obtain ⟨pv,h1,h2⟩:=yd hg hp hs.e;simp only [Uc,V.Uc,hp,h1];exact Rw h2 (Yv hv)
 |store t x y=>
  simp only [op,aa] at h;obtain ⟨p,hp,a,ha,s',Wb,h⟩:=h;rw [he] at hp;obtain ⟨pv,h1,h2⟩:=yd hg hp hs.e;simp only [Uc,V.Uc,hp,h1];exact Rw h2 (BJ Wb)
 |alloc t=>
  simp only [Uc,V.Uc];split<;>first|trivial|exact rfl
 |box t x=>
  simp only [Uc,V.Uc];split<;>first|trivial|exact rfl
 |call c=>
  rcases c with ⟨callee,args,_⟩
  cases callee with
  |builtin b=>
   cases b<;>first|trivial|exact rfl|skip
   simp only [op,aa] at h;obtain ⟨l,hl,h⟩:=h;rw [he] at hl;obtain ⟨l',h1,h2,h3⟩:=Io hg hs.e hl;have hj:=sC hl;simp only [Uc,V.Uc,hl,h1];unfold dh;split
   · rename_i e;simp at e;subst e;unfold V.dh;split<;>first|exact rfl|trivial
   · rename_i Nc e;simp at e;subst e;have:V.dh (some l')= .no:=by
       unfold V.dh;split
       · rename_i b e;simp at e;subst e
         match l,h2,h3,Nc,hj with
         |[x],_,h3,Nc,hj=>
          have:=h3 0 x _ rfl rfl;cases this with
          |mp b'=>exact absurd rfl (Nc b')
          |Qb=>exact absurd rfl (hj _ (List.mem_singleton.2 rfl))
          |_=>simp_all
         |[],h2,_,_,_=>simp at h2
         |_::_::_,h2,_,_,_=>simp at h2
       · rfl
       · rename_i e;simp at e
     rw [this];trivial
   · rename_i e;simp at e
  |_=>first|trivial|exact rfl
 |indexAddr t x i=>
  simp only [op,aa] at h;obtain ⟨p,hp,u,hu,n,hn,h⟩:=h;rw [he] at hp;obtain ⟨pv,h1,h2⟩:=yd hg hp hs.e;simp only [Uc,V.Uc,hp,h1];cases p with
  |loc i c=>
   cases pv with
   |v a=>exact h2.elim
   |loc j c'=>exact trivial
  |v x=>
   by_cases hx:x= .Qb
   · subst hx;unfold indexAddr at h;split at h
     · simp only [aa] at h;obtain ⟨sz,_,h⟩:=h;rw [iB] at h;simp at h
     · simp at h
     · simp at h
   · obtain ⟨a,rfl,hr⟩:=h2.val hx;cases hr<;>first|exact (hx rfl).elim|trivial|exact rfl|skip
     all_goals (rename_i ha;rcases ha with rfl|rfl<;>first|trivial|exact rfl)
 |_=>first|trivial|exact rfl
inductive fM (φ:Nat->Option Nat):List V.Ze->List V.Ze->Prop
 |nil:fM φ [] []
 |cons {t t':V.Ze} {l l':List V.Ze}:TR φ t t'->fM φ l l'->fM φ (t::l) (t'::l')
theorem fM.get {φ:Nat->Option Nat} {l l':List V.Ze} (h:fM φ l l'):∀ {i:Nat} {t':V.Ze},l'[i]?=some t'->∃ t,l[i]?=some t/\TR φ t t':=by
 induction h with
 |nil=>intro i t' hi;simp at hi
 |cons h hs ih=>
  intro i t' hi;cases i with
  |zero=>simp at hi;subst hi;exact ⟨_,rfl,h⟩
  |succ i=>simpa using ih (by simpa using hi)
theorem fM.mono {φ zg:Nat->Option Nat} (h:eJ φ zg) {l l':List V.Ze} (hl:fM φ l l'):fM zg l l':=by
 induction hl with
 |nil=>exact .nil
 |cons h1 _ ih=>exact .cons (h1.mono h) ih
theorem QO {φ:Nat->Option Nat} (hi:∀ i i' j,φ i=some j->φ i'=some j->i=i') {b:List Nat} {l l':List V.Ze} (hl:fM φ l l') (h:V.Ht b l=true):V.Ht b l'=true:=by
 simp only [V.Ht,Yb,Ff,Bool.not_eq_true',Prod.forall,List.mem_zipIdx_iff_getElem?] at h ⊢;intro tj' j U0;obtain ⟨tj,hj,B5⟩:=hl.get U0;have hw:tj.writes=tj'.writes:=by
   cases tj<;>cases tj'<;>first|rfl|exact B5.elim|(have:=B5;simp only [TR] at this;simp [V.Ze.writes,this])|skip
 rcases h tj j hj with h0|h0
 · exact .inl (by rw [<- hw];exact h0)
 · refine .inr fun ti' i VT=> ?_
   obtain ⟨ti,hii,hri⟩:=hl.get VT;have hcf:V.conflict ti tj=false->V.conflict ti' tj'=false:=by
     cases ti' with
     |no=>intro _;cases tj'<;>rfl
     |heap a'=>
      cases tj' with
      |no=>intro _;rfl
      |box j w=>intro _;rfl
      |heap b'=>
       cases ti<;>first|exact hri.elim|skip
       cases tj<;>first|exact B5.elim|skip
       simp only [TR] at hri B5;subst hri;subst B5;exact id
     |box i1 w1=>
      cases tj' with
      |no=>intro _;rfl
      |heap b'=>intro _;rfl
      |box j1 w2=>
       cases ti<;>first|exact hri.elim|skip
       cases tj<;>first|exact B5.elim|skip
       rename_i a1 v1 a2 v2;simp only [TR] at hri B5;obtain ⟨e1,rfl⟩:=hri;obtain ⟨e2,rfl⟩:=B5;intro h;simp only [V.conflict,Dr] at h ⊢;rcases h with h|h
       · refine .inl ?_;rw [beq_eq_false_iff_ne] at h ⊢
         rintro rfl
         exact h (hi _ _ _ e1 e2)
       · exact .inr h
   rcases h0 ti i hii with h1|h1
   · exact .inl h1
   · exact .inr (hcf h1)
theorem RB.bl {m:Mp} {Hv Ic:V.AH} {b:Nat} {y:UB} (h:RB m Hv b y) (e:Ic.bl=Hv.bl):RB m Ic b y:=
 h.keep (.refl m) rfl rfl fun _ _ _ _=>by rw [e]
theorem RH.Tab {m:Mp} {H:UH} {Hv:V.AH} (h:RH m H Hv):RH m { H with wm:=H.bl.length } { Hv with wm:=Hv.bl.length }:=
 ⟨h.Ae,fun b y hb=>(h.Oc b y hb).bl rfl,h.zm,fun b _ x hb hw=>by have:=(h.Ae b x hb).1;simp only at hw;omega,oa _,h.len⟩
theorem RH.U7 {m m':Mp} {H H':UH} {Hv Ic:V.AH} (h:RH m H Hv) (h':RH m' H' Ic) (hw:H'.wm=H.bl.length) (ho:UR m.top m m') (hl:Hv.bl.length<=Ic.bl.length) (hwv:Ic.wm=Hv.bl.length):RH m' { H' with wm:=H.wm } { Ic with wm:=Hv.wm }:=
 ⟨h'.Ae,fun b y hb=>(h'.Oc b y hb).bl rfl,h'.zm,fun b _ x hb WC=>by
  rcases Rb b m.top with nc|Qr
  · rw [(ho.2 b nc).1] at hb;exact h.wm b x hb WC
  · have:=h'.wm b x hb (by rw [hw,<- h.len];exact Qr);have:=h.top;show Hv.wm<=x;omega,Ib h.top hl,h'.len⟩
def CM:V.Ze->Bool
 | .heap true=>true
 |_=>false
theorem TR.CM {φ:Nat->Option Nat} {t t':V.Ze} (h:TR φ t t'):CM t=CM t':=by
 cases t<;>cases t'<;>first|rfl|exact h.elim|(simp only [TR] at h;subst h;rfl)
theorem XS {env:Env} {t:V.Ze} {o:Oper} {K:US->St->Option X} (h:CM t=false):rM A La env za t s o K=op A La env za { s with H:={ s.H with wm:=s.H.bl.length } } o fun v s'=>K v { s' with H:={ s'.H with wm:=s.H.wm } }:=by
 cases t with
 |heap w=>cases w<;>first|rfl|simp [CM] at h
 |_=>rfl
theorem KZ {t:V.Ze} {o:Oper} {sv:V.S} (h:CM t=false):V.rM A C za t sv o=(V.op A C za { sv with H:={ sv.H with wm:=sv.H.bl.length } } o).map fun (v,s')=>(v,{ s' with H:={ s'.H with wm:=sv.H.wm } }):=by
 cases t with
 |heap w=>cases w<;>first|rfl|simp [CM] at h
 |_=>rfl
theorem QZ (hg:xe A La) {env:Env} (hc:Sa C env.call) {o:Oper} {q:Bool} {K:US->St->Option X} (h:rM A La env za (Uc La za s o q) s o K=some out):
  ∃ v s',K v s'=some out/\s'.base=s.base/\s'.H.wm=s.H.wm/\∀ (m:Mp) (φ:Nat->Option Nat) (sv:V.S),Gl m φ s sv->TR φ (Uc La za s o q) (V.Uc A za sv o q)/\∃ vv je m' zg,V.rM A C za (V.Uc A za sv o q) sv o=some (vv,je)/\Gl m' zg s' je/\RS m' zg v vv/\m.Le m'/\eJ φ zg/\Ej m.top m sv.H m' je.H:=by
 cases hw:CM (Uc La za s o q) with
 |true=>
  have ht:Uc La za s o q= .heap true:=by
   revert hw;generalize Uc La za s o q=t;intro hw
   cases t with
   |heap w=>cases w<;>first|rfl|simp [CM] at hw
   |_=>simp [CM] at hw
  rw [ht] at h;have h':op A La env za s o K=some out:=h;obtain ⟨v,s',k1,k2,k3,k4,k5⟩:=NJ hg hc h';refine ⟨v,s',k1,k2,k4,fun m φ sv hs=> ?_⟩;have gu:=yC (q:=q) hg h' rfl m φ sv hs;obtain ⟨vv,je,m',zg,e1,e2,e3,e4,e5,e6,_⟩:=k5 m φ sv hs;refine ⟨gu,vv,je,m',zg,?_,e2,e3,e4,e5,e6⟩;have:V.Uc A za sv o q= .heap true:=by
   rw [ht] at gu
   revert gu;generalize V.Uc A za sv o q=t;intro gu
   cases t<;>first|(exact gu.elim)|(simp only [TR] at gu;rw [<- gu])|(simp [TR] at gu)
  rw [this];exact e1
 |false=>
  rw [XS hw] at h;obtain ⟨v,s',k1,k2,k3,k4,k5⟩:=NJ hg hc h;refine ⟨v,_,k1,k2,rfl,fun m φ sv hs=> ?_⟩;have gu:=yC (s:=s) (q:=q) hg h rfl m φ sv hs;have bS:Gl m φ { s with H:={ s.H with wm:=s.H.bl.length } } { sv with H:={ sv.H with wm:=sv.H.bl.length } }:=⟨hs.h.Tab,hs.f,hs.e,hs.b⟩;obtain ⟨vv,je,m',zg,e1,e2,e3,e4,e5,e6,_⟩:=k5 m φ _ bS;refine ⟨gu,vv,{ je with H:={ je.H with wm:=sv.H.wm } },m',zg,?_,⟨hs.h.U7 e2.h k4 e6.gk e6.len e6.wm,e2.f,e2.e,e2.b⟩,e3,e4,e5,⟨e6.gk,e6.stay,e6.new,e6.len,rfl⟩⟩;rw [KZ (by rw [<- gu.CM];exact hw),e1];rfl
theorem HS {m m':Mp} {v w:UV} {a a':V.AV} (h:IS v w=true) (hv:RV m v a) (hw:RV m' w a'):a=a':=by
 unfold IS at h;split at h
 · rename_i f f';have:f=f':=by simpa using h
   subst this;cases hv with
   |fn _ _ as hl _=>
    cases hw with
    |fn _ _ Wl Pf _=>
     have e1:as=[]:=Da.1 hl;have e2:Wl=[]:=Da.1 Pf;rw [e1,e2]
 · cases hv;cases hw;rfl
 · simp at h
theorem sameKey_eq {k k':KT} {i:jd k} {j:jd k'} (h:sameKey k k' i j=true):Hh k i=Hh k' j:=by
 cases k with
 |int a=>
  cases k' with
  |int b=>
   have h':(decide (a=b)&&@decide (@Eq Int i j) (Int.instDecidableEq i j))=true:=h;rw [Ia] at h';have h1:=of_decide_eq_true h'.1;have h2:@Eq Int i j:=@of_decide_eq_true _ (Int.instDecidableEq i j) h'.2;show V.AV.int a i=V.AV.int b j;rw [h1,h2]
  |str=>exact absurd h (by intro h;exact Bool.noConfusion h)
 |str=>exact absurd h (by cases k'<;>(intro h;exact Bool.noConfusion h))
theorem HC {m m':Mp} {k k':KT}:∀ {es:List (jd k×UV)} {qd:List (jd k'×UV)} {x x':List (V.AV×V.AV)},Fs k k' es qd=true->MR k m es x->MR k' m' qd x'->x=x'
 |[],[],[],[],_,_,_=>rfl
 |[],[],[],_::_,_,_,h=>h.elim
 |[],[],_::_,_,_,h,_=>h.elim
 |(i,v)::es,(j,w)::qd,[],_,_,h,_=>h.elim
 |(i,v)::es,(j,w)::qd,_::_,[],_,_,h=>h.elim
 |(i,v)::es,(j,w)::qd,(q,a)::x,(q',a')::x',h,h1,h2=>by
  simp only [Fs,Ia] at h;obtain ⟨⟨h3,h4⟩,h5⟩:=h;obtain ⟨rfl,k2,_,k4⟩:=h1;obtain ⟨rfl,l2,_,l4⟩:=h2;rw [sameKey_eq h3,HS h4 k2 l2,HC h5 k4 l4]
 |[],_::_,_,_,h,_,_=>by simp [Fs] at h
 |_::_,[],_,_,h,_,_=>by simp [Fs] at h
theorem ES {m m':Mp} {v w:UV} {a a':V.AV} (h:GS v w=true) (hm:m.Le m') (hv:RV m v a) (hw:RV m' w a'):a'=a:=by
 unfold GS at h;split at h
 · rename_i b b';have:b=b':=by simpa using h
   subst this;cases hv with
   |mp _ x hx=>
    cases hw with
    |mp _ y hy=>
     rw [(hm.of b x hx).1] at hy;simp at hy;rw [hy]
 · rename_i f f';have:f=f':=by simpa using h
   subst this;cases hv with
   |fn _ _ as hl _=>
    cases hw with
    |fn _ _ Wl Pf _=>
     have e1:as=[]:=Da.1 hl;have e2:Wl=[]:=Da.1 Pf;rw [e1,e2]
 · cases hv;cases hw;rfl
 · cases hv;cases hw;rfl
 · simp at h
def WY (A:V.oh) (C:V.Callee) (za:List Nat) (m:Mp) (r:Rec) (vr:Oper×List (Nat×V.SV)×V.SV):Prop:=
 ∀ (m':Mp) (zg:Nat->Option Nat) (s:St) (sv:V.S),m.Le m'->Gl m' zg s sv->XG A s r=true->∃ je,V.op A C za { sv with e:=vr.2.1 } vr.1=some (vr.2.2,je)
inductive Vu (A:V.oh) (C:V.Callee) (za:List Nat) (m:Mp):List Rec->List (Oper×List (Nat×V.SV)×V.SV)->Prop
 |nil:Vu A C za m [] []
 |snoc {rs:List Rec} {qC:List (Oper×List (Nat×V.SV)×V.SV)} {r:Rec} {vr:Oper×List (Nat×V.SV)×V.SV}:Vu A C za m rs qC->WY A C za m r vr->Vu A C za m (rs++[r]) (qC++[vr])
theorem WY.mono {m m':Mp} {r:Rec} {vr:Oper×List (Nat×V.SV)×V.SV} (h:WY A C za m r vr) (hm:m.Le m'):WY A C za m' r vr:=fun m2 Dy s sv h2 hs hr=>h m2 Dy s sv (hm.trans h2) hs hr
theorem Vu.mono {m m':Mp} {rs:List Rec} {qC:List (Oper×List (Nat×V.SV)×V.SV)} (h:Vu A C za m rs qC) (hm:m.Le m'):Vu A C za m' rs qC:=by
 induction h with
 |nil=>exact .nil
 |snoc _ h2 ih=>exact .snoc ih (h2.mono hm)
theorem Vu.all {m:Mp} {φ:Nat->Option Nat} {rs:List Rec} {qC:List (Oper×List (Nat×V.SV)×V.SV)} (h:Vu A C za m rs qC) {s:St} {sv:V.S} (hs:Gl m φ s sv) (hr:rs.all (XG A s)=true):V.Mg A C za qC sv:=by
 induction h with
 |nil=>exact fun r hr=>by simp at hr
 |snoc _ h2 ih=>
  simp only [List.all_append,Ia] at hr;intro r hm;rcases Tn.1 hm with hm|hm
  · exact ih hr.1 r hm
  · simp at hm;subst hm;exact h2 m φ s sv (.refl m) hs (by simpa using hr.2)
theorem jP {m:Mp} {φ:Nat->Option Nat} {sv:V.S} {v:US} {vv:V.SV} (hp:Gy s.H.bl.length v=true) (hs:Gl m φ s sv) (hv:RS m φ v vv):V.tq sv.H.bl.length vv=true:=by
 unfold Gy at hp;split at hp
 · obtain ⟨a,rfl,hr⟩:=hv.val (by simp);cases hr with
   |mp _ x hx=>exact decide_eq_true (hs.h.Ae _ x hx).2
 · obtain ⟨a,rfl,hr⟩:=hv.val (by simp);cases hr with
   |fn f _ as hl _=>
    have e1:as=[]:=Da.1 hl;rw [e1];rfl
 · obtain ⟨a,rfl,hr⟩:=hv.val (by simp);cases hr;rfl
 · obtain ⟨a,rfl,hr⟩:=hv.val (by simp);cases hr;rfl
 · simp at hp
theorem uS {sv je:V.S} {n:Nat} {d:Option Nat} {v:V.SV} (h:V.put sv n d v=some je):je.F=sv.F:=by
 unfold V.put at h;split at h
 · simp at h;rw [h]
 · split at h
   · simp at h;rw [<- h]
   · simp at h
theorem LZ {t:TypeId} {pv:V.AV} {sv je:V.S} (h:sv.H=je.H):V.load A sv t (.v pv)=V.load A je t (.v pv):=by
 unfold V.load;cases pv<;>simp only [h]
theorem VO (hg:xe A La) {env:Env} (hc:Sa C env.call) {o:Oper} {K:US->St->Option X} (h:op A La env za s o K=some out) (Wb:gf A La s o=true):
   ∃ v,K v s=some out/\(Gy s.H.bl.length v=true->∀ r,pM La s o v=some r->∀ (m:Mp) (φ:Nat->Option Nat) (sv:V.S),Gl m φ s sv->V.gf A sv o=true/\∃ vv,(∃ je,V.op A C za sv o=some (vv,je))/\RS m φ v vv/\WY A C za m r (o,sv.e,vv)):=by
 unfold gf at Wb;simp only [Ia] at Wb;obtain ⟨ny,bg⟩:=Wb;have my:=ny;unfold V.Kj at ny;split at ny
 · rename_i t x ho;unfold op at h;rw [ho] at h;simp only [aa] at h;obtain ⟨p,hp,v,hv,h⟩:=h;refine ⟨_,h,fun VB r hr m φ sv hs=> ?_⟩;simp only [ho,hp] at bg;obtain ⟨pv,e1,e2⟩:=yd (m:=m) (φ:=φ) hg hp hs.e;obtain ⟨a,e3,e4⟩:=Vt hv hs.h hs.f e2;have hpn:=Yv hv;unfold pM at hr;rw [ho] at hr;simp only [hp] at hr;cases p with
   |loc i c=>simp at bg
   |v p=>
    obtain ⟨pa,rfl,e5⟩:=e2.val (fun e=>hpn (by rw [e]));simp only [yc] at hr;subst hr;refine ⟨?_,.v a,⟨sv,?_⟩,e4.rs,fun m' zg s' je hm bS Ih=> ?_⟩
    · unfold V.gf;rw [my,ho];simp only [e1,uo];cases e5<;>first|rfl|simp at bg
    · unfold V.op;rw [ho];simp only [e1,da,e3];rfl
    · simp only [XG] at Ih;split at Ih
      case h_2=>simp at Ih
      rename_i a' C';obtain ⟨y,k1,k2⟩:=Vt (sv:=je) C' bS.h bS.f (RV.rs (φ:=zg) (e5.mono hm));have:=ES Ih hm e4 k2;subst this;refine ⟨{ je with e:=sv.e },?_⟩;unfold V.op;rw [ho];simp only [e1,da];have e9:=LZ (A:=A) (t:=t) (pv:=pa) (sv:={ je with e:=sv.e }) (je:=je) rfl;rw [e9,k1];rfl
 · rename_i t x i ho;unfold op at h;rw [ho] at h;simp only [aa] at h;obtain ⟨mv,hm,kv,hk,h⟩:=h;obtain ⟨v,h1,h2⟩:=eA h;refine ⟨_,h1,fun VB r hr m φ sv hs=> ?_⟩;obtain ⟨mv',e1,e2⟩:=Gc (m:=m) (φ:=φ) hg hm hs.e;obtain ⟨kv',e3,e4⟩:=Gc (m:=m) (φ:=φ) hg hk hs.e;obtain ⟨a,e5,e6⟩:=h2 m sv.H mv' kv' hs.h e2 e4;unfold pM at hr;rw [ho] at hr;simp only [hm] at hr;split at hr
   case h_2=>simp at hr
   rename_i b hb;simp only [yc] at hb;subst hb;split at hr
   case h_2=>simp at hr
   rename_i kt es Ct;split at hr
   case isFalse=>simp at hr
   simp only [yc] at hr;subst hr;cases e2 with
   |mp _ xb hx=>
    obtain ⟨x1,IL,q1,q2,q3⟩:=hs.h.Oc b _ Ct;rw [hx] at q1;simp at q1;subst q1;refine ⟨?_,.v a,⟨sv,?_⟩,e6.rs,fun m' zg s' je x9 bS Ih=> ?_⟩
    · unfold V.gf;rw [my,ho];rfl
    · unfold V.op;rw [ho];simp only [e1,e3,da,e5];rfl
    · simp only [XG] at Ih;split at Ih
      case h_2=>simp at Ih
      rename_i kt' qd JH;obtain ⟨x2,es2,w1,w2,w3⟩:=bS.h.Oc b _ JH;rw [(x9.of b xb hx).1] at w1;simp at w1;subst w1;have he:IL=es2:=HC Ih q3 w3;have hl:V.lookup A je.H t (.mp xb) kv' false=some a:=by
       rw [<- e5];unfold V.lookup V.mapOf;simp only [q2,w2,he]
      refine ⟨{ je with e:=sv.e },?_⟩;unfold V.op;rw [ho];simp only [e1,e3,da,hl];rfl
 · simp at ny
theorem PS {φ:Nat->Option Nat} {b:List Nat} {i:Nat} {l l':List V.Ze} (hl:fM φ l l') (h:V.kP b i l=true):V.kP b i l'=true:=by
 simp only [V.kP,Yb,Ff,Bool.not_eq_true',Prod.forall,List.mem_zipIdx_iff_getElem?] at h ⊢;intro t' j U0;obtain ⟨t,hj,hr⟩:=hl.get U0;have hw:(t.Cc&&t.writes)=(t'.Cc&&t'.writes):=by
   cases t<;>cases t'<;>first|rfl|exact hr.elim|(have:=hr;simp only [TR] at this;simp [V.Ze.writes,V.Ze.Cc,this])
 rcases h t j hj with h0|h0
 · exact .inl (by rw [<- hw];exact h0)
 · exact .inr h0
theorem fM.snoc {φ:Nat->Option Nat} {l l':List V.Ze} {t t':V.Ze} (h:fM φ l l') (ht:TR φ t t'):fM φ (l++[t]) (l'++[t']):=by
 induction h with
 |nil=>exact .cons ht .nil
 |cons h1 _ ih=>exact .cons h1 ih
theorem bx (hg:xe A La) {env:Env} {o:Oper} {K:US->St->Option X} {s0:St} (h:op A La env za s0 o K=some out) (he:s0.e=s.e) (Wb:gf A La s o=false) {m:Mp} {φ:Nat->Option Nat} {sv:V.S} (hs:Gl m φ s sv):V.gf A sv o=false:=by
 unfold gf at Wb;unfold V.gf;cases h0:V.Kj A o with
 |false=>rfl
 |true=>
  rw [h0,uo] at Wb;rw [uo];split at Wb
  · rename_i t x ho;unfold op at h;rw [ho] at h;simp only [aa] at h;obtain ⟨p,hp,v,hv,h⟩:=h;rw [he] at hp;obtain ⟨pv,e1,e2⟩:=yd (m:=m) (φ:=φ) hg hp hs.e;have hpn:=Yv hv;simp only [hp] at Wb;simp only [ho,e1];cases p with
    |loc i c=>
     cases pv with
     |v a=>exact e2.elim
     |loc j c'=>rfl
    |v p=>
     obtain ⟨pa,rfl,e5⟩:=e2.val (fun e=>hpn (by rw [e]));cases e5<;>first|(exact (hpn rfl).elim)|rfl|(simp at Wb;done)|skip
     all_goals (rename_i ha;rcases ha with rfl|rfl<;>rfl)
  · simp at Wb
theorem Ot (hg:xe A La) {env:Env} (hc:Sa C env.call) {all:Array Oper} {b:List Nat}:∀ {os:List Oper} {i:Nat} {s:St} {l:List V.Ze} {rs:List Rec} {K:St->List V.Ze->Option X},Lj A La env za n all b os i s l rs K=some out->
  ∃ s' l1,K s' (l++l1)=some out/\s'.base=s.base/\s'.H.wm=s.H.wm/\∀ (m:Mp) (φ:Nat->Option Nat) (sv:V.S) (lv:List V.Ze) (qC:List (Oper×List (Nat×V.SV)×V.SV)),Gl m φ s sv->fM φ l lv->Vu A C za m rs qC->V.Mg A C za qC sv->∃ je m' zg ZZ,V.Lj A C za n all b os i sv lv qC=some (je,lv++ZZ)/\Gl m' zg s' je/\m.Le m'/\eJ φ zg/\Ej m.top m sv.H m' je.H/\fM zg l1 ZZ
 |[],i,s,l,rs,K,h=>⟨s,[],by simpa [Lj] using h,rfl,rfl,fun m φ sv lv qC hs _ _ _=>⟨sv,m,φ,[],by simp [V.Lj],hs,.refl m,.refl φ,.refl _ (oa _),.nil⟩⟩
 |o::os,i,s,l,rs,K,h=>by
  simp only [Lj,U5,tU] at h;obtain ⟨g,s1,h1,h2,h3,h4⟩:=bD h;cases g with
  |true=>
   simp only at h1;split at h1
   · rename_i xh;obtain ⟨v,k1,k2⟩:=VO (C:=C) hg hc h1 xh;split at k1
     case isFalse=>simp at k1
     rename_i VB;simp only [Ia] at VB;simp only [aa] at k1;obtain ⟨r,hr,s3,hp,k1⟩:=k1;obtain ⟨p1,p2,p3⟩:=Lt hp;obtain ⟨s4,l1,q1,q2,q3,q4⟩:=Ot hg hc k1;refine ⟨s4,.no::l1,by rw [od] at q1;exact q1,by rw [q2,p1,h2],by rw [q3,p2,h3],fun m φ sv lv qC hs jZ FP Af=> ?_⟩;obtain ⟨g1,g2⟩:=h4 m φ sv hs;obtain ⟨f1,vv,⟨svx,f2⟩,f3,f5⟩:=k2 VB.1 r hr m φ sv g2;have f4:=jP VB.1 g2 f3;obtain ⟨JB,e7,e8,e9⟩:=p3 m φ sv vv g2 f3;have zT:JB.F=sv.F:=(uS e7);have ux:V.Mg A C za (qC++[(o,sv.e,vv)]) JB:=fun r hr=>by
      have e:∀ e',({ JB with e:=e' }:V.S)={ sv with e:=e' }:=fun e'=>by
        obtain ⟨a1,a2,a3⟩:=JB;obtain ⟨b1,b2,b3⟩:=sv;simp only at e8 zT;subst e8;subst zT;rfl
      rw [e];rcases Tn.1 hr with hr|hr
      · exact Af r hr
      · simp at hr;subst hr;exact ⟨svx,f2⟩
     obtain ⟨MZ,m4,AZ,ZZ,aB,sO,DR,CR,oJ,I7⟩:=q4 m φ JB (lv++[.no]) _ e9 (jZ.snoc (show TR _ .no .no from trivial)) (.snoc FP f5) ux;rw [e8] at oJ;refine ⟨MZ,m4,AZ,.no::ZZ,?_,sO,DR,CR,oJ,.cons trivial I7⟩;simp only [V.Lj,g1,da,f1,if_true,f2,f4,PS jZ VB.2,uo,e7,if_pos ux,aB]
     simp
   · rename_i xh;have YB:=h1;obtain ⟨v,s2,k1,k2,k4,k5⟩:=QZ hg hc h1;simp only [aa] at k1;obtain ⟨s3,hp,k1⟩:=k1;split at k1
     case isFalse=>simp at k1
     rename_i SB;obtain ⟨p1,p2,p3⟩:=Lt hp;obtain ⟨s4,l1,q1,q2,q3,q4⟩:=Ot hg hc k1;refine ⟨s4,Uc La za s1 o (V.quietAt A za all.toList b i o)::l1,by rw [od] at q1;exact q1,by rw [q2,p1,k2,h2],by rw [q3,p2,k4,h3],fun m φ sv lv qC hs jZ FP Af=> ?_⟩;obtain ⟨g1,g2⟩:=h4 m φ sv hs;obtain ⟨gu,vv,xS,m2,Dy,e1,e2,e3,e4,e5,e6⟩:=k5 m φ sv g2;obtain ⟨JB,e7,e8,e9⟩:=p3 m2 Dy xS vv e2 e3;have ux:=(FP.mono e4).all e9 SB;obtain ⟨MZ,m4,AZ,ZZ,aB,sO,DR,CR,oJ,I7⟩:=q4 m2 Dy JB (lv++[V.Uc A za sv o (V.quietAt A za all.toList b i o)]) qC e9 ((jZ.mono e5).snoc (gu.mono e5)) (FP.mono e4) ux;rw [e8] at oJ;refine ⟨MZ,m4,AZ,_::ZZ,?_,sO,e4.trans DR,e5.trans CR,e6.trans oJ e6.gk.1,.cons (gu.mono (e5.trans CR)) I7⟩;have xH:V.gf A sv o=false:=by
      have hf:gf A La s1 o=false:=by simpa using xh
      cases hw:CM (Uc La za s1 o (V.quietAt A za all.toList b i o)) with
      |true=>
        revert YB
        generalize Uc La za s1 o (V.quietAt A za all.toList b i o)=t at hw;intro YB;cases t with
        |heap w=>
         cases w with
         |true=>simp only [rM] at YB;exact bx (s:=s1) (env:=env) hg YB rfl hf g2
         |false=>simp [CM] at hw
        |_=>simp [CM] at hw
      |false=>rw [XS hw] at YB;exact bx (s:=s1) hg YB rfl hf g2
     simp only [V.Lj,g1,da,xH,se,if_false,e1,e7,if_pos ux,aB]
     simp
  |false=>
   simp only [aa] at h1;obtain ⟨s3,hp,h1⟩:=h1;obtain ⟨p1,p2,p3⟩:=Lt hp;obtain ⟨s4,l1,q1,q2,q3,q4⟩:=Ot hg hc h1;refine ⟨s4,.no::l1,by rw [od] at q1;exact q1,by rw [q2,p1,h2],by rw [q3,p2,h3],fun m φ sv lv qC hs jZ FP Af=> ?_⟩;obtain ⟨g1,g2⟩:=h4 m φ sv hs;obtain ⟨JB,e7,e8,e9⟩:=p3 m φ sv (.v (.Rc [])) g2 AM;have zT:JB.F=sv.F:=(uS e7);have ux:V.Mg A C za qC JB:=fun r hr=>by
     have e:∀ e',({ JB with e:=e' }:V.S)={ sv with e:=e' }:=fun e'=>by
      obtain ⟨a1,a2,a3⟩:=JB;obtain ⟨b1,b2,b3⟩:=sv;simp only at e8 zT;subst e8;subst zT;rfl
     rw [e];exact Af r hr
   obtain ⟨MZ,m4,AZ,ZZ,aB,sO,DR,CR,oJ,I7⟩:=q4 m φ JB (lv++[.no]) qC e9 (jZ.snoc (show TR _ .no .no from trivial)) FP ux;rw [e8] at oJ;refine ⟨MZ,m4,AZ,.no::ZZ,?_,sO,DR,CR,oJ,.cons trivial I7⟩;simp only [V.Lj,g1,da,e7,if_pos ux,aB]
   simp
theorem KJ (hg:xe A La) {env:Env} (hc:Sa C env.call) {os:Array Oper} {draw:Bool} {K:St->Option X} (h:region A La env za n os draw s K=some out):∃ s',K s'=some out/\STo (V.region A C za n os draw) s s':=by
 unfold region at h;split at h
 · rename_i hd;split at h
   case isFalse=>simp at h
   rename_i FG;obtain ⟨s',l1,h1,h2,h3,h4⟩:=Ot hg hc h;rw [List.nil_append] at h1;split at h1
   case isFalse=>simp at h1
   rename_i gu;refine ⟨s',h1,h2,h3,fun m φ sv hs=> ?_⟩;obtain ⟨je,m',zg,ZZ,e1,e2,e3,e4,e5,e6⟩:=h4 m φ sv [] [] hs .nil .nil (fun r hr=>by simp at hr);have:=QO e2.f.inj e6 gu;refine ⟨je,m',zg,?_,e2,e3,e4,e5⟩;unfold V.region;rw [if_pos hd,if_pos FG,e1];simp [this]
 · rename_i hd;obtain ⟨s',h1,h2⟩:=BE hg hc h;refine ⟨s',h1,h2.1,h2.2.1,fun m φ sv hs=> ?_⟩;unfold V.region;rw [if_neg hd];exact h2.2.2 m φ sv hs
def DO (run:V.S->Option (V.Ex×V.S)) (s:St) (ex:V.Ex) (s':St):Prop:=
 s'.base=s.base/\s'.H.wm=s.H.wm/\∀ (m:Mp) (φ:Nat->Option Nat) (sv:V.S),Gl m φ s sv->∃ je m' zg,run sv=some (ex,je)/\Gl m' zg s' je/\Ej s.base m sv.H m' je.H
def loops (j:Nat->Bool):Code->List Code
 | .seq a b=>loops j a++loops j b
 | .region id os d=>cond (j (2000000+id)) [.region id os d] []
 | .cond c a b=>cond (j (1000000+bf a)) [.cond c a b] (loops j a++loops j b)
 | .block _ c=>loops j c
 | .scope c=>loops j c
 | .loop c=>[.loop c]
 | .rangeFunc g ps a b=>[.rangeFunc g ps a b]
 |_=>[]
def keyOf:Code->Nat
 | .loop c=>bf c
 | .region id _ _=>2000000+id
 | .cond _ a _=>1000000+bf a
 |c=>bf c
def Va (AE:(X:Type)->Nat->St->(V.Ex->St->Option X)->Option X) (run:Code->V.S->Option (V.Ex×V.S)) (c:Code):Prop:=
 ∀ (X:Type) (s:St) (K:V.Ex->St->Option X) (out:X),AE X (keyOf c) s K=some out->∃ ex s',K ex s'=some out/\DO (run c) s ex s'
theorem DO.same {run:V.S->Option (V.Ex×V.S)} {ex:V.Ex} (h:∀ sv,run sv=some (ex,sv)):DO run s ex s:=
 ⟨rfl,rfl,fun m φ sv hs=>⟨sv,m,φ,h sv,hs,.refl _ (by rw [hs.h.len];exact hs.b)⟩⟩
theorem DO.trans {f g k:V.S->Option (V.Ex×V.S)} {s s1 s2:St} {ex H7:V.Ex} (h:DO f s ex s1) (h':DO g s1 H7 s2) (hk:∀ sv je,f sv=some (ex,je)->k sv=g je):DO k s H7 s2:=
 ⟨h'.1.trans h.1,h'.2.1.trans h.2.1,fun m φ sv hs=>by
  obtain ⟨Jj,m1,rz,h1,h2,h3⟩:=h.2.2 m φ sv hs;obtain ⟨xS,m2,Dy,k1,k2,k3⟩:=h'.2.2 m1 rz Jj h2;rw [h.1] at k3;exact ⟨xS,m2,Dy,by rw [hk sv Jj h1];exact k1,k2,h3.trans k3 (oa _)⟩⟩
theorem DO.map {f k:V.S->Option (V.Ex×V.S)} {s s1:St} {ex H7:V.Ex} (h:DO f s ex s1) (hk:∀ sv je,f sv=some (ex,je)->k sv=some (H7,je)):DO k s H7 s1:=
 ⟨h.1,h.2.1,fun m φ sv hs=>let ⟨Jj,m1,rz,h1,h2,h3⟩:=h.2.2 m φ sv hs;⟨Jj,m1,rz,hk _ _ h1,h2,h3⟩⟩
theorem IJ {c:Operand} {b:Bool} (hc:val La s.e c=some (.bool b)):(Es s c b).base=s.base/\(Es s c b).H=s.H/\∀ (m:Mp) (φ:Nat->Option Nat) (sv:V.S),Gl m φ s sv->Gl m φ (Es s c b) sv:=by
 unfold Es;split
 · rename_i t;refine ⟨rfl,rfl,fun m φ sv hs=>⟨hs.h,hs.f,fun t'=> ?_,hs.b⟩⟩;simp only [get];split
   · rename_i e;subst e;have h1:=(Cz hc).1;simp [operand] at h1;have:=hs.e t';rw [h1] at this;exact this
   · exact hs.e t'
 · exact ⟨rfl,rfl,fun m φ sv hs=>hs⟩
theorem gg (hg:xe A La) {env:Env} (hc:Sa C env.call) {keep:List Nat}:∀ {c:Code} {s:St} {K:V.Ex->St->Option X},(∀ c'∈loops env.join c,Va env.loop (V.code A C rf za keep n) c')->code A La env za n c s K=some out->∃ ex s',K ex s'=some out/\DO (V.code A C rf za keep n c) s ex s'
 | .skip,s,K,_,h=>⟨.normal,s,h,.same fun _=>rfl⟩
 | .label _,s,K,_,h=>⟨.normal,s,h,.same fun _=>rfl⟩
 | .exit id,s,K,_,h=>⟨.exit id,s,h,.same fun _=>rfl⟩
 | .ret,s,K,_,h=>⟨.ret,s,h,.same fun _=>rfl⟩
 | .region id os draw,s,K,hl,h=>by
  simp only [code] at h;cases hj:env.join (2000000+id) with
  |true=>
   rw [hj] at h;exact hl (.region id os draw) (by simp [loops,hj]) X s K out h
  |false=>
  rw [hj] at h;simp only [cond_false] at h;obtain ⟨s',h1,h2⟩:=KJ hg hc h;refine ⟨.normal,s',h1,h2.1,h2.2.1,fun m φ sv hs=> ?_⟩;obtain ⟨je,m',zg,e1,e2,e3,e4,e5⟩:=h2.2.2 m φ sv hs;exact ⟨je,m',zg,by simp [V.code,e1],e2,e5.less (by rw [hs.h.len];exact hs.b)⟩
 | .seq a b,s,K,hl,h=>by
  simp only [code] at h;obtain ⟨ex,s1,h1,h2⟩:=gg hg hc (fun c' Mm=>hl c' (by simp [loops,Mm])) h;cases ex with
  |normal=>
   simp only at h1;obtain ⟨fG,s2,k1,k2⟩:=gg hg hc (fun c' Mm=>hl c' (by simp [loops,Mm])) h1;exact ⟨fG,s2,k1,h2.trans k2 fun sv je e=>by simp [V.code,e]⟩
  |exit id=>exact ⟨.exit id,s1,h1,h2.map fun sv je e=>by simp [V.code,e]⟩
  |ret=>exact ⟨.ret,s1,h1,h2.map fun sv je e=>by simp [V.code,e]⟩
 | .cond c x y,s,K,hl,h=>by
  simp only [code] at h;cases hj:env.join (1000000+bf x) with
  |true=>
   rw [hj] at h;exact hl (.cond c x y) (by simp [loops,hj]) X s K out h
  |false=>
  rw [hj] at h;simp only [cond_false,aa] at h;have hl:∀ c'∈loops env.join x++loops env.join y,Va env.loop (V.code A C rf za keep n) c':=fun c' Mm=>hl c' (by simp only [loops,hj,cond_false];exact Mm)
  obtain ⟨cv,bU,h⟩:=h;split at h
  case h_2=>simp at h
  rename_i b;have key:∀ {z:Code} {ex:V.Ex} {s':St},DO (V.code A C rf za keep n z) (Es s c b) ex s'->(∀ sv,V.val A sv.e c=some (.bool b)->V.code A C rf za keep n (.cond c x y) sv=V.code A C rf za keep n z sv)->DO (V.code A C rf za keep n (.cond c x y)) s ex s':=fun {z ex s'} h1 h2=>by
   obtain ⟨q1,q2,q3⟩:=IJ bU;refine ⟨h1.1.trans q1,h1.2.1.trans (by rw [q2]),fun m φ sv hs=> ?_⟩;obtain ⟨cv',e1,e2⟩:=Gc hg bU hs.e;cases e2;obtain ⟨je,m',zg,k1,k2,k3⟩:=h1.2.2 m φ sv (q3 m φ sv hs);rw [q1] at k3;exact ⟨je,m',zg,by rw [h2 sv e1];exact k1,k2,k3⟩
  cases b with
  |true=>
   simp only [cond_true] at h;obtain ⟨ex,s1,h1,h2⟩:=gg hg hc (fun c' Mm=>hl c' (by simp [Mm])) h;exact ⟨ex,s1,h1,key h2 fun sv e=>by simp [V.code,e]⟩
  |false=>
   simp only [cond_false] at h;obtain ⟨ex,s1,h1,h2⟩:=gg hg hc (fun c' Mm=>hl c' (by simp [Mm])) h;exact ⟨ex,s1,h1,key h2 fun sv e=>by simp [V.code,e]⟩
 | .block id c,s,K,hl,h=>by
  simp only [code] at h;obtain ⟨ex,s1,h1,h2⟩:=gg hg hc (fun c' Mm=>hl c' (by simpa [loops] using Mm)) h;cases ex with
  |normal=>exact ⟨.normal,s1,h1,h2.map fun sv je e=>by simp [V.code,e]⟩
  |ret=>exact ⟨.ret,s1,h1,h2.map fun sv je e=>by simp [V.code,e]⟩
  |exit zB=>
   simp only at h1;split at h1
   · rename_i hid;exact ⟨.normal,s1,h1,h2.map fun sv je e=>by simp [V.code,e,hid]⟩
   · rename_i hid;exact ⟨.exit zB,s1,h1,h2.map fun sv je e=>by simp [V.code,e,hid]⟩
 | .loop c,s,K,hl,h=>by
  simp only [code] at h;exact hl (.loop c) (by simp [loops]) X s K out h
 | .rangeFunc g ps a b,s,K,hl,h=>by
  simp only [code] at h;exact hl (.rangeFunc g ps a b) (by simp [loops]) X s K out h
 | .scope c,s,K,hl,h=>by
  simp only [code] at h;obtain ⟨ex,s1,h1,h2⟩:=gg hg hc (fun c' Mm=>hl c' (by simpa [loops] using Mm)) h;exact ⟨ex,s1,h1,h2.map fun sv je e=>by simp [V.code,e]⟩
 | .goto _,s,K,_,h=>by simp [code] at h
 | .refuse _,s,K,_,h=>by simp [code] at h
end
end Go.U
