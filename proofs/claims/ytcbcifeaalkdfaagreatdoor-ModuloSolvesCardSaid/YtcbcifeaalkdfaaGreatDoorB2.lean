/- A second evaluator, over rows of Lean values, and that it is right over the first. -/
import Derived.Test.YtcbcifeaalkdfaaGreatDoorB1
set_option linter.unusedVariables false
set_option linter.unusedSimpArgs false
set_option linter.unusedSectionVars false
open Bool renaming and_eq_true→Ab,false_eq_true→Xb,true_and→Od
open List renaming map_cons→He,length_map→Qh,all_eq_true→ec,getElem?_take→Jb,getElem?_append_left→Ja,getElem?_append_right→Oa,getElem?_drop→Lc,mem_of_getElem?→Eb,getElem?_eq_none→Nb,length_eq_zero_iff→Gb,mem_cons_self→Dd,mem_cons_of_mem→Rb,getElem?_of_mem→Ve,getElem?_eq_getElem→Da,mem_cons→me,mem_append→jh,append_assoc→Je
open Nat renaming zero_add→Qf,le_refl→ya,lt_or_ge→dc,le_trans→Db
open Nat.succ renaming inj→sG
open Option renaming bind_some→da,bind_eq_some_iff→aa,map_eq_some_iff→ja,map_some→Yd
open Option.some renaming injEq→Wc
namespace Go.U
open Go
variable [TB:Uv]
section
variable {A:V.Oi}{Na:Nat->Option (List UV)}{m:Mp}{φ:Nat->Option Nat}{H H':UH}{Hv:V.AH}{X:Type}{out:X}
theorem dm{e:TypeId}{t:TypeId}{lo hi:Option Int}{x':V.AV}{k:Nat}(hu:A.P.underlying t=some (.slice e))(hz:V.size A e=some k)(hx:x'= .Xa\/x'= .Ef)(h:0<=lo.getD 0/\lo.getD 0<=hi.getD ((0:Nat):Int)/\hi.getD ((0:Nat):Int)<=((0:Nat):Int)):V.slice A Hv t x' lo hi=some x':=by
 rcases hx with rfl|rfl<;>simp only[V.slice,hu,hz,da,V.PK]<;>rw[if_pos h]<;>simp
theorem jV{t:TypeId}{x:UV}{lo hi:Option Int}{K:UV->Option X}(h:slice A H t x lo hi K=some out):
  ∃v,K v=some out/\∀(m:Mp)(Hv:V.AH)(x':V.AV),RH m H Hv->RV m x x'->∃a,V.slice A Hv t x' lo hi=some a/\RV m v a:=by
 unfold slice at h;split at h
 ·rename_i s hu;obtain⟨h0,h⟩:=se h;simp only[Ab,decide_eq_true_eq]at h0;refine⟨_,h,λm Hv x' hh hx=> ?_⟩;cases hx with
  |str=>
   refine⟨_,?_,.str _⟩;simp only[V.slice,hu,V.PK];rw[if_pos ⟨h0.1.1,h0.1.2,h0.2⟩];rfl
 ·rename_i e c l hu;split at h
  case isFalse=>simp at h
  rename_i hz;split at h
  ·obtain⟨h0,h⟩:=se h;simp only[Ab,decide_eq_true_eq]at h0;refine⟨_,h,λm Hv x' hh hx=> ?_⟩;cases hx with
   |lit _ _ rows h1 h2 h3=>
    have bY:RT m c l rows:=⟨h1,λi _=>⟨kg _ _ _,Te _ _ _⟩,λi row _=>h2 i row,λi row k x a _=>h3 i row k x a⟩;refine⟨.lit (width c) ((rows.take rows.length).drop (lo.getD 0).toNat),?_,?_⟩
    ·simp only[V.slice,hu,V.PK];rw[if_pos ⟨h0.1,by rw[h1];simpa using h0.2,by simp⟩];simp[hz]
    ·rw[List.take_length];exact(bY.drop _).lit
   |bh _ a ha=>
    refine⟨x',dm hu hz ha ⟨h0.1,by simpa using h0.2,by simp⟩,?_⟩;rw[List.drop_nil];exact .bh _ _ ha
  ·rename_i hv;obtain⟨h0,h⟩:=se h;simp only[Ab,decide_eq_true_eq]at h0;refine⟨_,h,λm Hv x' hh hx=> ?_⟩;cases hx with
   |lit _ _ rows h1 h2 h3=>
    have bY:RT m c l rows:=⟨h1,λi _=>⟨kg _ _ _,Te _ _ _⟩,λi row _=>h2 i row,λi row k x a _=>h3 i row k x a⟩;refine⟨.lit (width c) ((rows.take hv.toNat).drop (lo.getD 0).toNat),?_,((bY.take _).drop _).lit⟩;simp only[V.slice,hu,V.PK];rw[if_pos ⟨h0.1.1,by simpa using h0.1.2,by rw[h1];simpa using h0.2⟩];simp[hz]
   |bh _ a ha=>
    refine⟨x',dm hu hz ha ⟨h0.1.1,by simpa using h0.1.2,by simpa using h0.2⟩,?_⟩;rw[List.take_nil,List.drop_nil];exact .bh _ _ ha
 ·rename_i e b r n hu;split at h
  ·rename_i c l hb;split at h
   case isFalse=>simp at h
   rename_i hz;obtain⟨h0,h⟩:=se h;simp only[Ab,decide_eq_true_eq]at h0;refine⟨_,h,λm Hv x' hh hx=> ?_⟩;obtain⟨kb,kx⟩:=jd (s:=⟨[],[],H,0⟩) (sv:=⟨[],[],Hv⟩) hh hb;cases hx with
   |sl _ _ _ xi Cg hle=>
    obtain⟨rows,ty,j2,j3,j4⟩:=kx xi Cg;have bS:Hv.bl[xi]?=some (.cells rows (width c) ty):=j2;refine⟨.sl xi (r+(lo.getD 0).toNat) ((hi.getD n).toNat-(lo.getD 0).toNat),?_,?_⟩
    ·simp only[V.slice,hu,V.PK];rw[if_pos ⟨h0.1.1,h0.1.2,h0.2⟩];simp[V.Qk,bS,hz]
    ·rw[Vt];exact .sl b _ _ xi Cg (by omega)
   |iw _ _ a ha=>
    refine⟨x',dm hu hz ha ⟨h0.1.1,by simpa using h0.1.2,by simpa using h0.2⟩,?_⟩;have:(hi.getD ((0:Nat):Int)).toNat-(lo.getD 0).toNat=0:=by omega
    rw[this];exact .iw _ _ _ ha
  ·rename_i c l hb;split at h
   case isFalse=>simp at h
   rename_i hz;obtain⟨h0,h⟩:=se h;simp only[Ab,decide_eq_true_eq]at h0;refine⟨_,h,λm Hv x' hh hx=> ?_⟩;obtain⟨kb,_,kx⟩:=Ie (s:=⟨[],[],H,0⟩) (sv:=⟨[],[],Hv⟩) hh hb;cases hx with
   |sl _ _ _ xi Cg hle=>
    obtain⟨rows,ty,j2,j3,j4⟩:=kx xi Cg;have bS:Hv.bl[xi]?=some (.cells rows 1 ty):=j2;refine⟨.sl xi (r+(lo.getD 0).toNat) ((hi.getD n).toNat-(lo.getD 0).toNat),?_,?_⟩
    ·simp only[V.slice,hu,V.PK];rw[if_pos ⟨h0.1.1,h0.1.2,h0.2⟩];simp[V.Qk,bS,hz]
    ·rw[Vt];exact .sl b _ _ xi Cg (by omega)
   |iw _ _ a ha=>
    refine⟨x',dm hu hz ha ⟨h0.1.1,by simpa using h0.1.2,by simpa using h0.2⟩,?_⟩;have:(hi.getD ((0:Nat):Int)).toNat-(lo.getD 0).toNat=0:=by omega
    rw[this];exact .iw _ _ _ ha
  ·simp at h
 ·rename_i e b hu;split at h
  ·rename_i c l hb;split at h
   case isFalse=>simp at h
   rename_i hz;obtain⟨h0,h⟩:=se h;simp only[Ab,decide_eq_true_eq]at h0;refine⟨_,h,λm Hv x' hh hx=> ?_⟩;obtain⟨kb,kx⟩:=jd (s:=⟨[],[],H,0⟩) (sv:=⟨[],[],Hv⟩) hh hb;cases hx with
   |all _ xi Cg=>
    obtain⟨rows,ty,j2,j3,j4⟩:=kx xi Cg;have bS:Hv.bl[xi]?=some (.cells rows (width c) ty):=j2;refine⟨.sl xi (0+(lo.getD 0).toNat) ((hi.getD l.length).toNat-(lo.getD 0).toNat),?_,?_⟩
    ·simp only[V.slice,hu,V.PK,kb];rw[if_pos ⟨h0.1.1,h0.1.2,h0.2⟩];simp[V.Qk,bS,hz]
    ·rw[Qf];exact .sl b _ _ xi Cg (by omega)
   |Ug _ a _ hl ha=>
    have OO:l.length=0:=by omega
    rw[OO]at h0 ⊢;refine⟨x',dm hu hz ha ⟨h0.1.1,by simpa using h0.1.2,by simpa using h0.2⟩,?_⟩;have:(hi.getD ((0:Nat):Int)).toNat-(lo.getD 0).toNat=0:=by omega
    rw[this];exact .iw _ _ _ ha
  ·rename_i c l hb;split at h
   case isFalse=>simp at h
   rename_i hz;obtain⟨h0,h⟩:=se h;simp only[Ab,decide_eq_true_eq]at h0;refine⟨_,h,λm Hv x' hh hx=> ?_⟩;obtain⟨kb,_,kx⟩:=Ie (s:=⟨[],[],H,0⟩) (sv:=⟨[],[],Hv⟩) hh hb;cases hx with
   |all _ xi Cg=>
    obtain⟨rows,ty,j2,j3,j4⟩:=kx xi Cg;have bS:Hv.bl[xi]?=some (.cells rows 1 ty):=j2;refine⟨.sl xi (0+(lo.getD 0).toNat) ((hi.getD l.length).toNat-(lo.getD 0).toNat),?_,?_⟩
    ·simp only[V.slice,hu,V.PK,kb];rw[if_pos ⟨h0.1.1,h0.1.2,h0.2⟩];simp[V.Qk,bS,hz]
    ·rw[Qf];exact .sl b _ _ xi Cg (by omega)
   |Ug _ a _ hl ha=>
    have OO:l.length=0:=by omega
    rw[OO]at h0 ⊢;refine⟨x',dm hu hz ha ⟨h0.1.1,by simpa using h0.1.2,by simpa using h0.2⟩,?_⟩;have:(hi.getD ((0:Nat):Int)).toNat-(lo.getD 0).toNat=0:=by omega
    rw[this];exact .iw _ _ _ ha
  ·simp at h
 ·simp at h
theorem KV{op:BinOp}{k:IntKind}{x y:Int}{K:UV->Option X}(h:ir op k x y K=some out):∃v,K v=some out/\∃a,V.ir op k x y=some a/\∀m,RV m v a:=by
 unfold ir at h;split at h
 case h_4=>
  by_cases hy:y=0
  ·simp[hy]at h
  ·simp[hy]at h;exact⟨_,h,_,by simp only[V.ir];rw[if_neg hy],λ_=> .int _ _⟩
 case h_5=>
  by_cases hy:y=0
  ·simp[hy]at h
  ·simp[hy]at h;exact⟨_,h,_,by simp only[V.ir];rw[if_neg hy],λ_=> .int _ _⟩
 case h_6|h_7|h_8|h_9=>
  simp only[aa]at h;obtain⟨n,hn,h⟩:=h;exact⟨_,h,.int k n,by simp[V.ir,hn],λ_=> .int _ _⟩
 all_goals first
  |(exact⟨_,h,_,rfl,λ_=> .int _ _⟩)
  |(exact⟨_,h,_,rfl,λ_=> .bool _⟩)
  |(simp at h)
theorem iq{eq:TypeId->UV->UV->Option Bool}{eqv:TypeId->V.AV->V.AV->Option Bool}{xs ys:List UV}{Hq ys':List V.AV}(he:∀t x y x' y' b,eq t x y=some b->RV m x x'->RV m y y'->eqv t x' y'=some b)
  (hx:RL m xs Hq) (hy:RL m ys ys'):∀(fs:List Field)(b:Bool),eqFields A eq xs ys fs=some b->V.eqFields A eqv Hq ys' fs=some b
 |[],b,h=>by simpa[eqFields,V.eqFields]using h
 |fd::fs,b,h=>by
  simp only[eqFields]at h;simp only[V.eqFields];split at h
  ·rename_i hn;rw[if_pos hn];exact iq he hx hy fs b h
  ·rename_i hn;rw[if_neg hn];simp only[aa,ja]at h;obtain⟨x,h1,y,h2,b1,h3,c,h4,rfl⟩:=h;obtain⟨x',k1,k2⟩:=Og h1 hx;obtain⟨y',k3,k4⟩:=Og h2 hy;simp only[k1,k3,da,he _ _ _ _ _ _ h3 k2 k4,iq he hx hy fs c h4,Yd]
theorem fB{eq:UV->UV->Option Bool}{eqv:V.AV->V.AV->Option Bool}{e:TypeId}{sz:Nat}{xs ys:List UV}{Hq ys':List V.AV}(he:∀x y x' y' b,eq x y=some b->RV m x x'->RV m y y'->eqv x' y'=some b)
  (hx:RL m xs Hq) (hy:RL m ys ys'):∀(n i:Nat)(b:Bool),qh A eq e sz xs ys n i=some b->V.qh A eqv e sz Hq ys' n i=some b
 |0,i,b,h=>by simpa[qh,V.qh]using h
 |n+1,i,b,h=>by
  simp only[qh]at h;simp only[V.qh];simp only[aa,ja]at h;obtain⟨x,h1,y,h2,b1,h3,c,h4,rfl⟩:=h;obtain⟨x',k1,k2⟩:=Og h1 hx;obtain⟨y',k3,k4⟩:=Og h2 hy;simp only[k1,k3,da,he _ _ _ _ _ h3 k2 k4,fB he hx hy n (i+1) c h4,Yd]
theorem kC:∀(d:Nat){t:TypeId}{x y:UV}{x' y':V.AV}{b:Bool},ay A d t x y=some b->RV m x x'->RV m y y'->V.ay A d t x' y'=some b
 |0,t,x,y,x',y',b,h,_,_=>by simp[ay]at h
 |d+1,t,x,y,x',y',b,h,hx,hy=>by
  simp only[ay]at h;split at h
  ·rename_i hu;cases hx;cases hy;simpa[V.ay,hu]using h
  ·rename_i k a k' b' hu;cases hx;cases hy;simpa[V.ay,hu]using h
  ·rename_i hu;cases hx;cases hy;simpa[V.ay,hu]using h
  ·rename_i fs xs ys hu;split at h
   ·simp at h
   rename_i hs;cases hx with
   |agg _ as hl hr=>
    cases hy with
    |agg _ bs Fg bj=>
     simp only[V.ay,hu];rw[if_neg hs];exact iq (eq:=ay A d) (eqv:=V.ay A d) (λt x y x' y' b h h1 h2=>kC d h h1 h2) ⟨hl,hr⟩ ⟨Fg,bj⟩ _ _ h
  ·rename_i n e xs ys hu;simp only[aa]at h;obtain⟨sz,eg,h⟩:=h;cases hx with
   |agg _ as hl hr=>
    cases hy with
    |agg _ bs Fg bj=>
     simp only[V.ay,hu,eg,da];exact fB (eq:=ay A d e) (eqv:=V.ay A d e) (λx y x' y' b h h1 h2=>kC d h h1 h2) ⟨hl,hr⟩ ⟨Fg,bj⟩ _ _ _ h
  ·simp at h
theorem bN{t:TypeId}{x y:UV}{x' y':V.AV}{b:Bool}(h:gq A t x y=some b)(hx:RV m x x')(hy:RV m y y'):V.gq A t x' y'=some b:=by
 unfold gq at h;split at h
 case h_2=>
  rename_i fs xs ys hu;split at h
  ·simp at h
  rename_i hs;cases hx with
  |agg _ as hl hr=>
   cases hy with
   |agg _ bs Fg bj=>
    simp only[V.gq,hu];rw[if_neg hs];exact kC 1000 h (.agg _ _ hl hr) (.agg _ _ Fg bj)
 case h_3=>
  rename_i n e xs ys hu;split at h
  ·simp at h
  rename_i hs;cases hx with
  |agg _ as hl hr=>
   cases hy with
   |agg _ bs Fg bj=>
    simp only[V.gq,hu];rw[if_neg hs];exact kC 1000 h (.agg _ _ hl hr) (.agg _ _ Fg bj)
 all_goals first
  |(simp at h;done)
  |(rename_i hu;cases hx;cases hy;simpa only[V.gq,hu]using h)
theorem XE{t:TypeId}{x y:UV}{x':V.AV}{b:Bool}(h:gq A t x y=some b)(hx:RV m x x'):(∀k n,x'≠ .int k n)/\∀s,x'≠ .str s:=by
 unfold gq at h;split at h
 all_goals first
  |(simp at h;done)
  |(cases hx;exact⟨λ_ _ e=>by simp at e,λ_ e=>by simp at e⟩)
theorem YU{op:BinOp}{x y:ByteArray}{K:UV->Option X}(h:ku op x y K=some out):∃v,K v=some out/\∃a,V.ku op x y=some a/\∀m,RV m v a:=by
 unfold ku at h;split at h
 case h_1=>
  obtain⟨h0,h⟩:=se h;simp only[decide_eq_true_eq]at h0;exact⟨_,h,_,by simp only[V.ku];rw[if_pos h0],λ_=> .str _⟩
 all_goals first
  |(exact⟨_,h,_,rfl,λ_=> .bool _⟩)
  |(simp at h;done)
theorem OX{op:BinOp}{t:TypeId}{x y:UV}{K:UV->Option X}(h:binop A op t x y K=some out):
  ∃v,K v=some out/\∀(m:Mp)(x' y':V.AV),RV m x x'->RV m y y'->∃a,V.binop A op t x' y'=some a/\RV m v a:=by
 unfold binop at h;split at h
 ·obtain⟨h0,h⟩:=se h;simp only[decide_eq_true_eq]at h0;refine⟨_,h,λm x' y' hx hy=> ?_⟩;cases hx;cases hy;exact⟨_,by simp only[V.binop];rw[if_pos h0],.int _ _⟩
 ·obtain⟨h0,h⟩:=se h;simp only[decide_eq_true_eq]at h0;refine⟨_,h,λm x' y' hx hy=> ?_⟩;cases hx;cases hy;exact⟨_,by simp only[V.binop];rw[if_pos h0],.int _ _⟩
 ·rename_i k a k' b sar rar;split at h
  case isFalse=>simp at h
  rename_i hk;obtain⟨v,h1,a',h2,h3⟩:=KV h;refine⟨v,h1,λm x' y' hx hy=> ?_⟩;cases hx;cases hy;refine⟨a',?_,h3 m⟩;cases op
  case shl=>exact(sar rfl).elim
  case shr=>exact(rar rfl).elim
  all_goals (simp only[V.binop];rw[if_pos hk];exact h2)
 ·obtain⟨v,h1,a',h2,h3⟩:=YU h;refine⟨v,h1,λm x' y' hx hy=> ?_⟩;cases hx;cases hy;refine⟨a',?_,h3 m⟩;cases op<;>first|exact h2|(simp[V.ku]at h2)
 ·simp only[aa]at h;obtain⟨b,hb,h⟩:=h;refine⟨_,h,λm x' y' hx hy=>⟨.bool b,?_,.bool b⟩⟩;have h1:=bN hb hx hy;have h2:=XE hb hx;unfold V.binop;split
  all_goals first
   |(simp at *;done)
   |(rw[h1];rfl)
   |(exfalso;exact h2.1 _ _ rfl)
   |(exfalso;exact h2.2 _ rfl)
   |simp_all
 ·simp only[aa]at h;obtain⟨b,hb,h⟩:=h;refine⟨_,h,λm x' y' hx hy=>⟨.bool !b,?_,.bool _⟩⟩;have h1:=bN hb hx hy;have h2:=XE hb hx;unfold V.binop;split
  all_goals first
   |(simp at *;done)
   |(rw[h1];rfl)
   |(exfalso;exact h2.1 _ _ rfl)
   |(exfalso;exact h2.2 _ rfl)
   |simp_all
 ·simp at h
end
end Go.U
namespace Go.U
open Go
variable [TB:Uv]
def zN(φ wh:Nat->Option Nat):Prop:=∀i j,φ i=some j->wh i=some j
section
variable {A:V.Oi}{Na:Nat->Option (List UV)}{m:Mp}{φ:Nat->Option Nat}{H H':UH}{Hv:V.AH}{X:Type}{out:X}
theorem vY{op:UnOp}{x v:UV}{x':V.AV}(h:unop op x=some v)(hx:RV m x x'):∃a,V.unop op x'=some a/\RV m v a:=by
 unfold unop at h;split at h
 ·simp only[Wc]at h;subst h;cases hx;exact⟨_,rfl,.int _ _⟩
 ·rename_i k n;simp only[ja]at h;obtain⟨i,hi,rfl⟩:=h;cases hx;exact⟨.int k i,by simp only[V.unop,hi,Yd],.int _ _⟩
 ·simp at h;subst h;cases hx;exact⟨_,rfl,.bool _⟩
 ·simp at h
theorem MX{l:List Int}{rows:List (List V.AV)}(h:RT m (.int .u8) l rows):V.Ti rows=some (l.map λn=>UInt8.ofNat n.toNat):=by
 induction rows generalizing l with
 |nil=>
  have:=h.1;cases l with
  |nil=>rfl
  |cons _ _=>simp at this
 |cons row rows ih=>
  have hl:=h.1;cases l with
  |nil=>simp at hl
  |cons n l=>
   have h0:=h.get (i:=0) rfl;obtain⟨a,as,rfl,h1,h2⟩:=RL.To (x:=UV.int .u8 n) (xs:=[]) h0;have:as=[]:=by have:=h2.1;simpa using this
   subst this;cases h1;have hr:RT m (.int .u8) l rows:= .of (sG hl) λi row hi hr=>h.get (i:=i+1) (by simpa using hr)
   simp only[V.Ti,ih hr,da,He]
theorem lN{src dst:TypeId}{x:UV}{K:UV->UH->Option X}(h:convert A H src dst x K=some out):
  ∃v H',K v H'=some out/\H'.wm=H.wm/\∀(m:Mp)(Hv:V.AH)(x':V.AV),RH m H Hv->RV m x x'->∃a zd,V.convert A Hv src dst x'=some (a,zd)/\Yr m Hv v H' a zd:=by
 unfold convert at h;split at h
 ·rename_i h1 h2;refine⟨_,_,h,rfl,λm Hv x' hh hx=> ?_⟩;cases hx;exact⟨_,_,by simp only[V.convert,h1,h2],.same hh (.int _ _)⟩
 ·rename_i h1 h2;refine⟨_,_,h,rfl,λm Hv x' hh hx=> ?_⟩;cases hx;exact⟨_,_,by simp only[V.convert,h1,h2],.same hh (.str _)⟩
 ·rename_i e s h1 h2;split at h
  case h_2=>simp at h
  rename_i h3;obtain⟨h0,h⟩:=se h;simp only[decide_eq_true_eq]at h0;refine⟨_,_,h,rfl,λm Hv x' hh hx=> ?_⟩;cases hx;have:=hh.zw (kF m s) (zl:=1) rfl (ty:=some (e,1));have hl:(dR s).length=s.size:=(Qh ..).trans rfl;refine⟨.sl Hv.bl.length 0 s.size,V.push Hv (.cells (V.Qc s) 1 (some (e,1))),?_,by rw[<- hl];exact this⟩;simp only[V.convert,h1,h2,h3];rw[if_pos h0]
 ·rename_i e x h1 h2 GO;split at h
  case h_2=>simp at h
  rename_i h3;simp only[aa]at h;obtain⟨l,hr,h⟩:=h;refine⟨_,_,h,rfl,λm Hv x' hh hx=> ?_⟩;obtain⟨rows,k1,k2⟩:=Ii hr hh hx;have hb:=MX k2;have jt:∀s,x'≠ .str s:=λs e=>by
   subst e;cases hx with
   |str=>exact GO s rfl
   |Dc=>simp[rowsOf]at hr
   |iw _ _ _ ha=>simp at ha
   |Ug _ _ _ _ ha=>simp at ha
   |Dv _ _ _ _ _ ha=>simp at ha
   |bh _ _ ha=>simp at ha
  refine⟨.str (aap l),Hv,?_,.same hh (.str _)⟩;have k1':V.rowsOf Hv x'=some rows:=by cases x'<;>first|exact k1|exact(jt _ rfl).elim
  have h4:∀y:V.AV,(∀s,y≠ .str s)->V.convert A Hv src dst y=(V.rowsOf Hv y).bind λrows=>(V.Ti rows).map λl=>(.str ⟨l.toArray⟩,Hv):=λy hy=>by
   cases y<;>first|exact(hy _ rfl).elim|simp only[V.convert,h1,h2,h3]
  rw[h4 x' jt,k1',da,hb,Yd];rfl
 ·simp at h
theorem jy{d:Nat}{x:UV}(h:closed 8 x=true):yc (d+1) x=true:=by
 cases x<;>first|exact h|simp[closed]at h
variable {k:KT}
theorem Xy(i j:Zd k):V.TC (Wi k i) (Wi k j)=some (NK k i j):=by
 cases k with
 |int k=>simp[Wi,V.TC,NK]
 |str=>rfl
theorem zo{x:UV}{i:Zd k}{x':V.AV}(h:keyOf? k x=some i)(hx:RV m x x'):x'=Wi k i:=by
 cases k with
 |int k=>
  simp only[keyOf?]at h;split at h
  ·split at h
   ·rename_i e;subst e;injection h with h;subst h;cases hx;rfl
   ·simp at h
  ·simp at h
 |str=>
  simp only[keyOf?]at h;split at h
  ·injection h with h;subst h;cases hx;rfl
  ·simp at h
theorem AI{t:TypeId}(h:sB A t=some k)(i:Zd k):V.Mj A t (Wi k i)=true:=by
 unfold sB at h;unfold V.Mj;split at h
 ·rename_i hu;simp at h;subst h;rw[hu];rfl
 ·rename_i hu;simp at h;subst h;rw[hu];rfl
 ·simp at h
theorem dH{i:Zd k}{z:UV}{K:UV->Bool->Option X}:∀{es:List (Zd k×UV)},nD i z K es=some out->∃v b,K v b=some out/\∀(m:Mp)(ie:List (V.AV×V.AV)),MR k m es ie->(b=true/\∃a,V.lj (Wi k i) ie=some (some a)/\RV m v a)\/(b=false/\v=z/\V.lj (Wi k i) ie=some none)
 |[],h=>⟨z,false,h,λm ie hm=>by
   cases ie with
   |nil=>exact .inr ⟨rfl,rfl,rfl⟩
   |cons _ _=>exact hm.elim⟩
 |(j,v)::es,h=>by
  simp only[nD]at h;cases he:NK k i j with
  |true=>
   rw[he]at h;refine⟨v,true,h,λm ie hm=> ?_⟩;cases ie with
   |nil=>exact hm.elim
   |cons p ie=>
    obtain⟨h1,h2,_,_⟩:=hm;refine .inl ⟨rfl,p.2,?_,h2⟩;obtain⟨key,a⟩:=p;subst h1;simp only[V.lj,Xy,he,da]
  |false=>
   rw[he]at h;obtain⟨w,b,h1,h2⟩:=dH (es:=es) h;refine⟨w,b,h1,λm ie hm=> ?_⟩;cases ie with
   |nil=>exact hm.elim
   |cons p ie=>
    obtain⟨key,a⟩:=p;obtain⟨k1,_,_,k4⟩:=hm;subst k1;simp only[V.lj,Xy,he,da];exact h2 m ie k4
theorem xC{i:Zd k}{v:UV}:∀{es:List (Zd k×UV)}{K:List (Zd k×UV)->Option X},cO i v K es=some out->∃OQ,K OQ=some out/\∀(m:Mp)(ie:List (V.AV×V.AV))(a:V.AV),MR k m es ie->RV m v a->yc 8 v=true->∃Cj,V.Dp (Wi k i) a ie=some Cj/\MR k m OQ Cj
 |[],K,h=>⟨[(i,v)],h,λm ie a hm hv hc=>by
   cases ie with
   |nil=>exact⟨[(Wi k i,a)],rfl,rfl,hv,hc,trivial⟩
   |cons _ _=>exact hm.elim⟩
 |(j,w)::es,K,h=>by
  simp only[cO]at h;cases he:NK k i j with
  |true=>
   rw[he]at h;refine⟨_,h,λm ie a hm hv hc=> ?_⟩;cases ie with
   |nil=>exact hm.elim
   |cons p ie=>
    obtain⟨key,a'⟩:=p;obtain⟨k1,_,_,k4⟩:=hm;subst k1;exact⟨(Wi k i,a)::ie,by simp only[V.Dp,Xy,he,da],rfl,hv,hc,k4⟩
  |false=>
   rw[he]at h;obtain⟨OQ,h1,h2⟩:=xC (es:=es) h;refine⟨_,h1,λm ie a hm hv hc=> ?_⟩;cases ie with
   |nil=>exact hm.elim
   |cons p ie=>
    obtain⟨key,a'⟩:=p;obtain⟨k1,k2,k3,k4⟩:=hm;subst k1;obtain⟨Cj,e1,e2⟩:=h2 m ie a k4 hv hc;exact⟨(Wi k j,a')::Cj,by simp only[V.Dp,Xy,he,da,e1,Yd],rfl,k2,k3,e2⟩
theorem dF{i:Zd k}:∀{es:List (Zd k×UV)}{K:List (Zd k×UV)->Option X},UQ i K es=some out->∃OQ,K OQ=some out/\∀(m:Mp)(ie:List (V.AV×V.AV)),MR k m es ie->∃Cj,V.Gp (Wi k i) ie=some Cj/\MR k m OQ Cj
 |[],K,h=>⟨[],h,λm ie hm=>by
   cases ie with
   |nil=>exact⟨[],rfl,trivial⟩
   |cons _ _=>exact hm.elim⟩
 |(j,w)::es,K,h=>by
  simp only[UQ]at h;cases he:NK k i j with
  |true=>
   rw[he]at h;refine⟨_,h,λm ie hm=> ?_⟩;cases ie with
   |nil=>exact hm.elim
   |cons p ie=>
    obtain⟨key,a'⟩:=p;obtain⟨k1,_,_,k4⟩:=hm;subst k1;exact⟨ie,by simp only[V.Gp,Xy,he,da],k4⟩
  |false=>
   rw[he]at h;obtain⟨OQ,h1,h2⟩:=dF (es:=es) h;refine⟨_,h1,λm ie hm=> ?_⟩;cases ie with
   |nil=>exact hm.elim
   |cons p ie=>
    obtain⟨key,a'⟩:=p;obtain⟨k1,k2,k3,k4⟩:=hm;subst k1;obtain⟨Cj,e1,e2⟩:=h2 m ie k4;exact⟨(Wi k j,a')::Cj,by simp only[V.Gp,Xy,he,da,e1,Yd],rfl,k2,k3,e2⟩
theorem pM{g:Bool}{c:CT}{i:Zd k}{z:UV}{K:UV->Bool->Option X}:∀{l:List (Zd k×Ib c)},nD i z K (nl g c l)=cond (jD i l) (K (valOf g c (GB i (GX c) l)) true) (K z false)
 |[]=>rfl
 |(j,x)::l=>by
  simp only[nl,He,nD,jD,List.any_cons,GB];cases he:NK k i j with
  |true=>rfl
  |false=>exact pM (l:=l)
theorem xR{g:Bool}{c:CT}{i:Zd k}{x:Ib c}:∀{l:List (Zd k×Ib c)}{K:List (Zd k×UV)->Option X},cO i (valOf g c x) K (nl g c l)=K (nl g c (Mu i x l))
 |[],K=>rfl
 |(j,y)::l,K=>by
  simp only[nl,He,cO,Mu];cases he:NK k i j with
  |true=>rfl
  |false=>exact xR (l:=l)
theorem FU{g:Bool}{c:CT}{i:Zd k}:∀{l:List (Zd k×Ib c)}{K:List (Zd k×UV)->Option X},UQ i K (nl g c l)=K (nl g c (eG i l))
 |[],K=>rfl
 |(j,y)::l,K=>by
  simp only[nl,He,UQ,eG];cases he:NK k i j with
  |true=>rfl
  |false=>exact FU (l:=l)
theorem gN{g:Bool}{c:CT}{x:UV}{y:Ib c}(h:Gab g c x=some y):yc 8 (valOf g c y)=true/\∀(m:Mp)(a:V.AV),RV m x a->RV m (valOf g c y) a:=by
 unfold Gab at h;split at h
 ·rename_i cs;refine⟨?_,λm a ha=> ?_⟩
  ·simp only[valOf,yc,ec];exact λv hv=>jy (Em c y v hv)
  ·cases ha with
   |agg _ as hl hr=>have:=So h (m:=m) ⟨hl,hr⟩;exact .agg _ _ this.1 this.2
 ·split at h
  case isFalse=>simp at h
  rename_i hw;have hlen:=Zj c y;rw[hw]at hlen;obtain⟨v,hv⟩:∃v,enc c y=[v]:=by
   match h1:enc c y,hlen with
   |[v],_=>exact⟨v,rfl⟩
  have PL:valOf false c y=v:=by simp only[valOf,hv]
  rw[PL];refine⟨jy (Em c y v (by rw[hv];simp)),λm a ha=> ?_⟩;have:=So h (RL.cons ha .nil);rw[hv]at this;exact this.2 0 v a rfl rfl
 ·simp at h
theorem QC{t:TypeId}{x i:UV}{ok:Bool}{K:UV->Option X}(h:lookup A H t x i ok K=some out):
  ∃v,K v=some out/\∀(m:Mp)(Hv:V.AH)(x' i':V.AV),RH m H Hv->RV m x x'->RV m i i'->∃a,V.lookup A Hv t x' i' ok=some a/\RV m v a:=by
 unfold lookup at h;split at h
 case h_2=>simp at h
 rename_i kt et hu;split at h
 case h_2=>simp at h
 rename_i b;have key:∀{k:KT}{es:List (Zd k×UV)},(∀{m:Mp}{Hv:V.AH},RH m H Hv->∃x ie,m.ι b 0=some x/\Hv.bl[x]?=some (.map ie)/\MR k m es ie)->sB A kt=some k->
   ((keyOf? k i).bind λi=>(zeroV A et).bind λz=>nD i z (λv b=>K (if ok then .Re [v,.bool b]else v)) es)=some out->
   ∃v,K v=some out/\∀(m:Mp)(Hv:V.AH)(x' i':V.AV),RH m H Hv->RV m (.mp b) x'->RV m i i'->∃a,V.lookup A Hv t x' i' ok=some a/\RV m v a:=λ{k es}hb bG h=>by
  simp only[aa]at h;obtain⟨i0,hi,z,hz,h⟩:=h;obtain⟨z',q1,q2,_⟩:=PU hz;obtain⟨v,b0,h1,h2⟩:=dH h;refine⟨_,h1,λm Hv x' i' hh hx r_=> ?_⟩;have SZ:=zo hi r_;subst SZ;cases hx with
  |mp _ xi Cg=>
   obtain⟨xi',ie,k1,k2,k3⟩:=hb hh;rw[Cg]at k1;simp at k1;subst k1;have dac:∀{w:UV}{a:V.AV}(b:Bool),RV m w a->RV m (if ok then .Re [w,.bool b]else w) (if ok then .Re [a,.bool b]else a):=λ{w a}b hw=>by
    clear h h1;cases ok with
    |true=>exact .Re [w,.bool b] [a,.bool b] rfl (RL.cons hw (RL.cons (.bool b) .nil)).2
    |false=>exact hw
   rcases h2 m ie k3 with⟨rfl,a,e1,e2⟩|⟨rfl,rfl,e1⟩
   ·refine⟨_,?_,dac true e2⟩;simp only[V.lookup,hu,AI bG,if_true,V.mapOf,k2,da,e1]
   ·refine⟨_,?_,dac false (q2 m)⟩;simp only[V.lookup,hu,AI bG,if_true,V.mapOf,k2,da,e1,q1,Yd]
 split at h
 ·rename_i k es hb;split at h
  case isFalse=>simp at h
  rename_i bG;exact key (λhh=>hh.Kf b _ hb) bG h
 ·rename_i k g c l hb;split at h
  case isFalse=>simp at h
  rename_i bG;refine key (es:=nl g c l) (λhh=>hh.Kf b _ hb) bG ?_;simp only[aa]at h ⊢;obtain⟨i0,hi,z,hz,h⟩:=h;exact⟨i0,hi,z,hz,by rw[pM];exact h⟩
 ·simp at h
def Lae(m:Mp)(Hv:V.AH)(H':UH)(zd:V.AH):Prop:=RH m H' zd/\gm m.top m Hv m zd
theorem ru{t:TypeId}{x i y:UV}{K:UH->Option X}(h:mapUpdate A H t x i y K=some out):
  ∃H',K H'=some out/\H'.wm=H.wm/\∀(m:Mp)(Hv:V.AH)(x' i' y':V.AV),RH m H Hv->RV m x x'->RV m i i'->RV m y y'->∃zd,V.mapUpdate A Hv t x' i' y'=some zd/\Lae m Hv H' zd:=by
 unfold mapUpdate at h;split at h
 case h_2=>simp at h
 rename_i kt et b hu;split at h
 case isFalse=>simp at h
 rename_i UG;have lq:∀{m:Mp}{Hv:V.AH}{x' y':V.AV}{k:KT}{i0:Zd k}{xi:Nat}{ie Cj:List (V.AV×V.AV)},RH m H Hv->m.ι b 0=some xi->x'= .mp xi->sB A kt=some k->Hv.bl[xi]?=some (.map ie)->V.Dp (Wi k i0) y' ie=some Cj->
   V.mapUpdate A Hv t x' (Wi k i0) y'=some (V.Qa Hv xi (.map Cj)):=λ{m Hv x' y' k i0 xi ie Cj}hh Cg Eg bG h2 h3=>by
  subst Eg;have hw:=hh.wm b xi Cg UG;simp[V.mapUpdate,hu,AI bG,hw,h2,h3]
 split at h
 ·rename_i k es hb;split at h
  case isFalse=>simp at h
  rename_i bG;simp only[aa]at h;obtain⟨i0,hi,h⟩:=h;obtain⟨OQ,h1,h2⟩:=xC h;refine⟨_,h1,rfl,λm Hv x' i' y' hh hx r_ hy=> ?_⟩;have SZ:=zo hi r_;subst SZ;cases hx with
  |mp _ xi Cg=>
   obtain⟨xi',ie,k1,k2,k3⟩:=hh.Kf b _ hb;rw[Cg]at k1;simp at k1;subst k1;obtain⟨Cj,e1,e2⟩:=h2 m ie y' k3 hy bG.2;have Uk:=hh.set (y:= .Jg k OQ) (yv:= .map Cj) ⟨_,hb,rfl⟩ Cg ⟨xi,Cj,Cg,by rw[Cd,if_pos rfl,if_pos (hh.Ff b xi Cg).2],e2⟩;exact⟨_,lq hh Cg rfl bG.1 k2 e1,Uk⟩
 ·rename_i k g c l hb;split at h
  case isFalse=>simp at h
  rename_i bG;simp only[aa]at h;obtain⟨i0,hi,xv,sZ,h⟩:=h;refine⟨_,h,rfl,λm Hv x' i' y' hh hx r_ hy=> ?_⟩;have SZ:=zo hi r_;subst SZ;cases hx with
  |mp _ xi Cg=>
   obtain⟨xi',ie,k1,k2,k3⟩:=hh.Kf b _ hb;rw[Cg]at k1;simp at k1;subst k1;obtain⟨d1,d2⟩:=gN sZ;have hsl:cO i0 (valOf g c xv) (λie=>some ie) (nl g c l)=some (nl g c (Mu i0 xv l)):=xR;obtain⟨OQ,e0,h2⟩:=xC hsl;simp at e0;subst e0;obtain⟨Cj,e1,e2⟩:=h2 m ie y' k3 (d2 m y' hy) d1;have Uk:=hh.set (y:= .Pe k g c (Mu i0 xv l)) (yv:= .map Cj) ⟨_,hb,rfl⟩ Cg ⟨xi,Cj,Cg,by rw[Cd,if_pos rfl,if_pos (hh.Ff b xi Cg).2],e2⟩;exact⟨_,lq hh Cg rfl bG k2 e1,Uk⟩
 ·simp at h
theorem VF{t:TypeId}{x i:UV}{K:UH->Option X}(h:lg A H t x i K=some out):
  ∃H',K H'=some out/\H'.wm=H.wm/\∀(m:Mp)(Hv:V.AH)(x' i':V.AV),RH m H Hv->RV m x x'->RV m i i'->∃zd,V.lg A Hv t x' i'=some zd/\Lae m Hv H' zd:=by
 unfold lg at h;split at h
 case h_2=>simp at h
 rename_i kt et b hu;split at h
 case isFalse=>simp at h
 rename_i UG;have lq:∀{m:Mp}{Hv:V.AH}{x':V.AV}{k:KT}{i0:Zd k}{xi:Nat}{ie Cj:List (V.AV×V.AV)},RH m H Hv->m.ι b 0=some xi->x'= .mp xi->sB A kt=some k->Hv.bl[xi]?=some (.map ie)->V.Gp (Wi k i0) ie=some Cj->
   V.lg A Hv t x' (Wi k i0)=some (V.Qa Hv xi (.map Cj)):=λ{m Hv x' k i0 xi ie Cj}hh Cg Eg bG h2 h3=>by
  subst Eg;have hw:=hh.wm b xi Cg UG;simp[V.lg,hu,AI bG,hw,h2,h3]
 split at h
 ·rename_i k es hb;split at h
  case isFalse=>simp at h
  rename_i bG;simp only[aa]at h;obtain⟨i0,hi,h⟩:=h;obtain⟨OQ,h1,h2⟩:=dF h;refine⟨_,h1,rfl,λm Hv x' i' hh hx r_=> ?_⟩;have SZ:=zo hi r_;subst SZ;cases hx with
  |mp _ xi Cg=>
   obtain⟨xi',ie,k1,k2,k3⟩:=hh.Kf b _ hb;rw[Cg]at k1;simp at k1;subst k1;obtain⟨Cj,e1,e2⟩:=h2 m ie k3;have Uk:=hh.set (y:= .Jg k OQ) (yv:= .map Cj) ⟨_,hb,rfl⟩ Cg ⟨xi,Cj,Cg,by rw[Cd,if_pos rfl,if_pos (hh.Ff b xi Cg).2],e2⟩;exact⟨_,lq hh Cg rfl bG k2 e1,Uk⟩
 ·rename_i k g c l hb;split at h
  case isFalse=>simp at h
  rename_i bG;simp only[aa]at h;obtain⟨i0,hi,h⟩:=h;refine⟨_,h,rfl,λm Hv x' i' hh hx r_=> ?_⟩;have SZ:=zo hi r_;subst SZ;cases hx with
  |mp _ xi Cg=>
   obtain⟨xi',ie,k1,k2,k3⟩:=hh.Kf b _ hb;rw[Cg]at k1;simp at k1;subst k1;have hsl:UQ i0 (λie=>some ie) (nl g c l)=some (nl g c (eG i0 l)):=FU;obtain⟨OQ,e0,h2⟩:=dF hsl;simp at e0;subst e0;obtain⟨Cj,e1,e2⟩:=h2 m ie k3;have Uk:=hh.set (y:= .Pe k g c (eG i0 l)) (yv:= .map Cj) ⟨_,hb,rfl⟩ Cg ⟨xi,Cj,Cg,by rw[Cd,if_pos rfl,if_pos (hh.Ff b xi Cg).2],e2⟩;exact⟨_,lq hh Cg rfl bG k2 e1,Uk⟩
 ·simp at h
theorem MR.length:∀{es:List (Zd k×UV)}{ie:List (V.AV×V.AV)},MR k m es ie->ie.length=es.length
 |[],[],_=>rfl
 |(_,_)::_,(_,_)::_,h=>by simp[MR.length h.2.2.2]
 |[],_::_,h=>h.elim
 |_::_,[],h=>h.elim
theorem iz{f:UV->UV->Option UV}{g:V.AV->V.AV->Option V.AV}(hf:∀x y z x' y',f x y=some z->RV m x x'->RV m y y'->∃z',g x' y'=some z'/\RV m z z'):∀{ys:List UV}{x z:UV}{ys':List V.AV}{x':V.AV},zm f x ys=some z->RV m x x'->RL m ys ys'->∃z',V.zm g x' ys'=some z'/\RV m z z'
 |[],x,z,ys',x',h,hx,hy=>by
  have:ys'=[]:=by have:=hy.1;simpa using this
  subst this;simp[zm]at h;subst h;exact⟨x',rfl,hx⟩
 |y::ys,x,z,ys',x',h,hx,hy=>by
  cases ys' with
  |nil=>have:=hy.1;simp at this
  |cons y' ys'=>
   simp only[zm,aa]at h;obtain⟨w,hw,h⟩:=h;obtain⟨w',h1,h2⟩:=hf _ _ _ _ _ hw hx (hy.2 0 y y' rfl rfl);obtain⟨z',h3,h4⟩:=iz (ys:=ys) (ys':=ys') hf h h2 ⟨by have:=hy.1;simpa using this,λi a b k1 k2=>hy.2 (i+1) a b (by simpa using k1) (by simpa using k2)⟩;exact⟨z',by simp[V.zm,h1,h3],h4⟩
theorem V'{x y z:UV}{x' y':V.AV}(h:kZ x y=some z)(hx:RV m x x')(hy:RV m y y'):∃z',V.xL x' y'=some z'/\RV m z z':=by
 unfold kZ at h;split at h
 ·simp at h;subst h;cases hx;cases hy;exact⟨_,rfl,.int _ _⟩
 ·simp at h
theorem N'{x y z:UV}{x' y':V.AV}(h:eZ x y=some z)(hx:RV m x x')(hy:RV m y y'):∃z',V.vL x' y'=some z'/\RV m z z':=by
 unfold eZ at h;split at h
 ·simp at h;subst h;cases hx;cases hy;exact⟨_,rfl,.int _ _⟩
 ·simp at h
theorem RH.Wae(h:RH m H Hv){b:Nat}{y:UB}(hb:live H b)(hy:RB m Hv b y):RH m (Qa H b y) Hv:=by
 have k:∀{b'},live (Qa H b y) b'->live H b':=λh=>by rcases Qg h with⟨rfl,_⟩|⟨_,h⟩<;>assumption
 refine⟨λb' _ x' Wd=>by simpa[Qa]using h.Ff b' x' Wd,λb' y' Ze=> ?_,λb1 b2 _ _ x' h1 h2 e1 e2=>h.Ao b1 b2 x' (k h1) (k h2) e1 e2,h.wm,h.top,by simpa[Qa]using h.len⟩;rw[Yv]at Ze;split at Ze
 ·rename_i e;subst e;split at Ze
  ·simp at Ze;subst Ze;exact hy
  ·simp at Ze
 ·exact h.Kf b' y' Ze
theorem RL.two{x y:UV}{as:List V.AV}(h:RL m [x,y] as):∃a b,as=[a,b]/\RV m x a/\RV m y b:=by
 match as,h with
 |[a,b],h=>exact⟨a,b,rfl,h.2 0 x a rfl rfl,h.2 1 y b rfl rfl⟩
 |[],h=>have:=h.1;simp at this
 |[_],h=>have:=h.1;simp at this
 |_::_::_::_,h=>have:=h.1;simp at this
theorem RL.one{x:UV}{as:List V.AV}(h:RL m [x] as):∃a,as=[a]/\RV m x a:=by
 match as,h with
 |[a],h=>exact⟨a,rfl,h.2 0 x a rfl rfl⟩
 |[],h=>have:=h.1;simp at this
 |_::_::_,h=>have:=h.1;simp at this
theorem Z'{t:TypeId}{x:UV}{ts:Array TypeId}{K:UV->UH->Option X}(ht:ts[0]?=some t)(h:builtin A H .len ts [x] K=some out):
  ∃v,K v H=some out/\∀(m:Mp)(Hv:V.AH)(x':V.AV),RH m H Hv->RV m x x'->∃a,V.builtin A Hv .len ts [x']=some (a,Hv)/\RV m v a:=by
 simp only[builtin,ht,da]at h;split at h
 ·rename_i hu;refine⟨_,h,λm Hv x' hh hx=> ?_⟩;cases hx;exact⟨_,by simp only[V.builtin,ht,da,hu],.int _ _⟩
 ·rename_i hu;refine⟨_,h,λm Hv x' hh hx=> ?_⟩;cases hx;exact⟨_,by simp only[V.builtin,ht,da,hu],.int _ _⟩
 ·rename_i hu;refine⟨_,h,λm Hv x' hh hx=> ?_⟩;cases hx;exact⟨_,by simp only[V.builtin,ht,da,hu],.int _ _⟩
 ·rename_i c l hu;refine⟨_,h,λm Hv x' hh hx=> ?_⟩;cases hx with
  |lit _ _ rows hl=>exact⟨.int .i64 rows.length,by simp only[V.builtin,ht,da,hu],by rw[hl];exact .int _ _⟩
  |bh _ _ ha=>exact⟨.int .i64 0,by rcases ha with rfl|rfl<;>simp only[V.builtin,ht,da,hu],.int _ _⟩
 ·rename_i b hu;have key:∀{n:Nat},(∀(m:Mp)(Hv:V.AH),RH m H Hv->m.len b 0=n)->K (.int .i64 n) H=some out->∃v,K v H=some out/\∀(m:Mp)(Hv:V.AH)(x':V.AV),RH m H Hv->RV m (.all b) x'->∃a,V.builtin A Hv .len ts [x']=some (a,Hv)/\RV m v a:=λ{n}hn h=>by
   refine⟨_,h,λm Hv x' hh hx=> ?_⟩;have k0:=hn m Hv hh;cases hx with
   |all=>exact⟨.int .i64 (m.len b 0:Nat),by simp only[V.builtin,ht,da,hu],by rw[k0];exact .int _ _⟩
   |Ug _ _ _ hl ha=>exact⟨.int .i64 0,by rcases ha with rfl|rfl<;>simp only[V.builtin,ht,da,hu],by rw[<- k0,hl];exact .int _ _⟩
  split at h
  ·rename_i c l hb;exact key (λm Hv hh=>(jd (s:=⟨[],[],H,0⟩) (sv:=⟨[],[],Hv⟩) hh hb).1) h
  ·rename_i c l hb;exact key (λm Hv hh=>(Ie (s:=⟨[],[],H,0⟩) (sv:=⟨[],[],Hv⟩) hh hb).1) h
  ·simp at h
 ·rename_i b r hu;split at h
  case h_2=>simp at h
  rename_i c l hb;refine⟨_,h,λm Hv x' hh hx=> ?_⟩;have k0:=(Ie (s:=⟨[],[],H,0⟩) (sv:=⟨[],[],Hv⟩) hh hb).2.1 r;cases hx with
  |Rt=>exact⟨.int .i64 (m.len b (r+1):Nat),by simp only[V.builtin,ht,da,hu],by rw[k0];exact .int _ _⟩
  |Dv _ _ _ _ hl ha=>exact⟨.int .i64 0,by rcases ha with rfl|rfl<;>simp only[V.builtin,ht,da,hu],by rw[<- k0,hl];exact .int _ _⟩
 ·rename_i n hu;refine⟨_,h,λm Hv x' hh hx=> ?_⟩;cases hx with
  |sl=>exact⟨_,by simp only[V.builtin,ht,da,hu],.int _ _⟩
  |iw _ _ _ ha=>exact⟨.int .i64 0,by rcases ha with rfl|rfl<;>simp only[V.builtin,ht,da,hu],.int _ _⟩
 ·rename_i b hu;split at h
  ·rename_i k es hb;refine⟨_,h,λm Hv x' hh hx=> ?_⟩;cases hx with
   |mp _ xi Cg=>
    obtain⟨xi',ie,h1,h2,h3⟩:=hh.Kf b _ hb;rw[Cg]at h1;simp at h1;subst h1;exact⟨.int .i64 ie.length,by simp only[V.builtin,ht,da,hu,V.mapOf,h2,Yd],by rw[h3.length];exact .int _ _⟩
  ·rename_i k g c l hb;refine⟨_,h,λm Hv x' hh hx=> ?_⟩;cases hx with
   |mp _ xi Cg=>
    obtain⟨xi',ie,h1,h2,h3⟩:=hh.Kf b _ hb;rw[Cg]at h1;simp at h1;subst h1;exact⟨.int .i64 ie.length,by simp only[V.builtin,ht,da,hu,V.mapOf,h2,Yd],by rw[h3.length,nl,Qh];exact .int _ _⟩
  ·simp at h
 ·rename_i n e hu;refine⟨_,h,λm Hv x' hh hx=>⟨.int .i64 n,by simp only[V.builtin,ht,da,hu],.int _ _⟩⟩
 ·simp at h
theorem Yz{c:CT}{l g:List (Ib c)}{rows ys:List (List V.AV)}{r n:Nat}(hr:l.length<=rows.length)(h:Uo m (width c) l.length (vw c l) rows)(hy:RT m c g ys)(hle:r+n<=l.length)(hn:n<=g.length):
  (zq r n g l).length=l.length/\l.length<=(rows.take r++(ys.take n++rows.drop (r+n))).length/\Uo m (width c) (zq r n g l).length (vw c (zq r n g l)) (rows.take r++(ys.take n++rows.drop (r+n))):=by
 have YG:RT m c l (rows.take l.length):= .of (by simp;omega) λi row hi Gl=>by
  rw[Jb,if_pos hi]at Gl;obtain⟨Vb,j1,j2,j3⟩:=h.row hr hi;rw[j1]at Gl;simp at Gl;subst Gl;exact j2
 have AO:=hy.1;have hl:(zq r n g l).length=l.length:=by simp[zq];omega
 have gf:RT m c (zq r n g l) ((rows.take l.length).take r++(ys.take n++(rows.take l.length).drop (r+n))):=(YG.take r).append ((hy.take n).append (YG.drop (r+n)));have hlen:l.length<=(rows.take r++(ys.take n++rows.drop (r+n))).length:=by simp;omega
 have heq:∀i,i<l.length->(rows.take r++(ys.take n++rows.drop (r+n)))[i]?=((rows.take l.length).take r++(ys.take n++(rows.take l.length).drop (r+n)))[i]?:=λi hi=>by
  rw[List.take_take,Nat.min_eq_left (by omega:r<=l.length)];have e1:(rows.take r).length=r:=by simp;omega
  have e2:(ys.take n).length=n:=by simp;omega
  have aux:∀C:List (List V.AV),(rows.take r++(ys.take n++C))[i]?=if i<r then(rows.take r)[i]? else if i-r<n then(ys.take n)[i-r]? else C[i-r-n]?:=λC=>by
   split
   ·rename_i h1;exact Ja (by rw[e1];exact h1)
   ·rename_i h1;rw[Oa (by rw[e1];omega),e1];split
    ·rename_i h2;exact Ja (by rw[e2];exact h2)
    ·rename_i h2;rw[Oa (by rw[e2];omega),e2]
  rw[aux,aux];split
  ·rfl
  ·split
   ·rfl
   ·rw[Lc,Lc,Jb,if_pos (by omega)]
 refine⟨hl,hlen,λi _=>⟨kg _ _ _,Te _ _ _⟩,λi row hi Gl=> ?_,λi row k y a hi Gl h1 h2=> ?_⟩
 ·rw[hl]at hi;rw[heq i hi]at Gl;exact gf.rows (Eb Gl)
 ·rw[hl]at hi;rw[heq i hi]at Gl;exact(gf.get Gl).2 k y a h1 h2
theorem p8{x y:UV}{ts:Array TypeId}{K:UV->UH->Option X}(h:builtin A H .copy ts [x,y] K=some out):
  ∃v H',K v H'=some out/\H'.wm=H.wm/\∀(m:Mp)(Hv:V.AH)(x' y':V.AV),RH m H Hv->RV m x x'->RV m y y'->∃a zd,V.builtin A Hv .copy ts [x',y']=some (a,zd)/\Yr m Hv v H' a zd:=by
 simp only[builtin,aa]at h;obtain⟨t,ht,e,he,z,hz,h⟩:=h;split at h
 case isFalse=>simp at h
 rename_i GO;have main:∀{b r n:Nat}{c:CT}{l g:List (Ib c)},H.bl[b]?=some (.cells c l)->H.wm<=b->width c=z->rowsOf H c y=some g->∀(m:Mp)(Hv:V.AH)(x' y':V.AV),RH m H Hv->RV m y y'->
   ((∃xi,m.ι b 0=some xi/\x'= .sl xi r n/\r+n<=l.length)\/((x'= .Xa\/x'= .Ef)/\n=0))->
   ∃a zd,V.builtin A Hv .copy ts [x',y']=some (a,zd)/\Yr m Hv (.int .i64 (min g.length n:Nat)) (Qa H b (.cells c (zq r (min g.length n) g l))) a zd:=λ{b r n c l g}hb hw T8 hr m Hv x' y' hh hy hx=>by
  obtain⟨ys,k1,k2⟩:=Ii hr hh hy;have Zy:V.rowsOf Hv y'=some ys:=by
   cases y'<;>first|exact k1|skip
   cases hy with
   |str=>simp[YY]at GO
   |Dc=>simp[rowsOf]at hr
   |iw _ _ _ ha=>simp at ha
   |Ug _ _ _ _ ha=>simp at ha
   |Dv _ _ _ _ _ ha=>simp at ha
   |bh _ _ ha=>simp at ha
  obtain⟨kb,kx⟩:=jd (s:=⟨[],[],H,0⟩) (sv:=⟨[],[],Hv⟩) hh hb;have Oe:live H b:=⟨_,hb,rfl⟩;rcases hx with⟨xi,Cg,rfl,hle⟩|⟨ha,rfl⟩
  ·obtain⟨rows,ty,j2,j3,j4⟩:=kx xi Cg;have bS:Hv.bl[xi]?=some (.cells rows (width c) ty):=j2;have e_:=hh.wm b xi Cg hw;have qj:ys.all (λq=>q.length==z)=true:=ec.2 λq hq=>by simp[k2.rows hq,T8]
   obtain⟨c1,c2,c3⟩:=Yz (r:=r) (n:=min g.length n) j3 j4 k2 (by omega) (by omega);have Vk:(ys.take (min g.length n)).length=min g.length n:=by simp[k2.1]
   have Uk:=hh.set (y:= .cells c (zq r (min g.length n) g l)) (yv:= .cells (rows.take r++(ys.take (min g.length n)++rows.drop (r+min g.length n))) (width c) ty) Oe Cg
    ⟨by rw[c1];exact kb,.inr ⟨xi,_,_,Cg,by rw[Cd,if_pos rfl,if_pos (hh.Ff b xi Cg).2],by rw[c1];exact c2,c3⟩⟩
   refine⟨.int .i64 (min g.length n:Nat),V.Qa Hv xi (.cells (rows.take r++(ys.take (min g.length n)++rows.drop (r+min g.length n))) (width c) ty),?_,m,Uk.1,.int _ _,.refl m,Uk.2⟩;simp only[V.builtin,ht,he,hz,Zy,da,bS];rw[if_pos ⟨e_,by omega,T8,qj⟩,k2.1,Vk]
  ·have h0:min g.length 0=0:=by omega
   refine⟨.int .i64 (min g.length 0:Nat),Hv,?_,m,hh.Wae Oe ?_,.int _ _,.refl m,.refl Hv (ya _)⟩
   ·rw[h0];rcases ha with rfl|rfl<;>simp only[V.builtin,ht,he,hz,Zy,da]<;>rfl
   ·have:zq r (min g.length 0) g l=l:=by rw[h0];simp[zq]
    rw[this];exact hh.Kf b _ hb
 split at h
 ·rename_i b r n;split at h
  case h_2=>simp at h
  rename_i c l hb;split at h
  case isFalse=>simp at h
  rename_i hc;simp only[aa]at h;obtain⟨g,hr,h⟩:=h;refine⟨_,_,h,rfl,λm Hv x' y' hh hx hy=>main hb hc.1 hc.2 hr m Hv x' y' hh hy ?_⟩;obtain⟨kb,_⟩:=jd (s:=⟨[],[],H,0⟩) (sv:=⟨[],[],Hv⟩) hh hb;cases hx with
  |sl _ _ _ xi Cg hle=>exact .inl ⟨xi,Cg,rfl,by omega⟩
  |iw _ _ _ ha=>exact .inr ⟨ha,rfl⟩
 ·rename_i b;split at h
  case h_2=>simp at h
  rename_i c l hb;split at h
  case isFalse=>simp at h
  rename_i hc;simp only[aa]at h;obtain⟨g,hr,h⟩:=h;refine⟨_,_,h,rfl,λm Hv x' y' hh hx hy=>main hb hc.1 hc.2 hr m Hv x' y' hh hy ?_⟩;obtain⟨kb,_⟩:=jd (s:=⟨[],[],H,0⟩) (sv:=⟨[],[],Hv⟩) hh hb;cases hx with
  |all _ xi Cg=>exact .inl ⟨xi,Cg,by rw[kb],by omega⟩
  |Ug _ _ _ hl ha=>exact .inr ⟨ha,by omega⟩
 ·simp at h
theorem sN{bi:Builtin}{args:List UV}{ts:Array TypeId}{K:UV->UH->Option X}(h:builtin A H bi ts args K=some out):
  ∃v H',K v H'=some out/\H'.wm=H.wm/\∀(m:Mp)(Hv:V.AH)(Ph:List V.AV),RH m H Hv->RL m args Ph->∃a zd,V.builtin A Hv bi ts Ph=some (a,zd)/\Yr m Hv v H' a zd:=by
 have h0:=h;unfold builtin at h;split at h
 ·obtain⟨v,H',h1,h2,h3⟩:=eR h;refine⟨v,H',h1,h2,λm Hv Ph hh ha=> ?_⟩;obtain⟨a,b,rfl,ZG,hb⟩:=ha.two;exact h3 m Hv a b hh ZG hb
 ·simp only[aa]at h;obtain⟨t,ht,_⟩:=h;obtain⟨v,h1,h2⟩:=Z' ht h0;refine⟨v,H,h1,rfl,λm Hv Ph hh ha=> ?_⟩;obtain⟨a,rfl,ZG⟩:=ha.one;obtain⟨r,h3,h4⟩:=h2 m Hv a hh ZG;exact⟨r,Hv,h3,.same hh h4⟩
 ·simp only[aa]at h;obtain⟨v,hv,h⟩:=h;refine⟨v,H,h,rfl,λm Hv Ph hh ha=> ?_⟩;cases Ph with
  |nil=>have:=ha.1;simp at this
  |cons a as=>
   obtain⟨z,h1,h2⟩:=iz (g:=V.xL) (λx y z x' y'=>V') hv (ha.2 0 _ a rfl rfl) (ys':=as) ⟨by have:=ha.1;simpa using this,λi a b k1 k2=>ha.2 (i+1) a b (by simpa using k1) (by simpa using k2)⟩;exact⟨z,Hv,by simp[V.builtin,h1],.same hh h2⟩
 ·simp only[aa]at h;obtain⟨v,hv,h⟩:=h;refine⟨v,H,h,rfl,λm Hv Ph hh ha=> ?_⟩;cases Ph with
  |nil=>have:=ha.1;simp at this
  |cons a as=>
   obtain⟨z,h1,h2⟩:=iz (g:=V.vL) (λx y z x' y'=>N') hv (ha.2 0 _ a rfl rfl) (ys':=as) ⟨by have:=ha.1;simpa using this,λi a b k1 k2=>ha.2 (i+1) a b (by simpa using k1) (by simpa using k2)⟩;exact⟨z,Hv,by simp[V.builtin,h1],.same hh h2⟩
 ·simp only[aa]at h;obtain⟨t,ht,h⟩:=h;obtain⟨H',h1,h2,h3⟩:=VF h;refine⟨_,H',h1,h2,λm Hv Ph hh ha=> ?_⟩;obtain⟨a,b,rfl,ha,hb⟩:=ha.two;obtain⟨zd,e1,e2⟩:=h3 m Hv a b hh ha hb;exact⟨.Re [],zd,by simp[V.builtin,ht,e1],m,e2.1,.Re [] [] rfl (λi x a h=>by simp at h),.refl m,e2.2⟩
 ·obtain⟨v,H',h1,h2,h3⟩:=p8 h0;refine⟨v,H',h1,h2,λm Hv Ph hh ha=> ?_⟩;obtain⟨a,b,rfl,ZG,hb⟩:=ha.two;exact h3 m Hv a b hh ZG hb
 ·simp at h
theorem RF.push{F:List (List UV)}{Fv:List (List V.AV)}(h:RF m φ F Fv){row:List UV}{Vb:List V.AV}(hr:RL m row Vb):
  RF m (λi=>if i=F.length then some Fv.length else φ i) (F++[row]) (Fv++[Vb])/\zN φ (λi=>if i=F.length then some Fv.length else φ i):=by
 have hle:zN φ (λi=>if i=F.length then some Fv.length else φ i):=λi j KK=>by
  have:=(h.Ff i j KK).1;simp only;rw[if_neg (by omega)];exact KK
 refine⟨⟨λi j KK=> ?_,λi r hi=> ?_,λi i' j h1 h2=> ?_⟩,hle⟩
 ·split at KK
  ·rename_i e;simp at KK;subst KK;subst e;simp
  ·have:=h.Ff i j KK;simp;omega
 ·rcases Nat.lt_trichotomy i F.length with Mc|heq|hgt
  ·rw[Ja Mc]at hi;obtain⟨j,r',k1,k2,k3⟩:=h.row i r hi;exact⟨j,r',by rw[if_neg (by omega)];exact k1,by rw[Ja (Za k2)];exact k2,k3⟩
  ·subst heq;simp at hi;subst hi;exact⟨Fv.length,Vb,by simp,by simp,hr⟩
  ·rw[Nb (by simp;omega)]at hi;simp at hi
 ·split at h1<;>split at h2
  ·rename_i e1 e2;rw[e1,e2]
  ·simp at h1;subst h1;have:=(h.Ff _ _ h2).2;omega
  ·simp at h2;subst h2;have:=(h.Ff _ _ h1).2;omega
  ·exact h.inj i i' j h1 h2
theorem RS.mono{m':Mp}{wh:Nat->Option Nat}{x:US}{a:V.SV}(h:RS m φ x a)(hm:m.Le m')(hp:zN φ wh):RS m' wh x a:=by
 cases x with
 |v x=>
  cases a with
  |v a=>cases x<;>first|trivial|exact RV.mono hm h
  |loc j c=>cases x<;>first|trivial|exact h.elim
 |loc i c=>
  cases a with
  |v a=>exact h.elim
  |loc j c'=>exact⟨hp i j h.1,h.2⟩
theorem RE.mono{m':Mp}{wh:Nat->Option Nat}{e:List (Nat×US)}{ev:List (Nat×V.SV)}(h:RE m φ e ev)(hm:m.Le m')(hp:zN φ wh):RE m' wh e ev:=λt=>(h t).mono hm hp
theorem RE.cons{e:List (Nat×US)}{ev:List (Nat×V.SV)}(h:RE m φ e ev)(d:Nat){x:US}{a:V.SV}(hx:RS m φ x a):RE m φ ((d,x)::e) ((d,a)::ev):=λt=>by
 simp only[get,V.get];split
 ·exact hx
 ·exact h t
theorem JH{s:St}{t:TypeId}{il:Bool}{cs:List UV}{K:US->St->Option X}(h:boxed s t il cs K=some out):
  ∃v s',K v s'=some out/\s'.base=s.base/\s'.e=s.e/\s'.H.wm=s.H.wm/\∀(m:Mp)(φ:Nat->Option Nat)(sv:V.S)(Ei:List V.AV),xn m φ s sv->RL m cs Ei->∃vv bf m' wh,V.boxed sv t il Ei=some (vv,bf)/\xn m' wh s' bf/\RS m' wh v vv/\m.Le m'/\zN φ wh/\gm m.top m sv.H m' bf.H/\bf.e=sv.e:=by
 unfold boxed at h;split at h
 case isFalse=>simp at h
 rename_i hc;cases il with
 |true=>
  refine⟨_,_,h,rfl,rfl,rfl,λm φ sv Ei hs Kj=> ?_⟩;have hp:=hs.f.push Kj;refine⟨.loc sv.F.length 0,{ sv with F:=sv.F++[Ei] },m,_,by simp[V.boxed,V.box],⟨hs.h,hp.1,hs.e.mono (.refl m) hp.2,hs.b⟩,⟨by simp,rfl⟩,.refl m,hp.2,.refl _ (ya _),rfl⟩
 |false=>
  simp at hc;by_cases hb:t=TB.bT/\pZ cs=true
  ·unfold box at h;simp only[if_pos hb,Xb,if_false]at h;refine⟨_,_,h,rfl,rfl,rfl,λm φ sv Ei hs Kj=> ?_⟩;obtain⟨rfl,hb⟩:=hb;have Yar:cs=[.Hf,.Xa]:=by
    unfold pZ at hb;split at hb
    ·rfl
    ·simp at hb
   subst Yar;obtain⟨a1,l1,rfl,q1,q2⟩:=Kj.To;obtain⟨a2,l2,rfl,q3,q4⟩:=q2.To;have XL:l2=[]:=Gb.1 q4.1;subst XL;cases q1;cases q3;have hp:=hs.h.push (zd:=sv.H) (y:= .Fq .empty) (x:=none) (n:=0) (λ_ _ _ _ _=>rfl) (ya _) rfl (λxv e=>by simp at e) ⟨by rw[Xe];rfl,.inl ⟨rfl,lf _ _ _ _⟩⟩;have PZ:(push s.H (.Fq .empty)).bl.length=s.H.bl.length+1:=by simp[push]
   have gf:=hp.1.new (y:= .Un (.all s.H.bl.length)) (yv:= .cells [[.Hf,.Xa]] 2 (some (TB.bT,2))) (n:=0)
    ⟨_,.Hf,.Xa,lf _ _ _ _,by rw[uf,if_neg (by omega),if_pos rfl],.inl rfl,.Ug _ _ (by rw[PZ];simp only[Mp.add,Mp.Fk];omega) (by rw[PZ,gR _ _ _ (by omega),Xe]) (.inl rfl),by simp⟩
   have g1:gm m.top m sv.H (m.add s.H.bl.length none 0) sv.H:=⟨Gj hs.h _ _,λ_ _ _=>rfl,λb _ xv hb=>by
    by_cases e:b=s.H.bl.length
    ·subst e;obtain⟨_,e⟩:=tn hb;simp at e
    ·rw[Mh _ _ _ e]at hb;exact .inl ⟨b,_,hb⟩,ya _,rfl⟩
   have hle:m.Le ((m.add s.H.bl.length none 0).add (push s.H (.Fq .empty)).bl.length (some sv.H.bl.length) 0):=hp.2.trans gf.2.1;refine⟨.v (.ptr sv.H.bl.length 0 0),{ sv with H:=V.push sv.H (.cells [[.Hf,.Xa]] 2 (some (TB.bT,2))) },_,φ,?_,⟨gf.1,hs.f.mono hle,hs.e.mono hle λ_ _ h=>h,?_⟩,?_,hle,λ_ _ h=>h,g1.trans gf.2.2 (by simp only[Mp.add,Mp.Fk];have:=hs.h.len;omega),rfl⟩
   ·simp[V.boxed,V.box]
   ·have:=hs.b;simp[push];omega
   ·rw[<- PZ];exact RV.ptr _ 0 _ (lf _ _ _ _)
  unfold box at h;simp only[if_neg hb,Xb,if_false]at h;refine⟨_,_,h,rfl,rfl,rfl,λm φ sv Ei hs Kj=> ?_⟩;have gf:=hs.h.new (y:= .Ee cs) (yv:= .cells [Ei] Ei.length (some (t,2))) (n:=0) ⟨_,Ei,_,lf _ _ _ _,by rw[uf,if_neg (by omega),if_pos rfl],Kj.mono (iR hs.h _ _)⟩;refine⟨.v (.ptr sv.H.bl.length 0 0),{ sv with H:=V.push sv.H (.cells [Ei] Ei.length (some (t,2))) },_,φ,?_,⟨gf.1,hs.f.mono gf.2.1,hs.e.mono gf.2.1 λ_ _ h=>h,?_⟩,RV.ptr _ 0 _ (lf _ _ _ _),gf.2.1,λ_ _ h=>h,gf.2.2,rfl⟩
  ·simp only[V.boxed,V.box];have:decide (0<Ei.length)=true:=by simp[Kj.1,hc]
   simp[this]
  ·have:=hs.b;simp[push];omega
end
end Go.U
namespace Go.U
open Go
variable [TB:Uv]
section
variable {A:V.Oi}{Na:Nat->Option (List UV)}{m:Mp}
theorem Wm{fz:V.AH->V.AV->Option (V.AV×V.AH)}{H:V.AH}:∀{l:List V.AV},(∀a∈l,fz H a=some (a,H))->V.Eh fz H l=some (l,H)
 |[],_=>rfl
 |a::l,h=>by
  simp only[V.Eh,h a (Dd ..),da,Wm (l:=l) λb hb=>h b (Rb _ hb)]
theorem Ar{fz:V.AH->V.AV->Option (V.AV×V.AH)}{H:V.AH}:∀{l:List (List V.AV)},(∀row∈l,∀a∈row,fz H a=some (a,H))->V.Ki fz H l=some (l,H)
 |[],_=>rfl
 |a::l,h=>by
  simp only[V.Ki,Wm (h a (Dd ..)),da,Ar (l:=l) λb hb=>h b (Rb _ hb)]
theorem RL.mem{xs:List UV}{as:List V.AV}(h:RL m xs as){a:V.AV}(ha:a∈as):∃x∈xs,RV m x a:=by
 obtain⟨i,hi⟩:=Ve ha;have hx:=Da (l:=xs) (i:=i) (by rw[<- h.1];exact Za hi);exact⟨_,Eb hx,h.2 i _ a hx hi⟩
theorem Bk:∀(d:Nat){x:UV}{a:V.AV},yc d x=true->RV m x a->∀Hv,V.freeze d Hv a=some (a,Hv)
 |0,x,a,h,hx,Hv=>by simp[yc]at h
 |d+1,x,a,h,hx,Hv=>by
  cases hx with
  |Dc=>simp[yc,closed]at h
  |sl=>simp[yc,closed]at h
  |iw=>simp[yc,closed]at h
  |all=>simp[yc,closed]at h
  |Ug=>simp[yc,closed]at h
  |Rt=>simp[yc,closed]at h
  |Dv=>simp[yc,closed]at h
  |Dq=>simp[yc,closed]at h
  |bh _ _ ha=>rcases ha with rfl|rfl<;>rfl
  |agg cs as hl hr=>
   have:V.Eh (V.freeze d) Hv as=some (as,Hv):=Wm λa ha=>by
    obtain⟨x,hx,hv⟩:=RL.mem (m:=m) ⟨hl,hr⟩ ha;exact Bk d (ec.1 (by simpa[yc]using h) x hx) hv Hv
   simp only[V.freeze,this,da]
  |Re cs as hl hr=>
   have:V.Eh (V.freeze d) Hv as=some (as,Hv):=Wm λa ha=>by
    obtain⟨x,hx,hv⟩:=RL.mem (m:=m) ⟨hl,hr⟩ ha;exact Bk d (ec.1 (by simpa[yc]using h) x hx) hv Hv
   simp only[V.freeze,this,da]
  |_=>rfl
def Fz(d:Nat)(x:UV)(H:UH)(x':UV)(H':UH):Prop:=H'.wm=H.wm/\∀(m:Mp)(Hv:V.AH)(a:V.AV),RH m H Hv->RV m x a->∃a' zd,V.freeze d Hv a=some (a',zd)/\Yr m Hv x' H' a' zd
theorem Fz.same{d:Nat}{x:UV}{H:UH}(h:yc d x=true):Fz d x H x H:=⟨rfl,λm Hv a hh hx=>⟨a,Hv,Bk d h hx Hv,.same hh hx⟩⟩
theorem tO{H:UH}{d b:Nat}{c:CT}{x:UV}{l:List (Ib c)}(hd:0<d)(hw:H.wm<=b)(hr:rowsOf H c x=some l)(hx:(∃r n,x= .sl b r n)\/x= .all b):Fz (d+1) x H (.lit c l) (Qa H b .dead):=by
 refine⟨rfl,λm Hv a hh hxa=> ?_⟩;have hb:∃c' l',H.bl[b]?=some (.cells c' l')/\c'=c:=by
  rcases hx with⟨r,n,rfl⟩|rfl
  all_goals
   simp only[rowsOf]at hr;split at hr
   case h_2=>simp at hr
   rename_i c' l' hb;split at hr
   case isFalse=>simp at hr
   rename_i hc;exact⟨c',l',hb,hc⟩
 obtain⟨c',l',hb,rfl⟩:=hb;have hk:=hh.kill b;have Oe:live H b:=⟨_,hb,rfl⟩;obtain⟨rows,k1,k2⟩:=Ii hr hh hxa;obtain⟨kb,kx⟩:=jd (s:=⟨[],[],H,0⟩) (sv:=⟨[],[],Hv⟩) hh hb;have Nal:(a= .Xa\/a= .Ef)->l=[]->∃a' zd,V.freeze (d+1) Hv a=some (a',zd)/\Yr m Hv (.lit c' l) (Qa H b .dead) a' zd:=λha hl=>by
  subst hl;exact⟨a,Hv,by rcases ha with rfl|rfl<;>rfl,m,hk,.bh _ _ ha,.refl m,.refl Hv (ya _)⟩
 have main:∀{xi r n:Nat},m.ι b 0=some xi->a= .sl xi r n->∃a' zd,V.freeze (d+1) Hv a=some (a',zd)/\Yr m Hv (.lit c' l) (Qa H b .dead) a' zd:=λ{xi r n}Cg ha=>by
  subst ha;obtain⟨rws,ty,j2,j3,j4⟩:=kx xi Cg;have bS:Hv.bl[xi]?=some (.cells rws (width c') ty):=j2;have e_:=hh.wm b xi Cg hw;have Vk:∀b' s',live (Qa H b .dead) b'->m.ι b' s'≠some xi:=λb' s' hl e=>by
   rcases Qg hl with⟨_,h'⟩|⟨td,Fg⟩
   ·simp[Me]at h'
   ·exact td (hh.inj b' b xi Fg Oe e Cg)
  have Ae:=hk.other Vk .dead;have k1':V.rowsOf Hv (.sl xi r n)=some rows:=k1;refine⟨.lit (width c') rows,V.Qa Hv xi .dead,?_,m,Ae,k2.lit,.refl m,⟨.refl (ya _),λx Eg hn=>by rw[Cd,if_neg (λe=>hn b 0 (by rw[<- e];exact Cg))],λb' s' x Wd=> .inl ⟨b',s',Wd⟩,by simp[V.Qa],rfl⟩⟩;have cG:V.Ki (V.freeze d) (V.Qa Hv xi .dead) rows=some (rows,V.Qa Hv xi .dead):=Ar λrow De a ha=>by
   obtain⟨i,hi⟩:=Ve De;obtain⟨x,hxm,sZ⟩:=(k2.get hi).mem ha;obtain⟨d',rfl⟩:∃d',d=d'+1:=⟨d-1,by omega⟩;exact Bk _ (jy (Te _ _ _ x hxm)) sZ _
  simp only[V.freeze,k1',da,V.Qk,bS,e_,if_true,cG]
 rcases hx with⟨r,n,rfl⟩|rfl
 ·simp only[rowsOf,hb]at hr;simp at hr;subst hr;cases hxa with
  |sl _ _ _ xi Cg hle=>exact main Cg rfl
  |iw _ _ _ ha=>exact Nal ha (by rw[Ej];simp)
 ·simp only[rowsOf,hb]at hr;simp at hr;subst hr;cases hxa with
  |all _ xi Cg=>exact main Cg rfl
  |Ug _ _ _ hl ha=>exact Nal ha (Gb.1 (by have:m.len b 0=l'.length:=kb;omega))
theorem P0{m:Mp}{c:CT}{d:Nat}:∀{L:List (List (Ib c))}{rows:List (List V.AV)}{Hc:V.AH}{F:Nat->Option Nat},rows.length=L.length->(∀r,r<L.length->∃a,rows[r]?=some [a]/\Jm m Hc (F r) c (L.getD r []) a)->
  (∀r r' y,F r=some y->F r'=some y->r=r')->(∀r y,F r=some y->Hc.wm<=y)->∃Ke Hc',V.Ki (V.freeze (d+2)) Hc rows=some (Ke,Hc')/\Ke.length=L.length/\(∀r Vb,r<L.length->Ke[r]?=some Vb->RL m [.lit c (L.getD r [])] Vb)/\Hc'.bl.length=Hc.bl.length/\Hc'.wm=Hc.wm/\∀x,(∀r,F r≠some x)->Hc'.bl[x]?=Hc.bl[x]?
 |[],rows,Hc,F,hl,_,_,_=>by
  have:rows=[]:=Gb.1 hl;subst this;exact⟨[],Hc,rfl,rfl,λr Vb hr=>by simp at hr,rfl,rfl,λ_ _=>rfl⟩
 |l0::L,[],Hc,F,hl,_,_,_=>by simp at hl
 |l0::L,row::rows,Hc,F,hl,hr,hi,hw=>by
  obtain⟨a,h1,h2⟩:=hr 0 (by simp);simp at h1;subst h1;have h2:Jm m Hc (F 0) c l0 a:=h2;have step:∃a' H1,V.freeze (d+2) Hc a=some (a',H1)/\RV m (.lit c l0) a'/\H1.bl.length=Hc.bl.length/\H1.wm=Hc.wm/\∀x,F 0≠some x->H1.bl[x]?=Hc.bl[x]?:=by
   rcases h2 with⟨k1,k2,k3⟩|⟨y,ry,ty,k1,rfl,k3,k4,k5⟩
   ·have:l0=[]:=Gb.1 k1;subst this;exact⟨a,Hc,by rcases k3 with rfl|rfl<;>rfl,.bh _ _ k3,rfl,rfl,λ_ _=>rfl⟩
   ·have bY:RT m c l0 (ry.take l0.length):= .of (by simp;omega) λi row hi hr=>by
     rw[Jb,if_pos hi]at hr;obtain⟨Vb,j1,j2,j3⟩:=k5.row k4 hi;rw[j1]at hr;simp at hr;subst hr;exact j2
    have hro:V.rowsOf Hc (.sl y 0 l0.length)=some (ry.take l0.length):=by
     simp only[V.rowsOf,k3];rw[if_pos (by omega)];simp
    have cG:V.Ki (V.freeze (d+1)) (V.Qa Hc y .dead) (ry.take l0.length)=some (ry.take l0.length,V.Qa Hc y .dead):=Ar λrow De a ha=>by
     obtain⟨i,hi⟩:=Ve De;obtain⟨x,hxm,sZ⟩:=(bY.get hi).mem ha;exact Bk _ (jy (Te _ _ _ x hxm)) sZ _
    refine⟨.lit (width c) (ry.take l0.length),V.Qa Hc y .dead,?_,bY.lit,by simp[V.Qa],rfl,λx hx=>by rw[Cd,if_neg];rintro rfl;exact hx k1⟩;simp only[V.freeze,hro,da,V.Qk,k3,hw 0 y k1,if_true,cG]
  obtain⟨a',H1,s1,s2,s3,s4,s5⟩:=step;obtain⟨Ke,H2,t1,t2,t3,t4,t5,t6⟩:=P0 (L:=L) (rows:=rows) (Hc:=H1) (F:=λr=>F (r+1)) (d:=d) (by simpa using hl) (λr bj=>by
    obtain⟨a,k1,k2⟩:=hr (r+1) (by simp;omega);refine⟨a,by simpa using k1,?_⟩;have k2:Jm m Hc (F (r+1)) c (L.getD r []) a:=by simpa using k2
    exact k2.keep (λ_ _ _ h=>h) λx hx=>s5 x λe=>by have:=hi _ _ x e hx;omega)
   (λr r' y e e'=>by have:=hi _ _ y e e';omega) (λr y e=>by rw[s4];exact hw _ y e)
  refine⟨[a']::Ke,H2,by simp only[V.Ki,V.Eh,s1,da,t1],by simp[t2],λr Vb bj De=> ?_,by rw[t4,s3],by rw[t5,s4],λx hx=>by rw[t6 x λr=>hx (r+1),s5 x (hx 0)]⟩;cases r with
  |zero=>simp at De;subst De;exact .cons s2 .nil
  |succ r=>have:=t3 r Vb (by simpa using bj) (by simpa using De);simpa using this
theorem nM{H:UH}{d b:Nat}{c:CT}{l:List (List (Ib c))}(hd:1<d)(hw:H.wm<=b)(hb:H.bl[b]?=some (.deep c l)):Fz (d+1) (.all b) H (.lit (.slice c) l) (Qa H b .dead):=by
 refine⟨rfl,λm Hv a hh hxa=> ?_⟩;have hk:=hh.kill b;have Oe:live H b:=⟨_,hb,rfl⟩;obtain⟨k0,k1,kx⟩:=Ie (s:=⟨[],[],H,0⟩) (sv:=⟨[],[],Hv⟩) hh hb;obtain⟨d',rfl⟩:∃d',d=d'+2:=⟨d-2,by omega⟩;cases hxa with
 |Ug _ _ _ hl ha=>
  have:l=[]:=Gb.1 (by rw[<- k0];exact hl);subst this;exact⟨a,Hv,by rcases ha with rfl|rfl<;>rfl,m,hk,.bh _ _ ha,.refl m,.refl Hv (ya _)⟩
 |all _ xi Cg=>
  obtain⟨rws,ty,j2,j3,j4⟩:=kx xi Cg;have bS:Hv.bl[xi]?=some (.cells rws 1 ty):=j2;have e_:=hh.wm b xi Cg hw;have hro:V.rowsOf Hv (.sl xi 0 (m.len b 0))=some (rws.take l.length):=by
   simp only[V.rowsOf,bS];rw[k0,if_pos (by omega)];simp
  have hsx:∀{r y:Nat},m.ι b (r+1)=some y->xi≠y:=λ{r y}e e'=>by subst e';have:=(hh.Ao b b xi Oe Oe Cg e).2;omega
  obtain⟨Ke,H2,t1,t2,t3,t4,t5,t6⟩:=P0 (m:=m) (L:=l) (rows:=rws.take l.length) (Hc:=V.Qa Hv xi .dead) (F:=λr=>m.ι b (r+1)) (d:=d') (by simp;omega) (λr hr=>by
    obtain⟨a,q1,q2⟩:=j4 r hr;exact⟨a,by rw[Jb,if_pos hr];exact q1,q2.keep (λ_ _ _ h=>h) λx hx=>by rw[Cd,if_neg (hsx hx)]⟩)
   (λr r' y e e'=>by have:=(hh.Ao b b y Oe Oe e e').2;omega) (λr y e=>hh.wm b y e hw)
  have bY:RT m (.slice c) l Ke:= .of t2 λi row hi hr=>t3 i row hi hr
  have Ec:∀x,(∀s,m.ι b s≠some x)->H2.bl[x]?=Hv.bl[x]?:=λx hx=>by
   rw[t6 x λr=>hx (r+1),Cd,if_neg (λe=>hx 0 (by rw[<- e];exact Cg))]
  have XL:H2.bl.length=Hv.bl.length:=by rw[t4];simp[V.Qa]
  have hrh:RH m (Qa H b .dead) H2:=hk.alike (λb' s x Fg e=>Ec x λs' e'=>by
   rcases Qg Fg with⟨_,h'⟩|⟨td,Bar⟩
   ·simp[Me]at h'
   ·exact td (hh.inj b' b x Bar Oe e e')) XL t5
  refine⟨.lit 1 Ke,H2,?_,m,hrh,bY.lit,.refl m,⟨.refl (ya _),λx Eg hn=>Ec x (hn b),λb' s' x Wd=> .inl ⟨b',s',Wd⟩,by rw[XL];exact ya _,t5⟩⟩;simp only[V.freeze,hro,da,V.Qk,bS,e_,if_true,t1]
end
section
variable {φ:Nat->Option Nat}{Hv:V.AH}
def Mo(m:Mp)(H H':UH)(Hv:V.AH)(P:Mp->Prop):Prop:=H'.wm=H.wm/\∃m',RH m' H' Hv/\m.Le m'/\gm m.top m Hv m' Hv/\P m'
theorem Mo.same{m:Mp}{H:UH}{P:Mp->Prop}(hh:RH m H Hv)(hp:P m):Mo m H H Hv P:=⟨rfl,m,hh,.refl m,.refl Hv (ya _),hp⟩
theorem Mo.trans{m:Mp}{H H1 H2:UH}{P:Mp->Prop}{Q:Mp->Prop}(h:Mo m H H1 Hv P)(h':∀m1,RH m1 H1 Hv->m.Le m1->P m1->Mo m1 H1 H2 Hv Q):Mo m H H2 Hv Q:=by
 obtain⟨w1,m1,h1,h2,h3,h4⟩:=h;obtain⟨w2,m2,k1,k2,k3,k4⟩:=h' m1 h1 h2 h4;exact⟨w2.trans w1,m2,k1,h2.trans k2,h3.trans k3 h3.Mk.1,k4⟩
theorem Mo.imp{m:Mp}{H H1:UH}{P:Mp->Prop}{Q:Mp->Prop}(h:Mo m H H1 Hv P)(h':∀m1,m.Le m1->P m1->Q m1):Mo m H H1 Hv Q:=by
 obtain⟨w1,m1,h1,h2,h3,h4⟩:=h;exact⟨w1,m1,h1,h2,h3,h' m1 h2 h4⟩
theorem Bw{m:Mp}{H:UH}(hh:RH m H Hv)(c:CT):Mo m H (push H (.cells c [])) Hv λm'=>∀a,a= .Xa\/a= .Ef->RV m' (.all H.bl.length) a:=by
 have hp:=hh.push (zd:=Hv) (y:= .cells c []) (x:=none) (n:=0) (λ_ _ _ _ _=>rfl) (ya _) rfl (λxv e=>by simp at e) ⟨Xe _ _ _ _,.inl ⟨rfl,lf _ _ _ _⟩⟩;refine⟨rfl,_,hp.1,hp.2,⟨Gj hh _ _,λ_ _ _=>rfl,λb _ xv hb=> ?_,ya _,rfl⟩,λa h=> .Ug _ _ (by simp[Mp.add,Mp.Fk]) (Xe _ _ _ _) h⟩;by_cases e:b=H.bl.length
 ·subst e;obtain⟨_,e⟩:=tn hb;simp at e
 ·rw[Mh _ _ _ e]at hb;exact .inl ⟨b,_,hb⟩
end
section
variable {A:V.Oi}{Na:Nat->Option (List UV)}{m:Mp}
theorem lW{v:UV}{H:UH}{v':UV}{H':UH}(h:aP v H=some (v',H')):Fz 8 v H v' H':=by
 unfold aP at h;split at h
 case h_2=>simp at h
 split at h
 case isFalse=>simp at h
 rename_i hw;split at h
 ·rename_i c l hb;simp at h;obtain⟨rfl,rfl⟩:=h;exact tO (by omega) hw (by simp[rowsOf,hb]) (.inr rfl)
 ·rename_i c l hb;simp at h;obtain⟨rfl,rfl⟩:=h;exact nM (by omega) hw hb
 ·simp at h
theorem aO{t:TypeId}{x v:UV}{H H':UH}(h:jj A H t x=some (v,H')):H'.wm=H.wm/\∀(m:Mp)(Hv:V.AH)(x':V.AV),RH m H Hv->RV m x x'->∃a zd,V.jj A t x'=some a/\zd=Hv/\Yr m Hv v H' a zd:=by
 unfold jj at h;split at h
 case h_2=>simp at h
 rename_i e hu;split at h
 case isFalse=>simp at h
 rename_i hz;obtain⟨n,hn⟩:=Option.isSome_iff_exists.1 hz;have go:∀{m:Mp}{Hv:V.AH}(c:CT){x':V.AV},RH m H Hv->(∃a,V.jj A t x'=some a/\(a= .Xa\/a= .Ef))->∃a zd,V.jj A t x'=some a/\zd=Hv/\Yr m Hv (.all H.bl.length) (push H (.cells c [])) a zd:=λ{m Hv}c{x'}hh⟨a,h1,h2⟩=>by
  obtain⟨_,m',k1,k2,k3,k4⟩:=Bw hh c;exact⟨a,Hv,h1,rfl,m',k1,k4 a h2,k2,k3⟩
 have sl:∀x':V.AV,(x'= .Xa\/x'= .Ef\/(∃s r,x'= .lit s r)\/∃b r k,x'= .sl b r k)->∃a,V.jj A t x'=some a/\(a= .Xa\/a= .Ef):=λx' hx=>by
  rcases hx with rfl|rfl|⟨_,_,rfl⟩|⟨_,_,_,rfl⟩<;>simp[V.jj,hu,hn]
 split at h
 ·simp at h;obtain⟨rfl,rfl⟩:=h;exact⟨rfl,λm Hv x' hh hx=>by cases hx;exact⟨.Xa,Hv,by simp[V.jj,hu,hn],rfl,.same hh .Xa⟩⟩
 ·simp at h;obtain⟨rfl,rfl⟩:=h;exact⟨rfl,λm Hv x' hh hx=>by cases hx;exact⟨.Ef,Hv,by simp[V.jj,hu,hn],rfl,.same hh .Ef⟩⟩
 ·simp at h;obtain⟨rfl,rfl⟩:=h;refine⟨rfl,λm Hv x' hh hx=>go _ hh (sl _ ?_)⟩;cases hx with
  |lit=>exact .inr (.inr (.inl ⟨_,_,rfl⟩))
  |bh _ _ ha=>rcases ha with rfl|rfl<;>simp
 ·split at h
  ·simp at h;obtain⟨rfl,rfl⟩:=h;refine⟨rfl,λm Hv x' hh hx=>go _ hh (sl _ ?_)⟩;cases hx with
   |sl=>exact .inr (.inr (.inr ⟨_,_,_,rfl⟩))
   |iw _ _ _ ha=>rcases ha with rfl|rfl<;>simp
  ·simp at h
 ·split at h
  ·simp at h;obtain⟨rfl,rfl⟩:=h;refine⟨rfl,λm Hv x' hh hx=>go _ hh (sl _ ?_)⟩;cases hx with
   |all=>exact .inr (.inr (.inr ⟨_,_,_,rfl⟩))
   |Ug _ _ _ _ ha=>rcases ha with rfl|rfl<;>simp
  ·simp at h
 ·simp at h
theorem eS{m:Mp}{x:UV}{a:V.AV}(h:qZ x=true)(hx:RV m x a):V.qZ a=true:=by
 unfold qZ at h;split at h
 ·cases hx;simpa[V.qZ]using h
 ·simp at h
end
end Go.U
namespace Go.U
open Go
variable [TB:Uv]
def xd(C:V.Callee)(call:(X:Type)->UV->List UV->UH->(UV->UH->Option X)->Option X):Prop:=
 ∀(X:Type)(fv:UV)(args:List UV)(H:UH)(K:UV->UH->Option X)(out:X),call X fv args H K=some out->
  ∃r H',K r H'=some out/\H'.wm=H.wm/\∀(m:Mp)(Hv:V.AH)(o9:V.AV)(Ph:List V.AV),RH m H Hv->RV m fv o9->RL m args Ph->∃r' zd,C o9 Ph Hv=some (r',zd)/\Yr m Hv r H' r' zd
def AN(A:V.Oi)(C:V.Callee)(Ca:List Nat)(s:St)(o:Oper)(v:US)(s':St):Prop:=
 s'.base=s.base/\s'.e=s.e/\s'.H.wm=s.H.wm/\∀(m:Mp)(φ:Nat->Option Nat)(sv:V.S),xn m φ s sv->∃vv bf m' wh,V.op A C Ca sv o=some (vv,bf)/\xn m' wh s' bf/\RS m' wh v vv/\m.Le m'/\zN φ wh/\gm m.top m sv.H m' bf.H/\bf.e=sv.e
section
variable {A:V.Oi}{C:V.Callee}{Na:Nat->Option (List UV)}{Ca:List Nat}{s:St}{o:Oper}{X:Type}{out:X}
theorem zN.refl(φ:Nat->Option Nat):zN φ φ:=λ_ _ h=>h
theorem zN.trans{φ wh fal:Nat->Option Nat}(h:zN φ wh)(h':zN wh fal):zN φ fal:=λi j KK=>h' i j (h i j KK)
theorem AN.slot{v:US}(h:∀(m:Mp)(φ:Nat->Option Nat)(sv:V.S),xn m φ s sv->∃vv,V.op A C Ca sv o=some (vv,sv)/\RS m φ v vv):AN A C Ca s o v s:=
 ⟨rfl,rfl,rfl,λm φ sv hs=>let⟨vv,h1,h2⟩:=h m φ sv hs;⟨vv,sv,m,φ,h1,hs,h2,.refl m,.refl φ,.refl _ (ya _),rfl⟩⟩
theorem AN.pure{v:UV}(h:∀(m:Mp)(φ:Nat->Option Nat)(sv:V.S),xn m φ s sv->∃a,V.op A C Ca sv o=some (.v a,sv)/\RV m v a):AN A C Ca s o (.v v) s:=
 .slot λm φ sv hs=>let⟨a,h1,h2⟩:=h m φ sv hs;⟨.v a,h1,h2.rs⟩
theorem AN.heap{v:UV}{H':UH}(hw:H'.wm=s.H.wm)(h:∀(m:Mp)(φ:Nat->Option Nat)(sv:V.S),xn m φ s sv->∃a zd,V.op A C Ca sv o=some (.v a,{ sv with H:=zd })/\Yr m sv.H v H' a zd):AN A C Ca s o (.v v) { s with H:=H' }:=
 ⟨rfl,rfl,hw,λm φ sv hs=>by
  obtain⟨a,zd,h1,m',h2,h3,h4,h5⟩:=h m φ sv hs;refine⟨.v a,_,m',φ,h1,⟨h2,hs.f.mono h4,hs.e.mono h4 (.refl φ),?_⟩,h3.rs,h4,.refl φ,h5,rfl⟩;have:=h5.Mk.1;have:=h2.len;have:=hs.h.len;have:=hs.b;show s.base<=H'.bl.length;omega⟩
theorem Is{m:Mp}{x:UV}{a:V.AV}{n:Int}(h:toInt x=some n)(hx:RV m x a):V.toInt a=some n:=by
 unfold toInt at h;split at h
 ·cases hx;simpa[V.toInt]using h
 ·simp at h
theorem IC(hg:tf A Na){m:Mp}{φ:Nat->Option Nat}{e:List (Nat×US)}{ev:List (Nat×V.SV)}{x:Option Operand}{n:Option Int}(h:yh Na e x=some n)(he:RE m φ e ev):V.yh A ev x=some n:=by
 cases x with
 |none=>simpa[yh,V.yh]using h
 |some x=>
  simp only[yh,aa]at h;obtain⟨a,ha,h⟩:=h;obtain⟨a',h1,h2⟩:=yd hg ha he;simp only[ja]at h;obtain⟨i,hi,rfl⟩:=h;simp[V.yh,h1,Is hi h2]
theorem mO(hg:tf A Na){env:Env}(hc:xd C env.call){K:US->St->Option X}(h:op A Na env Ca s o K=some out):∃v s',K v s'=some out/\AN A C Ca s o v s':=by
 unfold op at h;split at h
 ·rename_i x ho;simp only[aa]at h;obtain⟨v,hv,h⟩:=h;refine⟨v,s,h,.slot λm φ sv hs=> ?_⟩;obtain⟨vv,h1,h2⟩:=qe hg hv hs.e;exact⟨vv,by simp[V.op,ho,h1],h2⟩
 ·rename_i x ho;simp only[aa]at h;obtain⟨v,hv,h⟩:=h;refine⟨v,s,h,.slot λm φ sv hs=> ?_⟩;obtain⟨vv,h1,h2⟩:=qe hg hv hs.e;exact⟨vv,by simp[V.op,ho,h1],h2⟩
 ·rename_i c a b ho;simp only[aa]at h;obtain⟨cv,YZ,h⟩:=h;split at h
  case h_2=>simp at h
  rename_i p;cases p with
  |true=>
   simp only[cond_true,aa]at h;obtain⟨v,hv,h⟩:=h;refine⟨v,s,h,.slot λm φ sv hs=> ?_⟩;obtain⟨c',h1,h2⟩:=yd hg YZ hs.e;cases h2;obtain⟨vv,h3,h4⟩:=qe hg hv hs.e;exact⟨vv,by simp[V.op,ho,h1,h3],h4⟩
  |false=>
   simp only[cond_false,aa]at h;obtain⟨v,hv,h⟩:=h;refine⟨v,s,h,.slot λm φ sv hs=> ?_⟩;obtain⟨c',h1,h2⟩:=yd hg YZ hs.e;cases h2;obtain⟨vv,h3,h4⟩:=qe hg hv hs.e;exact⟨vv,by simp[V.op,ho,h1,h3],h4⟩
 ·rename_i t ho;simp only[aa]at h;obtain⟨z,hz,h⟩:=h;obtain⟨z',q1,q2,_⟩:=Gq hz;obtain⟨v,s',h1,h2,h3,h4,h5⟩:=JH h;refine⟨v,s',h1,h2,h3,h4,λm φ sv hs=> ?_⟩;obtain⟨vv,bf,m',wh,k1,k2⟩:=h5 m φ sv z' hs (q2 m);exact⟨vv,bf,m',wh,by simp only[V.op,ho,q1,da];exact k1,k2⟩
 ·rename_i x0 x ho;simp only[aa]at h;obtain⟨a,ha,cs,Kj,h⟩:=h;obtain⟨v,s',h1,h2,h3,h4,h5⟩:=JH h;refine⟨v,s',h1,h2,h3,h4,λm φ sv hs=> ?_⟩;obtain⟨a',q1,q2⟩:=yd hg ha hs.e;obtain⟨Ei,q3,q4⟩:=Tt Kj q2;obtain⟨vv,bf,m',wh,k1,k2⟩:=h5 m φ sv Ei hs q4;exact⟨vv,bf,m',wh,by simp only[V.op,ho,q1,q3,da];exact k1,k2⟩
 ·rename_i t ps ho;simp only[aa]at h;obtain⟨l,hl,v,hv,h⟩:=h;refine⟨_,s,h,.pure λm φ sv hs=> ?_⟩;obtain⟨l',h1,h2⟩:=Ps hg hs.e hl;obtain⟨a,h3,h4⟩:=NX hv h2;exact⟨a,by simp[V.op,ho,h1,h3,V.kj],h4⟩
 ·rename_i t n ps ho;simp only[aa]at h;obtain⟨l,hl,⟨v,H'⟩,hv,⟨v2,H2⟩,WX,h⟩:=h;have hw:H'.wm=s.H.wm:=by
   simp only[buildSlice,aa]at hv;obtain⟨_,_,_,_,_,_,hv⟩:=hv;split at hv
   ·split at hv
    ·simp at hv;rw[<- hv.2]
    ·split at hv
     ·rename_i hd;simp at hv;subst hv;unfold YQ at hd;split at hd
      ·split at hd
       ·simp only[aa]at hd;obtain⟨⟨L,H1⟩,h1,hd⟩:=hd;simp at hd;rw[<- hd.2];exact(show(push H1 (UB.deep _ L)).wm=H1.wm from rfl).trans (en h1)
       ·simp at hd
      ·simp at hd
     simp only[aa]at hv;obtain⟨_,_,_,_,hv⟩:=hv;simp at hv;rw[<- hv.2];rfl
   ·simp at hv
  by_cases UL:V.RR Ca o=true
  ·rw[UL,cond_true]at WX;obtain⟨z1,z2⟩:=lW WX;refine⟨_,_,h,.heap (z1.trans hw) λm φ sv hs=> ?_⟩;obtain⟨l',h1,h2⟩:=Ps hg hs.e hl;obtain⟨a,zd,h3,m1,h5,h6,h7,h8⟩:=Pr hv hs.h h2;obtain⟨a',Hv2,e1,m2,e2,e3,e4,e5⟩:=z2 m1 zd a h5 h6;exact⟨a',Hv2,by simp[V.op,ho,h1,h3,V.jo,UL,e1],m2,e2,e3,h7.trans e4,h8.trans e5 h8.Mk.1⟩
  ·have UL:V.RR Ca o=false:=by simpa using UL
   rw[UL,cond_false]at WX;simp at WX;obtain⟨rfl,rfl⟩:=WX;refine⟨_,_,h,.heap hw λm φ sv hs=> ?_⟩;obtain⟨l',h1,h2⟩:=Ps hg hs.e hl;obtain⟨a,zd,h3,h4⟩:=Pr hv hs.h h2;exact⟨a,zd,by simp[V.op,ho,h1,h3,V.jo,UL],h4⟩
 ·rename_i t x ho;simp only[aa]at h;obtain⟨p,hp,v,hv,h⟩:=h;refine⟨_,s,h,.pure λm φ sv hs=> ?_⟩;obtain⟨pv,h1,h2⟩:=qe hg hp hs.e;obtain⟨a,h3,h4⟩:=Ew hv hs.h hs.f h2;exact⟨a,by simp[V.op,ho,h1,h3,V.kj],h4⟩
 ·rename_i t x y ho;simp only[aa]at h;obtain⟨p,hp,a,ha,s',Ec,h⟩:=h;have hb:s'.base=s.base/\s'.e=s.e/\s'.H.wm=s.H.wm/\s.H.bl.length<=s'.H.bl.length:=by
   simp only[store,gH,aa]at Ec;obtain⟨_,_,_,_,Ec⟩:=Ec;split at Ec
   case isFalse=>simp at Ec
   split at Ec
   ·simp only[aa]at Ec;obtain⟨_,_,_,_,Ec⟩:=Ec;simp at Ec;subst Ec;simp
   ·split at Ec
    case h_2=>simp at Ec
    split at Ec
    case isFalse=>simp at Ec
    simp only[aa]at Ec;obtain⟨_,_,Ec⟩:=Ec;simp at Ec;subst Ec;simp[Qa]
   ·split at Ec
    case h_2=>simp at Ec
    split at Ec
    case isFalse=>simp at Ec
    simp only[aa]at Ec;obtain⟨_,_,_,_,Ec⟩:=Ec;simp at Ec;subst Ec;simp[Qa]
   ·split at Ec
    case h_2=>simp at Ec
    split at Ec
    case isFalse=>simp at Ec
    simp only[aa]at Ec;obtain⟨_,_,_,_,Ec⟩:=Ec;simp at Ec;subst Ec;simp[Qa]
   ·simp at Ec
  refine⟨_,s',h,hb.1,hb.2.1,hb.2.2.1,λm φ sv hs=> ?_⟩;obtain⟨pv,h1,h2⟩:=qe hg hp hs.e;obtain⟨a',h3,h4⟩:=yd hg ha hs.e;obtain⟨bf,h5,h6,h7,h8,h9,h10,h11⟩:=ZU Ec hs.h hs.f h2 h4;refine⟨.v .Dc,bf,m,φ,by simp[V.op,ho,h1,h3,h5],⟨h6,h7,by rw[h9,h10];exact hs.e,by have:=hs.b;omega⟩,trivial,.refl m,.refl φ,h8,h10⟩
 ·rename_i x ho;simp only[aa]at h;obtain⟨p,hp,h⟩:=h;have fin:∀{v:US},p=v->K v s=some out->(∀{m:Mp}{φ:Nat->Option Nat}{vv:V.SV},RS m φ v vv->(∃i c,vv= .loc i c)\/(∃b r c,vv= .v (.ptr b r c))\/(∃r,vv= .v (.ee r))\/(∃f cs,vv= .v (.fn f cs))\/∃b,vv= .v (.yl b))->∃v s',K v s'=some out/\AN A C Ca s o v s':=λ{v}hpv hk hv=>by
   subst hpv;refine⟨p,s,hk,.slot λm φ sv hs=> ?_⟩;obtain⟨vv,h1,h2⟩:=qe hg hp hs.e;refine⟨vv,?_,h2⟩;rcases hv h2 with⟨i,c,rfl⟩|⟨b,r,c,rfl⟩|⟨r,rfl⟩|⟨f,cs,rfl⟩|⟨b,rfl⟩<;>simp[V.op,ho,h1]
  split at h
  ·exact fin rfl h λ{m φ vv}hr=>by cases vv with
    |loc i c=>exact .inl ⟨_,_,rfl⟩
    |v a=>exact hr.elim
  ·exact fin rfl h λ{m φ vv}hr=>by obtain⟨a,rfl,hr⟩:=hr.val (by simp);cases hr;exact .inr (.inl ⟨_,_,_,rfl⟩)
  ·exact fin rfl h λ{m φ vv}hr=>by obtain⟨a,rfl,hr⟩:=hr.val (by simp);cases hr;exact .inr (.inl ⟨_,_,_,rfl⟩)
  ·exact fin rfl h λ{m φ vv}hr=>by obtain⟨a,rfl,hr⟩:=hr.val (by simp);cases hr;exact .inr (.inl ⟨_,_,_,rfl⟩)
  ·exact fin rfl h λ{m φ vv}hr=>by obtain⟨a,rfl,hr⟩:=hr.val (by simp);cases hr;exact .inr (.inr (.inl ⟨_,rfl⟩))
  ·exact fin rfl h λ{m φ vv}hr=>by obtain⟨a,rfl,hr⟩:=hr.val (by simp);cases hr;exact .inr (.inr (.inr (.inl ⟨_,_,rfl⟩)))
  ·exact fin rfl h λ{m φ vv}hr=>by obtain⟨a,rfl,hr⟩:=hr.val (by simp);cases hr;exact .inr (.inr (.inr (.inr ⟨_,rfl⟩)))
  ·simp at h
 ·rename_i b t x y z ho;simp only[aa]at h;obtain⟨u,hu,v,hv,h⟩:=h;obtain⟨r,h1,h2⟩:=OX h;refine⟨_,s,h1,.pure λm φ sv hs=> ?_⟩;obtain⟨u',k1,k2⟩:=yd hg hu hs.e;obtain⟨v',k3,k4⟩:=yd hg hv hs.e;obtain⟨a,k5,k6⟩:=h2 m u' v' k2 k4;exact⟨a,by simp[V.op,ho,k1,k3,k5,V.kj],k6⟩
 ·rename_i u t x ho;simp only[aa]at h;obtain⟨v,hv,r,hr,h⟩:=h;refine⟨_,s,h,.pure λm φ sv hs=> ?_⟩;obtain⟨v',k1,k2⟩:=yd hg hv hs.e;obtain⟨a,k3,k4⟩:=vY hr k2;exact⟨a,by simp[V.op,ho,k1,k3,V.kj],k4⟩
 ·rename_i src dst x ho;simp only[aa]at h;obtain⟨v,hv,h⟩:=h;obtain⟨r,H',h1,h2,h3⟩:=lN h;refine⟨_,_,h1,.heap h2 λm φ sv hs=> ?_⟩;obtain⟨v',k1,k2⟩:=yd hg hv hs.e;obtain⟨a,zd,k3,k4⟩:=h3 m sv.H v' hs.h k2;exact⟨a,zd,by simp[V.op,ho,k1,k3,V.jo],k4⟩
 ·rename_i f first Lh ho
  split at h
  case isFalse=>simp at h
  rename_i h0;simp only[aa]at h;obtain⟨l,hl,h⟩:=h;refine⟨_,s,h,.pure λm φ sv hs=> ?_⟩;obtain⟨l',h1,h2⟩:=Jq hg hs.e hl;exact⟨.fn f l',by simp[V.op,ho,h0,h1],.fn f l l' h2.1 h2.2⟩
 ·rename_i t r ho;simp only[aa]at h;obtain⟨_,hr,h⟩:=h;have hvr:∀{m:Mp}{φ:Nat->Option Nat}{sv:V.S},xn m φ s sv->V.op A C Ca sv o=some (.v (.mp sv.H.bl.length),{ sv with H:=V.push sv.H (.map []) }):=λ{m φ sv}hs=>by
   cases r with
   |none=>simp[V.op,ho]
   |some x=>
    simp only at hr;split at hr
    case h_2=>simp at hr
    rename_i kt et hu;simp only[aa,ja]at hr;obtain⟨v,hv,n,hn,_⟩:=hr;obtain⟨v',k1,k2⟩:=yd hg hv hs.e;simp[V.op,ho,hu,k1,Is hn k2]
  split at h
  case h_2=>simp at h
  rename_i kt et _;simp only[aa]at h;obtain⟨k,hk,h⟩:=h;refine⟨_,_,h,.heap rfl λm φ sv hs=>⟨_,_,hvr hs,?_⟩⟩;have hrb:∀{m:Mp}{Hv:V.AH}{b x:Nat},m.ι b 0=some x->Hv.bl[x]?=some (.map [])->RB m Hv b (tI A k et):=λ{m Hv b x}h1 h2=>by
   unfold tI;split
   ·split
    ·exact⟨x,[],h1,h2,trivial⟩
    ·exact⟨x,[],h1,h2,trivial⟩
   ·exact⟨x,[],h1,h2,trivial⟩
  have gf:=hs.h.new (y:=tI A k et) (yv:= .map []) (n:=0) (hrb (lf _ _ _ _) (by rw[uf,if_neg (by omega),if_pos rfl]));exact⟨_,gf.1,.mp _ _ (lf _ _ _ _),gf.2.1,gf.2.2⟩
 ·rename_i t l c ho;simp only[aa]at h;obtain⟨u,hu,v,hv,h⟩:=h;obtain⟨r,H',h1,h2,h3⟩:=XF h;refine⟨_,_,h1,.heap h2 λm φ sv hs=> ?_⟩;obtain⟨u',k1,k2⟩:=yd hg hu hs.e;obtain⟨v',k3,k4⟩:=yd hg hv hs.e;obtain⟨a,zd,k5,k6⟩:=h3 m sv.H u' v' hs.h k2 k4;exact⟨a,zd,by simp[V.op,ho,k1,k3,k5,V.jo],k6⟩
 ·rename_i t x lo hi ho;simp only[aa]at h;obtain⟨v,hv,l,hl,hh,hhh,h⟩:=h;obtain⟨r,h1,h2⟩:=jV h;refine⟨_,s,h1,.pure λm φ sv hs=> ?_⟩;obtain⟨v',k1,k2⟩:=yd hg hv hs.e;obtain⟨a,k3,k4⟩:=h2 m sv.H v' hs.h k2;exact⟨a,by simp[V.op,ho,k1,IC hg hl hs.e,IC hg hhh hs.e,k3,V.kj],k4⟩
 ·rename_i t x hi mx ho;simp only[aa]at h;obtain⟨v,hv,a,ha,b,hb,h⟩:=h;split at h
  case isFalse=>simp at h
  rename_i hc;simp only[Ab]at hc;simp only[aa]at h;obtain⟨⟨r,H'⟩,hr,h⟩:=h;obtain⟨z1,z2⟩:=aO hr;refine⟨_,_,h,.heap z1 λm φ sv hs=> ?_⟩;obtain⟨v',k1,k2⟩:=yd hg hv hs.e;obtain⟨a',k3,k4⟩:=yd hg ha hs.e;obtain⟨b',k5,k6⟩:=yd hg hb hs.e;obtain⟨r',zd,e1,rfl,e2⟩:=z2 m sv.H v' hs.h k2;exact⟨r',sv.H,by simp[V.op,ho,k1,k3,k5,eS hc.1 k4,eS hc.2 k6,e1,V.kj],e2⟩
 ·rename_i t x f ho;simp only[aa]at h;obtain⟨p,hp,fd,dM,n,hn,h⟩:=h;split at h
  case isTrue=>simp at h
  rename_i h0;simp only[aa]at h;obtain⟨v,hv,h⟩:=h;refine⟨v,s,h,.slot λm φ sv hs=> ?_⟩;obtain⟨pv,h1,h2⟩:=qe hg hp hs.e;obtain⟨pv',h3,h4⟩:=lB hv h2;exact⟨pv',by simp[V.op,ho,h1,dM,hn,h0,h3],h4⟩
 ·rename_i t x f ho;simp only[aa]at h;obtain⟨v,hv,h⟩:=h;split at h
  case h_2=>simp at h
  rename_i cs;simp only[aa]at h;obtain⟨fd,dM,r,hr,h⟩:=h;refine⟨_,s,h,.pure λm φ sv hs=> ?_⟩;obtain⟨v',k1,k2⟩:=yd hg hv hs.e;cases k2 with
  |agg _ as hl Gl=>
   obtain⟨a,k3,k4⟩:=Og hr ⟨hl,Gl⟩;exact⟨a,by simp[V.op,ho,k1,dM,k3,V.kj],k4⟩
 ·rename_i t x i ho;simp only[aa]at h;obtain⟨p,hp,n,hn,k,hk,h⟩:=h;obtain⟨v,h1,h2⟩:=YF h;refine⟨v,s,h1,.slot λm φ sv hs=> ?_⟩;obtain⟨pv,k1,k2⟩:=qe hg hp hs.e;obtain⟨n',k3,k4⟩:=yd hg hn hs.e;obtain⟨vv,k5,k6⟩:=h2 m φ sv pv hs.h k2;exact⟨vv,by simp[V.op,ho,k1,k3,Is hk k4,k5],k6⟩
 ·rename_i t x i ho;simp only[aa]at h;obtain⟨v,hv,n,hn,k,hk,h⟩:=h;obtain⟨r,h1,h2⟩:=LV h;refine⟨_,s,h1,.pure λm φ sv hs=> ?_⟩;obtain⟨v',k1,k2⟩:=yd hg hv hs.e;obtain⟨n',k3,k4⟩:=yd hg hn hs.e;obtain⟨a,k5,k6⟩:=h2 m v' k2;exact⟨a,by simp[V.op,ho,k1,k3,Is hk k4,k5,V.kj],k6⟩
 ·rename_i t x i ok ho;simp only[aa]at h;obtain⟨v,hv,k,hk,h⟩:=h;obtain⟨r,h1,h2⟩:=QC h;refine⟨_,s,h1,.pure λm φ sv hs=> ?_⟩;obtain⟨v',k1,k2⟩:=yd hg hv hs.e;obtain⟨n',k3,k4⟩:=yd hg hk hs.e;obtain⟨a,k5,k6⟩:=h2 m sv.H v' n' hs.h k2 k4;exact⟨a,by simp[V.op,ho,k1,k3,k5,V.kj],k6⟩
 ·rename_i t x k y ho;simp only[aa]at h;obtain⟨mv,hm,kv,hk,v,hv,h⟩:=h;obtain⟨H',h1,h2,h3⟩:=ru h;refine⟨_,_,h1,.heap h2 λm φ sv hs=> ?_⟩;obtain⟨m',k1,k2⟩:=yd hg hm hs.e;obtain⟨k',k3,k4⟩:=yd hg hk hs.e;obtain⟨v',k5,k6⟩:=yd hg hv hs.e;obtain⟨zd,k7,k8⟩:=h3 m sv.H m' k' v' hs.h k2 k4 k6;exact⟨.Dc,zd,by simp[V.op,ho,k1,k3,k5,k7],m,k8.1,.Dc _,.refl m,k8.2⟩
 ·rename_i t x k y ho;simp only[aa]at h;obtain⟨mv,hm,kv,hk,v,hv,h⟩:=h;obtain⟨H',h1,h2,h3⟩:=ru h;refine⟨_,_,h1,.heap h2 λm φ sv hs=> ?_⟩;obtain⟨m',k1,k2⟩:=yd hg hm hs.e;obtain⟨k',k3,k4⟩:=yd hg hk hs.e;obtain⟨v',k5,k6⟩:=yd hg hv hs.e;obtain⟨zd,k7,k8⟩:=h3 m sv.H m' k' v' hs.h k2 k4 k6;exact⟨.Dc,zd,by simp[V.op,ho,k1,k3,k5,k7],m,k8.1,.Dc _,.refl m,k8.2⟩
 ·rename_i x i ho;simp only[aa]at h;obtain⟨v,hv,h⟩:=h;split at h
  case h_2=>simp at h
  rename_i vs;simp only[aa]at h;obtain⟨r,hr,h⟩:=h;refine⟨_,s,h,.pure λm φ sv hs=> ?_⟩;obtain⟨v',k1,k2⟩:=yd hg hv hs.e;cases k2 with
  |Re _ as hl Gl=>
   obtain⟨a,k3,k4⟩:=RL.get (m:=m) ⟨hl,Gl⟩ hr;exact⟨a,by simp[V.op,ho,k1,k3],k4⟩
 ·rename_i c ho;simp only[aa]at h;obtain⟨args,ha,h⟩:=h;split at h
  ·rename_i f hf;simp only[aa]at h;obtain⟨g,hgv,h⟩:=h;obtain⟨r,H',h1,h2,h3⟩:=hc X g args s.H _ out h;refine⟨_,_,h1,.heap h2 λm φ sv hs=> ?_⟩;obtain⟨as,k1,k2⟩:=Jq hg hs.e ha;obtain⟨g',k3,k4⟩:=yd hg hgv hs.e;obtain⟨r',zd,k5,k6⟩:=h3 m sv.H g' as hs.h k4 k2;exact⟨r',zd,by simp[V.op,ho,k1,hf,k3,k5,V.jo],k6⟩
  ·rename_i b hb;obtain⟨r,H',h1,h2,h3⟩:=sN h;refine⟨_,_,h1,.heap h2 λm φ sv hs=> ?_⟩;obtain⟨as,k1,k2⟩:=Jq hg hs.e ha;obtain⟨r',zd,k5,k6⟩:=h3 m sv.H as hs.h k2;exact⟨r',zd,by simp[V.op,ho,k1,hb,k5,V.jo],k6⟩
  ·simp at h
 ·simp at h
end
end Go.U
namespace Go.U
open Go
variable [TB:Uv]{rf:Bool}
def STo(step:V.S->Option V.S)(s s':St):Prop:=
 s'.base=s.base/\s'.H.wm=s.H.wm/\∀(m:Mp)(φ:Nat->Option Nat)(sv:V.S),xn m φ s sv->∃bf m' wh,step sv=some bf/\xn m' wh s' bf/\m.Le m'/\zN φ wh/\gm m.top m sv.H m' bf.H
section
variable {A:V.Oi}{C:V.Callee}{Na:Nat->Option (List UV)}{Ca:List Nat}{n:Nat}{s:St}{X:Type}{out:X}
theorem aH{os:Array Oper}{o:Oper}{K:Bool->St->Option X}(h:guard os s o K=some out):
  ∃b s',K b s'=some out/\s'.base=s.base/\s'.H=s.H/\∀(m:Mp)(φ:Nat->Option Nat)(sv:V.S),xn m φ s sv->V.Bf os sv o=some b/\xn m φ s' sv:=by
 unfold guard at h;split at h
 ·rename_i hg;exact⟨true,s,h,rfl,rfl,λm φ sv hs=>⟨by simp[V.Bf,hg],hs⟩⟩
 ·rename_i j want hg;split at h
  case h_2=>simp at h
  rename_i d hd;split at h
  case h_3=>simp at h
  case h_2=>
   rename_i hb;refine⟨false,s,h,rfl,rfl,λm φ sv hs=>⟨?_,hs⟩⟩;have h1:=hs.e d;rw[hb]at h1;obtain⟨a,ha,hr⟩:=RS.val h1 (by simp);cases hr with
   |Re _ as hl _=>
    have:as=[]:=Gb.1 hl;subst this;simp[V.Bf,hg,hd,ha]
  rename_i b hb;have ref:∀{m:Mp}{φ:Nat->Option Nat}{sv:V.S},xn m φ s sv->V.get sv.e d= .v (.bool b)/\xn m φ { s with e:=(d,.v (.bool b))::s.e } sv:=λ{m φ sv}hs=>by
   have h1:=hs.e d;rw[hb]at h1;obtain⟨a,ha,hr⟩:=RS.val h1 (by simp);cases hr;refine⟨ha,hs.h,hs.f,λt=> ?_,hs.b⟩;simp only[get];split
   ·rename_i e;subst e;rw[ha];exact RV.rs (.bool b)
   ·exact hs.e t
  cases b with
  |true=>
   refine⟨want,_,h,rfl,rfl,λm φ sv hs=> ?_⟩;obtain⟨h1,h2⟩:=ref hs;exact⟨by simp[V.Bf,hg,hd,h1],h2⟩
  |false=>
   refine⟨!want,_,h,rfl,rfl,λm φ sv hs=> ?_⟩;obtain⟨h1,h2⟩:=ref hs;exact⟨by simp[V.Bf,hg,hd,h1],h2⟩
theorem ow{d:Option Nat}{v:US}{s':St}(h:put s n d v=some s'):
  s'.base=s.base/\s'.H=s.H/\∀(m:Mp)(φ:Nat->Option Nat)(sv:V.S)(vv:V.SV),xn m φ s sv->RS m φ v vv->∃bf,V.put sv n d vv=some bf/\bf.H=sv.H/\xn m φ s' bf:=by
 unfold put at h;split at h
 ·simp at h;subst h;exact⟨rfl,rfl,λm φ sv vv hs hv=>⟨sv,rfl,rfl,hs⟩⟩
 ·rename_i d;split at h
  case isFalse=>simp at h
  rename_i hd;simp at h;subst h;exact⟨rfl,rfl,λm φ sv vv hs hv=>⟨{ sv with e:=(d,vv)::sv.e },by simp[V.put,hd],rfl,hs.h,hs.f,hs.e.cons d hv,hs.b⟩⟩
theorem YR{m:Mp}{φ:Nat->Option Nat}:RS m φ (.v (.Re [])) (.v (.Re [])):=RV.Re [] [] rfl λi x a h=>by simp at h
theorem pI(hg:tf A Na){env:Env}(hc:xd C env.call){all:Array Oper}:∀{os:List Oper}{s:St}{K:St->Option X},ops A Na env Ca n all os s K=some out->∃s',K s'=some out/\STo (V.ops A C Ca n all os) s s'
 |[],s,K,h=>⟨s,h,rfl,rfl,λm φ sv hs=>⟨sv,m,φ,rfl,hs,.refl m,.refl φ,.refl _ (ya _)⟩⟩
 |o::os,s,K,h=>by
  simp only[ops,Oac,S0]at h;obtain⟨b,s1,h1,h2,h3,h4⟩:=aH h;cases b with
  |true=>
   simp only at h1;obtain⟨v,s2,k1,k2,k3,k4,k5⟩:=mO hg hc h1;simp only[aa]at k1;obtain⟨s3,hp,k1⟩:=k1;obtain⟨p1,p2,p3⟩:=ow hp;obtain⟨s4,q1,q2,q3,q4⟩:=pI hg hc k1;refine⟨s4,q1,by rw[q2,p1,k2,h2],by rw[q3,p2,k4,h3],λm φ sv hs=> ?_⟩;obtain⟨g1,g2⟩:=h4 m φ sv hs;obtain⟨vv,O9,m2,xF,e1,e2,e3,e4,e5,e6,_⟩:=k5 m φ sv g2;obtain⟨QF,e7,e8,e9⟩:=p3 m2 xF O9 vv e2 e3;obtain⟨N9,m4,B9,Cu,CU,lY,p9,GN⟩:=q4 m2 xF QF e9;rw[e8]at GN;exact⟨N9,m4,B9,by simp[V.ops,g1,e1,e7,Cu],CU,e4.trans lY,e5.trans p9,e6.trans GN e6.Mk.1⟩
  |false=>
   simp only[aa]at h1;obtain⟨s3,hp,h1⟩:=h1;obtain⟨p1,p2,p3⟩:=ow hp;obtain⟨s4,q1,q2,q3,q4⟩:=pI hg hc h1;refine⟨s4,q1,by rw[q2,p1,h2],by rw[q3,p2,h3],λm φ sv hs=> ?_⟩;obtain⟨g1,g2⟩:=h4 m φ sv hs;obtain⟨QF,e7,e8,e9⟩:=p3 m φ sv (.v (.Re [])) g2 YR;obtain⟨N9,m4,B9,Cu,CU,lY,p9,GN⟩:=q4 m φ QF e9;rw[e8]at GN;exact⟨N9,m4,B9,by simp[V.ops,g1,e7,Cu],CU,lY,p9,GN⟩
def TR(φ:Nat->Option Nat):V.Yf->V.Yf->Prop
 | .no,.no=>True
 | .heap w,.no=>w=false
 | .heap w,.heap w'=>w=w'
 | .box i w,.box j w'=>φ i=some j/\w=w'
 |_,_=>False
theorem TR.mono{φ wh:Nat->Option Nat}(h:zN φ wh){t t':V.Yf}(ht:TR φ t t'):TR wh t t':=by
 cases t<;>cases t'<;>first|exact ht|exact⟨h _ _ ht.1,ht.2⟩
theorem kA{m:Mp}{φ:Nat->Option Nat}{w:Bool}{p:US}{pv:V.SV}(h:RS m φ p pv)(hn:p≠ .v .Dc):TR φ (Vf w (some p)) (V.Vf w (some pv)):=by
 cases p with
 |loc i c=>
  cases pv with
  |v a=>exact h.elim
  |loc j c'=>exact⟨h.1,rfl⟩
 |v x=>
  obtain⟨a,rfl,hr⟩:=h.val (λe=>hn (by rw[e]));cases hr<;>first|exact(hn rfl).elim|exact rfl|(cases w<;>first|exact rfl|trivial)|skip
  all_goals (rename_i ha;rcases ha with rfl|rfl<;>exact rfl)
theorem Vy{s:St}{t:TypeId}{p:US}{v:UV}(h:load A s t p=some v):p≠ .v .Dc:=by
 rintro rfl;simp[load]at h
theorem WN{s s':St}{t:TypeId}{p:US}{v:UV}(h:store A s t p v=some s'):p≠ .v .Dc:=by
 rintro rfl
 simp only[store,gH,aa]at h;obtain⟨_,_,_,_,h⟩:=h;split at h<;>simp at h
theorem iF{X:Type}{i:Int}{sz:Nat}{K:US->Option X}:∀n j,cases i (λj=>(rh (j * sz) (.v .Dc)).bind K) n j=none
 |0,j=>rfl
 |n+1,j=>by
  have:=iF (i:=i) (sz:=sz) (K:=K) n (j+1);simp only[cases,rh,Option.bind_none]at this ⊢;rw[this];cases decide (i=(j:Int))<;>rfl
theorem wG{e:List (Nat×US)}:∀{l:List Operand}{as:List UV},Pk Na e l=some as->∀a∈as,a≠ .Dc
 |[],as,h,a,ha=>by simp[Pk]at h;subst h;simp at ha
 |x::l,as,h,a,ha=>by
  simp only[Pk,aa]at h;obtain⟨b,hb,l',hl,h⟩:=h;simp at h;subst h;rcases me.1 ha with rfl|ha
  ·exact(sC hb).2
  ·exact wG hl a ha
theorem DG(hg:tf A Na){env:Env}{s0:St}{o:Oper}{q:Bool}{K:US->St->Option X}(h:op A Na env Ca s0 o K=some out)(he:s0.e=s.e):
  ∀(m:Mp)(φ:Nat->Option Nat)(sv:V.S),xn m φ s sv->TR φ (Ud Na Ca s o q) (V.Ud A Ca sv o q):=λm φ sv hs=>by
 rcases o with⟨dst,op',ty,pos,after,gd⟩
 cases op' with
 |load t x=>
  simp only[op,aa]at h;obtain⟨p,hp,v,hv,h⟩:=h;rw[he]at hp;obtain⟨pv,h1,h2⟩:=qe hg hp hs.e;simp only[Ud,V.Ud,hp,h1];exact kA h2 (Vy hv)
 |store t x y=>
  simp only[op,aa]at h;obtain⟨p,hp,a,ha,s',Ec,h⟩:=h;rw[he]at hp;obtain⟨pv,h1,h2⟩:=qe hg hp hs.e;simp only[Ud,V.Ud,hp,h1];exact kA h2 (WN Ec)
 |alloc t=>
  simp only[Ud,V.Ud];split<;>first|trivial|exact rfl
 |box t x=>
  simp only[Ud,V.Ud];split<;>first|trivial|exact rfl
 |call c=>
  rcases c with⟨callee,args,_⟩
  cases callee with
  |builtin b=>
   cases b<;>first|trivial|exact rfl|skip
   simp only[op,aa]at h;obtain⟨l,hl,h⟩:=h;rw[he]at hl;obtain⟨l',h1,h2,h3⟩:=Jq hg hs.e hl;have hj:=wG hl;simp only[Ud,V.Ud,hl,h1];unfold Xh;split
   ·rename_i e;simp at e;subst e;unfold V.Xh;split<;>first|exact rfl|trivial
   ·rename_i td e;simp at e;subst e;have:V.Xh (some l')= .no:=by
     unfold V.Xh;split
     ·rename_i b e;simp at e;subst e
      match l,h2,h3,td,hj with
      |[x],_,h3,td,hj=>
       have:=h3 0 x _ rfl rfl;cases this with
       |mp b'=>exact absurd rfl (td b')
       |Dc=>exact absurd rfl (hj _ (List.mem_singleton.2 rfl))
       |_=>simp_all
      |[],h2,_,_,_=>simp at h2
      |_::_::_,h2,_,_,_=>simp at h2
     ·rfl
     ·rename_i e;simp at e
    rw[this];trivial
   ·rename_i e;simp at e
  |_=>first|trivial|exact rfl
 |indexAddr t x i=>
  simp only[op,aa]at h;obtain⟨p,hp,u,hu,n,hn,h⟩:=h;rw[he]at hp;obtain⟨pv,h1,h2⟩:=qe hg hp hs.e;simp only[Ud,V.Ud,hp,h1];cases p with
  |loc i c=>
   cases pv with
   |v a=>exact h2.elim
   |loc j c'=>exact trivial
  |v x=>
   by_cases hx:x= .Dc
   ·subst hx;unfold indexAddr at h;split at h
    ·simp only[aa]at h;obtain⟨sz,_,h⟩:=h;rw[iF]at h;simp at h
    ·simp at h
    ·simp at h
   ·obtain⟨a,rfl,hr⟩:=h2.val hx;cases hr<;>first|exact(hx rfl).elim|trivial|exact rfl|skip
    all_goals (rename_i ha;rcases ha with rfl|rfl<;>first|trivial|exact rfl)
 |_=>first|trivial|exact rfl
inductive jR(φ:Nat->Option Nat):List V.Yf->List V.Yf->Prop
 |nil:jR φ [] []
 |cons {t t':V.Yf} {l l':List V.Yf}:TR φ t t'->jR φ l l'->jR φ (t::l) (t'::l')
theorem jR.get{φ:Nat->Option Nat}{l l':List V.Yf}(h:jR φ l l'):∀{i:Nat}{t':V.Yf},l'[i]?=some t'->∃t,l[i]?=some t/\TR φ t t':=by
 induction h with
 |nil=>intro i t' hi;simp at hi
 |cons h hs ih=>
  intro i t' hi;cases i with
  |zero=>simp at hi;subst hi;exact⟨_,rfl,h⟩
  |succ i=>simpa using ih (by simpa using hi)
theorem jR.mono{φ wh:Nat->Option Nat}(h:zN φ wh){l l':List V.Yf}(hl:jR φ l l'):jR wh l l':=by
 induction hl with
 |nil=>exact .nil
 |cons h1 _ ih=>exact .cons (h1.mono h) ih
theorem VU{φ:Nat->Option Nat}(hi:∀i i' j,φ i=some j->φ i'=some j->i=i'){b:List Nat}{l l':List V.Yf}(hl:jR φ l l')(h:V.cw b l=true):V.cw b l'=true:=by
 simp only[V.cw,ec,Bool.or_eq_true,Bool.not_eq_true',Prod.forall,List.mem_zipIdx_iff_getElem?]at h ⊢;intro tj' j pS;obtain⟨tj,hj,hrj⟩:=hl.get pS;have hw:tj.writes=tj'.writes:=by
  cases tj<;>cases tj'<;>first|rfl|exact hrj.elim|(have:=hrj;simp only[TR]at this;simp[V.Yf.writes,this])|skip
 rcases h tj j hj with h0|h0
 ·exact .inl (by rw[<- hw];exact h0)
 ·refine .inr λti' i BA=> ?_
  obtain⟨ti,hii,hri⟩:=hl.get BA;have hcf:V.conflict ti tj=false->V.conflict ti' tj'=false:=by
   cases ti' with
   |no=>intro _;cases tj'<;>rfl
   |heap a'=>
    cases tj' with
    |no=>intro _;rfl
    |box j w=>intro _;rfl
    |heap b'=>
     cases ti<;>first|exact hri.elim|skip
     cases tj<;>first|exact hrj.elim|skip
     simp only[TR]at hri hrj;subst hri;subst hrj;exact id
   |box i1 w1=>
    cases tj' with
    |no=>intro _;rfl
    |heap b'=>intro _;rfl
    |box j1 w2=>
     cases ti<;>first|exact hri.elim|skip
     cases tj<;>first|exact hrj.elim|skip
     rename_i a1 v1 a2 v2;simp only[TR]at hri hrj;obtain⟨e1,rfl⟩:=hri;obtain⟨e2,rfl⟩:=hrj;intro h;simp only[V.conflict,Bool.and_eq_false_iff]at h ⊢;rcases h with h|h
     ·refine .inl ?_;rw[beq_eq_false_iff_ne]at h ⊢
      rintro rfl
      exact h (hi _ _ _ e1 e2)
     ·exact .inr h
  rcases h0 ti i hii with h1|h1
  ·exact .inl h1
  ·exact .inr (hcf h1)
theorem RB.bl{m:Mp}{Hv zd:V.AH}{b:Nat}{y:UB}(h:RB m Hv b y)(e:zd.bl=Hv.bl):RB m zd b y:=
 h.keep (.refl m) rfl rfl λ_ _ _ _=>by rw[e]
theorem RH.nal{m:Mp}{H:UH}{Hv:V.AH}(h:RH m H Hv):RH m { H with wm:=H.bl.length } { Hv with wm:=Hv.bl.length }:=
 ⟨h.Ff,λb y hb=>(h.Kf b y hb).bl rfl,h.Ao,λb _ x hb hw=>by have:=(h.Ff b x hb).1;simp only at hw;omega,ya _,h.len⟩
theorem RH.Rae{m m':Mp}{H H':UH}{Hv zd:V.AH}(h:RH m H Hv)(h':RH m' H' zd)(hw:H'.wm=H.bl.length)(ho:PX m.top m m')(hl:Hv.bl.length<=zd.bl.length)(hwv:zd.wm=Hv.bl.length):RH m' { H' with wm:=H.wm } { zd with wm:=Hv.wm }:=
 ⟨h'.Ff,λb y hb=>(h'.Kf b y hb).bl rfl,h'.Ao,λb _ x hb UG=>by
  rcases dc b m.top with Mc|vu
  ·rw[(ho.2 b Mc).1]at hb;exact h.wm b x hb UG
  ·have:=h'.wm b x hb (by rw[hw,<- h.len];exact vu);have:=h.top;show Hv.wm<=x;omega,Db h.top hl,h'.len⟩
def cS:V.Yf->Bool
 | .heap true=>true
 |_=>false
theorem TR.cS{φ:Nat->Option Nat}{t t':V.Yf}(h:TR φ t t'):cS t=cS t':=by
 cases t<;>cases t'<;>first|rfl|exact h.elim|(simp only[TR]at h;subst h;rfl)
theorem WY{env:Env}{t:V.Yf}{o:Oper}{K:US->St->Option X}(h:cS t=false):LR A Na env Ca t s o K=op A Na env Ca { s with H:={ s.H with wm:=s.H.bl.length } } o λv s'=>K v { s' with H:={ s'.H with wm:=s.H.wm } }:=by
 cases t with
 |heap w=>cases w<;>first|rfl|simp[cS]at h
 |_=>rfl
theorem J9{t:V.Yf}{o:Oper}{sv:V.S}(h:cS t=false):V.LR A C Ca t sv o=(V.op A C Ca { sv with H:={ sv.H with wm:=sv.H.bl.length } } o).map λ(v,s')=>(v,{ s' with H:={ s'.H with wm:=sv.H.wm } }):=by
 cases t with
 |heap w=>cases w<;>first|rfl|simp[cS]at h
 |_=>rfl
theorem X9(hg:tf A Na){env:Env}(hc:xd C env.call){o:Oper}{q:Bool}{K:US->St->Option X}(h:LR A Na env Ca (Ud Na Ca s o q) s o K=some out):
  ∃v s',K v s'=some out/\s'.base=s.base/\s'.H.wm=s.H.wm/\∀(m:Mp)(φ:Nat->Option Nat)(sv:V.S),xn m φ s sv->TR φ (Ud Na Ca s o q) (V.Ud A Ca sv o q)/\∃vv bf m' wh,V.LR A C Ca (V.Ud A Ca sv o q) sv o=some (vv,bf)/\xn m' wh s' bf/\RS m' wh v vv/\m.Le m'/\zN φ wh/\gm m.top m sv.H m' bf.H:=by
 cases hw:cS (Ud Na Ca s o q)with
 |true=>
  have ht:Ud Na Ca s o q= .heap true:=by
   revert hw;generalize Ud Na Ca s o q=t;intro hw
   cases t with
   |heap w=>cases w<;>first|rfl|simp[cS]at hw
   |_=>simp[cS]at hw
  rw[ht]at h;have h':op A Na env Ca s o K=some out:=h;obtain⟨v,s',k1,k2,k3,k4,k5⟩:=mO hg hc h';refine⟨v,s',k1,k2,k4,λm φ sv hs=> ?_⟩;have VG:=DG (q:=q) hg h' rfl m φ sv hs;obtain⟨vv,bf,m',wh,e1,e2,e3,e4,e5,e6,_⟩:=k5 m φ sv hs;refine⟨VG,vv,bf,m',wh,?_,e2,e3,e4,e5,e6⟩;have:V.Ud A Ca sv o q= .heap true:=by
   rw[ht]at VG
   revert VG;generalize V.Ud A Ca sv o q=t;intro VG
   cases t<;>first|(exact VG.elim)|(simp only[TR]at VG;rw[<- VG])|(simp[TR]at VG)
  rw[this];exact e1
 |false=>
  rw[WY hw]at h;obtain⟨v,s',k1,k2,k3,k4,k5⟩:=mO hg hc h;refine⟨v,_,k1,k2,rfl,λm φ sv hs=> ?_⟩;have VG:=DG (s:=s) (q:=q) hg h rfl m φ sv hs;have aY:xn m φ { s with H:={ s.H with wm:=s.H.bl.length } } { sv with H:={ sv.H with wm:=sv.H.bl.length } }:=⟨hs.h.nal,hs.f,hs.e,hs.b⟩;obtain⟨vv,bf,m',wh,e1,e2,e3,e4,e5,e6,_⟩:=k5 m φ _ aY;refine⟨VG,vv,{ bf with H:={ bf.H with wm:=sv.H.wm } },m',wh,?_,⟨hs.h.Rae e2.h k4 e6.Mk e6.len e6.wm,e2.f,e2.e,e2.b⟩,e3,e4,e5,⟨e6.Mk,e6.stay,e6.new,e6.len,rfl⟩⟩;rw[J9 (by rw[<- VG.cS];exact hw),e1];rfl
theorem GY{m m':Mp}{v w:UV}{a a':V.AV}(h:HY v w=true)(hv:RV m v a)(hw:RV m' w a'):a=a':=by
 unfold HY at h;split at h
 ·rename_i f f';have:f=f':=by simpa using h
  subst this;cases hv with
  |fn _ _ as hl _=>
   cases hw with
   |fn _ _ Vn Fg _=>
    have e1:as=[]:=Gb.1 hl;have e2:Vn=[]:=Gb.1 Fg;rw[e1,e2]
 ·cases hv;cases hw;rfl
 ·simp at h
theorem sameKey_eq{k k':KT}{i:Zd k}{j:Zd k'}(h:sameKey k k' i j=true):Wi k i=Wi k' j:=by
 cases k with
 |int a=>
  cases k' with
  |int b=>
   have h':(decide (a=b)&&@decide (@Eq Int i j) (Int.instDecidableEq i j))=true:=h;rw[Ab]at h';have h1:=of_decide_eq_true h'.1;have h2:@Eq Int i j:=@of_decide_eq_true _ (Int.instDecidableEq i j) h'.2;show V.AV.int a i=V.AV.int b j;rw[h1,h2]
  |str=>exact absurd h (by intro h;exact Bool.noConfusion h)
 |str=>exact absurd h (by cases k'<;>(intro h;exact Bool.noConfusion h))
theorem IG{m m':Mp}{k k':KT}:∀{es:List (Zd k×UV)}{ie:List (Zd k'×UV)}{x x':List (V.AV×V.AV)},Nu k k' es ie=true->MR k m es x->MR k' m' ie x'->x=x'
 |[],[],[],[],_,_,_=>rfl
 |[],[],[],_::_,_,_,h=>h.elim
 |[],[],_::_,_,_,h,_=>h.elim
 |(i,v)::es,(j,w)::ie,[],_,_,h,_=>h.elim
 |(i,v)::es,(j,w)::ie,_::_,[],_,_,h=>h.elim
 |(i,v)::es,(j,w)::ie,(q,a)::x,(q',a')::x',h,h1,h2=>by
  simp only[Nu,Ab]at h;obtain⟨⟨h3,h4⟩,h5⟩:=h;obtain⟨rfl,k2,_,k4⟩:=h1;obtain⟨rfl,l2,_,l4⟩:=h2;rw[sameKey_eq h3,GY h4 k2 l2,IG h5 k4 l4]
 |[],_::_,_,_,h,_,_=>by simp[Nu]at h
 |_::_,[],_,_,h,_,_=>by simp[Nu]at h
theorem EY{m m':Mp}{v w:UV}{a a':V.AV}(h:FY v w=true)(hm:m.Le m')(hv:RV m v a)(hw:RV m' w a'):a'=a:=by
 unfold FY at h;split at h
 ·rename_i b b';have:b=b':=by simpa using h
  subst this;cases hv with
  |mp _ x hx=>
   cases hw with
   |mp _ y hy=>
    rw[(hm.of b x hx).1]at hy;simp at hy;rw[hy]
 ·rename_i f f';have:f=f':=by simpa using h
  subst this;cases hv with
  |fn _ _ as hl _=>
   cases hw with
   |fn _ _ Vn Fg _=>
    have e1:as=[]:=Gb.1 hl;have e2:Vn=[]:=Gb.1 Fg;rw[e1,e2]
 ·cases hv;cases hw;rfl
 ·cases hv;cases hw;rfl
 ·simp at h
def J8(A:V.Oi)(C:V.Callee)(Ca:List Nat)(m:Mp)(r:Rec)(vr:Oper×List (Nat×V.SV)×V.SV):Prop:=
 ∀(m':Mp)(wh:Nat->Option Nat)(s:St)(sv:V.S),m.Le m'->xn m' wh s sv->iL A s r=true->∃bf,V.op A C Ca { sv with e:=vr.2.1 } vr.1=some (vr.2.2,bf)
inductive uy(A:V.Oi)(C:V.Callee)(Ca:List Nat)(m:Mp):List Rec->List (Oper×List (Nat×V.SV)×V.SV)->Prop
 |nil:uy A C Ca m [] []
 |snoc {rs:List Rec} {uG:List (Oper×List (Nat×V.SV)×V.SV)} {r:Rec} {vr:Oper×List (Nat×V.SV)×V.SV}:uy A C Ca m rs uG->J8 A C Ca m r vr->uy A C Ca m (rs++[r]) (uG++[vr])
theorem J8.mono{m m':Mp}{r:Rec}{vr:Oper×List (Nat×V.SV)×V.SV}(h:J8 A C Ca m r vr)(hm:m.Le m'):J8 A C Ca m' r vr:=λm2 xF s sv h2 hs hr=>h m2 xF s sv (hm.trans h2) hs hr
theorem uy.mono{m m':Mp}{rs:List Rec}{uG:List (Oper×List (Nat×V.SV)×V.SV)}(h:uy A C Ca m rs uG)(hm:m.Le m'):uy A C Ca m' rs uG:=by
 induction h with
 |nil=>exact .nil
 |snoc _ h2 ih=>exact .snoc ih (h2.mono hm)
theorem uy.all{m:Mp}{φ:Nat->Option Nat}{rs:List Rec}{uG:List (Oper×List (Nat×V.SV)×V.SV)}(h:uy A C Ca m rs uG){s:St}{sv:V.S}(hs:xn m φ s sv)(hr:rs.all (iL A s)=true):V.Gh A C Ca uG sv:=by
 induction h with
 |nil=>exact λr hr=>by simp at hr
 |snoc _ h2 ih=>
  simp only[List.all_append,Ab]at hr;intro r hm;rcases jh.1 hm with hm|hm
  ·exact ih hr.1 r hm
  ·simp at hm;subst hm;exact h2 m φ s sv (.refl m) hs (by simpa using hr.2)
theorem vV{m:Mp}{φ:Nat->Option Nat}{sv:V.S}{v:US}{vv:V.SV}(hp:LB s.H.bl.length v=true)(hs:xn m φ s sv)(hv:RS m φ v vv):V.Ms sv.H.bl.length vv=true:=by
 unfold LB at hp;split at hp
 ·obtain⟨a,rfl,hr⟩:=hv.val (by simp);cases hr with
  |mp _ x hx=>exact decide_eq_true (hs.h.Ff _ x hx).2
 ·obtain⟨a,rfl,hr⟩:=hv.val (by simp);cases hr with
  |fn f _ as hl _=>
   have e1:as=[]:=Gb.1 hl;rw[e1];rfl
 ·obtain⟨a,rfl,hr⟩:=hv.val (by simp);cases hr;rfl
 ·obtain⟨a,rfl,hr⟩:=hv.val (by simp);cases hr;rfl
 ·simp at hp
theorem uY{sv bf:V.S}{n:Nat}{d:Option Nat}{v:V.SV}(h:V.put sv n d v=some bf):bf.F=sv.F:=by
 unfold V.put at h;split at h
 ·simp at h;rw[h]
 ·split at h
  ·simp at h;rw[<- h]
  ·simp at h
theorem K9{t:TypeId}{pv:V.AV}{sv bf:V.S}(h:sv.H=bf.H):V.load A sv t (.v pv)=V.load A bf t (.v pv):=by
 unfold V.load;cases pv<;>simp only[h]
theorem aV(hg:tf A Na){env:Env}(hc:xd C env.call){o:Oper}{K:US->St->Option X}(h:op A Na env Ca s o K=some out)(Ec:Xf A Na s o=true):
  ∃v,K v s=some out/\(LB s.H.bl.length v=true->∀r,ER Na s o v=some r->∀(m:Mp)(φ:Nat->Option Nat)(sv:V.S),xn m φ s sv->V.Xf A sv o=true/\∃vv,(∃bf,V.op A C Ca sv o=some (vv,bf))/\RS m φ v vv/\J8 A C Ca m r (o,sv.e,vv)):=by
 unfold Xf at Ec;simp only[Ab]at Ec;obtain⟨xB,Sg⟩:=Ec;have wB:=xB;unfold V.Bl at xB;split at xB
 ·rename_i t x ho;unfold op at h;rw[ho]at h;simp only[aa]at h;obtain⟨p,hp,v,hv,h⟩:=h;refine⟨_,h,λTL r hr m φ sv hs=> ?_⟩;simp only[ho,hp]at Sg;obtain⟨pv,e1,e2⟩:=qe (m:=m) (φ:=φ) hg hp hs.e;obtain⟨a,e3,e4⟩:=Ew hv hs.h hs.f e2;have hpn:=Vy hv;unfold ER at hr;rw[ho]at hr;simp only[hp]at hr;cases p with
  |loc i c=>simp at Sg
  |v p=>
   obtain⟨pa,rfl,e5⟩:=e2.val (λe=>hpn (by rw[e]));simp only[Wc]at hr;subst hr;refine⟨?_,.v a,⟨sv,?_⟩,e4.rs,λm' wh s' bf hm aY Xi=> ?_⟩
   ·unfold V.Xf;rw[wB,ho];simp only[e1,Od];cases e5<;>first|rfl|simp at Sg
   ·unfold V.op;rw[ho];simp only[e1,da,e3];rfl
   ·simp only[iL]at Xi;split at Xi
    case h_2=>simp at Xi
    rename_i a' ZG;obtain⟨y,k1,k2⟩:=Ew (sv:=bf) ZG aY.h aY.f (RV.rs (φ:=wh) (e5.mono hm));have:=EY Xi hm e4 k2;subst this;refine⟨{ bf with e:=sv.e },?_⟩;unfold V.op;rw[ho];simp only[e1,da];have e9:=K9 (A:=A) (t:=t) (pv:=pa) (sv:={ bf with e:=sv.e }) (bf:=bf) rfl;rw[e9,k1];rfl
 ·rename_i t x i ho;unfold op at h;rw[ho]at h;simp only[aa]at h;obtain⟨mv,hm,kv,hk,h⟩:=h;obtain⟨v,h1,h2⟩:=QC h;refine⟨_,h1,λTL r hr m φ sv hs=> ?_⟩;obtain⟨mv',e1,e2⟩:=yd (m:=m) (φ:=φ) hg hm hs.e;obtain⟨kv',e3,e4⟩:=yd (m:=m) (φ:=φ) hg hk hs.e;obtain⟨a,e5,e6⟩:=h2 m sv.H mv' kv' hs.h e2 e4;unfold ER at hr;rw[ho]at hr;simp only[hm]at hr;split at hr
  case h_2=>simp at hr
  rename_i b hb;simp only[Wc]at hb;subst hb;split at hr
  case h_2=>simp at hr
  rename_i kt es Tv;split at hr
  case isFalse=>simp at hr
  simp only[Wc]at hr;subst hr;cases e2 with
  |mp _ xb hx=>
   obtain⟨x1,OQ,q1,q2,q3⟩:=hs.h.Kf b _ Tv;rw[hx]at q1;simp at q1;subst q1;refine⟨?_,.v a,⟨sv,?_⟩,e6.rs,λm' wh s' bf dz aY Xi=> ?_⟩
   ·unfold V.Xf;rw[wB,ho];rfl
   ·unfold V.op;rw[ho];simp only[e1,e3,da,e5];rfl
   ·simp only[iL]at Xi;split at Xi
    case h_2=>simp at Xi
    rename_i kt' ie iM;obtain⟨x2,es2,w1,w2,w3⟩:=aY.h.Kf b _ iM;rw[(dz.of b xb hx).1]at w1;simp at w1;subst w1;have he:OQ=es2:=IG Xi q3 w3;have hl:V.lookup A bf.H t (.mp xb) kv' false=some a:=by
     rw[<- e5];unfold V.lookup V.mapOf;simp only[q2,w2,he]
    refine⟨{ bf with e:=sv.e },?_⟩;unfold V.op;rw[ho];simp only[e1,e3,da,hl];rfl
 ·simp at xB
theorem TY{φ:Nat->Option Nat}{b:List Nat}{i:Nat}{l l':List V.Yf}(hl:jR φ l l')(h:V.wV b i l=true):V.wV b i l'=true:=by
 simp only[V.wV,ec,Bool.or_eq_true,Bool.not_eq_true',Prod.forall,List.mem_zipIdx_iff_getElem?]at h ⊢;intro t' j pS;obtain⟨t,hj,hr⟩:=hl.get pS;have hw:(t.Yc&&t.writes)=(t'.Yc&&t'.writes):=by
  cases t<;>cases t'<;>first|rfl|exact hr.elim|(have:=hr;simp only[TR]at this;simp[V.Yf.writes,V.Yf.Yc,this])
 rcases h t j hj with h0|h0
 ·exact .inl (by rw[<- hw];exact h0)
 ·exact .inr h0
theorem jR.snoc{φ:Nat->Option Nat}{l l':List V.Yf}{t t':V.Yf}(h:jR φ l l')(ht:TR φ t t'):jR φ (l++[t]) (l'++[t']):=by
 induction h with
 |nil=>exact .cons ht .nil
 |cons h1 _ ih=>exact .cons h1 ih
theorem xA(hg:tf A Na){env:Env}{o:Oper}{K:US->St->Option X}{s0:St}(h:op A Na env Ca s0 o K=some out)(he:s0.e=s.e)(Ec:Xf A Na s o=false){m:Mp}{φ:Nat->Option Nat}{sv:V.S}(hs:xn m φ s sv):V.Xf A sv o=false:=by
 unfold Xf at Ec;unfold V.Xf;cases h0:V.Bl A o with
 |false=>rfl
 |true=>
  rw[h0,Od]at Ec;rw[Od];split at Ec
  ·rename_i t x ho;unfold op at h;rw[ho]at h;simp only[aa]at h;obtain⟨p,hp,v,hv,h⟩:=h;rw[he]at hp;obtain⟨pv,e1,e2⟩:=qe (m:=m) (φ:=φ) hg hp hs.e;have hpn:=Vy hv;simp only[hp]at Ec;simp only[ho,e1];cases p with
   |loc i c=>
    cases pv with
    |v a=>exact e2.elim
    |loc j c'=>rfl
   |v p=>
    obtain⟨pa,rfl,e5⟩:=e2.val (λe=>hpn (by rw[e]));cases e5<;>first|(exact(hpn rfl).elim)|rfl|(simp at Ec;done)|skip
    all_goals (rename_i ha;rcases ha with rfl|rfl<;>rfl)
  ·simp at Ec
theorem xw(hg:tf A Na){env:Env}(hc:xd C env.call){all:Array Oper}{b:List Nat}:∀{os:List Oper}{i:Nat}{s:St}{l:List V.Yf}{rs:List Rec}{K:St->List V.Yf->Option X},Dl A Na env Ca n all b os i s l rs K=some out->
  ∃s' l1,K s' (l++l1)=some out/\s'.base=s.base/\s'.H.wm=s.H.wm/\∀(m:Mp)(φ:Nat->Option Nat)(sv:V.S)(lv:List V.Yf)(uG:List (Oper×List (Nat×V.SV)×V.SV)),xn m φ s sv->jR φ l lv->uy A C Ca m rs uG->V.Gh A C Ca uG sv->∃bf m' wh c_,V.Dl A C Ca n all b os i sv lv uG=some (bf,lv++c_)/\xn m' wh s' bf/\m.Le m'/\zN φ wh/\gm m.top m sv.H m' bf.H/\jR wh l1 c_
 |[],i,s,l,rs,K,h=>⟨s,[],by simpa[Dl]using h,rfl,rfl,λm φ sv lv uG hs _ _ _=>⟨sv,m,φ,[],by simp[V.Dl],hs,.refl m,.refl φ,.refl _ (ya _),.nil⟩⟩
 |o::os,i,s,l,rs,K,h=>by
  simp only[Dl,Oac,S0]at h;obtain⟨g,s1,h1,h2,h3,h4⟩:=aH h;cases g with
  |true=>
   simp only at h1;split at h1
   ·rename_i Ji;obtain⟨v,k1,k2⟩:=aV (C:=C) hg hc h1 Ji;split at k1
    case isFalse=>simp at k1
    rename_i TL;simp only[Ab]at TL;simp only[aa]at k1;obtain⟨r,hr,s3,hp,k1⟩:=k1;obtain⟨p1,p2,p3⟩:=ow hp;obtain⟨s4,l1,q1,q2,q3,q4⟩:=xw hg hc k1;refine⟨s4,.no::l1,by rw[Je]at q1;exact q1,by rw[q2,p1,h2],by rw[q3,p2,h3],λm φ sv lv uG hs W8 SL qj=> ?_⟩;obtain⟨g1,g2⟩:=h4 m φ sv hs;obtain⟨f1,vv,⟨svx,f2⟩,f3,f5⟩:=k2 TL.1 r hr m φ sv g2;have f4:=vV TL.1 g2 f3;obtain⟨QF,e7,e8,e9⟩:=p3 m φ sv vv g2 f3;have xZ:QF.F=sv.F:=(uY e7);have GA:V.Gh A C Ca (uG++[(o,sv.e,vv)]) QF:=λr hr=>by
     have e:∀e',({ QF with e:=e' }:V.S)={ sv with e:=e' }:=λe'=>by
      obtain⟨a1,a2,a3⟩:=QF;obtain⟨b1,b2,b3⟩:=sv;simp only at e8 xZ;subst e8;subst xZ;rfl
     rw[e];rcases jh.1 hr with hr|hr
     ·exact qj r hr
     ·simp at hr;subst hr;exact⟨svx,f2⟩
    obtain⟨N9,m4,B9,c_,Cu,CU,lY,p9,GN,e15⟩:=q4 m φ QF (lv++[.no]) _ e9 (W8.snoc (show TR _ .no .no from trivial)) (.snoc SL f5) GA;rw[e8]at GN;refine⟨N9,m4,B9,.no::c_,?_,CU,lY,p9,GN,.cons trivial e15⟩;simp only[V.Dl,g1,da,f1,if_true,f2,f4,TY W8 TL.2,Od,e7,if_pos GA,Cu]
    simp
   ·rename_i Ji;have dG:=h1;obtain⟨v,s2,k1,k2,k4,k5⟩:=X9 hg hc h1;simp only[aa]at k1;obtain⟨s3,hp,k1⟩:=k1;split at k1
    case isFalse=>simp at k1
    rename_i Lw;obtain⟨p1,p2,p3⟩:=ow hp;obtain⟨s4,l1,q1,q2,q3,q4⟩:=xw hg hc k1;refine⟨s4,Ud Na Ca s1 o (V.quietAt A Ca all.toList b i o)::l1,by rw[Je]at q1;exact q1,by rw[q2,p1,k2,h2],by rw[q3,p2,k4,h3],λm φ sv lv uG hs W8 SL qj=> ?_⟩;obtain⟨g1,g2⟩:=h4 m φ sv hs;obtain⟨VG,vv,O9,m2,xF,e1,e2,e3,e4,e5,e6⟩:=k5 m φ sv g2;obtain⟨QF,e7,e8,e9⟩:=p3 m2 xF O9 vv e2 e3;have GA:=(SL.mono e4).all e9 Lw;obtain⟨N9,m4,B9,c_,Cu,CU,lY,p9,GN,e15⟩:=q4 m2 xF QF (lv++[V.Ud A Ca sv o (V.quietAt A Ca all.toList b i o)]) uG e9 ((W8.mono e5).snoc (VG.mono e5)) (SL.mono e4) GA;rw[e8]at GN;refine⟨N9,m4,B9,_::c_,?_,CU,e4.trans lY,e5.trans p9,e6.trans GN e6.Mk.1,.cons (VG.mono (e5.trans p9)) e15⟩;have GO:V.Xf A sv o=false:=by
     have hf:Xf A Na s1 o=false:=by simpa using Ji
     cases hw:cS (Ud Na Ca s1 o (V.quietAt A Ca all.toList b i o))with
     |true=>
      revert dG
      generalize Ud Na Ca s1 o (V.quietAt A Ca all.toList b i o)=t at hw;intro dG;cases t with
      |heap w=>
       cases w with
       |true=>simp only[LR]at dG;exact xA (s:=s1) (env:=env) hg dG rfl hf g2
       |false=>simp[cS]at hw
      |_=>simp[cS]at hw
     |false=>rw[WY hw]at dG;exact xA (s:=s1) hg dG rfl hf g2
    simp only[V.Dl,g1,da,GO,Xb,if_false,e1,e7,if_pos GA,Cu]
    simp
  |false=>
   simp only[aa]at h1;obtain⟨s3,hp,h1⟩:=h1;obtain⟨p1,p2,p3⟩:=ow hp;obtain⟨s4,l1,q1,q2,q3,q4⟩:=xw hg hc h1;refine⟨s4,.no::l1,by rw[Je]at q1;exact q1,by rw[q2,p1,h2],by rw[q3,p2,h3],λm φ sv lv uG hs W8 SL qj=> ?_⟩;obtain⟨g1,g2⟩:=h4 m φ sv hs;obtain⟨QF,e7,e8,e9⟩:=p3 m φ sv (.v (.Re [])) g2 YR;have xZ:QF.F=sv.F:=(uY e7);have GA:V.Gh A C Ca uG QF:=λr hr=>by
    have e:∀e',({ QF with e:=e' }:V.S)={ sv with e:=e' }:=λe'=>by
     obtain⟨a1,a2,a3⟩:=QF;obtain⟨b1,b2,b3⟩:=sv;simp only at e8 xZ;subst e8;subst xZ;rfl
    rw[e];exact qj r hr
   obtain⟨N9,m4,B9,c_,Cu,CU,lY,p9,GN,e15⟩:=q4 m φ QF (lv++[.no]) uG e9 (W8.snoc (show TR _ .no .no from trivial)) SL GA;rw[e8]at GN;refine⟨N9,m4,B9,.no::c_,?_,CU,lY,p9,GN,.cons trivial e15⟩;simp only[V.Dl,g1,da,e7,if_pos GA,Cu]
   simp
theorem gO(hg:tf A Na){env:Env}(hc:xd C env.call){os:Array Oper}{draw:Bool}{K:St->Option X}(h:region A Na env Ca n os draw s K=some out):∃s',K s'=some out/\STo (V.region A C Ca n os draw) s s':=by
 unfold region at h;split at h
 ·rename_i hd;split at h
  case isFalse=>simp at h
  rename_i hsl;obtain⟨s',l1,h1,h2,h3,h4⟩:=xw hg hc h;rw[List.nil_append]at h1;split at h1
  case isFalse=>simp at h1
  rename_i VG;refine⟨s',h1,h2,h3,λm φ sv hs=> ?_⟩;obtain⟨bf,m',wh,c_,e1,e2,e3,e4,e5,e6⟩:=h4 m φ sv [] [] hs .nil .nil (λr hr=>by simp at hr);have:=VU e2.f.inj e6 VG;refine⟨bf,m',wh,?_,e2,e3,e4,e5⟩;unfold V.region;rw[if_pos hd,if_pos hsl,e1];simp[this]
 ·rename_i hd;obtain⟨s',h1,h2⟩:=pI hg hc h;refine⟨s',h1,h2.1,h2.2.1,λm φ sv hs=> ?_⟩;unfold V.region;rw[if_neg hd];exact h2.2.2 m φ sv hs
def OU(run:V.S->Option (V.Ex×V.S))(s:St)(ex:V.Ex)(s':St):Prop:=
 s'.base=s.base/\s'.H.wm=s.H.wm/\∀(m:Mp)(φ:Nat->Option Nat)(sv:V.S),xn m φ s sv->∃bf m' wh,run sv=some (ex,bf)/\xn m' wh s' bf/\gm s.base m sv.H m' bf.H
def loops(j:Nat->Bool):Code->List Code
 | .seq a b=>loops j a++loops j b
 | .region id os d=>cond (j (2000000+id)) [.region id os d] []
 | .cond c a b=>cond (j (1000000+Wf a)) [.cond c a b] (loops j a++loops j b)
 | .block _ c=>loops j c
 | .scope c=>loops j c
 | .loop c=>[.loop c]
 | .rangeFunc g ps a b=>[.rangeFunc g ps a b]
 |_=>[]
def keyOf:Code->Nat
 | .loop c=>Wf c
 | .region id _ _=>2000000+id
 | .cond _ a _=>1000000+Wf a
 |c=>Wf c
def od(BF:(X:Type)->Nat->St->(V.Ex->St->Option X)->Option X)(run:Code->V.S->Option (V.Ex×V.S))(c:Code):Prop:=
 ∀(X:Type)(s:St)(K:V.Ex->St->Option X)(out:X),BF X (keyOf c) s K=some out->∃ex s',K ex s'=some out/\OU (run c) s ex s'
theorem OU.same{run:V.S->Option (V.Ex×V.S)}{ex:V.Ex}(h:∀sv,run sv=some (ex,sv)):OU run s ex s:=
 ⟨rfl,rfl,λm φ sv hs=>⟨sv,m,φ,h sv,hs,.refl _ (by rw[hs.h.len];exact hs.b)⟩⟩
theorem OU.trans{f g k:V.S->Option (V.Ex×V.S)}{s s1 s2:St}{ex ex1:V.Ex}(h:OU f s ex s1)(h':OU g s1 ex1 s2)(hk:∀sv bf,f sv=some (ex,bf)->k sv=g bf):OU k s ex1 s2:=
 ⟨h'.1.trans h.1,h'.2.1.trans h.2.1,λm φ sv hs=>by
  obtain⟨jm,m1,NF,h1,h2,h3⟩:=h.2.2 m φ sv hs;obtain⟨O9,m2,xF,k1,k2,k3⟩:=h'.2.2 m1 NF jm h2;rw[h.1]at k3;exact⟨O9,m2,xF,by rw[hk sv jm h1];exact k1,k2,h3.trans k3 (ya _)⟩⟩
theorem OU.map{f k:V.S->Option (V.Ex×V.S)}{s s1:St}{ex ex1:V.Ex}(h:OU f s ex s1)(hk:∀sv bf,f sv=some (ex,bf)->k sv=some (ex1,bf)):OU k s ex1 s1:=
 ⟨h.1,h.2.1,λm φ sv hs=>let⟨jm,m1,NF,h1,h2,h3⟩:=h.2.2 m φ sv hs;⟨jm,m1,NF,hk _ _ h1,h2,h3⟩⟩
theorem bO{c:Operand}{b:Bool}(hc:val Na s.e c=some (.bool b)):(Lu s c b).base=s.base/\(Lu s c b).H=s.H/\∀(m:Mp)(φ:Nat->Option Nat)(sv:V.S),xn m φ s sv->xn m φ (Lu s c b) sv:=by
 unfold Lu;split
 ·rename_i t;refine⟨rfl,rfl,λm φ sv hs=>⟨hs.h,hs.f,λt'=> ?_,hs.b⟩⟩;simp only[get];split
  ·rename_i e;subst e;have h1:=(sC hc).1;simp[operand]at h1;have:=hs.e t';rw[h1]at this;exact this
  ·exact hs.e t'
 ·exact⟨rfl,rfl,λm φ sv hs=>hs⟩
theorem Tg(hg:tf A Na){env:Env}(hc:xd C env.call){keep:List Nat}:∀{c:Code}{s:St}{K:V.Ex->St->Option X},(∀c'∈loops env.join c,od env.loop (V.code A C rf Ca keep n) c')->code A Na env Ca n c s K=some out->∃ex s',K ex s'=some out/\OU (V.code A C rf Ca keep n c) s ex s'
 | .skip,s,K,_,h=>⟨.normal,s,h,.same λ_=>rfl⟩
 | .label _,s,K,_,h=>⟨.normal,s,h,.same λ_=>rfl⟩
 | .exit id,s,K,_,h=>⟨.exit id,s,h,.same λ_=>rfl⟩
 | .ret,s,K,_,h=>⟨.ret,s,h,.same λ_=>rfl⟩
 | .region id os draw,s,K,hl,h=>by
  simp only[code]at h;cases hj:env.join (2000000+id)with
  |true=>
   rw[hj]at h;exact hl (.region id os draw) (by simp[loops,hj]) X s K out h
  |false=>
  rw[hj]at h;simp only[cond_false]at h;obtain⟨s',h1,h2⟩:=gO hg hc h;refine⟨.normal,s',h1,h2.1,h2.2.1,λm φ sv hs=> ?_⟩;obtain⟨bf,m',wh,e1,e2,e3,e4,e5⟩:=h2.2.2 m φ sv hs;exact⟨bf,m',wh,by simp[V.code,e1],e2,e5.less (by rw[hs.h.len];exact hs.b)⟩
 | .seq a b,s,K,hl,h=>by
  simp only[code]at h;obtain⟨ex,s1,h1,h2⟩:=Tg hg hc (λc' Gn=>hl c' (by simp[loops,Gn])) h;cases ex with
  |normal=>
   simp only at h1;obtain⟨oK,s2,k1,k2⟩:=Tg hg hc (λc' Gn=>hl c' (by simp[loops,Gn])) h1;exact⟨oK,s2,k1,h2.trans k2 λsv bf e=>by simp[V.code,e]⟩
  |exit id=>exact⟨.exit id,s1,h1,h2.map λsv bf e=>by simp[V.code,e]⟩
  |ret=>exact⟨.ret,s1,h1,h2.map λsv bf e=>by simp[V.code,e]⟩
 | .cond c x y,s,K,hl,h=>by
  simp only[code]at h;cases hj:env.join (1000000+Wf x)with
  |true=>
   rw[hj]at h;exact hl (.cond c x y) (by simp[loops,hj]) X s K out h
  |false=>
  rw[hj]at h;simp only[cond_false,aa]at h;have hl:∀c'∈loops env.join x++loops env.join y,od env.loop (V.code A C rf Ca keep n) c':=λc' Gn=>hl c' (by simp only[loops,hj,cond_false];exact Gn)
  obtain⟨cv,YZ,h⟩:=h;split at h
  case h_2=>simp at h
  rename_i b;have key:∀{z:Code}{ex:V.Ex}{s':St},OU (V.code A C rf Ca keep n z) (Lu s c b) ex s'->(∀sv,V.val A sv.e c=some (.bool b)->V.code A C rf Ca keep n (.cond c x y) sv=V.code A C rf Ca keep n z sv)->OU (V.code A C rf Ca keep n (.cond c x y)) s ex s':=λ{z ex s'}h1 h2=>by
   obtain⟨q1,q2,q3⟩:=bO YZ;refine⟨h1.1.trans q1,h1.2.1.trans (by rw[q2]),λm φ sv hs=> ?_⟩;obtain⟨cv',e1,e2⟩:=yd hg YZ hs.e;cases e2;obtain⟨bf,m',wh,k1,k2,k3⟩:=h1.2.2 m φ sv (q3 m φ sv hs);rw[q1]at k3;exact⟨bf,m',wh,by rw[h2 sv e1];exact k1,k2,k3⟩
  cases b with
  |true=>
   simp only[cond_true]at h;obtain⟨ex,s1,h1,h2⟩:=Tg hg hc (λc' Gn=>hl c' (by simp[Gn])) h;exact⟨ex,s1,h1,key h2 λsv e=>by simp[V.code,e]⟩
  |false=>
   simp only[cond_false]at h;obtain⟨ex,s1,h1,h2⟩:=Tg hg hc (λc' Gn=>hl c' (by simp[Gn])) h;exact⟨ex,s1,h1,key h2 λsv e=>by simp[V.code,e]⟩
 | .block id c,s,K,hl,h=>by
  simp only[code]at h;obtain⟨ex,s1,h1,h2⟩:=Tg hg hc (λc' Gn=>hl c' (by simpa[loops]using Gn)) h;cases ex with
  |normal=>exact⟨.normal,s1,h1,h2.map λsv bf e=>by simp[V.code,e]⟩
  |ret=>exact⟨.ret,s1,h1,h2.map λsv bf e=>by simp[V.code,e]⟩
  |exit CF=>
   simp only at h1;split at h1
   ·rename_i hid;exact⟨.normal,s1,h1,h2.map λsv bf e=>by simp[V.code,e,hid]⟩
   ·rename_i hid;exact⟨.exit CF,s1,h1,h2.map λsv bf e=>by simp[V.code,e,hid]⟩
 | .loop c,s,K,hl,h=>by
  simp only[code]at h;exact hl (.loop c) (by simp[loops]) X s K out h
 | .rangeFunc g ps a b,s,K,hl,h=>by
  simp only[code]at h;exact hl (.rangeFunc g ps a b) (by simp[loops]) X s K out h
 | .scope c,s,K,hl,h=>by
  simp only[code]at h;obtain⟨ex,s1,h1,h2⟩:=Tg hg hc (λc' Gn=>hl c' (by simpa[loops]using Gn)) h;exact⟨ex,s1,h1,h2.map λsv bf e=>by simp[V.code,e]⟩
 | .goto _,s,K,_,h=>by simp[code]at h
 | .refuse _,s,K,_,h=>by simp[code]at h
end
end Go.U
