/- A second evaluator, over rows of Lean values, and that it is right over the first. -/
import Derived.Test.YtjenflkegbmkkaaGreatDoorB1
set_option linter.unusedVariables false
set_option linter.unusedSimpArgs false
set_option linter.unusedSectionVars false
open Bool renaming and_eq_true→Na,false_eq_true→Jd,or_eq_true→Pf,and_eq_false_iff→Lt,true_and→Vp
open List renaming take_length→Hf,map_cons→Ld,length_map→Oc,all_eq_true→ic,getElem?_take→Cb,getElem?_append_left→La,getElem?_append_right→Qa,getElem?_drop→Ec,mem_of_getElem?→Db,getElem?_eq_none→Ab,length_eq_zero_iff→Ja,mem_cons_self→Fc,mem_cons_of_mem→Ib,getElem?_of_mem→je,getElem?_eq_getElem→Aa,mem_cons→Vb,mem_append→Kk,append_assoc→td
open Nat renaming zero_add→Qe,le_refl→va,lt_or_ge→Ub,le_trans→Gb
open Nat.succ renaming inj→yE
open Option renaming bind_some→ga,bind_eq_some_iff→aa,map_eq_some_iff→ia,map_some→Mc
open Option.some renaming injEq→zc
namespace Go.U
open Go
variable [TB:ZC]
section
variable {A:V.Eh}{Ra:Nat->Option (List UV)}{m:Mp}{φ:Nat->Option Nat}{H H':UH}{Hv:V.AH}{X:Type}{out:X}
theorem Qk{e:TypeId}{t:TypeId}{lo hi:Option Int}{x':V.AV}{k:Nat}(hu:A.P.underlying t=some (.slice e))(hz:V.size A e=some k)(hx:x'= .Ya\/x'= .Pd)(h:0<=lo.getD 0/\lo.getD 0<=hi.getD ((0:Nat):Int)/\hi.getD ((0:Nat):Int)<=((0:Nat):Int)):V.slice A Hv t x' lo hi=some x':=by
 rcases hx with rfl|rfl<;>simp only[V.slice,hu,hz,ga,V.oO]<;>rw[if_pos h]<;>simp
theorem HR{t:TypeId}{x:UV}{lo hi:Option Int}{K:UV->Option X}(h:slice A H t x lo hi K=some out):
  ∃v,K v=some out/\∀(m:Mp)(Hv:V.AH)(x':V.AV),RH m H Hv->RV m x x'->∃a,V.slice A Hv t x' lo hi=some a/\RV m v a:=by
 unfold slice at h;split at h
 ·rename_i s hu;obtain⟨h0,h⟩:=Ad h;simp only[Na,decide_eq_true_eq]at h0;refine⟨_,h,fun m Hv x' hh hx=> ?_⟩;cases hx with
  |str=>
   refine⟨_,?_,.str _⟩;simp only[V.slice,hu,V.oO];rw[if_pos ⟨h0.1.1,h0.1.2,h0.2⟩];rfl
 ·rename_i e c l hu;split at h
  case isFalse=>simp at h
  rename_i hz;split at h
  ·obtain⟨h0,h⟩:=Ad h;simp only[Na,decide_eq_true_eq]at h0;refine⟨_,h,fun m Hv x' hh hx=> ?_⟩;cases hx with
   |lit _ _ rows h1 h2 h3=>
    have kV:RT m c l rows:=⟨h1,fun i _=>⟨Af _ _ _,Vd _ _ _⟩,fun i row _=>h2 i row,fun i row k x a _=>h3 i row k x a⟩;refine⟨.lit (width c) ((rows.take rows.length).drop (lo.getD 0).toNat),?_,?_⟩
    ·simp only[V.slice,hu,V.oO];rw[if_pos ⟨h0.1,by rw[h1];simpa using h0.2,by simp⟩];simp[hz]
    ·rw[Hf];exact(kV.drop _).lit
   |ri _ a ha=>
    refine⟨x',Qk hu hz ha ⟨h0.1,by simpa using h0.2,by simp⟩,?_⟩;rw[List.drop_nil];exact .ri _ _ ha
  ·rename_i hv;obtain⟨h0,h⟩:=Ad h;simp only[Na,decide_eq_true_eq]at h0;refine⟨_,h,fun m Hv x' hh hx=> ?_⟩;cases hx with
   |lit _ _ rows h1 h2 h3=>
    have kV:RT m c l rows:=⟨h1,fun i _=>⟨Af _ _ _,Vd _ _ _⟩,fun i row _=>h2 i row,fun i row k x a _=>h3 i row k x a⟩;refine⟨.lit (width c) ((rows.take hv.toNat).drop (lo.getD 0).toNat),?_,((kV.take _).drop _).lit⟩;simp only[V.slice,hu,V.oO];rw[if_pos ⟨h0.1.1,by simpa using h0.1.2,by rw[h1];simpa using h0.2⟩];simp[hz]
   |ri _ a ha=>
    refine⟨x',Qk hu hz ha ⟨h0.1.1,by simpa using h0.1.2,by simpa using h0.2⟩,?_⟩;rw[List.take_nil,List.drop_nil];exact .ri _ _ ha
 ·rename_i e b r n hu;split at h
  ·rename_i c l hb;split at h
   case isFalse=>simp at h
   rename_i hz;obtain⟨h0,h⟩:=Ad h;simp only[Na,decide_eq_true_eq]at h0;refine⟨_,h,fun m Hv x' hh hx=> ?_⟩;obtain⟨kb,kx⟩:=yc (s:=⟨[],[],H,0⟩) (sv:=⟨[],[],Hv⟩) hh hb;cases hx with
   |sl _ _ _ xi Of hle=>
    obtain⟨rows,ty,j2,j3,j4⟩:=kx xi Of;have VO:Hv.bl[xi]?=some (.cells rows (width c) ty):=j2;refine⟨.sl xi (r+(lo.getD 0).toNat) ((hi.getD n).toNat-(lo.getD 0).toNat),?_,?_⟩
    ·simp only[V.slice,hu,V.oO];rw[if_pos ⟨h0.1.1,h0.1.2,h0.2⟩];simp[V.Uj,VO,hz]
    ·rw[LA];exact .sl b _ _ xi Of (by omega)
   |Vt _ _ a ha=>
    refine⟨x',Qk hu hz ha ⟨h0.1.1,by simpa using h0.1.2,by simpa using h0.2⟩,?_⟩;have:(hi.getD ((0:Nat):Int)).toNat-(lo.getD 0).toNat=0:=by omega
    rw[this];exact .Vt _ _ _ ha
  ·rename_i c l hb;split at h
   case isFalse=>simp at h
   rename_i hz;obtain⟨h0,h⟩:=Ad h;simp only[Na,decide_eq_true_eq]at h0;refine⟨_,h,fun m Hv x' hh hx=> ?_⟩;obtain⟨kb,_,kx⟩:=Ud (s:=⟨[],[],H,0⟩) (sv:=⟨[],[],Hv⟩) hh hb;cases hx with
   |sl _ _ _ xi Of hle=>
    obtain⟨rows,ty,j2,j3,j4⟩:=kx xi Of;have VO:Hv.bl[xi]?=some (.cells rows 1 ty):=j2;refine⟨.sl xi (r+(lo.getD 0).toNat) ((hi.getD n).toNat-(lo.getD 0).toNat),?_,?_⟩
    ·simp only[V.slice,hu,V.oO];rw[if_pos ⟨h0.1.1,h0.1.2,h0.2⟩];simp[V.Uj,VO,hz]
    ·rw[LA];exact .sl b _ _ xi Of (by omega)
   |Vt _ _ a ha=>
    refine⟨x',Qk hu hz ha ⟨h0.1.1,by simpa using h0.1.2,by simpa using h0.2⟩,?_⟩;have:(hi.getD ((0:Nat):Int)).toNat-(lo.getD 0).toNat=0:=by omega
    rw[this];exact .Vt _ _ _ ha
  ·simp at h
 ·rename_i e b hu;split at h
  ·rename_i c l hb;split at h
   case isFalse=>simp at h
   rename_i hz;obtain⟨h0,h⟩:=Ad h;simp only[Na,decide_eq_true_eq]at h0;refine⟨_,h,fun m Hv x' hh hx=> ?_⟩;obtain⟨kb,kx⟩:=yc (s:=⟨[],[],H,0⟩) (sv:=⟨[],[],Hv⟩) hh hb;cases hx with
   |all _ xi Of=>
    obtain⟨rows,ty,j2,j3,j4⟩:=kx xi Of;have VO:Hv.bl[xi]?=some (.cells rows (width c) ty):=j2;refine⟨.sl xi (0+(lo.getD 0).toNat) ((hi.getD l.length).toNat-(lo.getD 0).toNat),?_,?_⟩
    ·simp only[V.slice,hu,V.oO,kb];rw[if_pos ⟨h0.1.1,h0.1.2,h0.2⟩];simp[V.Uj,VO,hz]
    ·rw[Qe];exact .sl b _ _ xi Of (by omega)
   |Wf _ a _ hl ha=>
    have UJ:l.length=0:=by omega
    rw[UJ]at h0 ⊢;refine⟨x',Qk hu hz ha ⟨h0.1.1,by simpa using h0.1.2,by simpa using h0.2⟩,?_⟩;have:(hi.getD ((0:Nat):Int)).toNat-(lo.getD 0).toNat=0:=by omega
    rw[this];exact .Vt _ _ _ ha
  ·rename_i c l hb;split at h
   case isFalse=>simp at h
   rename_i hz;obtain⟨h0,h⟩:=Ad h;simp only[Na,decide_eq_true_eq]at h0;refine⟨_,h,fun m Hv x' hh hx=> ?_⟩;obtain⟨kb,_,kx⟩:=Ud (s:=⟨[],[],H,0⟩) (sv:=⟨[],[],Hv⟩) hh hb;cases hx with
   |all _ xi Of=>
    obtain⟨rows,ty,j2,j3,j4⟩:=kx xi Of;have VO:Hv.bl[xi]?=some (.cells rows 1 ty):=j2;refine⟨.sl xi (0+(lo.getD 0).toNat) ((hi.getD l.length).toNat-(lo.getD 0).toNat),?_,?_⟩
    ·simp only[V.slice,hu,V.oO,kb];rw[if_pos ⟨h0.1.1,h0.1.2,h0.2⟩];simp[V.Uj,VO,hz]
    ·rw[Qe];exact .sl b _ _ xi Of (by omega)
   |Wf _ a _ hl ha=>
    have UJ:l.length=0:=by omega
    rw[UJ]at h0 ⊢;refine⟨x',Qk hu hz ha ⟨h0.1.1,by simpa using h0.1.2,by simpa using h0.2⟩,?_⟩;have:(hi.getD ((0:Nat):Int)).toNat-(lo.getD 0).toNat=0:=by omega
    rw[this];exact .Vt _ _ _ ha
  ·simp at h
 ·simp at h
theorem nS{op:BinOp}{k:IntKind}{x y:Int}{K:UV->Option X}(h:Cq op k x y K=some out):∃v,K v=some out/\∃a,V.Cq op k x y=some a/\∀m,RV m v a:=by
 unfold Cq at h;split at h
 case h_4=>
  by_cases hy:y=0
  ·simp[hy]at h
  ·simp[hy]at h;exact⟨_,h,_,by simp only[V.Cq];rw[if_neg hy],fun _=> .int _ _⟩
 case h_5=>
  by_cases hy:y=0
  ·simp[hy]at h
  ·simp[hy]at h;exact⟨_,h,_,by simp only[V.Cq];rw[if_neg hy],fun _=> .int _ _⟩
 case h_6|h_7|h_8|h_9=>
  simp only[aa]at h;obtain⟨n,hn,h⟩:=h;exact⟨_,h,.int k n,by simp[V.Cq,hn],fun _=> .int _ _⟩
 all_goals first
  |(exact⟨_,h,_,rfl,fun _=> .int _ _⟩)
  |(exact⟨_,h,_,rfl,fun _=> .bool _⟩)
  |(simp at h)
theorem lp{eq:TypeId->UV->UV->Option Bool}{eqv:TypeId->V.AV->V.AV->Option Bool}{xs ys:List UV}{kq ys':List V.AV}(he:∀t x y x' y' b,eq t x y=some b->RV m x x'->RV m y y'->eqv t x' y'=some b)
  (hx:RL m xs kq) (hy:RL m ys ys'):∀(fs:List Field)(b:Bool),eqFields A eq xs ys fs=some b->V.eqFields A eqv kq ys' fs=some b
 |[],b,h=>by simpa[eqFields,V.eqFields]using h
 |fd::fs,b,h=>by
  simp only[eqFields]at h;simp only[V.eqFields];split at h
  ·rename_i hn;rw[if_pos hn];exact lp he hx hy fs b h
  ·rename_i hn;rw[if_neg hn];simp only[aa,ia]at h;obtain⟨x,h1,y,h2,b1,h3,c,h4,rfl⟩:=h;obtain⟨x',k1,k2⟩:=og h1 hx;obtain⟨y',k3,k4⟩:=og h2 hy;simp only[k1,k3,ga,he _ _ _ _ _ _ h3 k2 k4,lp he hx hy fs c h4,Mc]
theorem Bz{eq:UV->UV->Option Bool}{eqv:V.AV->V.AV->Option Bool}{e:TypeId}{sz:Nat}{xs ys:List UV}{kq ys':List V.AV}(he:∀x y x' y' b,eq x y=some b->RV m x x'->RV m y y'->eqv x' y'=some b)
  (hx:RL m xs kq) (hy:RL m ys ys'):∀(n i:Nat)(b:Bool),Jg A eq e sz xs ys n i=some b->V.Jg A eqv e sz kq ys' n i=some b
 |0,i,b,h=>by simpa[Jg,V.Jg]using h
 |n+1,i,b,h=>by
  simp only[Jg]at h;simp only[V.Jg];simp only[aa,ia]at h;obtain⟨x,h1,y,h2,b1,h3,c,h4,rfl⟩:=h;obtain⟨x',k1,k2⟩:=og h1 hx;obtain⟨y',k3,k4⟩:=og h2 hy;simp only[k1,k3,ga,he _ _ _ _ _ h3 k2 k4,Bz he hx hy n (i+1) c h4,Mc]
theorem JA:∀(d:Nat){t:TypeId}{x y:UV}{x' y':V.AV}{b:Bool},Mw A d t x y=some b->RV m x x'->RV m y y'->V.Mw A d t x' y'=some b
 |0,t,x,y,x',y',b,h,_,_=>by simp[Mw]at h
 |d+1,t,x,y,x',y',b,h,hx,hy=>by
  simp only[Mw]at h;split at h
  ·rename_i hu;cases hx;cases hy;simpa[V.Mw,hu]using h
  ·rename_i k a k' b' hu;cases hx;cases hy;simpa[V.Mw,hu]using h
  ·rename_i hu;cases hx;cases hy;simpa[V.Mw,hu]using h
  ·rename_i fs xs ys hu;split at h
   ·simp at h
   rename_i hs;cases hx with
   |agg _ as hl hr=>
    cases hy with
    |agg _ bs Zf dm=>
     simp only[V.Mw,hu];rw[if_neg hs];exact lp (eq:=Mw A d) (eqv:=V.Mw A d) (fun t x y x' y' b h h1 h2=>JA d h h1 h2) ⟨hl,hr⟩ ⟨Zf,dm⟩ _ _ h
  ·rename_i n e xs ys hu;simp only[aa]at h;obtain⟨sz,se,h⟩:=h;cases hx with
   |agg _ as hl hr=>
    cases hy with
    |agg _ bs Zf dm=>
     simp only[V.Mw,hu,se,ga];exact Bz (eq:=Mw A d e) (eqv:=V.Mw A d e) (fun x y x' y' b h h1 h2=>JA d h h1 h2) ⟨hl,hr⟩ ⟨Zf,dm⟩ _ _ _ h
  ·simp at h
theorem aL{t:TypeId}{x y:UV}{x' y':V.AV}{b:Bool}(h:Fg A t x y=some b)(hx:RV m x x')(hy:RV m y y'):V.Fg A t x' y'=some b:=by
 unfold Fg at h;split at h
 case h_2=>
  rename_i fs xs ys hu;split at h
  ·simp at h
  rename_i hs;cases hx with
  |agg _ as hl hr=>
   cases hy with
   |agg _ bs Zf dm=>
    simp only[V.Fg,hu];rw[if_neg hs];exact JA 1000 h (.agg _ _ hl hr) (.agg _ _ Zf dm)
 case h_3=>
  rename_i n e xs ys hu;split at h
  ·simp at h
  rename_i hs;cases hx with
  |agg _ as hl hr=>
   cases hy with
   |agg _ bs Zf dm=>
    simp only[V.Fg,hu];rw[if_neg hs];exact JA 1000 h (.agg _ _ hl hr) (.agg _ _ Zf dm)
 all_goals first
  |(simp at h;done)
  |(rename_i hu;cases hx;cases hy;simpa only[V.Fg,hu]using h)
theorem DC{t:TypeId}{x y:UV}{x':V.AV}{b:Bool}(h:Fg A t x y=some b)(hx:RV m x x'):(∀k n,x'≠ .int k n)/\∀s,x'≠ .str s:=by
 unfold Fg at h;split at h
 all_goals first
  |(simp at h;done)
  |(cases hx;exact⟨fun _ _ e=>by simp at e,fun _ e=>by simp at e⟩)
theorem BR{op:BinOp}{x y:ByteArray}{K:UV->Option X}(h:Ut op x y K=some out):∃v,K v=some out/\∃a,V.Ut op x y=some a/\∀m,RV m v a:=by
 unfold Ut at h;split at h
 case h_1=>
  obtain⟨h0,h⟩:=Ad h;simp only[decide_eq_true_eq]at h0;exact⟨_,h,_,by simp only[V.Ut];rw[if_pos h0],fun _=> .str _⟩
 all_goals first
  |(exact⟨_,h,_,rfl,fun _=> .bool _⟩)
  |(simp at h;done)
theorem WU{op:BinOp}{t:TypeId}{x y:UV}{K:UV->Option X}(h:binop A op t x y K=some out):
  ∃v,K v=some out/\∀(m:Mp)(x' y':V.AV),RV m x x'->RV m y y'->∃a,V.binop A op t x' y'=some a/\RV m v a:=by
 unfold binop at h;split at h
 ·obtain⟨h0,h⟩:=Ad h;simp only[decide_eq_true_eq]at h0;refine⟨_,h,fun m x' y' hx hy=> ?_⟩;cases hx;cases hy;exact⟨_,by simp only[V.binop];rw[if_pos h0],.int _ _⟩
 ·obtain⟨h0,h⟩:=Ad h;simp only[decide_eq_true_eq]at h0;refine⟨_,h,fun m x' y' hx hy=> ?_⟩;cases hx;cases hy;exact⟨_,by simp only[V.binop];rw[if_pos h0],.int _ _⟩
 ·rename_i k a k' b Pak Oak;split at h
  case isFalse=>simp at h
  rename_i hk;obtain⟨v,h1,a',h2,h3⟩:=nS h;refine⟨v,h1,fun m x' y' hx hy=> ?_⟩;cases hx;cases hy;refine⟨a',?_,h3 m⟩;cases op
  case shl=>exact(Pak rfl).elim
  case shr=>exact(Oak rfl).elim
  all_goals (simp only[V.binop];rw[if_pos hk];exact h2)
 ·obtain⟨v,h1,a',h2,h3⟩:=BR h;refine⟨v,h1,fun m x' y' hx hy=> ?_⟩;cases hx;cases hy;refine⟨a',?_,h3 m⟩;cases op<;>first|exact h2|(simp[V.Ut]at h2)
 ·simp only[aa]at h;obtain⟨b,hb,h⟩:=h;refine⟨_,h,fun m x' y' hx hy=>⟨.bool b,?_,.bool b⟩⟩;have h1:=aL hb hx hy;have h2:=DC hb hx;unfold V.binop;split
  all_goals first
   |(simp at *;done)
   |(rw[h1];rfl)
   |(exfalso;exact h2.1 _ _ rfl)
   |(exfalso;exact h2.2 _ rfl)
   |simp_all
 ·simp only[aa]at h;obtain⟨b,hb,h⟩:=h;refine⟨_,h,fun m x' y' hx hy=>⟨.bool !b,?_,.bool _⟩⟩;have h1:=aL hb hx hy;have h2:=DC hb hx;unfold V.binop;split
  all_goals first
   |(simp at *;done)
   |(rw[h1];rfl)
   |(exfalso;exact h2.1 _ _ rfl)
   |(exfalso;exact h2.2 _ rfl)
   |simp_all
 ·simp at h
end
end Go.U
namespace Go.U
open Go
variable [TB:ZC]
def zL(φ Pg:Nat->Option Nat):Prop:=∀i j,φ i=some j->Pg i=some j
section
variable {A:V.Eh}{Ra:Nat->Option (List UV)}{m:Mp}{φ:Nat->Option Nat}{H H':UH}{Hv:V.AH}{X:Type}{out:X}
theorem CV{op:UnOp}{x v:UV}{x':V.AV}(h:unop op x=some v)(hx:RV m x x'):∃a,V.unop op x'=some a/\RV m v a:=by
 unfold unop at h;split at h
 ·simp only[zc]at h;subst h;cases hx;exact⟨_,rfl,.int _ _⟩
 ·rename_i k n;simp only[ia]at h;obtain⟨i,hi,rfl⟩:=h;cases hx;exact⟨.int k i,by simp only[V.unop,hi,Mc],.int _ _⟩
 ·simp at h;subst h;cases hx;exact⟨_,rfl,.bool _⟩
 ·simp at h
theorem TU{l:List Int}{rows:List (List V.AV)}(h:RT m (.int .u8) l rows):V.Th rows=some (l.map fun n=>UInt8.ofNat n.toNat):=by
 induction rows generalizing l with
 |nil=>
  have:=h.1;cases l with
  |nil=>rfl
  |cons _ _=>simp at this
 |cons row rows ih=>
  have hl:=h.1;cases l with
  |nil=>simp at hl
  |cons n l=>
   have h0:=h.get (i:=0) rfl;obtain⟨a,as,rfl,h1,h2⟩:=RL.ji (x:=UV.int .u8 n) (xs:=[]) h0;have:as=[]:=by have:=h2.1;simpa using this
   subst this;cases h1;have hr:RT m (.int .u8) l rows:= .of (yE hl) fun i row hi hr=>h.get (i:=i+1) (by simpa using hr)
   simp only[V.Th,ih hr,ga,Ld]
theorem nL{src dst:TypeId}{x:UV}{K:UV->UH->Option X}(h:convert A H src dst x K=some out):
  ∃v H',K v H'=some out/\H'.wm=H.wm/\∀(m:Mp)(Hv:V.AH)(x':V.AV),RH m H Hv->RV m x x'->∃a Lc,V.convert A Hv src dst x'=some (a,Lc)/\gq m Hv v H' a Lc:=by
 unfold convert at h;split at h
 ·rename_i h1 h2;refine⟨_,_,h,rfl,fun m Hv x' hh hx=> ?_⟩;cases hx;exact⟨_,_,by simp only[V.convert,h1,h2],.same hh (.int _ _)⟩
 ·rename_i h1 h2;refine⟨_,_,h,rfl,fun m Hv x' hh hx=> ?_⟩;cases hx;exact⟨_,_,by simp only[V.convert,h1,h2],.same hh (.str _)⟩
 ·rename_i e s h1 h2;split at h
  case h_2=>simp at h
  rename_i h3;obtain⟨h0,h⟩:=Ad h;simp only[decide_eq_true_eq]at h0;refine⟨_,_,h,rfl,fun m Hv x' hh hx=> ?_⟩;cases hx;have:=hh.Ds (RC m s) (zl:=1) rfl (ty:=some (e,1));have hl:(mO s).length=s.size:=(Oc ..).trans rfl;refine⟨.sl Hv.bl.length 0 s.size,V.push Hv (.cells (V.jc s) 1 (some (e,1))),?_,by rw[<- hl];exact this⟩;simp only[V.convert,h1,h2,h3];rw[if_pos h0]
 ·rename_i e x h1 h2 QJ;split at h
  case h_2=>simp at h
  rename_i h3;simp only[aa]at h;obtain⟨l,hr,h⟩:=h;refine⟨_,_,h,rfl,fun m Hv x' hh hx=> ?_⟩;obtain⟨rows,k1,k2⟩:=Jh hr hh hx;have hb:=TU k2;have Hs:∀s,x'≠ .str s:=fun s e=>by
   subst e;cases hx with
   |str=>exact QJ s rfl
   |Sb=>simp[rowsOf]at hr
   |Vt _ _ _ ha=>simp at ha
   |Wf _ _ _ _ ha=>simp at ha
   |Ju _ _ _ _ _ ha=>simp at ha
   |ri _ _ ha=>simp at ha
  refine⟨.str (xai l),Hv,?_,.same hh (.str _)⟩;have k1':V.rowsOf Hv x'=some rows:=by cases x'<;>first|exact k1|exact(Hs _ rfl).elim
  have h4:∀y:V.AV,(∀s,y≠ .str s)->V.convert A Hv src dst y=(V.rowsOf Hv y).bind fun rows=>(V.Th rows).map fun l=>(.str ⟨l.toArray⟩,Hv):=fun y hy=>by
   cases y<;>first|exact(hy _ rfl).elim|simp only[V.convert,h1,h2,h3]
  rw[h4 x' Hs,k1',ga,hb,Mc];rfl
 ·simp at h
theorem Qw{d:Nat}{x:UV}(h:closed 8 x=true):Rb (d+1) x=true:=by
 cases x<;>first|exact h|simp[closed]at h
variable {k:KT}
theorem Wx(i j:od k):V.EB (Vh k i) (Vh k j)=some (UI k i j):=by
 cases k with
 |int k=>simp[Vh,V.EB,UI]
 |str=>rfl
theorem On{x:UV}{i:od k}{x':V.AV}(h:keyOf? k x=some i)(hx:RV m x x'):x'=Vh k i:=by
 cases k with
 |int k=>
  simp only[keyOf?]at h;split at h
  ·split at h
   ·rename_i e;subst e;injection h with h;subst h;cases hx;rfl
   ·simp at h
  ·simp at h
 |str=>
  simp only[keyOf?]at h;split at h
  ·injection h with h;subst h;cases hx;rfl
  ·simp at h
theorem TG{t:TypeId}(h:Pz A t=some k)(i:od k):V.cj A t (Vh k i)=true:=by
 unfold Pz at h;unfold V.cj;split at h
 ·rename_i hu;simp at h;subst h;rw[hu];rfl
 ·rename_i hu;simp at h;subst h;rw[hu];rfl
 ·simp at h
theorem uF{i:od k}{z:UV}{K:UV->Bool->Option X}:∀{es:List (od k×UV)},ZB i z K es=some out->∃v b,K v b=some out/\∀(m:Mp)(sd:List (V.AV×V.AV)),MR k m es sd->(b=true/\∃a,V.Gi (Vh k i) sd=some (some a)/\RV m v a)\/(b=false/\v=z/\V.Gi (Vh k i) sd=some none)
 |[],h=>⟨z,false,h,fun m sd hm=>by
   cases sd with
   |nil=>exact .inr ⟨rfl,rfl,rfl⟩
   |cons _ _=>exact hm.elim⟩
 |(j,v)::es,h=>by
  simp only[ZB]at h;cases he:UI k i j with
  |true=>
   rw[he]at h;refine⟨v,true,h,fun m sd hm=> ?_⟩;cases sd with
   |nil=>exact hm.elim
   |cons p sd=>
    obtain⟨h1,h2,_,_⟩:=hm;refine .inl ⟨rfl,p.2,?_,h2⟩;obtain⟨key,a⟩:=p;subst h1;simp only[V.Gi,Wx,he,ga]
  |false=>
   rw[he]at h;obtain⟨w,b,h1,h2⟩:=uF (es:=es) h;refine⟨w,b,h1,fun m sd hm=> ?_⟩;cases sd with
   |nil=>exact hm.elim
   |cons p sd=>
    obtain⟨key,a⟩:=p;obtain⟨k1,_,_,k4⟩:=hm;subst k1;simp only[V.Gi,Wx,he,ga];exact h2 m sd k4
theorem gB{i:od k}{v:UV}:∀{es:List (od k×UV)}{K:List (od k×UV)->Option X},kM i v K es=some out->∃XN,K XN=some out/\∀(m:Mp)(sd:List (V.AV×V.AV))(a:V.AV),MR k m es sd->RV m v a->Rb 8 v=true->∃Ri,V.Ko (Vh k i) a sd=some Ri/\MR k m XN Ri
 |[],K,h=>⟨[(i,v)],h,fun m sd a hm hv hc=>by
   cases sd with
   |nil=>exact⟨[(Vh k i,a)],rfl,rfl,hv,hc,trivial⟩
   |cons _ _=>exact hm.elim⟩
 |(j,w)::es,K,h=>by
  simp only[kM]at h;cases he:UI k i j with
  |true=>
   rw[he]at h;refine⟨_,h,fun m sd a hm hv hc=> ?_⟩;cases sd with
   |nil=>exact hm.elim
   |cons p sd=>
    obtain⟨key,a'⟩:=p;obtain⟨k1,_,_,k4⟩:=hm;subst k1;exact⟨(Vh k i,a)::sd,by simp only[V.Ko,Wx,he,ga],rfl,hv,hc,k4⟩
  |false=>
   rw[he]at h;obtain⟨XN,h1,h2⟩:=gB (es:=es) h;refine⟨_,h1,fun m sd a hm hv hc=> ?_⟩;cases sd with
   |nil=>exact hm.elim
   |cons p sd=>
    obtain⟨key,a'⟩:=p;obtain⟨k1,k2,k3,k4⟩:=hm;subst k1;obtain⟨Ri,e1,e2⟩:=h2 m sd a k4 hv hc;exact⟨(Vh k j,a')::Ri,by simp only[V.Ko,Wx,he,ga,e1,Mc],rfl,k2,k3,e2⟩
theorem KC{i:od k}:∀{es:List (od k×UV)}{K:List (od k×UV)->Option X},qp i K es=some out->∃XN,K XN=some out/\∀(m:Mp)(sd:List (V.AV×V.AV)),MR k m es sd->∃Ri,V.No (Vh k i) sd=some Ri/\MR k m XN Ri
 |[],K,h=>⟨[],h,fun m sd hm=>by
   cases sd with
   |nil=>exact⟨[],rfl,trivial⟩
   |cons _ _=>exact hm.elim⟩
 |(j,w)::es,K,h=>by
  simp only[qp]at h;cases he:UI k i j with
  |true=>
   rw[he]at h;refine⟨_,h,fun m sd hm=> ?_⟩;cases sd with
   |nil=>exact hm.elim
   |cons p sd=>
    obtain⟨key,a'⟩:=p;obtain⟨k1,_,_,k4⟩:=hm;subst k1;exact⟨sd,by simp only[V.No,Wx,he,ga],k4⟩
  |false=>
   rw[he]at h;obtain⟨XN,h1,h2⟩:=KC (es:=es) h;refine⟨_,h1,fun m sd hm=> ?_⟩;cases sd with
   |nil=>exact hm.elim
   |cons p sd=>
    obtain⟨key,a'⟩:=p;obtain⟨k1,k2,k3,k4⟩:=hm;subst k1;obtain⟨Ri,e1,e2⟩:=h2 m sd k4;exact⟨(Vh k j,a')::Ri,by simp only[V.No,Wx,he,ga,e1,Mc],rfl,k2,k3,e2⟩
theorem jK{g:Bool}{c:CT}{i:od k}{z:UV}{K:UV->Bool->Option X}:∀{l:List (od k×Fb c)},ZB i z K (ak g c l)=cond (QB i l) (K (valOf g c (Eu i (MU c) l)) true) (K z false)
 |[]=>rfl
 |(j,x)::l=>by
  simp only[ak,Ld,ZB,QB,List.any_cons,Eu];cases he:UI k i j with
  |true=>rfl
  |false=>exact jK (l:=l)
theorem GO{g:Bool}{c:CT}{i:od k}{x:Fb c}:∀{l:List (od k×Fb c)}{K:List (od k×UV)->Option X},kM i (valOf g c x) K (ak g c l)=K (ak g c (Ix i x l))
 |[],K=>rfl
 |(j,y)::l,K=>by
  simp only[ak,Ld,kM,Ix];cases he:UI k i j with
  |true=>rfl
  |false=>exact GO (l:=l)
theorem bR{g:Bool}{c:CT}{i:od k}:∀{l:List (od k×Fb c)}{K:List (od k×UV)->Option X},qp i K (ak g c l)=K (ak g c (Yz i l))
 |[],K=>rfl
 |(j,y)::l,K=>by
  simp only[ak,Ld,qp,Yz];cases he:UI k i j with
  |true=>rfl
  |false=>exact bR (l:=l)
theorem jL{g:Bool}{c:CT}{x:UV}{y:Fb c}(h:s8 g c x=some y):Rb 8 (valOf g c y)=true/\∀(m:Mp)(a:V.AV),RV m x a->RV m (valOf g c y) a:=by
 unfold s8 at h;split at h
 ·rename_i cs;refine⟨?_,fun m a ha=> ?_⟩
  ·simp only[valOf,Rb,ic];exact fun v hv=>Qw (Sl c y v hv)
  ·cases ha with
   |agg _ as hl hr=>have:=fo h (m:=m) ⟨hl,hr⟩;exact .agg _ _ this.1 this.2
 ·split at h
  case isFalse=>simp at h
  rename_i hw;have hlen:=Nh c y;rw[hw]at hlen;obtain⟨v,hv⟩:∃v,enc c y=[v]:=by
   match h1:enc c y,hlen with
   |[v],_=>exact⟨v,rfl⟩
  have Fq:valOf false c y=v:=by simp only[valOf,hv]
  rw[Fq];refine⟨Qw (Sl c y v (by rw[hv];simp)),fun m a ha=> ?_⟩;have:=fo h (RL.cons ha .nil);rw[hv]at this;exact this.2 0 v a rfl rfl
 ·simp at h
theorem BB{t:TypeId}{x i:UV}{ok:Bool}{K:UV->Option X}(h:lookup A H t x i ok K=some out):
  ∃v,K v=some out/\∀(m:Mp)(Hv:V.AH)(x' i':V.AV),RH m H Hv->RV m x x'->RV m i i'->∃a,V.lookup A Hv t x' i' ok=some a/\RV m v a:=by
 unfold lookup at h;split at h
 case h_2=>simp at h
 rename_i kt et hu;split at h
 case h_2=>simp at h
 rename_i b;have key:∀{k:KT}{es:List (od k×UV)},(∀{m:Mp}{Hv:V.AH},RH m H Hv->∃x sd,m.ι b 0=some x/\Hv.bl[x]?=some (.map sd)/\MR k m es sd)->Pz A kt=some k->
   ((keyOf? k i).bind fun i=>(zeroV A et).bind fun z=>ZB i z (fun v b=>K (if ok then .Qc [v,.bool b]else v)) es)=some out->
   ∃v,K v=some out/\∀(m:Mp)(Hv:V.AH)(x' i':V.AV),RH m H Hv->RV m (.mp b) x'->RV m i i'->∃a,V.lookup A Hv t x' i' ok=some a/\RV m v a:=fun{k es}hb FD h=>by
  simp only[aa]at h;obtain⟨i0,hi,z,hz,h⟩:=h;obtain⟨z',q1,q2,_⟩:=oR hz;obtain⟨v,b0,h1,h2⟩:=uF h;refine⟨_,h1,fun m Hv x' i' hh hx F6=> ?_⟩;have kP:=On hi F6;subst kP;cases hx with
  |mp _ xi Of=>
   obtain⟨xi',sd,k1,k2,k3⟩:=hb hh;rw[Of]at k1;simp at k1;subst k1;have R8:∀{w:UV}{a:V.AV}(b:Bool),RV m w a->RV m (if ok then .Qc [w,.bool b]else w) (if ok then .Qc [a,.bool b]else a):=fun{w a}b hw=>by
    clear h h1;cases ok with
    |true=>exact .Qc [w,.bool b] [a,.bool b] rfl (RL.cons hw (RL.cons (.bool b) .nil)).2
    |false=>exact hw
   rcases h2 m sd k3 with⟨rfl,a,e1,e2⟩|⟨rfl,rfl,e1⟩
   ·refine⟨_,?_,R8 true e2⟩;simp only[V.lookup,hu,TG FD,if_true,V.mapOf,k2,ga,e1]
   ·refine⟨_,?_,R8 false (q2 m)⟩;simp only[V.lookup,hu,TG FD,if_true,V.mapOf,k2,ga,e1,q1,Mc]
 split at h
 ·rename_i k es hb;split at h
  case isFalse=>simp at h
  rename_i FD;exact key (fun hh=>hh.Tc b _ hb) FD h
 ·rename_i k g c l hb;split at h
  case isFalse=>simp at h
  rename_i FD;refine key (es:=ak g c l) (fun hh=>hh.Tc b _ hb) FD ?_;simp only[aa]at h ⊢;obtain⟨i0,hi,z,hz,h⟩:=h;exact⟨i0,hi,z,hz,by rw[jK];exact h⟩
 ·simp at h
def gaa(m:Mp)(Hv:V.AH)(H':UH)(Lc:V.AH):Prop:=RH m H' Lc/\Yj m.top m Hv m Lc
theorem Yt{t:TypeId}{x i y:UV}{K:UH->Option X}(h:mapUpdate A H t x i y K=some out):
  ∃H',K H'=some out/\H'.wm=H.wm/\∀(m:Mp)(Hv:V.AH)(x' i' y':V.AV),RH m H Hv->RV m x x'->RV m i i'->RV m y y'->∃Lc,V.mapUpdate A Hv t x' i' y'=some Lc/\gaa m Hv H' Lc:=by
 unfold mapUpdate at h;split at h
 case h_2=>simp at h
 rename_i kt et b hu;split at h
 case isFalse=>simp at h
 rename_i mF;have Cp:∀{m:Mp}{Hv:V.AH}{x' y':V.AV}{k:KT}{i0:od k}{xi:Nat}{sd Ri:List (V.AV×V.AV)},RH m H Hv->m.ι b 0=some xi->x'= .mp xi->Pz A kt=some k->Hv.bl[xi]?=some (.map sd)->V.Ko (Vh k i0) y' sd=some Ri->
   V.mapUpdate A Hv t x' (Vh k i0) y'=some (V.Sa Hv xi (.map Ri)):=fun{m Hv x' y' k i0 xi sd Ri}hh Of Rk FD h2 h3=>by
  subst Rk;have hw:=hh.wm b xi Of mF;simp[V.mapUpdate,hu,TG FD,hw,h2,h3]
 split at h
 ·rename_i k es hb;split at h
  case isFalse=>simp at h
  rename_i FD;simp only[aa]at h;obtain⟨i0,hi,h⟩:=h;obtain⟨XN,h1,h2⟩:=gB h;refine⟨_,h1,rfl,fun m Hv x' i' y' hh hx F6 hy=> ?_⟩;have kP:=On hi F6;subst kP;cases hx with
  |mp _ xi Of=>
   obtain⟨xi',sd,k1,k2,k3⟩:=hh.Tc b _ hb;rw[Of]at k1;simp at k1;subst k1;obtain⟨Ri,e1,e2⟩:=h2 m sd y' k3 hy FD.2;have wh:=hh.set (y:= .uk k XN) (yv:= .map Ri) ⟨_,hb,rfl⟩ Of ⟨xi,Ri,Of,by rw[Ac,if_pos rfl,if_pos (hh.He b xi Of).2],e2⟩;exact⟨_,Cp hh Of rfl FD.1 k2 e1,wh⟩
 ·rename_i k g c l hb;split at h
  case isFalse=>simp at h
  rename_i FD;simp only[aa]at h;obtain⟨i0,hi,xv,AW,h⟩:=h;refine⟨_,h,rfl,fun m Hv x' i' y' hh hx F6 hy=> ?_⟩;have kP:=On hi F6;subst kP;cases hx with
  |mp _ xi Of=>
   obtain⟨xi',sd,k1,k2,k3⟩:=hh.Tc b _ hb;rw[Of]at k1;simp at k1;subst k1;obtain⟨d1,d2⟩:=jL AW;have RI:kM i0 (valOf g c xv) (fun sd=>some sd) (ak g c l)=some (ak g c (Ix i0 xv l)):=GO;obtain⟨XN,e0,h2⟩:=gB RI;simp at e0;subst e0;obtain⟨Ri,e1,e2⟩:=h2 m sd y' k3 (d2 m y' hy) d1;have wh:=hh.set (y:= .vh k g c (Ix i0 xv l)) (yv:= .map Ri) ⟨_,hb,rfl⟩ Of ⟨xi,Ri,Of,by rw[Ac,if_pos rfl,if_pos (hh.He b xi Of).2],e2⟩;exact⟨_,Cp hh Of rfl FD k2 e1,wh⟩
 ·simp at h
theorem xD{t:TypeId}{x i:UV}{K:UH->Option X}(h:Bf A H t x i K=some out):
  ∃H',K H'=some out/\H'.wm=H.wm/\∀(m:Mp)(Hv:V.AH)(x' i':V.AV),RH m H Hv->RV m x x'->RV m i i'->∃Lc,V.Bf A Hv t x' i'=some Lc/\gaa m Hv H' Lc:=by
 unfold Bf at h;split at h
 case h_2=>simp at h
 rename_i kt et b hu;split at h
 case isFalse=>simp at h
 rename_i mF;have Cp:∀{m:Mp}{Hv:V.AH}{x':V.AV}{k:KT}{i0:od k}{xi:Nat}{sd Ri:List (V.AV×V.AV)},RH m H Hv->m.ι b 0=some xi->x'= .mp xi->Pz A kt=some k->Hv.bl[xi]?=some (.map sd)->V.No (Vh k i0) sd=some Ri->
   V.Bf A Hv t x' (Vh k i0)=some (V.Sa Hv xi (.map Ri)):=fun{m Hv x' k i0 xi sd Ri}hh Of Rk FD h2 h3=>by
  subst Rk;have hw:=hh.wm b xi Of mF;simp[V.Bf,hu,TG FD,hw,h2,h3]
 split at h
 ·rename_i k es hb;split at h
  case isFalse=>simp at h
  rename_i FD;simp only[aa]at h;obtain⟨i0,hi,h⟩:=h;obtain⟨XN,h1,h2⟩:=KC h;refine⟨_,h1,rfl,fun m Hv x' i' hh hx F6=> ?_⟩;have kP:=On hi F6;subst kP;cases hx with
  |mp _ xi Of=>
   obtain⟨xi',sd,k1,k2,k3⟩:=hh.Tc b _ hb;rw[Of]at k1;simp at k1;subst k1;obtain⟨Ri,e1,e2⟩:=h2 m sd k3;have wh:=hh.set (y:= .uk k XN) (yv:= .map Ri) ⟨_,hb,rfl⟩ Of ⟨xi,Ri,Of,by rw[Ac,if_pos rfl,if_pos (hh.He b xi Of).2],e2⟩;exact⟨_,Cp hh Of rfl FD k2 e1,wh⟩
 ·rename_i k g c l hb;split at h
  case isFalse=>simp at h
  rename_i FD;simp only[aa]at h;obtain⟨i0,hi,h⟩:=h;refine⟨_,h,rfl,fun m Hv x' i' hh hx F6=> ?_⟩;have kP:=On hi F6;subst kP;cases hx with
  |mp _ xi Of=>
   obtain⟨xi',sd,k1,k2,k3⟩:=hh.Tc b _ hb;rw[Of]at k1;simp at k1;subst k1;have RI:qp i0 (fun sd=>some sd) (ak g c l)=some (ak g c (Yz i0 l)):=bR;obtain⟨XN,e0,h2⟩:=KC RI;simp at e0;subst e0;obtain⟨Ri,e1,e2⟩:=h2 m sd k3;have wh:=hh.set (y:= .vh k g c (Yz i0 l)) (yv:= .map Ri) ⟨_,hb,rfl⟩ Of ⟨xi,Ri,Of,by rw[Ac,if_pos rfl,if_pos (hh.He b xi Of).2],e2⟩;exact⟨_,Cp hh Of rfl FD k2 e1,wh⟩
 ·simp at h
theorem MR.length:∀{es:List (od k×UV)}{sd:List (V.AV×V.AV)},MR k m es sd->sd.length=es.length
 |[],[],_=>rfl
 |(_,_)::_,(_,_)::_,h=>by simp[MR.length h.2.2.2]
 |[],_::_,h=>h.elim
 |_::_,[],h=>h.elim
theorem ey{f:UV->UV->Option UV}{g:V.AV->V.AV->Option V.AV}(hf:∀x y z x' y',f x y=some z->RV m x x'->RV m y y'->∃z',g x' y'=some z'/\RV m z z'):∀{ys:List UV}{x z:UV}{ys':List V.AV}{x':V.AV},xl f x ys=some z->RV m x x'->RL m ys ys'->∃z',V.xl g x' ys'=some z'/\RV m z z'
 |[],x,z,ys',x',h,hx,hy=>by
  have:ys'=[]:=by have:=hy.1;simpa using this
  subst this;simp[xl]at h;subst h;exact⟨x',rfl,hx⟩
 |y::ys,x,z,ys',x',h,hx,hy=>by
  cases ys' with
  |nil=>have:=hy.1;simp at this
  |cons y' ys'=>
   simp only[xl,aa]at h;obtain⟨w,hw,h⟩:=h;obtain⟨w',h1,h2⟩:=hf _ _ _ _ _ hw hx (hy.2 0 y y' rfl rfl);obtain⟨z',h3,h4⟩:=ey (ys:=ys) (ys':=ys') hf h h2 ⟨by have:=hy.1;simpa using this,fun i a b k1 k2=>hy.2 (i+1) a b (by simpa using k1) (by simpa using k2)⟩;exact⟨z',by simp[V.xl,h1,h3],h4⟩
theorem P5{x y z:UV}{x' y':V.AV}(h:qW x y=some z)(hx:RV m x x')(hy:RV m y y'):∃z',V.EJ x' y'=some z'/\RV m z z':=by
 unfold qW at h;split at h
 ·simp at h;subst h;cases hx;cases hy;exact⟨_,rfl,.int _ _⟩
 ·simp at h
theorem O5{x y z:UV}{x' y':V.AV}(h:mW x y=some z)(hx:RV m x x')(hy:RV m y y'):∃z',V.CJ x' y'=some z'/\RV m z z':=by
 unfold mW at h;split at h
 ·simp at h;subst h;cases hx;cases hy;exact⟨_,rfl,.int _ _⟩
 ·simp at h
theorem RH.paa(h:RH m H Hv){b:Nat}{y:UB}(hb:live H b)(hy:RB m Hv b y):RH m (Sa H b y) Hv:=by
 have k:∀{b'},live (Sa H b y) b'->live H b':=fun h=>by rcases qg h with⟨rfl,_⟩|⟨_,h⟩<;>assumption
 refine⟨fun b' _ x' ud=>by simpa[Sa]using h.He b' x' ud,fun b' y' Tf=> ?_,fun b1 b2 _ _ x' h1 h2 e1 e2=>h.Pn b1 b2 x' (k h1) (k h2) e1 e2,h.wm,h.top,by simpa[Sa]using h.len⟩;rw[Vu]at Tf;split at Tf
 ·rename_i e;subst e;split at Tf
  ·simp at Tf;subst Tf;exact hy
  ·simp at Tf
 ·exact h.Tc b' y' Tf
theorem RL.two{x y:UV}{as:List V.AV}(h:RL m [x,y] as):∃a b,as=[a,b]/\RV m x a/\RV m y b:=by
 match as,h with
 |[a,b],h=>exact⟨a,b,rfl,h.2 0 x a rfl rfl,h.2 1 y b rfl rfl⟩
 |[],h=>have:=h.1;simp at this
 |[_],h=>have:=h.1;simp at this
 |_::_::_::_,h=>have:=h.1;simp at this
theorem RL.one{x:UV}{as:List V.AV}(h:RL m [x] as):∃a,as=[a]/\RV m x a:=by
 match as,h with
 |[a],h=>exact⟨a,rfl,h.2 0 x a rfl rfl⟩
 |[],h=>have:=h.1;simp at this
 |_::_::_,h=>have:=h.1;simp at this
theorem S5{t:TypeId}{x:UV}{ts:Array TypeId}{K:UV->UH->Option X}(ht:ts[0]?=some t)(h:builtin A H .len ts [x] K=some out):
  ∃v,K v H=some out/\∀(m:Mp)(Hv:V.AH)(x':V.AV),RH m H Hv->RV m x x'->∃a,V.builtin A Hv .len ts [x']=some (a,Hv)/\RV m v a:=by
 simp only[builtin,ht,ga]at h;split at h
 ·rename_i hu;refine⟨_,h,fun m Hv x' hh hx=> ?_⟩;cases hx;exact⟨_,by simp only[V.builtin,ht,ga,hu],.int _ _⟩
 ·rename_i hu;refine⟨_,h,fun m Hv x' hh hx=> ?_⟩;cases hx;exact⟨_,by simp only[V.builtin,ht,ga,hu],.int _ _⟩
 ·rename_i hu;refine⟨_,h,fun m Hv x' hh hx=> ?_⟩;cases hx;exact⟨_,by simp only[V.builtin,ht,ga,hu],.int _ _⟩
 ·rename_i c l hu;refine⟨_,h,fun m Hv x' hh hx=> ?_⟩;cases hx with
  |lit _ _ rows hl=>exact⟨.int .i64 rows.length,by simp only[V.builtin,ht,ga,hu],by rw[hl];exact .int _ _⟩
  |ri _ _ ha=>exact⟨.int .i64 0,by rcases ha with rfl|rfl<;>simp only[V.builtin,ht,ga,hu],.int _ _⟩
 ·rename_i b hu;have key:∀{n:Nat},(∀(m:Mp)(Hv:V.AH),RH m H Hv->m.len b 0=n)->K (.int .i64 n) H=some out->∃v,K v H=some out/\∀(m:Mp)(Hv:V.AH)(x':V.AV),RH m H Hv->RV m (.all b) x'->∃a,V.builtin A Hv .len ts [x']=some (a,Hv)/\RV m v a:=fun{n}hn h=>by
   refine⟨_,h,fun m Hv x' hh hx=> ?_⟩;have k0:=hn m Hv hh;cases hx with
   |all=>exact⟨.int .i64 (m.len b 0:Nat),by simp only[V.builtin,ht,ga,hu],by rw[k0];exact .int _ _⟩
   |Wf _ _ _ hl ha=>exact⟨.int .i64 0,by rcases ha with rfl|rfl<;>simp only[V.builtin,ht,ga,hu],by rw[<- k0,hl];exact .int _ _⟩
  split at h
  ·rename_i c l hb;exact key (fun m Hv hh=>(yc (s:=⟨[],[],H,0⟩) (sv:=⟨[],[],Hv⟩) hh hb).1) h
  ·rename_i c l hb;exact key (fun m Hv hh=>(Ud (s:=⟨[],[],H,0⟩) (sv:=⟨[],[],Hv⟩) hh hb).1) h
  ·simp at h
 ·rename_i b r hu;split at h
  case h_2=>simp at h
  rename_i c l hb;refine⟨_,h,fun m Hv x' hh hx=> ?_⟩;have k0:=(Ud (s:=⟨[],[],H,0⟩) (sv:=⟨[],[],Hv⟩) hh hb).2.1 r;cases hx with
  |Qp=>exact⟨.int .i64 (m.len b (r+1):Nat),by simp only[V.builtin,ht,ga,hu],by rw[k0];exact .int _ _⟩
  |Ju _ _ _ _ hl ha=>exact⟨.int .i64 0,by rcases ha with rfl|rfl<;>simp only[V.builtin,ht,ga,hu],by rw[<- k0,hl];exact .int _ _⟩
 ·rename_i n hu;refine⟨_,h,fun m Hv x' hh hx=> ?_⟩;cases hx with
  |sl=>exact⟨_,by simp only[V.builtin,ht,ga,hu],.int _ _⟩
  |Vt _ _ _ ha=>exact⟨.int .i64 0,by rcases ha with rfl|rfl<;>simp only[V.builtin,ht,ga,hu],.int _ _⟩
 ·rename_i b hu;split at h
  ·rename_i k es hb;refine⟨_,h,fun m Hv x' hh hx=> ?_⟩;cases hx with
   |mp _ xi Of=>
    obtain⟨xi',sd,h1,h2,h3⟩:=hh.Tc b _ hb;rw[Of]at h1;simp at h1;subst h1;exact⟨.int .i64 sd.length,by simp only[V.builtin,ht,ga,hu,V.mapOf,h2,Mc],by rw[h3.length];exact .int _ _⟩
  ·rename_i k g c l hb;refine⟨_,h,fun m Hv x' hh hx=> ?_⟩;cases hx with
   |mp _ xi Of=>
    obtain⟨xi',sd,h1,h2,h3⟩:=hh.Tc b _ hb;rw[Of]at h1;simp at h1;subst h1;exact⟨.int .i64 sd.length,by simp only[V.builtin,ht,ga,hu,V.mapOf,h2,Mc],by rw[h3.length,ak,Oc];exact .int _ _⟩
  ·simp at h
 ·rename_i n e hu;refine⟨_,h,fun m Hv x' hh hx=>⟨.int .i64 n,by simp only[V.builtin,ht,ga,hu],.int _ _⟩⟩
 ·simp at h
theorem Ey{c:CT}{l g:List (Fb c)}{rows ys:List (List V.AV)}{r n:Nat}(hr:l.length<=rows.length)(h:ek m (width c) l.length (vw c l) rows)(hy:RT m c g ys)(hle:r+n<=l.length)(hn:n<=g.length):
  (Zz r n g l).length=l.length/\l.length<=(rows.take r++(ys.take n++rows.drop (r+n))).length/\ek m (width c) (Zz r n g l).length (vw c (Zz r n g l)) (rows.take r++(ys.take n++rows.drop (r+n))):=by
 have mP:RT m c l (rows.take l.length):= .of (by simp;omega) fun i row hi vl=>by
  rw[Cb,if_pos hi]at vl;obtain⟨Jb,j1,j2,j3⟩:=h.row hr hi;rw[j1]at vl;simp at vl;subst vl;exact j2
 have qS:=hy.1;have hl:(Zz r n g l).length=l.length:=by simp[Zz];omega
 have ze:RT m c (Zz r n g l) ((rows.take l.length).take r++(ys.take n++(rows.take l.length).drop (r+n))):=(mP.take r).append ((hy.take n).append (mP.drop (r+n)));have hlen:l.length<=(rows.take r++(ys.take n++rows.drop (r+n))).length:=by simp;omega
 have heq:∀i,i<l.length->(rows.take r++(ys.take n++rows.drop (r+n)))[i]?=((rows.take l.length).take r++(ys.take n++(rows.take l.length).drop (r+n)))[i]?:=fun i hi=>by
  rw[List.take_take,Nat.min_eq_left (by omega:r<=l.length)];have e1:(rows.take r).length=r:=by simp;omega
  have e2:(ys.take n).length=n:=by simp;omega
  have aux:∀C:List (List V.AV),(rows.take r++(ys.take n++C))[i]?=if i<r then(rows.take r)[i]? else if i-r<n then(ys.take n)[i-r]? else C[i-r-n]?:=fun C=>by
   split
   ·rename_i h1;exact La (by rw[e1];exact h1)
   ·rename_i h1;rw[Qa (by rw[e1];omega),e1];split
    ·rename_i h2;exact La (by rw[e2];exact h2)
    ·rename_i h2;rw[Qa (by rw[e2];omega),e2]
  rw[aux,aux];split
  ·rfl
  ·split
   ·rfl
   ·rw[Ec,Ec,Cb,if_pos (by omega)]
 refine⟨hl,hlen,fun i _=>⟨Af _ _ _,Vd _ _ _⟩,fun i row hi vl=> ?_,fun i row k y a hi vl h1 h2=> ?_⟩
 ·rw[hl]at hi;rw[heq i hi]at vl;exact ze.rows (Db vl)
 ·rw[hl]at hi;rw[heq i hi]at vl;exact(ze.get vl).2 k y a h1 h2
theorem C3{x y:UV}{ts:Array TypeId}{K:UV->UH->Option X}(h:builtin A H .copy ts [x,y] K=some out):
  ∃v H',K v H'=some out/\H'.wm=H.wm/\∀(m:Mp)(Hv:V.AH)(x' y':V.AV),RH m H Hv->RV m x x'->RV m y y'->∃a Lc,V.builtin A Hv .copy ts [x',y']=some (a,Lc)/\gq m Hv v H' a Lc:=by
 simp only[builtin,aa]at h;obtain⟨t,ht,e,he,z,hz,h⟩:=h;split at h
 case isFalse=>simp at h
 rename_i QJ;have main:∀{b r n:Nat}{c:CT}{l g:List (Fb c)},H.bl[b]?=some (.cells c l)->H.wm<=b->width c=z->rowsOf H c y=some g->∀(m:Mp)(Hv:V.AH)(x' y':V.AV),RH m H Hv->RV m y y'->
   ((∃xi,m.ι b 0=some xi/\x'= .sl xi r n/\r+n<=l.length)\/((x'= .Ya\/x'= .Pd)/\n=0))->
   ∃a Lc,V.builtin A Hv .copy ts [x',y']=some (a,Lc)/\gq m Hv (.int .i64 (min g.length n:Nat)) (Sa H b (.cells c (Zz r (min g.length n) g l))) a Lc:=fun{b r n c l g}hb hw E4 hr m Hv x' y' hh hy hx=>by
  obtain⟨ys,k1,k2⟩:=Jh hr hh hy;have Yx:V.rowsOf Hv y'=some ys:=by
   cases y'<;>first|exact k1|skip
   cases hy with
   |str=>simp[jW]at QJ
   |Sb=>simp[rowsOf]at hr
   |Vt _ _ _ ha=>simp at ha
   |Wf _ _ _ _ ha=>simp at ha
   |Ju _ _ _ _ _ ha=>simp at ha
   |ri _ _ ha=>simp at ha
  obtain⟨kb,kx⟩:=yc (s:=⟨[],[],H,0⟩) (sv:=⟨[],[],Hv⟩) hh hb;have Yd:live H b:=⟨_,hb,rfl⟩;rcases hx with⟨xi,Of,rfl,hle⟩|⟨ha,rfl⟩
  ·obtain⟨rows,ty,j2,j3,j4⟩:=kx xi Of;have VO:Hv.bl[xi]?=some (.cells rows (width c) ty):=j2;have l6:=hh.wm b xi Of hw;have gg:ys.all (fun q=>q.length==z)=true:=ic.2 fun q hq=>by simp[k2.rows hq,E4]
   obtain⟨c1,c2,c3⟩:=Ey (r:=r) (n:=min g.length n) j3 j4 k2 (by omega) (by omega);have Wj:(ys.take (min g.length n)).length=min g.length n:=by simp[k2.1]
   have wh:=hh.set (y:= .cells c (Zz r (min g.length n) g l)) (yv:= .cells (rows.take r++(ys.take (min g.length n)++rows.drop (r+min g.length n))) (width c) ty) Yd Of
    ⟨by rw[c1];exact kb,.inr ⟨xi,_,_,Of,by rw[Ac,if_pos rfl,if_pos (hh.He b xi Of).2],by rw[c1];exact c2,c3⟩⟩
   refine⟨.int .i64 (min g.length n:Nat),V.Sa Hv xi (.cells (rows.take r++(ys.take (min g.length n)++rows.drop (r+min g.length n))) (width c) ty),?_,m,wh.1,.int _ _,.refl m,wh.2⟩;simp only[V.builtin,ht,he,hz,Yx,ga,VO];rw[if_pos ⟨l6,by omega,E4,gg⟩,k2.1,Wj]
  ·have h0:min g.length 0=0:=by omega
   refine⟨.int .i64 (min g.length 0:Nat),Hv,?_,m,hh.paa Yd ?_,.int _ _,.refl m,.refl Hv (va _)⟩
   ·rw[h0];rcases ha with rfl|rfl<;>simp only[V.builtin,ht,he,hz,Yx,ga]<;>rfl
   ·have:Zz r (min g.length 0) g l=l:=by rw[h0];simp[Zz]
    rw[this];exact hh.Tc b _ hb
 split at h
 ·rename_i b r n;split at h
  case h_2=>simp at h
  rename_i c l hb;split at h
  case isFalse=>simp at h
  rename_i hc;simp only[aa]at h;obtain⟨g,hr,h⟩:=h;refine⟨_,_,h,rfl,fun m Hv x' y' hh hx hy=>main hb hc.1 hc.2 hr m Hv x' y' hh hy ?_⟩;obtain⟨kb,_⟩:=yc (s:=⟨[],[],H,0⟩) (sv:=⟨[],[],Hv⟩) hh hb;cases hx with
  |sl _ _ _ xi Of hle=>exact .inl ⟨xi,Of,rfl,by omega⟩
  |Vt _ _ _ ha=>exact .inr ⟨ha,rfl⟩
 ·rename_i b;split at h
  case h_2=>simp at h
  rename_i c l hb;split at h
  case isFalse=>simp at h
  rename_i hc;simp only[aa]at h;obtain⟨g,hr,h⟩:=h;refine⟨_,_,h,rfl,fun m Hv x' y' hh hx hy=>main hb hc.1 hc.2 hr m Hv x' y' hh hy ?_⟩;obtain⟨kb,_⟩:=yc (s:=⟨[],[],H,0⟩) (sv:=⟨[],[],Hv⟩) hh hb;cases hx with
  |all _ xi Of=>exact .inl ⟨xi,Of,by rw[kb],by omega⟩
  |Wf _ _ _ hl ha=>exact .inr ⟨ha,by omega⟩
 ·simp at h
theorem uL{bi:Builtin}{args:List UV}{ts:Array TypeId}{K:UV->UH->Option X}(h:builtin A H bi ts args K=some out):
  ∃v H',K v H'=some out/\H'.wm=H.wm/\∀(m:Mp)(Hv:V.AH)(rh:List V.AV),RH m H Hv->RL m args rh->∃a Lc,V.builtin A Hv bi ts rh=some (a,Lc)/\gq m Hv v H' a Lc:=by
 have h0:=h;unfold builtin at h;split at h
 ·obtain⟨v,H',h1,h2,h3⟩:=qO h;refine⟨v,H',h1,h2,fun m Hv rh hh ha=> ?_⟩;obtain⟨a,b,rfl,ha',hb⟩:=ha.two;exact h3 m Hv a b hh ha' hb
 ·simp only[aa]at h;obtain⟨t,ht,_⟩:=h;obtain⟨v,h1,h2⟩:=S5 ht h0;refine⟨v,H,h1,rfl,fun m Hv rh hh ha=> ?_⟩;obtain⟨a,rfl,ha'⟩:=ha.one;obtain⟨r,h3,h4⟩:=h2 m Hv a hh ha';exact⟨r,Hv,h3,.same hh h4⟩
 ·simp only[aa]at h;obtain⟨v,hv,h⟩:=h;refine⟨v,H,h,rfl,fun m Hv rh hh ha=> ?_⟩;cases rh with
  |nil=>have:=ha.1;simp at this
  |cons a as=>
   obtain⟨z,h1,h2⟩:=ey (g:=V.EJ) (fun x y z x' y'=>P5) hv (ha.2 0 _ a rfl rfl) (ys':=as) ⟨by have:=ha.1;simpa using this,fun i a b k1 k2=>ha.2 (i+1) a b (by simpa using k1) (by simpa using k2)⟩;exact⟨z,Hv,by simp[V.builtin,h1],.same hh h2⟩
 ·simp only[aa]at h;obtain⟨v,hv,h⟩:=h;refine⟨v,H,h,rfl,fun m Hv rh hh ha=> ?_⟩;cases rh with
  |nil=>have:=ha.1;simp at this
  |cons a as=>
   obtain⟨z,h1,h2⟩:=ey (g:=V.CJ) (fun x y z x' y'=>O5) hv (ha.2 0 _ a rfl rfl) (ys':=as) ⟨by have:=ha.1;simpa using this,fun i a b k1 k2=>ha.2 (i+1) a b (by simpa using k1) (by simpa using k2)⟩;exact⟨z,Hv,by simp[V.builtin,h1],.same hh h2⟩
 ·simp only[aa]at h;obtain⟨t,ht,h⟩:=h;obtain⟨H',h1,h2,h3⟩:=xD h;refine⟨_,H',h1,h2,fun m Hv rh hh ha=> ?_⟩;obtain⟨a,b,rfl,ha,hb⟩:=ha.two;obtain⟨Lc,e1,e2⟩:=h3 m Hv a b hh ha hb;exact⟨.Qc [],Lc,by simp[V.builtin,ht,e1],m,e2.1,.Qc [] [] rfl (fun i x a h=>by simp at h),.refl m,e2.2⟩
 ·obtain⟨v,H',h1,h2,h3⟩:=C3 h0;refine⟨v,H',h1,h2,fun m Hv rh hh ha=> ?_⟩;obtain⟨a,b,rfl,ha',hb⟩:=ha.two;exact h3 m Hv a b hh ha' hb
 ·simp at h
theorem RF.push{F:List (List UV)}{Fv:List (List V.AV)}(h:RF m φ F Fv){row:List UV}{Jb:List V.AV}(hr:RL m row Jb):
  RF m (fun i=>if i=F.length then some Fv.length else φ i) (F++[row]) (Fv++[Jb])/\zL φ (fun i=>if i=F.length then some Fv.length else φ i):=by
 have hle:zL φ (fun i=>if i=F.length then some Fv.length else φ i):=fun i j jD=>by
  have:=(h.He i j jD).1;simp only;rw[if_neg (by omega)];exact jD
 refine⟨⟨fun i j jD=> ?_,fun i r hi=> ?_,fun i i' j h1 h2=> ?_⟩,hle⟩
 ·split at jD
  ·rename_i e;simp at jD;subst jD;subst e;simp
  ·have:=h.He i j jD;simp;omega
 ·rcases Nat.lt_trichotomy i F.length with tc|heq|hgt
  ·rw[La tc]at hi;obtain⟨j,r',k1,k2,k3⟩:=h.row i r hi;exact⟨j,r',by rw[if_neg (by omega)];exact k1,by rw[La (Xa k2)];exact k2,k3⟩
  ·subst heq;simp at hi;subst hi;exact⟨Fv.length,Jb,by simp,by simp,hr⟩
  ·rw[Ab (by simp;omega)]at hi;simp at hi
 ·split at h1<;>split at h2
  ·rename_i e1 e2;rw[e1,e2]
  ·simp at h1;subst h1;have:=(h.He _ _ h2).2;omega
  ·simp at h2;subst h2;have:=(h.He _ _ h1).2;omega
  ·exact h.inj i i' j h1 h2
theorem RS.mono{m':Mp}{Pg:Nat->Option Nat}{x:US}{a:V.SV}(h:RS m φ x a)(hm:m.Le m')(hp:zL φ Pg):RS m' Pg x a:=by
 cases x with
 |v x=>
  cases a with
  |v a=>cases x<;>first|trivial|exact RV.mono hm h
  |loc j c=>cases x<;>first|trivial|exact h.elim
 |loc i c=>
  cases a with
  |v a=>exact h.elim
  |loc j c'=>exact⟨hp i j h.1,h.2⟩
theorem RE.mono{m':Mp}{Pg:Nat->Option Nat}{e:List (Nat×US)}{ev:List (Nat×V.SV)}(h:RE m φ e ev)(hm:m.Le m')(hp:zL φ Pg):RE m' Pg e ev:=fun t=>(h t).mono hm hp
theorem RE.cons{e:List (Nat×US)}{ev:List (Nat×V.SV)}(h:RE m φ e ev)(d:Nat){x:US}{a:V.SV}(hx:RS m φ x a):RE m φ ((d,x)::e) ((d,a)::ev):=fun t=>by
 simp only[get,V.get];split
 ·exact hx
 ·exact h t
theorem gG{s:St}{t:TypeId}{il:Bool}{cs:List UV}{K:US->St->Option X}(h:boxed s t il cs K=some out):
  ∃v s',K v s'=some out/\s'.base=s.base/\s'.e=s.e/\s'.H.wm=s.H.wm/\∀(m:Mp)(φ:Nat->Option Nat)(sv:V.S)(Oh:List V.AV),Om m φ s sv->RL m cs Oh->∃vv xe m' Pg,V.boxed sv t il Oh=some (vv,xe)/\Om m' Pg s' xe/\RS m' Pg v vv/\m.Le m'/\zL φ Pg/\Yj m.top m sv.H m' xe.H/\xe.e=sv.e:=by
 unfold boxed at h;split at h
 case isFalse=>simp at h
 rename_i hc;cases il with
 |true=>
  refine⟨_,_,h,rfl,rfl,rfl,fun m φ sv Oh hs mj=> ?_⟩;have hp:=hs.f.push mj;refine⟨.loc sv.F.length 0,{ sv with F:=sv.F++[Oh] },m,_,by simp[V.boxed,V.box],⟨hs.h,hp.1,hs.e.mono (.refl m) hp.2,hs.b⟩,⟨by simp,rfl⟩,.refl m,hp.2,.refl _ (va _),rfl⟩
 |false=>
  simp at hc;by_cases hb:t=TB.bT/\wW cs=true
  ·unfold box at h;simp only[if_pos hb,Jd,if_false]at h;refine⟨_,_,h,rfl,rfl,rfl,fun m φ sv Oh hs mj=> ?_⟩;obtain⟨rfl,hb⟩:=hb;have yal:cs=[.Me,.Ya]:=by
    unfold wW at hb;split at hb
    ·rfl
    ·simp at hb
   subst yal;obtain⟨a1,l1,rfl,q1,q2⟩:=mj.ji;obtain⟨a2,l2,rfl,q3,q4⟩:=q2.ji;have TJ:l2=[]:=Ja.1 q4.1;subst TJ;cases q1;cases q3;have hp:=hs.h.push (Lc:=sv.H) (y:= .Rp .empty) (x:=none) (n:=0) (fun _ _ _ _ _=>rfl) (va _) rfl (fun xv e=>by simp at e) ⟨by rw[yd];rfl,.inl ⟨rfl,ae _ _ _ _⟩⟩;have QW:(push s.H (.Rp .empty)).bl.length=s.H.bl.length+1:=by simp[push]
   have ze:=hp.1.new (y:= .Mm (.all s.H.bl.length)) (yv:= .cells [[.Me,.Ya]] 2 (some (TB.bT,2))) (n:=0)
    ⟨_,.Me,.Ya,ae _ _ _ _,by rw[Ie,if_neg (by omega),if_pos rfl],.inl rfl,.Wf _ _ (by rw[QW];simp only[Mp.add,Mp.Zi];omega) (by rw[QW,sO _ _ _ (by omega),yd]) (.inl rfl),by simp⟩
   have g1:Yj m.top m sv.H (m.add s.H.bl.length none 0) sv.H:=⟨Kg hs.h _ _,fun _ _ _=>rfl,fun b _ xv hb=>by
    by_cases e:b=s.H.bl.length
    ·subst e;obtain⟨_,e⟩:=Ti hb;simp at e
    ·rw[Cf _ _ _ e]at hb;exact .inl ⟨b,_,hb⟩,va _,rfl⟩
   have hle:m.Le ((m.add s.H.bl.length none 0).add (push s.H (.Rp .empty)).bl.length (some sv.H.bl.length) 0):=hp.2.trans ze.2.1;refine⟨.v (.ptr sv.H.bl.length 0 0),{ sv with H:=V.push sv.H (.cells [[.Me,.Ya]] 2 (some (TB.bT,2))) },_,φ,?_,⟨ze.1,hs.f.mono hle,hs.e.mono hle fun _ _ h=>h,?_⟩,?_,hle,fun _ _ h=>h,g1.trans ze.2.2 (by simp only[Mp.add,Mp.Zi];have:=hs.h.len;omega),rfl⟩
   ·simp[V.boxed,V.box]
   ·have:=hs.b;simp[push];omega
   ·rw[<- QW];exact RV.ptr _ 0 _ (ae _ _ _ _)
  unfold box at h;simp only[if_neg hb,Jd,if_false]at h;refine⟨_,_,h,rfl,rfl,rfl,fun m φ sv Oh hs mj=> ?_⟩;have ze:=hs.h.new (y:= .Za cs) (yv:= .cells [Oh] Oh.length (some (t,2))) (n:=0) ⟨_,Oh,_,ae _ _ _ _,by rw[Ie,if_neg (by omega),if_pos rfl],mj.mono (tO hs.h _ _)⟩;refine⟨.v (.ptr sv.H.bl.length 0 0),{ sv with H:=V.push sv.H (.cells [Oh] Oh.length (some (t,2))) },_,φ,?_,⟨ze.1,hs.f.mono ze.2.1,hs.e.mono ze.2.1 fun _ _ h=>h,?_⟩,RV.ptr _ 0 _ (ae _ _ _ _),ze.2.1,fun _ _ h=>h,ze.2.2,rfl⟩
  ·simp only[V.boxed,V.box];have:decide (0<Oh.length)=true:=by simp[mj.1,hc]
   simp[this]
  ·have:=hs.b;simp[push];omega
end
end Go.U
namespace Go.U
open Go
variable [TB:ZC]
section
variable {A:V.Eh}{Ra:Nat->Option (List UV)}{m:Mp}
theorem jm{fz:V.AH->V.AV->Option (V.AV×V.AH)}{H:V.AH}:∀{l:List V.AV},(∀a∈l,fz H a=some (a,H))->V.Yg fz H l=some (l,H)
 |[],_=>rfl
 |a::l,h=>by
  simp only[V.Yg,h a (Fc ..),ga,jm (l:=l) fun b hb=>h b (Ib _ hb)]
theorem Iq{fz:V.AH->V.AV->Option (V.AV×V.AH)}{H:V.AH}:∀{l:List (List V.AV)},(∀row∈l,∀a∈row,fz H a=some (a,H))->V.Lh fz H l=some (l,H)
 |[],_=>rfl
 |a::l,h=>by
  simp only[V.Lh,jm (h a (Fc ..)),ga,Iq (l:=l) fun b hb=>h b (Ib _ hb)]
theorem RL.mem{xs:List UV}{as:List V.AV}(h:RL m xs as){a:V.AV}(ha:a∈as):∃x∈xs,RV m x a:=by
 obtain⟨i,hi⟩:=je ha;have hx:=Aa (l:=xs) (i:=i) (by rw[<- h.1];exact Xa hi);exact⟨_,Db hx,h.2 i _ a hx hi⟩
theorem Ij:∀(d:Nat){x:UV}{a:V.AV},Rb d x=true->RV m x a->∀Hv,V.freeze d Hv a=some (a,Hv)
 |0,x,a,h,hx,Hv=>by simp[Rb]at h
 |d+1,x,a,h,hx,Hv=>by
  cases hx with
  |Sb=>simp[Rb,closed]at h
  |sl=>simp[Rb,closed]at h
  |Vt=>simp[Rb,closed]at h
  |all=>simp[Rb,closed]at h
  |Wf=>simp[Rb,closed]at h
  |Qp=>simp[Rb,closed]at h
  |Ju=>simp[Rb,closed]at h
  |cq=>simp[Rb,closed]at h
  |ri _ _ ha=>rcases ha with rfl|rfl<;>rfl
  |agg cs as hl hr=>
   have:V.Yg (V.freeze d) Hv as=some (as,Hv):=jm fun a ha=>by
    obtain⟨x,hx,hv⟩:=RL.mem (m:=m) ⟨hl,hr⟩ ha;exact Ij d (ic.1 (by simpa[Rb]using h) x hx) hv Hv
   simp only[V.freeze,this,ga]
  |Qc cs as hl hr=>
   have:V.Yg (V.freeze d) Hv as=some (as,Hv):=jm fun a ha=>by
    obtain⟨x,hx,hv⟩:=RL.mem (m:=m) ⟨hl,hr⟩ ha;exact Ij d (ic.1 (by simpa[Rb]using h) x hx) hv Hv
   simp only[V.freeze,this,ga]
  |_=>rfl
def Fz(d:Nat)(x:UV)(H:UH)(x':UV)(H':UH):Prop:=H'.wm=H.wm/\∀(m:Mp)(Hv:V.AH)(a:V.AV),RH m H Hv->RV m x a->∃a' Lc,V.freeze d Hv a=some (a',Lc)/\gq m Hv x' H' a' Lc
theorem Fz.same{d:Nat}{x:UV}{H:UH}(h:Rb d x=true):Fz d x H x H:=⟨rfl,fun m Hv a hh hx=>⟨a,Hv,Ij d h hx Hv,.same hh hx⟩⟩
theorem xM{H:UH}{d b:Nat}{c:CT}{x:UV}{l:List (Fb c)}(hd:0<d)(hw:H.wm<=b)(hr:rowsOf H c x=some l)(hx:(∃r n,x= .sl b r n)\/x= .all b):Fz (d+1) x H (.lit c l) (Sa H b .dead):=by
 refine⟨rfl,fun m Hv a hh hxa=> ?_⟩;have hb:∃c' l',H.bl[b]?=some (.cells c' l')/\c'=c:=by
  rcases hx with⟨r,n,rfl⟩|rfl
  all_goals
   simp only[rowsOf]at hr;split at hr
   case h_2=>simp at hr
   rename_i c' l' hb;split at hr
   case isFalse=>simp at hr
   rename_i hc;exact⟨c',l',hb,hc⟩
 obtain⟨c',l',hb,rfl⟩:=hb;have hk:=hh.kill b;have Yd:live H b:=⟨_,hb,rfl⟩;obtain⟨rows,k1,k2⟩:=Jh hr hh hxa;obtain⟨kb,kx⟩:=yc (s:=⟨[],[],H,0⟩) (sv:=⟨[],[],Hv⟩) hh hb;have Jaf:(a= .Ya\/a= .Pd)->l=[]->∃a' Lc,V.freeze (d+1) Hv a=some (a',Lc)/\gq m Hv (.lit c' l) (Sa H b .dead) a' Lc:=fun ha hl=>by
  subst hl;exact⟨a,Hv,by rcases ha with rfl|rfl<;>rfl,m,hk,.ri _ _ ha,.refl m,.refl Hv (va _)⟩
 have main:∀{xi r n:Nat},m.ι b 0=some xi->a= .sl xi r n->∃a' Lc,V.freeze (d+1) Hv a=some (a',Lc)/\gq m Hv (.lit c' l) (Sa H b .dead) a' Lc:=fun{xi r n}Of ha=>by
  subst ha;obtain⟨rws,ty,j2,j3,j4⟩:=kx xi Of;have VO:Hv.bl[xi]?=some (.cells rws (width c') ty):=j2;have l6:=hh.wm b xi Of hw;have Wj:∀b' s',live (Sa H b .dead) b'->m.ι b' s'≠some xi:=fun b' s' hl e=>by
   rcases qg hl with⟨_,h'⟩|⟨Sc,Zf⟩
   ·simp[Xd]at h'
   ·exact Sc (hh.inj b' b xi Zf Yd e Of)
  have Ed:=hk.other Wj .dead;have k1':V.rowsOf Hv (.sl xi r n)=some rows:=k1;refine⟨.lit (width c') rows,V.Sa Hv xi .dead,?_,m,Ed,k2.lit,.refl m,⟨.refl (va _),fun x Rk hn=>by rw[Ac,if_neg (fun e=>hn b 0 (by rw[<- e];exact Of))],fun b' s' x ud=> .inl ⟨b',s',ud⟩,by simp[V.Sa],rfl⟩⟩;have GD:V.Lh (V.freeze d) (V.Sa Hv xi .dead) rows=some (rows,V.Sa Hv xi .dead):=Iq fun row jd a ha=>by
   obtain⟨i,hi⟩:=je jd;obtain⟨x,hxm,AW⟩:=(k2.get hi).mem ha;obtain⟨d',rfl⟩:∃d',d=d'+1:=⟨d-1,by omega⟩;exact Ij _ (Qw (Vd _ _ _ x hxm)) AW _
  simp only[V.freeze,k1',ga,V.Uj,VO,l6,if_true,GD]
 rcases hx with⟨r,n,rfl⟩|rfl
 ·simp only[rowsOf,hb]at hr;simp at hr;subst hr;cases hxa with
  |sl _ _ _ xi Of hle=>exact main Of rfl
  |Vt _ _ _ ha=>exact Jaf ha (by rw[Ek];simp)
 ·simp only[rowsOf,hb]at hr;simp at hr;subst hr;cases hxa with
  |all _ xi Of=>exact main Of rfl
  |Wf _ _ _ hl ha=>exact Jaf ha (Ja.1 (by have:m.len b 0=l'.length:=kb;omega))
theorem nX{m:Mp}{c:CT}{d:Nat}:∀{L:List (List (Fb c))}{rows:List (List V.AV)}{Hc:V.AH}{F:Nat->Option Nat},rows.length=L.length->(∀r,r<L.length->∃a,rows[r]?=some [a]/\Ul m Hc (F r) c (L.getD r []) a)->
  (∀r r' y,F r=some y->F r'=some y->r=r')->(∀r y,F r=some y->Hc.wm<=y)->∃Wd Hc',V.Lh (V.freeze (d+2)) Hc rows=some (Wd,Hc')/\Wd.length=L.length/\(∀r Jb,r<L.length->Wd[r]?=some Jb->RL m [.lit c (L.getD r [])] Jb)/\Hc'.bl.length=Hc.bl.length/\Hc'.wm=Hc.wm/\∀x,(∀r,F r≠some x)->Hc'.bl[x]?=Hc.bl[x]?
 |[],rows,Hc,F,hl,_,_,_=>by
  have:rows=[]:=Ja.1 hl;subst this;exact⟨[],Hc,rfl,rfl,fun r Jb hr=>by simp at hr,rfl,rfl,fun _ _=>rfl⟩
 |l0::L,[],Hc,F,hl,_,_,_=>by simp at hl
 |l0::L,row::rows,Hc,F,hl,hr,hi,hw=>by
  obtain⟨a,h1,h2⟩:=hr 0 (by simp);simp at h1;subst h1;have h2:Ul m Hc (F 0) c l0 a:=h2;have step:∃a' H1,V.freeze (d+2) Hc a=some (a',H1)/\RV m (.lit c l0) a'/\H1.bl.length=Hc.bl.length/\H1.wm=Hc.wm/\∀x,F 0≠some x->H1.bl[x]?=Hc.bl[x]?:=by
   rcases h2 with⟨k1,k2,k3⟩|⟨y,ry,ty,k1,rfl,k3,k4,k5⟩
   ·have:l0=[]:=Ja.1 k1;subst this;exact⟨a,Hc,by rcases k3 with rfl|rfl<;>rfl,.ri _ _ k3,rfl,rfl,fun _ _=>rfl⟩
   ·have kV:RT m c l0 (ry.take l0.length):= .of (by simp;omega) fun i row hi hr=>by
     rw[Cb,if_pos hi]at hr;obtain⟨Jb,j1,j2,j3⟩:=k5.row k4 hi;rw[j1]at hr;simp at hr;subst hr;exact j2
    have J4:V.rowsOf Hc (.sl y 0 l0.length)=some (ry.take l0.length):=by
     simp only[V.rowsOf,k3];rw[if_pos (by omega)];simp
    have GD:V.Lh (V.freeze (d+1)) (V.Sa Hc y .dead) (ry.take l0.length)=some (ry.take l0.length,V.Sa Hc y .dead):=Iq fun row jd a ha=>by
     obtain⟨i,hi⟩:=je jd;obtain⟨x,hxm,AW⟩:=(kV.get hi).mem ha;exact Ij _ (Qw (Vd _ _ _ x hxm)) AW _
    refine⟨.lit (width c) (ry.take l0.length),V.Sa Hc y .dead,?_,kV.lit,by simp[V.Sa],rfl,fun x hx=>by rw[Ac,if_neg];rintro rfl;exact hx k1⟩;simp only[V.freeze,J4,ga,V.Uj,k3,hw 0 y k1,if_true,GD]
  obtain⟨a',H1,s1,s2,s3,s4,s5⟩:=step;obtain⟨Wd,H2,t1,t2,t3,t4,t5,t6⟩:=nX (L:=L) (rows:=rows) (Hc:=H1) (F:=fun r=>F (r+1)) (d:=d) (by simpa using hl) (fun r dm=>by
    obtain⟨a,k1,k2⟩:=hr (r+1) (by simp;omega);refine⟨a,by simpa using k1,?_⟩;have k2:Ul m Hc (F (r+1)) c (L.getD r []) a:=by simpa using k2
    exact k2.keep (fun _ _ _ h=>h) fun x hx=>s5 x fun e=>by have:=hi _ _ x e hx;omega)
   (fun r r' y e e'=>by have:=hi _ _ y e e';omega) (fun r y e=>by rw[s4];exact hw _ y e)
  refine⟨[a']::Wd,H2,by simp only[V.Lh,V.Yg,s1,ga,t1],by simp[t2],fun r Jb dm jd=> ?_,by rw[t4,s3],by rw[t5,s4],fun x hx=>by rw[t6 x fun r=>hx (r+1),s5 x (hx 0)]⟩;cases r with
  |zero=>simp at jd;subst jd;exact .cons s2 .nil
  |succ r=>have:=t3 r Jb (by simpa using dm) (by simpa using jd);simpa using this
theorem fK{H:UH}{d b:Nat}{c:CT}{l:List (List (Fb c))}(hd:1<d)(hw:H.wm<=b)(hb:H.bl[b]?=some (.deep c l)):Fz (d+1) (.all b) H (.lit (.slice c) l) (Sa H b .dead):=by
 refine⟨rfl,fun m Hv a hh hxa=> ?_⟩;have hk:=hh.kill b;have Yd:live H b:=⟨_,hb,rfl⟩;obtain⟨k0,k1,kx⟩:=Ud (s:=⟨[],[],H,0⟩) (sv:=⟨[],[],Hv⟩) hh hb;obtain⟨d',rfl⟩:∃d',d=d'+2:=⟨d-2,by omega⟩;cases hxa with
 |Wf _ _ _ hl ha=>
  have:l=[]:=Ja.1 (by rw[<- k0];exact hl);subst this;exact⟨a,Hv,by rcases ha with rfl|rfl<;>rfl,m,hk,.ri _ _ ha,.refl m,.refl Hv (va _)⟩
 |all _ xi Of=>
  obtain⟨rws,ty,j2,j3,j4⟩:=kx xi Of;have VO:Hv.bl[xi]?=some (.cells rws 1 ty):=j2;have l6:=hh.wm b xi Of hw;have J4:V.rowsOf Hv (.sl xi 0 (m.len b 0))=some (rws.take l.length):=by
   simp only[V.rowsOf,VO];rw[k0,if_pos (by omega)];simp
  have hsx:∀{r y:Nat},m.ι b (r+1)=some y->xi≠y:=fun{r y}e e'=>by subst e';have:=(hh.Pn b b xi Yd Yd Of e).2;omega
  obtain⟨Wd,H2,t1,t2,t3,t4,t5,t6⟩:=nX (m:=m) (L:=l) (rows:=rws.take l.length) (Hc:=V.Sa Hv xi .dead) (F:=fun r=>m.ι b (r+1)) (d:=d') (by simp;omega) (fun r hr=>by
    obtain⟨a,q1,q2⟩:=j4 r hr;exact⟨a,by rw[Cb,if_pos hr];exact q1,q2.keep (fun _ _ _ h=>h) fun x hx=>by rw[Ac,if_neg (hsx hx)]⟩)
   (fun r r' y e e'=>by have:=(hh.Pn b b y Yd Yd e e').2;omega) (fun r y e=>hh.wm b y e hw)
  have kV:RT m (.slice c) l Wd:= .of t2 fun i row hi hr=>t3 i row hi hr
  have dc:∀x,(∀s,m.ι b s≠some x)->H2.bl[x]?=Hv.bl[x]?:=fun x hx=>by
   rw[t6 x fun r=>hx (r+1),Ac,if_neg (fun e=>hx 0 (by rw[<- e];exact Of))]
  have TJ:H2.bl.length=Hv.bl.length:=by rw[t4];simp[V.Sa]
  have hrh:RH m (Sa H b .dead) H2:=hk.alike (fun b' s x Zf e=>dc x fun s' e'=>by
   rcases qg Zf with⟨_,h'⟩|⟨Sc,aal⟩
   ·simp[Xd]at h'
   ·exact Sc (hh.inj b' b x aal Yd e e')) TJ t5
  refine⟨.lit 1 Wd,H2,?_,m,hrh,kV.lit,.refl m,⟨.refl (va _),fun x Rk hn=>dc x (hn b),fun b' s' x ud=> .inl ⟨b',s',ud⟩,by rw[TJ];exact va _,t5⟩⟩;simp only[V.freeze,J4,ga,V.Uj,VO,l6,if_true,t1]
end
section
variable {φ:Nat->Option Nat}{Hv:V.AH}
def Mo(m:Mp)(H H':UH)(Hv:V.AH)(P:Mp->Prop):Prop:=H'.wm=H.wm/\∃m',RH m' H' Hv/\m.Le m'/\Yj m.top m Hv m' Hv/\P m'
theorem Mo.same{m:Mp}{H:UH}{P:Mp->Prop}(hh:RH m H Hv)(hp:P m):Mo m H H Hv P:=⟨rfl,m,hh,.refl m,.refl Hv (va _),hp⟩
theorem Mo.trans{m:Mp}{H H1 H2:UH}{P:Mp->Prop}{Q:Mp->Prop}(h:Mo m H H1 Hv P)(h':∀m1,RH m1 H1 Hv->m.Le m1->P m1->Mo m1 H1 H2 Hv Q):Mo m H H2 Hv Q:=by
 obtain⟨w1,m1,h1,h2,h3,h4⟩:=h;obtain⟨w2,m2,k1,k2,k3,k4⟩:=h' m1 h1 h2 h4;exact⟨w2.trans w1,m2,k1,h2.trans k2,h3.trans k3 h3.Pk.1,k4⟩
theorem Mo.imp{m:Mp}{H H1:UH}{P:Mp->Prop}{Q:Mp->Prop}(h:Mo m H H1 Hv P)(h':∀m1,m.Le m1->P m1->Q m1):Mo m H H1 Hv Q:=by
 obtain⟨w1,m1,h1,h2,h3,h4⟩:=h;exact⟨w1,m1,h1,h2,h3,h' m1 h2 h4⟩
theorem Av{m:Mp}{H:UH}(hh:RH m H Hv)(c:CT):Mo m H (push H (.cells c [])) Hv fun m'=>∀a,a= .Ya\/a= .Pd->RV m' (.all H.bl.length) a:=by
 have hp:=hh.push (Lc:=Hv) (y:= .cells c []) (x:=none) (n:=0) (fun _ _ _ _ _=>rfl) (va _) rfl (fun xv e=>by simp at e) ⟨yd _ _ _ _,.inl ⟨rfl,ae _ _ _ _⟩⟩;refine⟨rfl,_,hp.1,hp.2,⟨Kg hh _ _,fun _ _ _=>rfl,fun b _ xv hb=> ?_,va _,rfl⟩,fun a h=> .Wf _ _ (by simp[Mp.add,Mp.Zi]) (yd _ _ _ _) h⟩;by_cases e:b=H.bl.length
 ·subst e;obtain⟨_,e⟩:=Ti hb;simp at e
 ·rw[Cf _ _ _ e]at hb;exact .inl ⟨b,_,hb⟩
end
section
variable {A:V.Eh}{Ra:Nat->Option (List UV)}{m:Mp}
theorem GS{v:UV}{H:UH}{v':UV}{H':UH}(h:WM v H=some (v',H')):Fz 8 v H v' H':=by
 unfold WM at h;split at h
 case h_2=>simp at h
 split at h
 case isFalse=>simp at h
 rename_i hw;split at h
 ·rename_i c l hb;simp at h;obtain⟨rfl,rfl⟩:=h;exact xM (by omega) hw (by simp[rowsOf,hb]) (.inr rfl)
 ·rename_i c l hb;simp at h;obtain⟨rfl,rfl⟩:=h;exact fK (by omega) hw hb
 ·simp at h
theorem iM{t:TypeId}{x v:UV}{H H':UH}(h:Di A H t x=some (v,H')):H'.wm=H.wm/\∀(m:Mp)(Hv:V.AH)(x':V.AV),RH m H Hv->RV m x x'->∃a Lc,V.Di A t x'=some a/\Lc=Hv/\gq m Hv v H' a Lc:=by
 unfold Di at h;split at h
 case h_2=>simp at h
 rename_i e hu;split at h
 case isFalse=>simp at h
 rename_i hz;obtain⟨n,hn⟩:=Option.isSome_iff_exists.1 hz;have go:∀{m:Mp}{Hv:V.AH}(c:CT){x':V.AV},RH m H Hv->(∃a,V.Di A t x'=some a/\(a= .Ya\/a= .Pd))->∃a Lc,V.Di A t x'=some a/\Lc=Hv/\gq m Hv (.all H.bl.length) (push H (.cells c [])) a Lc:=fun{m Hv}c{x'}hh⟨a,h1,h2⟩=>by
  obtain⟨_,m',k1,k2,k3,k4⟩:=Av hh c;exact⟨a,Hv,h1,rfl,m',k1,k4 a h2,k2,k3⟩
 have sl:∀x':V.AV,(x'= .Ya\/x'= .Pd\/(∃s r,x'= .lit s r)\/∃b r k,x'= .sl b r k)->∃a,V.Di A t x'=some a/\(a= .Ya\/a= .Pd):=fun x' hx=>by
  rcases hx with rfl|rfl|⟨_,_,rfl⟩|⟨_,_,_,rfl⟩<;>simp[V.Di,hu,hn]
 split at h
 ·simp at h;obtain⟨rfl,rfl⟩:=h;exact⟨rfl,fun m Hv x' hh hx=>by cases hx;exact⟨.Ya,Hv,by simp[V.Di,hu,hn],rfl,.same hh .Ya⟩⟩
 ·simp at h;obtain⟨rfl,rfl⟩:=h;exact⟨rfl,fun m Hv x' hh hx=>by cases hx;exact⟨.Pd,Hv,by simp[V.Di,hu,hn],rfl,.same hh .Pd⟩⟩
 ·simp at h;obtain⟨rfl,rfl⟩:=h;refine⟨rfl,fun m Hv x' hh hx=>go _ hh (sl _ ?_)⟩;cases hx with
  |lit=>exact .inr (.inr (.inl ⟨_,_,rfl⟩))
  |ri _ _ ha=>rcases ha with rfl|rfl<;>simp
 ·split at h
  ·simp at h;obtain⟨rfl,rfl⟩:=h;refine⟨rfl,fun m Hv x' hh hx=>go _ hh (sl _ ?_)⟩;cases hx with
   |sl=>exact .inr (.inr (.inr ⟨_,_,_,rfl⟩))
   |Vt _ _ _ ha=>rcases ha with rfl|rfl<;>simp
  ·simp at h
 ·split at h
  ·simp at h;obtain⟨rfl,rfl⟩:=h;refine⟨rfl,fun m Hv x' hh hx=>go _ hh (sl _ ?_)⟩;cases hx with
   |all=>exact .inr (.inr (.inr ⟨_,_,_,rfl⟩))
   |Wf _ _ _ _ ha=>rcases ha with rfl|rfl<;>simp
  ·simp at h
 ·simp at h
theorem YO{m:Mp}{x:UV}{a:V.AV}(h:xW x=true)(hx:RV m x a):V.xW a=true:=by
 unfold xW at h;split at h
 ·cases hx;simpa[V.xW]using h
 ·simp at h
end
end Go.U
namespace Go.U
open Go
variable [TB:ZC]
def Gc(C:V.Callee)(call:(X:Type)->UV->List UV->UH->(UV->UH->Option X)->Option X):Prop:=
 ∀(X:Type)(fv:UV)(args:List UV)(H:UH)(K:UV->UH->Option X)(out:X),call X fv args H K=some out->
  ∃r H',K r H'=some out/\H'.wm=H.wm/\∀(m:Mp)(Hv:V.AH)(S4:V.AV)(rh:List V.AV),RH m H Hv->RV m fv S4->RL m args rh->∃r' Lc,C S4 rh Hv=some (r',Lc)/\gq m Hv r H' r' Lc
def AL(A:V.Eh)(C:V.Callee)(Fa:List Nat)(s:St)(o:Oper)(v:US)(s':St):Prop:=
 s'.base=s.base/\s'.e=s.e/\s'.H.wm=s.H.wm/\∀(m:Mp)(φ:Nat->Option Nat)(sv:V.S),Om m φ s sv->∃vv xe m' Pg,V.op A C Fa sv o=some (vv,xe)/\Om m' Pg s' xe/\RS m' Pg v vv/\m.Le m'/\zL φ Pg/\Yj m.top m sv.H m' xe.H/\xe.e=sv.e
section
variable {A:V.Eh}{C:V.Callee}{Ra:Nat->Option (List UV)}{Fa:List Nat}{s:St}{o:Oper}{X:Type}{out:X}
theorem zL.refl(φ:Nat->Option Nat):zL φ φ:=fun _ _ h=>h
theorem zL.trans{φ Pg laf:Nat->Option Nat}(h:zL φ Pg)(h':zL Pg laf):zL φ laf:=fun i j jD=>h' i j (h i j jD)
theorem AL.slot{v:US}(h:∀(m:Mp)(φ:Nat->Option Nat)(sv:V.S),Om m φ s sv->∃vv,V.op A C Fa sv o=some (vv,sv)/\RS m φ v vv):AL A C Fa s o v s:=
 ⟨rfl,rfl,rfl,fun m φ sv hs=>let⟨vv,h1,h2⟩:=h m φ sv hs;⟨vv,sv,m,φ,h1,hs,h2,.refl m,.refl φ,.refl _ (va _),rfl⟩⟩
theorem AL.pure{v:UV}(h:∀(m:Mp)(φ:Nat->Option Nat)(sv:V.S),Om m φ s sv->∃a,V.op A C Fa sv o=some (.v a,sv)/\RV m v a):AL A C Fa s o (.v v) s:=
 .slot fun m φ sv hs=>let⟨a,h1,h2⟩:=h m φ sv hs;⟨.v a,h1,h2.rs⟩
theorem AL.heap{v:UV}{H':UH}(hw:H'.wm=s.H.wm)(h:∀(m:Mp)(φ:Nat->Option Nat)(sv:V.S),Om m φ s sv->∃a Lc,V.op A C Fa sv o=some (.v a,{ sv with H:=Lc })/\gq m sv.H v H' a Lc):AL A C Fa s o (.v v) { s with H:=H' }:=
 ⟨rfl,rfl,hw,fun m φ sv hs=>by
  obtain⟨a,Lc,h1,m',h2,h3,h4,h5⟩:=h m φ sv hs;refine⟨.v a,_,m',φ,h1,⟨h2,hs.f.mono h4,hs.e.mono h4 (.refl φ),?_⟩,h3.rs,h4,.refl φ,h5,rfl⟩;have:=h5.Pk.1;have:=h2.len;have:=hs.h.len;have:=hs.b;show s.base<=H'.bl.length;omega⟩
theorem Qr{m:Mp}{x:UV}{a:V.AV}{n:Int}(h:toInt x=some n)(hx:RV m x a):V.toInt a=some n:=by
 unfold toInt at h;split at h
 ·cases hx;simpa[V.toInt]using h
 ·simp at h
theorem tB(hg:Fe A Ra){m:Mp}{φ:Nat->Option Nat}{e:List (Nat×US)}{ev:List (Nat×V.SV)}{x:Option Operand}{n:Option Int}(h:Rg Ra e x=some n)(he:RE m φ e ev):V.Rg A ev x=some n:=by
 cases x with
 |none=>simpa[Rg,V.Rg]using h
 |some x=>
  simp only[Rg,aa]at h;obtain⟨a,ha,h⟩:=h;obtain⟨a',h1,h2⟩:=Jc hg ha he;simp only[ia]at h;obtain⟨i,hi,rfl⟩:=h;simp[V.Rg,h1,Qr hi h2]
theorem pM(hg:Fe A Ra){env:Env}(hc:Gc C env.call){K:US->St->Option X}(h:op A Ra env Fa s o K=some out):∃v s',K v s'=some out/\AL A C Fa s o v s':=by
 unfold op at h;split at h
 ·rename_i x ho;simp only[aa]at h;obtain⟨v,hv,h⟩:=h;refine⟨v,s,h,.slot fun m φ sv hs=> ?_⟩;obtain⟨vv,h1,h2⟩:=zd hg hv hs.e;exact⟨vv,by simp[V.op,ho,h1],h2⟩
 ·rename_i x ho;simp only[aa]at h;obtain⟨v,hv,h⟩:=h;refine⟨v,s,h,.slot fun m φ sv hs=> ?_⟩;obtain⟨vv,h1,h2⟩:=zd hg hv hs.e;exact⟨vv,by simp[V.op,ho,h1],h2⟩
 ·rename_i c a b ho;simp only[aa]at h;obtain⟨cv,YW,h⟩:=h;split at h
  case h_2=>simp at h
  rename_i p;cases p with
  |true=>
   simp only[cond_true,aa]at h;obtain⟨v,hv,h⟩:=h;refine⟨v,s,h,.slot fun m φ sv hs=> ?_⟩;obtain⟨c',h1,h2⟩:=Jc hg YW hs.e;cases h2;obtain⟨vv,h3,h4⟩:=zd hg hv hs.e;exact⟨vv,by simp[V.op,ho,h1,h3],h4⟩
  |false=>
   simp only[cond_false,aa]at h;obtain⟨v,hv,h⟩:=h;refine⟨v,s,h,.slot fun m φ sv hs=> ?_⟩;obtain⟨c',h1,h2⟩:=Jc hg YW hs.e;cases h2;obtain⟨vv,h3,h4⟩:=zd hg hv hs.e;exact⟨vv,by simp[V.op,ho,h1,h3],h4⟩
 ·rename_i t ho;simp only[aa]at h;obtain⟨z,hz,h⟩:=h;obtain⟨z',q1,q2,_⟩:=jq hz;obtain⟨v,s',h1,h2,h3,h4,h5⟩:=gG h;refine⟨v,s',h1,h2,h3,h4,fun m φ sv hs=> ?_⟩;obtain⟨vv,xe,m',Pg,k1,k2⟩:=h5 m φ sv z' hs (q2 m);exact⟨vv,xe,m',Pg,by simp only[V.op,ho,q1,ga];exact k1,k2⟩
 ·rename_i x0 x ho;simp only[aa]at h;obtain⟨a,ha,cs,mj,h⟩:=h;obtain⟨v,s',h1,h2,h3,h4,h5⟩:=gG h;refine⟨v,s',h1,h2,h3,h4,fun m φ sv hs=> ?_⟩;obtain⟨a',q1,q2⟩:=Jc hg ha hs.e;obtain⟨Oh,q3,q4⟩:=Dt mj q2;obtain⟨vv,xe,m',Pg,k1,k2⟩:=h5 m φ sv Oh hs q4;exact⟨vv,xe,m',Pg,by simp only[V.op,ho,q1,q3,ga];exact k1,k2⟩
 ·rename_i t ps ho;simp only[aa]at h;obtain⟨l,hl,v,hv,h⟩:=h;refine⟨_,s,h,.pure fun m φ sv hs=> ?_⟩;obtain⟨l',h1,h2⟩:=Xr hg hs.e hl;obtain⟨a,h3,h4⟩:=VU hv h2;exact⟨a,by simp[V.op,ho,h1,h3,V.Sf],h4⟩
 ·rename_i t n ps ho;simp only[aa]at h;obtain⟨l,hl,⟨v,H'⟩,hv,⟨v2,H2⟩,p6,h⟩:=h;have hw:H'.wm=s.H.wm:=by
   simp only[buildSlice,aa]at hv;obtain⟨_,_,_,_,_,_,hv⟩:=hv;split at hv
   ·split at hv
    ·simp at hv;rw[<- hv.2]
    ·split at hv
     ·rename_i hd;simp at hv;subst hv;unfold eO at hd;split at hd
      ·split at hd
       ·simp only[aa]at hd;obtain⟨⟨L,H1⟩,h1,hd⟩:=hd;simp at hd;rw[<- hd.2];exact(show(push H1 (UB.deep _ L)).wm=H1.wm from rfl).trans (Jm h1)
       ·simp at hd
      ·simp at hd
     simp only[aa]at hv;obtain⟨_,_,_,_,hv⟩:=hv;simp at hv;rw[<- hv.2];rfl
   ·simp at hv
  by_cases RJ:V.Nn Fa o=true
  ·rw[RJ,cond_true]at p6;obtain⟨z1,z2⟩:=GS p6;refine⟨_,_,h,.heap (z1.trans hw) fun m φ sv hs=> ?_⟩;obtain⟨l',h1,h2⟩:=Xr hg hs.e hl;obtain⟨a,Lc,h3,m1,h5,h6,h7,h8⟩:=ur hv hs.h h2;obtain⟨a',Hv2,e1,m2,e2,e3,e4,e5⟩:=z2 m1 Lc a h5 h6;exact⟨a',Hv2,by simp[V.op,ho,h1,h3,V.zh,RJ,e1],m2,e2,e3,h7.trans e4,h8.trans e5 h8.Pk.1⟩
  ·have RJ:V.Nn Fa o=false:=by simpa using RJ
   rw[RJ,cond_false]at p6;simp at p6;obtain⟨rfl,rfl⟩:=p6;refine⟨_,_,h,.heap hw fun m φ sv hs=> ?_⟩;obtain⟨l',h1,h2⟩:=Xr hg hs.e hl;obtain⟨a,Lc,h3,h4⟩:=ur hv hs.h h2;exact⟨a,Lc,by simp[V.op,ho,h1,h3,V.zh,RJ],h4⟩
 ·rename_i t x ho;simp only[aa]at h;obtain⟨p,hp,v,hv,h⟩:=h;refine⟨_,s,h,.pure fun m φ sv hs=> ?_⟩;obtain⟨pv,h1,h2⟩:=zd hg hp hs.e;obtain⟨a,h3,h4⟩:=Gv hv hs.h hs.f h2;exact⟨a,by simp[V.op,ho,h1,h3,V.Sf],h4⟩
 ·rename_i t x y ho;simp only[aa]at h;obtain⟨p,hp,a,ha,s',dc,h⟩:=h;have hb:s'.base=s.base/\s'.e=s.e/\s'.H.wm=s.H.wm/\s.H.bl.length<=s'.H.bl.length:=by
   simp only[store,xF,aa]at dc;obtain⟨_,_,_,_,dc⟩:=dc;split at dc
   case isFalse=>simp at dc
   split at dc
   ·simp only[aa]at dc;obtain⟨_,_,_,_,dc⟩:=dc;simp at dc;subst dc;simp
   ·split at dc
    case h_2=>simp at dc
    split at dc
    case isFalse=>simp at dc
    simp only[aa]at dc;obtain⟨_,_,dc⟩:=dc;simp at dc;subst dc;simp[Sa]
   ·split at dc
    case h_2=>simp at dc
    split at dc
    case isFalse=>simp at dc
    simp only[aa]at dc;obtain⟨_,_,_,_,dc⟩:=dc;simp at dc;subst dc;simp[Sa]
   ·split at dc
    case h_2=>simp at dc
    split at dc
    case isFalse=>simp at dc
    simp only[aa]at dc;obtain⟨_,_,_,_,dc⟩:=dc;simp at dc;subst dc;simp[Sa]
   ·simp at dc
  refine⟨_,s',h,hb.1,hb.2.1,hb.2.2.1,fun m φ sv hs=> ?_⟩;obtain⟨pv,h1,h2⟩:=zd hg hp hs.e;obtain⟨a',h3,h4⟩:=Jc hg ha hs.e;obtain⟨xe,h5,h6,h7,h8,h9,R4,h11⟩:=CR dc hs.h hs.f h2 h4;refine⟨.v .Sb,xe,m,φ,by simp[V.op,ho,h1,h3,h5],⟨h6,h7,by rw[h9,R4];exact hs.e,by have:=hs.b;omega⟩,trivial,.refl m,.refl φ,h8,R4⟩
 ·rename_i x ho;simp only[aa]at h;obtain⟨p,hp,h⟩:=h;have fin:∀{v:US},p=v->K v s=some out->(∀{m:Mp}{φ:Nat->Option Nat}{vv:V.SV},RS m φ v vv->(∃i c,vv= .loc i c)\/(∃b r c,vv= .v (.ptr b r c))\/(∃r,vv= .v (.Bd r))\/(∃f cs,vv= .v (.fn f cs))\/∃b,vv= .v (.yl b))->∃v s',K v s'=some out/\AL A C Fa s o v s':=fun{v}hpv hk hv=>by
   subst hpv;refine⟨p,s,hk,.slot fun m φ sv hs=> ?_⟩;obtain⟨vv,h1,h2⟩:=zd hg hp hs.e;refine⟨vv,?_,h2⟩;rcases hv h2 with⟨i,c,rfl⟩|⟨b,r,c,rfl⟩|⟨r,rfl⟩|⟨f,cs,rfl⟩|⟨b,rfl⟩<;>simp[V.op,ho,h1]
  split at h
  ·exact fin rfl h fun{m φ vv}hr=>by cases vv with
    |loc i c=>exact .inl ⟨_,_,rfl⟩
    |v a=>exact hr.elim
  ·exact fin rfl h fun{m φ vv}hr=>by obtain⟨a,rfl,hr⟩:=hr.val (by simp);cases hr;exact .inr (.inl ⟨_,_,_,rfl⟩)
  ·exact fin rfl h fun{m φ vv}hr=>by obtain⟨a,rfl,hr⟩:=hr.val (by simp);cases hr;exact .inr (.inl ⟨_,_,_,rfl⟩)
  ·exact fin rfl h fun{m φ vv}hr=>by obtain⟨a,rfl,hr⟩:=hr.val (by simp);cases hr;exact .inr (.inl ⟨_,_,_,rfl⟩)
  ·exact fin rfl h fun{m φ vv}hr=>by obtain⟨a,rfl,hr⟩:=hr.val (by simp);cases hr;exact .inr (.inr (.inl ⟨_,rfl⟩))
  ·exact fin rfl h fun{m φ vv}hr=>by obtain⟨a,rfl,hr⟩:=hr.val (by simp);cases hr;exact .inr (.inr (.inr (.inl ⟨_,_,rfl⟩)))
  ·exact fin rfl h fun{m φ vv}hr=>by obtain⟨a,rfl,hr⟩:=hr.val (by simp);cases hr;exact .inr (.inr (.inr (.inr ⟨_,rfl⟩)))
  ·simp at h
 ·rename_i b t x y z ho;simp only[aa]at h;obtain⟨u,hu,v,hv,h⟩:=h;obtain⟨r,h1,h2⟩:=WU h;refine⟨_,s,h1,.pure fun m φ sv hs=> ?_⟩;obtain⟨u',k1,k2⟩:=Jc hg hu hs.e;obtain⟨v',k3,k4⟩:=Jc hg hv hs.e;obtain⟨a,k5,k6⟩:=h2 m u' v' k2 k4;exact⟨a,by simp[V.op,ho,k1,k3,k5,V.Sf],k6⟩
 ·rename_i u t x ho;simp only[aa]at h;obtain⟨v,hv,r,hr,h⟩:=h;refine⟨_,s,h,.pure fun m φ sv hs=> ?_⟩;obtain⟨v',k1,k2⟩:=Jc hg hv hs.e;obtain⟨a,k3,k4⟩:=CV hr k2;exact⟨a,by simp[V.op,ho,k1,k3,V.Sf],k4⟩
 ·rename_i src dst x ho;simp only[aa]at h;obtain⟨v,hv,h⟩:=h;obtain⟨r,H',h1,h2,h3⟩:=nL h;refine⟨_,_,h1,.heap h2 fun m φ sv hs=> ?_⟩;obtain⟨v',k1,k2⟩:=Jc hg hv hs.e;obtain⟨a,Lc,k3,k4⟩:=h3 m sv.H v' hs.h k2;exact⟨a,Lc,by simp[V.op,ho,k1,k3,V.zh],k4⟩
 ·rename_i f first jh ho
  split at h
  case isFalse=>simp at h
  rename_i h0;simp only[aa]at h;obtain⟨l,hl,h⟩:=h;refine⟨_,s,h,.pure fun m φ sv hs=> ?_⟩;obtain⟨l',h1,h2⟩:=mq hg hs.e hl;exact⟨.fn f l',by simp[V.op,ho,h0,h1],.fn f l l' h2.1 h2.2⟩
 ·rename_i t r ho;simp only[aa]at h;obtain⟨_,hr,h⟩:=h;have hvr:∀{m:Mp}{φ:Nat->Option Nat}{sv:V.S},Om m φ s sv->V.op A C Fa sv o=some (.v (.mp sv.H.bl.length),{ sv with H:=V.push sv.H (.map []) }):=fun{m φ sv}hs=>by
   cases r with
   |none=>simp[V.op,ho]
   |some x=>
    simp only at hr;split at hr
    case h_2=>simp at hr
    rename_i kt et hu;simp only[aa,ia]at hr;obtain⟨v,hv,n,hn,_⟩:=hr;obtain⟨v',k1,k2⟩:=Jc hg hv hs.e;simp[V.op,ho,hu,k1,Qr hn k2]
  split at h
  case h_2=>simp at h
  rename_i kt et _;simp only[aa]at h;obtain⟨k,hk,h⟩:=h;refine⟨_,_,h,.heap rfl fun m φ sv hs=>⟨_,_,hvr hs,?_⟩⟩;have hrb:∀{m:Mp}{Hv:V.AH}{b x:Nat},m.ι b 0=some x->Hv.bl[x]?=some (.map [])->RB m Hv b (PG A k et):=fun{m Hv b x}h1 h2=>by
   unfold PG;split
   ·split
    ·exact⟨x,[],h1,h2,trivial⟩
    ·exact⟨x,[],h1,h2,trivial⟩
   ·exact⟨x,[],h1,h2,trivial⟩
  have ze:=hs.h.new (y:=PG A k et) (yv:= .map []) (n:=0) (hrb (ae _ _ _ _) (by rw[Ie,if_neg (by omega),if_pos rfl]));exact⟨_,ze.1,.mp _ _ (ae _ _ _ _),ze.2.1,ze.2.2⟩
 ·rename_i t l c ho;simp only[aa]at h;obtain⟨u,hu,v,hv,h⟩:=h;obtain⟨r,H',h1,h2,h3⟩:=yD h;refine⟨_,_,h1,.heap h2 fun m φ sv hs=> ?_⟩;obtain⟨u',k1,k2⟩:=Jc hg hu hs.e;obtain⟨v',k3,k4⟩:=Jc hg hv hs.e;obtain⟨a,Lc,k5,k6⟩:=h3 m sv.H u' v' hs.h k2 k4;exact⟨a,Lc,by simp[V.op,ho,k1,k3,k5,V.zh],k6⟩
 ·rename_i t x lo hi ho;simp only[aa]at h;obtain⟨v,hv,l,hl,hh,hhh,h⟩:=h;obtain⟨r,h1,h2⟩:=HR h;refine⟨_,s,h1,.pure fun m φ sv hs=> ?_⟩;obtain⟨v',k1,k2⟩:=Jc hg hv hs.e;obtain⟨a,k3,k4⟩:=h2 m sv.H v' hs.h k2;exact⟨a,by simp[V.op,ho,k1,tB hg hl hs.e,tB hg hhh hs.e,k3,V.Sf],k4⟩
 ·rename_i t x hi mx ho;simp only[aa]at h;obtain⟨v,hv,a,ha,b,hb,h⟩:=h;split at h
  case isFalse=>simp at h
  rename_i hc;simp only[Na]at hc;simp only[aa]at h;obtain⟨⟨r,H'⟩,hr,h⟩:=h;obtain⟨z1,z2⟩:=iM hr;refine⟨_,_,h,.heap z1 fun m φ sv hs=> ?_⟩;obtain⟨v',k1,k2⟩:=Jc hg hv hs.e;obtain⟨a',k3,k4⟩:=Jc hg ha hs.e;obtain⟨b',k5,k6⟩:=Jc hg hb hs.e;obtain⟨r',Lc,e1,rfl,e2⟩:=z2 m sv.H v' hs.h k2;exact⟨r',sv.H,by simp[V.op,ho,k1,k3,k5,YO hc.1 k4,YO hc.2 k6,e1,V.Sf],e2⟩
 ·rename_i t x f ho;simp only[aa]at h;obtain⟨p,hp,fd,YJ,n,hn,h⟩:=h;split at h
  case isTrue=>simp at h
  rename_i h0;simp only[aa]at h;obtain⟨v,hv,h⟩:=h;refine⟨v,s,h,.slot fun m φ sv hs=> ?_⟩;obtain⟨pv,h1,h2⟩:=zd hg hp hs.e;obtain⟨pv',h3,h4⟩:=Ez hv h2;exact⟨pv',by simp[V.op,ho,h1,YJ,hn,h0,h3],h4⟩
 ·rename_i t x f ho;simp only[aa]at h;obtain⟨v,hv,h⟩:=h;split at h
  case h_2=>simp at h
  rename_i cs;simp only[aa]at h;obtain⟨fd,YJ,r,hr,h⟩:=h;refine⟨_,s,h,.pure fun m φ sv hs=> ?_⟩;obtain⟨v',k1,k2⟩:=Jc hg hv hs.e;cases k2 with
  |agg _ as hl vl=>
   obtain⟨a,k3,k4⟩:=og hr ⟨hl,vl⟩;exact⟨a,by simp[V.op,ho,k1,YJ,k3,V.Sf],k4⟩
 ·rename_i t x i ho;simp only[aa]at h;obtain⟨p,hp,n,hn,k,hk,h⟩:=h;obtain⟨v,h1,h2⟩:=AD h;refine⟨v,s,h1,.slot fun m φ sv hs=> ?_⟩;obtain⟨pv,k1,k2⟩:=zd hg hp hs.e;obtain⟨n',k3,k4⟩:=Jc hg hn hs.e;obtain⟨vv,k5,k6⟩:=h2 m φ sv pv hs.h k2;exact⟨vv,by simp[V.op,ho,k1,k3,Qr hk k4,k5],k6⟩
 ·rename_i t x i ho;simp only[aa]at h;obtain⟨v,hv,n,hn,k,hk,h⟩:=h;obtain⟨r,h1,h2⟩:=oS h;refine⟨_,s,h1,.pure fun m φ sv hs=> ?_⟩;obtain⟨v',k1,k2⟩:=Jc hg hv hs.e;obtain⟨n',k3,k4⟩:=Jc hg hn hs.e;obtain⟨a,k5,k6⟩:=h2 m v' k2;exact⟨a,by simp[V.op,ho,k1,k3,Qr hk k4,k5,V.Sf],k6⟩
 ·rename_i t x i ok ho;simp only[aa]at h;obtain⟨v,hv,k,hk,h⟩:=h;obtain⟨r,h1,h2⟩:=BB h;refine⟨_,s,h1,.pure fun m φ sv hs=> ?_⟩;obtain⟨v',k1,k2⟩:=Jc hg hv hs.e;obtain⟨n',k3,k4⟩:=Jc hg hk hs.e;obtain⟨a,k5,k6⟩:=h2 m sv.H v' n' hs.h k2 k4;exact⟨a,by simp[V.op,ho,k1,k3,k5,V.Sf],k6⟩
 ·rename_i t x k y ho;simp only[aa]at h;obtain⟨mv,hm,kv,hk,v,hv,h⟩:=h;obtain⟨H',h1,h2,h3⟩:=Yt h;refine⟨_,_,h1,.heap h2 fun m φ sv hs=> ?_⟩;obtain⟨m',k1,k2⟩:=Jc hg hm hs.e;obtain⟨k',k3,k4⟩:=Jc hg hk hs.e;obtain⟨v',k5,k6⟩:=Jc hg hv hs.e;obtain⟨Lc,k7,k8⟩:=h3 m sv.H m' k' v' hs.h k2 k4 k6;exact⟨.Sb,Lc,by simp[V.op,ho,k1,k3,k5,k7],m,k8.1,.Sb _,.refl m,k8.2⟩
 ·rename_i t x k y ho;simp only[aa]at h;obtain⟨mv,hm,kv,hk,v,hv,h⟩:=h;obtain⟨H',h1,h2,h3⟩:=Yt h;refine⟨_,_,h1,.heap h2 fun m φ sv hs=> ?_⟩;obtain⟨m',k1,k2⟩:=Jc hg hm hs.e;obtain⟨k',k3,k4⟩:=Jc hg hk hs.e;obtain⟨v',k5,k6⟩:=Jc hg hv hs.e;obtain⟨Lc,k7,k8⟩:=h3 m sv.H m' k' v' hs.h k2 k4 k6;exact⟨.Sb,Lc,by simp[V.op,ho,k1,k3,k5,k7],m,k8.1,.Sb _,.refl m,k8.2⟩
 ·rename_i x i ho;simp only[aa]at h;obtain⟨v,hv,h⟩:=h;split at h
  case h_2=>simp at h
  rename_i vs;simp only[aa]at h;obtain⟨r,hr,h⟩:=h;refine⟨_,s,h,.pure fun m φ sv hs=> ?_⟩;obtain⟨v',k1,k2⟩:=Jc hg hv hs.e;cases k2 with
  |Qc _ as hl vl=>
   obtain⟨a,k3,k4⟩:=RL.get (m:=m) ⟨hl,vl⟩ hr;exact⟨a,by simp[V.op,ho,k1,k3],k4⟩
 ·rename_i c ho;simp only[aa]at h;obtain⟨args,ha,h⟩:=h;split at h
  ·rename_i f hf;simp only[aa]at h;obtain⟨g,hgv,h⟩:=h;obtain⟨r,H',h1,h2,h3⟩:=hc X g args s.H _ out h;refine⟨_,_,h1,.heap h2 fun m φ sv hs=> ?_⟩;obtain⟨as,k1,k2⟩:=mq hg hs.e ha;obtain⟨g',k3,k4⟩:=Jc hg hgv hs.e;obtain⟨r',Lc,k5,k6⟩:=h3 m sv.H g' as hs.h k4 k2;exact⟨r',Lc,by simp[V.op,ho,k1,hf,k3,k5,V.zh],k6⟩
  ·rename_i b hb;obtain⟨r,H',h1,h2,h3⟩:=uL h;refine⟨_,_,h1,.heap h2 fun m φ sv hs=> ?_⟩;obtain⟨as,k1,k2⟩:=mq hg hs.e ha;obtain⟨r',Lc,k5,k6⟩:=h3 m sv.H as hs.h k2;exact⟨r',Lc,by simp[V.op,ho,k1,hb,k5,V.zh],k6⟩
  ·simp at h
 ·simp at h
end
end Go.U
namespace Go.U
open Go
variable [TB:ZC]{rf:Bool}
def STo(step:V.S->Option V.S)(s s':St):Prop:=
 s'.base=s.base/\s'.H.wm=s.H.wm/\∀(m:Mp)(φ:Nat->Option Nat)(sv:V.S),Om m φ s sv->∃xe m' Pg,step sv=some xe/\Om m' Pg s' xe/\m.Le m'/\zL φ Pg/\Yj m.top m sv.H m' xe.H
section
variable {A:V.Eh}{C:V.Callee}{Ra:Nat->Option (List UV)}{Fa:List Nat}{n:Nat}{s:St}{X:Type}{out:X}
theorem pF{os:Array Oper}{o:Oper}{K:Bool->St->Option X}(h:guard os s o K=some out):
  ∃b s',K b s'=some out/\s'.base=s.base/\s'.H=s.H/\∀(m:Mp)(φ:Nat->Option Nat)(sv:V.S),Om m φ s sv->V.Vc os sv o=some b/\Om m φ s' sv:=by
 unfold guard at h;split at h
 ·rename_i hg;exact⟨true,s,h,rfl,rfl,fun m φ sv hs=>⟨by simp[V.Vc,hg],hs⟩⟩
 ·rename_i j want hg;split at h
  case h_2=>simp at h
  rename_i d hd;split at h
  case h_3=>simp at h
  case h_2=>
   rename_i hb;refine⟨false,s,h,rfl,rfl,fun m φ sv hs=>⟨?_,hs⟩⟩;have h1:=hs.e d;rw[hb]at h1;obtain⟨a,ha,hr⟩:=RS.val h1 (by simp);cases hr with
   |Qc _ as hl _=>
    have:as=[]:=Ja.1 hl;subst this;simp[V.Vc,hg,hd,ha]
  rename_i b hb;have ref:∀{m:Mp}{φ:Nat->Option Nat}{sv:V.S},Om m φ s sv->V.get sv.e d= .v (.bool b)/\Om m φ { s with e:=(d,.v (.bool b))::s.e } sv:=fun{m φ sv}hs=>by
   have h1:=hs.e d;rw[hb]at h1;obtain⟨a,ha,hr⟩:=RS.val h1 (by simp);cases hr;refine⟨ha,hs.h,hs.f,fun t=> ?_,hs.b⟩;simp only[get];split
   ·rename_i e;subst e;rw[ha];exact RV.rs (.bool b)
   ·exact hs.e t
  cases b with
  |true=>
   refine⟨want,_,h,rfl,rfl,fun m φ sv hs=> ?_⟩;obtain⟨h1,h2⟩:=ref hs;exact⟨by simp[V.Vc,hg,hd,h1],h2⟩
  |false=>
   refine⟨!want,_,h,rfl,rfl,fun m φ sv hs=> ?_⟩;obtain⟨h1,h2⟩:=ref hs;exact⟨by simp[V.Vc,hg,hd,h1],h2⟩
theorem nv{d:Option Nat}{v:US}{s':St}(h:put s n d v=some s'):
  s'.base=s.base/\s'.H=s.H/\∀(m:Mp)(φ:Nat->Option Nat)(sv:V.S)(vv:V.SV),Om m φ s sv->RS m φ v vv->∃xe,V.put sv n d vv=some xe/\xe.H=sv.H/\Om m φ s' xe:=by
 unfold put at h;split at h
 ·simp at h;subst h;exact⟨rfl,rfl,fun m φ sv vv hs hv=>⟨sv,rfl,rfl,hs⟩⟩
 ·rename_i d;split at h
  case isFalse=>simp at h
  rename_i hd;simp at h;subst h;exact⟨rfl,rfl,fun m φ sv vv hs hv=>⟨{ sv with e:=(d,vv)::sv.e },by simp[V.put,hd],rfl,hs.h,hs.f,hs.e.cons d hv,hs.b⟩⟩
theorem STo.trans{f g:V.S->Option V.S}{s s1 s2:St}(h:STo f s s1)(h':STo g s1 s2):STo (fun x=>(f x).bind g) s s2:=
 ⟨h'.1.trans h.1,h'.2.1.trans h.2.1,fun m φ sv hs=>by
  obtain⟨ik,m1,PA,h1,h2,h3,h4,h5⟩:=h.2.2 m φ sv hs;obtain⟨DV,m2,gA,k1,k2,k3,k4,k5⟩:=h'.2.2 m1 PA ik h2;exact⟨DV,m2,gA,by simp[h1,k1],k2,h3.trans k3,h4.trans k4,h5.trans k5 h5.Pk.1⟩⟩
theorem UO{m:Mp}{φ:Nat->Option Nat}:RS m φ (.v (.Qc [])) (.v (.Qc [])):=RV.Qc [] [] rfl fun i x a h=>by simp at h
theorem KG(hg:Fe A Ra){env:Env}(hc:Gc C env.call){all:Array Oper}:∀{os:List Oper}{s:St}{K:St->Option X},ops A Ra env Fa n all os s K=some out->∃s',K s'=some out/\STo (V.ops A C Fa n all os) s s'
 |[],s,K,h=>⟨s,h,rfl,rfl,fun m φ sv hs=>⟨sv,m,φ,rfl,hs,.refl m,.refl φ,.refl _ (va _)⟩⟩
 |o::os,s,K,h=>by
  simp only[ops,Q9,uX]at h;obtain⟨b,s1,h1,h2,h3,h4⟩:=pF h;cases b with
  |true=>
   simp only at h1;obtain⟨v,s2,k1,k2,k3,k4,k5⟩:=pM hg hc h1;simp only[aa]at k1;obtain⟨s3,hp,k1⟩:=k1;obtain⟨p1,p2,p3⟩:=nv hp;obtain⟨s4,q1,q2,q3,q4⟩:=KG hg hc k1;refine⟨s4,q1,by rw[q2,p1,k2,h2],by rw[q3,p2,k4,h3],fun m φ sv hs=> ?_⟩;obtain⟨g1,g2⟩:=h4 m φ sv hs;obtain⟨vv,DV,m2,gA,e1,e2,e3,e4,e5,e6,_⟩:=k5 m φ sv g2;obtain⟨tD,e7,e8,e9⟩:=p3 m2 gA DV vv e2 e3;obtain⟨F5,m4,Z4,IC,YQ,qV,JL,IL⟩:=q4 m2 gA tD e9;rw[e8]at IL;exact⟨F5,m4,Z4,by simp[V.ops,g1,e1,e7,IC],YQ,e4.trans qV,e5.trans JL,e6.trans IL e6.Pk.1⟩
  |false=>
   simp only[aa]at h1;obtain⟨s3,hp,h1⟩:=h1;obtain⟨p1,p2,p3⟩:=nv hp;obtain⟨s4,q1,q2,q3,q4⟩:=KG hg hc h1;refine⟨s4,q1,by rw[q2,p1,h2],by rw[q3,p2,h3],fun m φ sv hs=> ?_⟩;obtain⟨g1,g2⟩:=h4 m φ sv hs;obtain⟨tD,e7,e8,e9⟩:=p3 m φ sv (.v (.Qc [])) g2 UO;obtain⟨F5,m4,Z4,IC,YQ,qV,JL,IL⟩:=q4 m φ tD e9;rw[e8]at IL;exact⟨F5,m4,Z4,by simp[V.ops,g1,e7,IC],YQ,qV,JL,IL⟩
def TR(φ:Nat->Option Nat):V.kf->V.kf->Prop
 | .no,.no=>True
 | .heap w,.no=>w=false
 | .heap w,.heap w'=>w=w'
 | .box i w,.box j w'=>φ i=some j/\w=w'
 |_,_=>False
theorem TR.mono{φ Pg:Nat->Option Nat}(h:zL φ Pg){t t':V.kf}(ht:TR φ t t'):TR Pg t t':=by
 cases t<;>cases t'<;>first|exact ht|exact⟨h _ _ ht.1,ht.2⟩
theorem TR.same(φ:Nat->Option Nat){t:V.kf}(h:∀i w,t≠ .box i w):TR φ t t:=by
 cases t<;>first|trivial|rfl|exact(h _ _ rfl).elim
theorem Ry{m:Mp}{φ:Nat->Option Nat}{w:Bool}{p:US}{pv:V.SV}(h:RS m φ p pv)(hn:p≠ .v .Sb):TR φ (nf w (some p)) (V.nf w (some pv)):=by
 cases p with
 |loc i c=>
  cases pv with
  |v a=>exact h.elim
  |loc j c'=>exact⟨h.1,rfl⟩
 |v x=>
  obtain⟨a,rfl,hr⟩:=h.val (fun e=>hn (by rw[e]));cases hr<;>first|exact(hn rfl).elim|exact rfl|(cases w<;>first|exact rfl|trivial)|skip
  all_goals (rename_i ha;rcases ha with rfl|rfl<;>exact rfl)
theorem Ux{s:St}{t:TypeId}{p:US}{v:UV}(h:load A s t p=some v):p≠ .v .Sb:=by
 rintro rfl;simp[load]at h
theorem aM{s s':St}{t:TypeId}{p:US}{v:UV}(h:store A s t p v=some s'):p≠ .v .Sb:=by
 rintro rfl
 simp only[store,xF,aa]at h;obtain⟨_,_,_,_,h⟩:=h;split at h<;>simp at h
theorem PC{X:Type}{i:Int}{sz:Nat}{K:US->Option X}:∀n j,cases i (fun j=>(Lg (j * sz) (.v .Sb)).bind K) n j=none
 |0,j=>rfl
 |n+1,j=>by
  have:=PC (i:=i) (sz:=sz) (K:=K) n (j+1);simp only[cases,Lg,Option.bind_none]at this ⊢;rw[this];cases decide (i=(j:Int))<;>rfl
theorem DE{e:List (Nat×US)}:∀{l:List Operand}{as:List UV},dh Ra e l=some as->∀a∈as,a≠ .Sb
 |[],as,h,a,ha=>by simp[dh]at h;subst h;simp at ha
 |x::l,as,h,a,ha=>by
  simp only[dh,aa]at h;obtain⟨b,hb,l',hl,h⟩:=h;simp at h;subst h;rcases Vb.1 ha with rfl|ha
  ·exact(XA hb).2
  ·exact DE hl a ha
theorem ME(hg:Fe A Ra){env:Env}{s0:St}{o:Oper}{q:Bool}{K:US->St->Option X}(h:op A Ra env Fa s0 o K=some out)(he:s0.e=s.e):
  ∀(m:Mp)(φ:Nat->Option Nat)(sv:V.S),Om m φ s sv->TR φ (Wc Ra Fa s o q) (V.Wc A Fa sv o q):=fun m φ sv hs=>by
 rcases o with⟨dst,op',ty,pos,after,gd⟩
 cases op' with
 |load t x=>
  simp only[op,aa]at h;obtain⟨p,hp,v,hv,h⟩:=h;rw[he]at hp;obtain⟨pv,h1,h2⟩:=zd hg hp hs.e;simp only[Wc,V.Wc,hp,h1];exact Ry h2 (Ux hv)
 |store t x y=>
  simp only[op,aa]at h;obtain⟨p,hp,a,ha,s',dc,h⟩:=h;rw[he]at hp;obtain⟨pv,h1,h2⟩:=zd hg hp hs.e;simp only[Wc,V.Wc,hp,h1];exact Ry h2 (aM dc)
 |alloc t=>
  simp only[Wc,V.Wc];split<;>first|trivial|exact rfl
 |box t x=>
  simp only[Wc,V.Wc];split<;>first|trivial|exact rfl
 |call c=>
  rcases c with⟨callee,args,_⟩
  cases callee with
  |builtin b=>
   cases b<;>first|trivial|exact rfl|skip
   simp only[op,aa]at h;obtain⟨l,hl,h⟩:=h;rw[he]at hl;obtain⟨l',h1,h2,h3⟩:=mq hg hs.e hl;have hj:=DE hl;simp only[Wc,V.Wc,hl,h1];unfold yh;split
   ·rename_i e;simp at e;subst e;unfold V.yh;split<;>first|exact rfl|trivial
   ·rename_i Sc e;simp at e;subst e;have:V.yh (some l')= .no:=by
     unfold V.yh;split
     ·rename_i b e;simp at e;subst e
      match l,h2,h3,Sc,hj with
      |[x],_,h3,Sc,hj=>
       have:=h3 0 x _ rfl rfl;cases this with
       |mp b'=>exact absurd rfl (Sc b')
       |Sb=>exact absurd rfl (hj _ (List.mem_singleton.2 rfl))
       |_=>simp_all
      |[],h2,_,_,_=>simp at h2
      |_::_::_,h2,_,_,_=>simp at h2
     ·rfl
     ·rename_i e;simp at e
    rw[this];trivial
   ·rename_i e;simp at e
  |_=>first|trivial|exact rfl
 |indexAddr t x i=>
  simp only[op,aa]at h;obtain⟨p,hp,u,hu,n,hn,h⟩:=h;rw[he]at hp;obtain⟨pv,h1,h2⟩:=zd hg hp hs.e;simp only[Wc,V.Wc,hp,h1];cases p with
  |loc i c=>
   cases pv with
   |v a=>exact h2.elim
   |loc j c'=>exact trivial
  |v x=>
   by_cases hx:x= .Sb
   ·subst hx;unfold indexAddr at h;split at h
    ·simp only[aa]at h;obtain⟨sz,_,h⟩:=h;rw[PC]at h;simp at h
    ·simp at h
    ·simp at h
   ·obtain⟨a,rfl,hr⟩:=h2.val hx;cases hr<;>first|exact(hx rfl).elim|trivial|exact rfl|skip
    all_goals (rename_i ha;rcases ha with rfl|rfl<;>first|trivial|exact rfl)
 |_=>first|trivial|exact rfl
inductive vO(φ:Nat->Option Nat):List V.kf->List V.kf->Prop
 |nil:vO φ [] []
 |cons {t t':V.kf} {l l':List V.kf}:TR φ t t'->vO φ l l'->vO φ (t::l) (t'::l')
theorem vO.get{φ:Nat->Option Nat}{l l':List V.kf}(h:vO φ l l'):∀{i:Nat}{t':V.kf},l'[i]?=some t'->∃t,l[i]?=some t/\TR φ t t':=by
 induction h with
 |nil=>intro i t' hi;simp at hi
 |cons h hs ih=>
  intro i t' hi;cases i with
  |zero=>simp at hi;subst hi;exact⟨_,rfl,h⟩
  |succ i=>simpa using ih (by simpa using hi)
theorem vO.mono{φ Pg:Nat->Option Nat}(h:zL φ Pg){l l':List V.kf}(hl:vO φ l l'):vO Pg l l':=by
 induction hl with
 |nil=>exact .nil
 |cons h1 _ ih=>exact .cons (h1.mono h) ih
theorem yR{φ:Nat->Option Nat}(hi:∀i i' j,φ i=some j->φ i'=some j->i=i'){b:List Nat}{l l':List V.kf}(hl:vO φ l l')(h:V.Xu b l=true):V.Xu b l'=true:=by
 simp only[V.Xu,ic,Pf,Bool.not_eq_true',Prod.forall,List.mem_zipIdx_iff_getElem?]at h ⊢;intro tj' j E6;obtain⟨tj,hj,s9⟩:=hl.get E6;have hw:tj.writes=tj'.writes:=by
  cases tj<;>cases tj'<;>first|rfl|exact s9.elim|(have:=s9;simp only[TR]at this;simp[V.kf.writes,this])|skip
 rcases h tj j hj with h0|h0
 ·exact .inl (by rw[<- hw];exact h0)
 ·refine .inr fun ti' i FL=> ?_
  obtain⟨ti,hii,hri⟩:=hl.get FL;have hcf:V.conflict ti tj=false->V.conflict ti' tj'=false:=by
   cases ti' with
   |no=>intro _;cases tj'<;>rfl
   |heap a'=>
    cases tj' with
    |no=>intro _;rfl
    |box j w=>intro _;rfl
    |heap b'=>
     cases ti<;>first|exact hri.elim|skip
     cases tj<;>first|exact s9.elim|skip
     simp only[TR]at hri s9;subst hri;subst s9;exact id
   |box i1 w1=>
    cases tj' with
    |no=>intro _;rfl
    |heap b'=>intro _;rfl
    |box j1 w2=>
     cases ti<;>first|exact hri.elim|skip
     cases tj<;>first|exact s9.elim|skip
     rename_i a1 v1 a2 v2;simp only[TR]at hri s9;obtain⟨e1,rfl⟩:=hri;obtain⟨e2,rfl⟩:=s9;intro h;simp only[V.conflict,Lt]at h ⊢;rcases h with h|h
     ·refine .inl ?_;rw[beq_eq_false_iff_ne]at h ⊢
      rintro rfl
      exact h (hi _ _ _ e1 e2)
     ·exact .inr h
  rcases h0 ti i hii with h1|h1
  ·exact .inl h1
  ·exact .inr (hcf h1)
theorem RB.bl{m:Mp}{Hv Lc:V.AH}{b:Nat}{y:UB}(h:RB m Hv b y)(e:Lc.bl=Hv.bl):RB m Lc b y:=
 h.keep (.refl m) rfl rfl fun _ _ _ _=>by rw[e]
theorem RH.uaf{m:Mp}{H:UH}{Hv:V.AH}(h:RH m H Hv):RH m { H with wm:=H.bl.length } { Hv with wm:=Hv.bl.length }:=
 ⟨h.He,fun b y hb=>(h.Tc b y hb).bl rfl,h.Pn,fun b _ x hb hw=>by have:=(h.He b x hb).1;simp only at hw;omega,va _,h.len⟩
theorem RH.laa{m m':Mp}{H H':UH}{Hv Lc:V.AH}(h:RH m H Hv)(h':RH m' H' Lc)(hw:H'.wm=H.bl.length)(ho:ZU m.top m m')(hl:Hv.bl.length<=Lc.bl.length)(hwv:Lc.wm=Hv.bl.length):RH m' { H' with wm:=H.wm } { Lc with wm:=Hv.wm }:=
 ⟨h'.He,fun b y hb=>(h'.Tc b y hb).bl rfl,h'.Pn,fun b _ x hb mF=>by
  rcases Ub b m.top with tc|eu
  ·rw[(ho.2 b tc).1]at hb;exact h.wm b x hb mF
  ·have:=h'.wm b x hb (by rw[hw,<- h.len];exact eu);have:=h.top;show Hv.wm<=x;omega,Gb h.top hl,h'.len⟩
def WO:V.kf->Bool
 | .heap true=>true
 |_=>false
theorem TR.WO{φ:Nat->Option Nat}{t t':V.kf}(h:TR φ t t'):WO t=WO t':=by
 cases t<;>cases t'<;>first|rfl|exact h.elim|(simp only[TR]at h;subst h;rfl)
theorem fW{env:Env}{t:V.kf}{o:Oper}{K:US->St->Option X}(h:WO t=false):LO A Ra env Fa t s o K=op A Ra env Fa { s with H:={ s.H with wm:=s.H.bl.length } } o fun v s'=>K v { s' with H:={ s'.H with wm:=s.H.wm } }:=by
 cases t with
 |heap w=>cases w<;>first|rfl|simp[WO]at h
 |_=>rfl
theorem D5{t:V.kf}{o:Oper}{sv:V.S}(h:WO t=false):V.LO A C Fa t sv o=(V.op A C Fa { sv with H:={ sv.H with wm:=sv.H.bl.length } } o).map fun(v,s')=>(v,{ s' with H:={ s'.H with wm:=sv.H.wm } }):=by
 cases t with
 |heap w=>cases w<;>first|rfl|simp[WO]at h
 |_=>rfl
theorem M5(hg:Fe A Ra){env:Env}(hc:Gc C env.call){o:Oper}{q:Bool}{K:US->St->Option X}(h:LO A Ra env Fa (Wc Ra Fa s o q) s o K=some out):
  ∃v s',K v s'=some out/\s'.base=s.base/\s'.H.wm=s.H.wm/\∀(m:Mp)(φ:Nat->Option Nat)(sv:V.S),Om m φ s sv->TR φ (Wc Ra Fa s o q) (V.Wc A Fa sv o q)/\∃vv xe m' Pg,V.LO A C Fa (V.Wc A Fa sv o q) sv o=some (vv,xe)/\Om m' Pg s' xe/\RS m' Pg v vv/\m.Le m'/\zL φ Pg/\Yj m.top m sv.H m' xe.H:=by
 cases hw:WO (Wc Ra Fa s o q)with
 |true=>
  have ht:Wc Ra Fa s o q= .heap true:=by
   revert hw;generalize Wc Ra Fa s o q=t;intro hw
   cases t with
   |heap w=>cases w<;>first|rfl|simp[WO]at hw
   |_=>simp[WO]at hw
  rw[ht]at h;have h':op A Ra env Fa s o K=some out:=h;obtain⟨v,s',k1,k2,k3,k4,k5⟩:=pM hg hc h';refine⟨v,s',k1,k2,k4,fun m φ sv hs=> ?_⟩;have Qv:=ME (q:=q) hg h' rfl m φ sv hs;obtain⟨vv,xe,m',Pg,e1,e2,e3,e4,e5,e6,_⟩:=k5 m φ sv hs;refine⟨Qv,vv,xe,m',Pg,?_,e2,e3,e4,e5,e6⟩;have:V.Wc A Fa sv o q= .heap true:=by
   rw[ht]at Qv
   revert Qv;generalize V.Wc A Fa sv o q=t;intro Qv
   cases t<;>first|(exact Qv.elim)|(simp only[TR]at Qv;rw[<- Qv])|(simp[TR]at Qv)
  rw[this];exact e1
 |false=>
  rw[fW hw]at h;obtain⟨v,s',k1,k2,k3,k4,k5⟩:=pM hg hc h;refine⟨v,_,k1,k2,rfl,fun m φ sv hs=> ?_⟩;have Qv:=ME (s:=s) (q:=q) hg h rfl m φ sv hs;have jV:Om m φ { s with H:={ s.H with wm:=s.H.bl.length } } { sv with H:={ sv.H with wm:=sv.H.bl.length } }:=⟨hs.h.uaf,hs.f,hs.e,hs.b⟩;obtain⟨vv,xe,m',Pg,e1,e2,e3,e4,e5,e6,_⟩:=k5 m φ _ jV;refine⟨Qv,vv,{ xe with H:={ xe.H with wm:=sv.H.wm } },m',Pg,?_,⟨hs.h.laa e2.h k4 e6.Pk e6.len e6.wm,e2.f,e2.e,e2.b⟩,e3,e4,e5,⟨e6.Pk,e6.stay,e6.new,e6.len,rfl⟩⟩;rw[D5 (by rw[<- Qv.WO];exact hw),e1];rfl
theorem NV{m m':Mp}{v w:UV}{a a':V.AV}(h:OV v w=true)(hv:RV m v a)(hw:RV m' w a'):a=a':=by
 unfold OV at h;split at h
 ·rename_i f f';have:f=f':=by simpa using h
  subst this;cases hv with
  |fn _ _ as hl _=>
   cases hw with
   |fn _ _ tn Zf _=>
    have e1:as=[]:=Ja.1 hl;have e2:tn=[]:=Ja.1 Zf;rw[e1,e2]
 ·cases hv;cases hw;rfl
 ·simp at h
theorem sameKey_eq{k k':KT}{i:od k}{j:od k'}(h:sameKey k k' i j=true):Vh k i=Vh k' j:=by
 cases k with
 |int a=>
  cases k' with
  |int b=>
   have h':(decide (a=b)&&@decide (@Eq Int i j) (Int.instDecidableEq i j))=true:=h;rw[Na]at h';have h1:=of_decide_eq_true h'.1;have h2:@Eq Int i j:=@of_decide_eq_true _ (Int.instDecidableEq i j) h'.2;show V.AV.int a i=V.AV.int b j;rw[h1,h2]
  |str=>exact absurd h (by intro h;exact Bool.noConfusion h)
 |str=>exact absurd h (by cases k'<;>(intro h;exact Bool.noConfusion h))
theorem VE{m m':Mp}{k k':KT}:∀{es:List (od k×UV)}{sd:List (od k'×UV)}{x x':List (V.AV×V.AV)},vu k k' es sd=true->MR k m es x->MR k' m' sd x'->x=x'
 |[],[],[],[],_,_,_=>rfl
 |[],[],[],_::_,_,_,h=>h.elim
 |[],[],_::_,_,_,h,_=>h.elim
 |(i,v)::es,(j,w)::sd,[],_,_,h,_=>h.elim
 |(i,v)::es,(j,w)::sd,_::_,[],_,_,h=>h.elim
 |(i,v)::es,(j,w)::sd,(q,a)::x,(q',a')::x',h,h1,h2=>by
  simp only[vu,Na]at h;obtain⟨⟨h3,h4⟩,h5⟩:=h;obtain⟨rfl,k2,_,k4⟩:=h1;obtain⟨rfl,l2,_,l4⟩:=h2;rw[sameKey_eq h3,NV h4 k2 l2,VE h5 k4 l4]
 |[],_::_,_,_,h,_,_=>by simp[vu]at h
 |_::_,[],_,_,h,_,_=>by simp[vu]at h
theorem LV{m m':Mp}{v w:UV}{a a':V.AV}(h:MV v w=true)(hm:m.Le m')(hv:RV m v a)(hw:RV m' w a'):a'=a:=by
 unfold MV at h;split at h
 ·rename_i b b';have:b=b':=by simpa using h
  subst this;cases hv with
  |mp _ x hx=>
   cases hw with
   |mp _ y hy=>
    rw[(hm.of b x hx).1]at hy;simp at hy;rw[hy]
 ·rename_i f f';have:f=f':=by simpa using h
  subst this;cases hv with
  |fn _ _ as hl _=>
   cases hw with
   |fn _ _ tn Zf _=>
    have e1:as=[]:=Ja.1 hl;have e2:tn=[]:=Ja.1 Zf;rw[e1,e2]
 ·cases hv;cases hw;rfl
 ·cases hv;cases hw;rfl
 ·simp at h
def U3(A:V.Eh)(C:V.Callee)(Fa:List Nat)(m:Mp)(r:Rec)(vr:Oper×List (Nat×V.SV)×V.SV):Prop:=
 ∀(m':Mp)(Pg:Nat->Option Nat)(s:St)(sv:V.S),m.Le m'->Om m' Pg s sv->oJ A s r=true->∃xe,V.op A C Fa { sv with e:=vr.2.1 } vr.1=some (vr.2.2,xe)
inductive Vw(A:V.Eh)(C:V.Callee)(Fa:List Nat)(m:Mp):List Rec->List (Oper×List (Nat×V.SV)×V.SV)->Prop
 |nil:Vw A C Fa m [] []
 |snoc {rs:List Rec} {BE:List (Oper×List (Nat×V.SV)×V.SV)} {r:Rec} {vr:Oper×List (Nat×V.SV)×V.SV}:Vw A C Fa m rs BE->U3 A C Fa m r vr->Vw A C Fa m (rs++[r]) (BE++[vr])
theorem U3.mono{m m':Mp}{r:Rec}{vr:Oper×List (Nat×V.SV)×V.SV}(h:U3 A C Fa m r vr)(hm:m.Le m'):U3 A C Fa m' r vr:=fun m2 gA s sv h2 hs hr=>h m2 gA s sv (hm.trans h2) hs hr
theorem Vw.mono{m m':Mp}{rs:List Rec}{BE:List (Oper×List (Nat×V.SV)×V.SV)}(h:Vw A C Fa m rs BE)(hm:m.Le m'):Vw A C Fa m' rs BE:=by
 induction h with
 |nil=>exact .nil
 |snoc _ h2 ih=>exact .snoc ih (h2.mono hm)
theorem Vw.all{m:Mp}{φ:Nat->Option Nat}{rs:List Rec}{BE:List (Oper×List (Nat×V.SV)×V.SV)}(h:Vw A C Fa m rs BE){s:St}{sv:V.S}(hs:Om m φ s sv)(hr:rs.all (oJ A s)=true):V.bh A C Fa BE sv:=by
 induction h with
 |nil=>exact fun r hr=>by simp at hr
 |snoc _ h2 ih=>
  simp only[List.all_append,Na]at hr;intro r hm;rcases Kk.1 hm with hm|hm
  ·exact ih hr.1 r hm
  ·simp at hm;subst hm;exact h2 m φ s sv (.refl m) hs (by simpa using hr.2)
theorem SR{m:Mp}{φ:Nat->Option Nat}{sv:V.S}{v:US}{vv:V.SV}(hp:jA s.H.bl.length v=true)(hs:Om m φ s sv)(hv:RS m φ v vv):V.Vr sv.H.bl.length vv=true:=by
 unfold jA at hp;split at hp
 ·obtain⟨a,rfl,hr⟩:=hv.val (by simp);cases hr with
  |mp _ x hx=>exact decide_eq_true (hs.h.He _ x hx).2
 ·obtain⟨a,rfl,hr⟩:=hv.val (by simp);cases hr with
  |fn f _ as hl _=>
   have e1:as=[]:=Ja.1 hl;rw[e1];rfl
 ·obtain⟨a,rfl,hr⟩:=hv.val (by simp);cases hr;rfl
 ·obtain⟨a,rfl,hr⟩:=hv.val (by simp);cases hr;rfl
 ·simp at hp
theorem BV{sv xe:V.S}{n:Nat}{d:Option Nat}{v:V.SV}(h:V.put sv n d v=some xe):xe.F=sv.F:=by
 unfold V.put at h;split at h
 ·simp at h;rw[h]
 ·split at h
  ·simp at h;rw[<- h]
  ·simp at h
theorem E5{t:TypeId}{pv:V.AV}{sv xe:V.S}(h:sv.H=xe.H):V.load A sv t (.v pv)=V.load A xe t (.v pv):=by
 unfold V.load;cases pv<;>simp only[h]
theorem DR(hg:Fe A Ra){env:Env}(hc:Gc C env.call){o:Oper}{K:US->St->Option X}(h:op A Ra env Fa s o K=some out)(dc:tf A Ra s o=true):
  ∃v,K v s=some out/\(jA s.H.bl.length v=true->∀r,HO Ra s o v=some r->∀(m:Mp)(φ:Nat->Option Nat)(sv:V.S),Om m φ s sv->V.tf A sv o=true/\∃vv,(∃xe,V.op A C Fa sv o=some (vv,xe))/\RS m φ v vv/\U3 A C Fa m r (o,sv.e,vv)):=by
 unfold tf at dc;simp only[Na]at dc;obtain⟨Tz,sg⟩:=dc;have Sz:=Tz;unfold V.jk at Tz;split at Tz
 ·rename_i t x ho;unfold op at h;rw[ho]at h;simp only[aa]at h;obtain⟨p,hp,v,hv,h⟩:=h;refine⟨_,h,fun ED r hr m φ sv hs=> ?_⟩;simp only[ho,hp]at sg;obtain⟨pv,e1,e2⟩:=zd (m:=m) (φ:=φ) hg hp hs.e;obtain⟨a,e3,e4⟩:=Gv hv hs.h hs.f e2;have hpn:=Ux hv;unfold HO at hr;rw[ho]at hr;simp only[hp]at hr;cases p with
  |loc i c=>simp at sg
  |v p=>
   obtain⟨pa,rfl,e5⟩:=e2.val (fun e=>hpn (by rw[e]));simp only[zc]at hr;subst hr;refine⟨?_,.v a,⟨sv,?_⟩,e4.rs,fun m' Pg s' xe hm jV Wh=> ?_⟩
   ·unfold V.tf;rw[Sz,ho];simp only[e1,Vp];cases e5<;>first|rfl|simp at sg
   ·unfold V.op;rw[ho];simp only[e1,ga,e3];rfl
   ·simp only[oJ]at Wh;split at Wh
    case h_2=>simp at Wh
    rename_i a' ha';obtain⟨y,k1,k2⟩:=Gv (sv:=xe) ha' jV.h jV.f (RV.rs (φ:=Pg) (e5.mono hm));have:=LV Wh hm e4 k2;subst this;refine⟨{ xe with e:=sv.e },?_⟩;unfold V.op;rw[ho];simp only[e1,ga];have e9:=E5 (A:=A) (t:=t) (pv:=pa) (sv:={ xe with e:=sv.e }) (xe:=xe) rfl;rw[e9,k1];rfl
 ·rename_i t x i ho;unfold op at h;rw[ho]at h;simp only[aa]at h;obtain⟨mv,hm,kv,hk,h⟩:=h;obtain⟨v,h1,h2⟩:=BB h;refine⟨_,h1,fun ED r hr m φ sv hs=> ?_⟩;obtain⟨mv',e1,e2⟩:=Jc (m:=m) (φ:=φ) hg hm hs.e;obtain⟨kv',e3,e4⟩:=Jc (m:=m) (φ:=φ) hg hk hs.e;obtain⟨a,e5,e6⟩:=h2 m sv.H mv' kv' hs.h e2 e4;unfold HO at hr;rw[ho]at hr;simp only[hm]at hr;split at hr
  case h_2=>simp at hr
  rename_i b hb;simp only[zc]at hb;subst hb;split at hr
  case h_2=>simp at hr
  rename_i kt es Su;split at hr
  case isFalse=>simp at hr
  simp only[zc]at hr;subst hr;cases e2 with
  |mp _ xb hx=>
   obtain⟨x1,XN,q1,q2,q3⟩:=hs.h.Tc b _ Su;rw[hx]at q1;simp at q1;subst q1;refine⟨?_,.v a,⟨sv,?_⟩,e6.rs,fun m' Pg s' xe hm' jV Wh=> ?_⟩
   ·unfold V.tf;rw[Sz,ho];rfl
   ·unfold V.op;rw[ho];simp only[e1,e3,ga,e5];rfl
   ·simp only[oJ]at Wh;split at Wh
    case h_2=>simp at Wh
    rename_i kt' sd bK;obtain⟨x2,es2,w1,w2,w3⟩:=jV.h.Tc b _ bK;rw[(hm'.of b xb hx).1]at w1;simp at w1;subst w1;have he:XN=es2:=VE Wh q3 w3;have hl:V.lookup A xe.H t (.mp xb) kv' false=some a:=by
     rw[<- e5];unfold V.lookup V.mapOf;simp only[q2,w2,he]
    refine⟨{ xe with e:=sv.e },?_⟩;unfold V.op;rw[ho];simp only[e1,e3,ga,hl];rfl
 ·simp at Tz
theorem ZV{φ:Nat->Option Nat}{b:List Nat}{i:Nat}{l l':List V.kf}(hl:vO φ l l')(h:V.VR b i l=true):V.VR b i l'=true:=by
 simp only[V.VR,ic,Pf,Bool.not_eq_true',Prod.forall,List.mem_zipIdx_iff_getElem?]at h ⊢;intro t' j E6;obtain⟨t,hj,hr⟩:=hl.get E6;have hw:(t.Cc&&t.writes)=(t'.Cc&&t'.writes):=by
  cases t<;>cases t'<;>first|rfl|exact hr.elim|(have:=hr;simp only[TR]at this;simp[V.kf.writes,V.kf.Cc,this])
 rcases h t j hj with h0|h0
 ·exact .inl (by rw[<- hw];exact h0)
 ·exact .inr h0
theorem vO.snoc{φ:Nat->Option Nat}{l l':List V.kf}{t t':V.kf}(h:vO φ l l')(ht:TR φ t t'):vO φ (l++[t]) (l'++[t']):=by
 induction h with
 |nil=>exact .cons ht .nil
 |cons h1 _ ih=>exact .cons h1 ih
theorem bz(hg:Fe A Ra){env:Env}{o:Oper}{K:US->St->Option X}{s0:St}(h:op A Ra env Fa s0 o K=some out)(he:s0.e=s.e)(dc:tf A Ra s o=false){m:Mp}{φ:Nat->Option Nat}{sv:V.S}(hs:Om m φ s sv):V.tf A sv o=false:=by
 unfold tf at dc;unfold V.tf;cases h0:V.jk A o with
 |false=>rfl
 |true=>
  rw[h0,Vp]at dc;rw[Vp];split at dc
  ·rename_i t x ho;unfold op at h;rw[ho]at h;simp only[aa]at h;obtain⟨p,hp,v,hv,h⟩:=h;rw[he]at hp;obtain⟨pv,e1,e2⟩:=zd (m:=m) (φ:=φ) hg hp hs.e;have hpn:=Ux hv;simp only[hp]at dc;simp only[ho,e1];cases p with
   |loc i c=>
    cases pv with
    |v a=>exact e2.elim
    |loc j c'=>rfl
   |v p=>
    obtain⟨pa,rfl,e5⟩:=e2.val (fun e=>hpn (by rw[e]));cases e5<;>first|(exact(hpn rfl).elim)|rfl|(simp at dc;done)|skip
    all_goals (rename_i ha;rcases ha with rfl|rfl<;>rfl)
  ·simp at dc
theorem wv(hg:Fe A Ra){env:Env}(hc:Gc C env.call){all:Array Oper}{b:List Nat}:∀{os:List Oper}{i:Nat}{s:St}{l:List V.kf}{rs:List Rec}{K:St->List V.kf->Option X},nk A Ra env Fa n all b os i s l rs K=some out->
  ∃s' l1,K s' (l++l1)=some out/\s'.base=s.base/\s'.H.wm=s.H.wm/\∀(m:Mp)(φ:Nat->Option Nat)(sv:V.S)(lv:List V.kf)(BE:List (Oper×List (Nat×V.SV)×V.SV)),Om m φ s sv->vO φ l lv->Vw A C Fa m rs BE->V.bh A C Fa BE sv->∃xe m' Pg U5,V.nk A C Fa n all b os i sv lv BE=some (xe,lv++U5)/\Om m' Pg s' xe/\m.Le m'/\zL φ Pg/\Yj m.top m sv.H m' xe.H/\vO Pg l1 U5
 |[],i,s,l,rs,K,h=>⟨s,[],by simpa[nk]using h,rfl,rfl,fun m φ sv lv BE hs _ _ _=>⟨sv,m,φ,[],by simp[V.nk],hs,.refl m,.refl φ,.refl _ (va _),.nil⟩⟩
 |o::os,i,s,l,rs,K,h=>by
  simp only[nk,Q9,uX]at h;obtain⟨g,s1,h1,h2,h3,h4⟩:=pF h;cases g with
  |true=>
   simp only at h1;split at h1
   ·rename_i Kh;obtain⟨v,k1,k2⟩:=DR (C:=C) hg hc h1 Kh;split at k1
    case isFalse=>simp at k1
    rename_i ED;simp only[Na]at ED;simp only[aa]at k1;obtain⟨r,hr,s3,hp,k1⟩:=k1;obtain⟨p1,p2,p3⟩:=nv hp;obtain⟨s4,l1,q1,q2,q3,q4⟩:=wv hg hc k1;refine⟨s4,.no::l1,by rw[td]at q1;exact q1,by rw[q2,p1,h2],by rw[q3,p2,h3],fun m φ sv lv BE hs F4 tS gg=> ?_⟩;obtain⟨g1,g2⟩:=h4 m φ sv hs;obtain⟨f1,vv,⟨svx,f2⟩,f3,f5⟩:=k2 ED.1 r hr m φ sv g2;have f4:=SR ED.1 g2 f3;obtain⟨tD,e7,e8,e9⟩:=p3 m φ sv vv g2 f3;have DW:tD.F=sv.F:=(BV e7);have gz:V.bh A C Fa (BE++[(o,sv.e,vv)]) tD:=fun r hr=>by
     have e:∀e',({ tD with e:=e' }:V.S)={ sv with e:=e' }:=fun e'=>by
      obtain⟨a1,a2,a3⟩:=tD;obtain⟨b1,b2,b3⟩:=sv;simp only at e8 DW;subst e8;subst DW;rfl
     rw[e];rcases Kk.1 hr with hr|hr
     ·exact gg r hr
     ·simp at hr;subst hr;exact⟨svx,f2⟩
    obtain⟨F5,m4,Z4,U5,IC,YQ,qV,JL,IL,W_⟩:=q4 m φ tD (lv++[.no]) _ e9 (F4.snoc (show TR _ .no .no from trivial)) (.snoc tS f5) gz;rw[e8]at IL;refine⟨F5,m4,Z4,.no::U5,?_,YQ,qV,JL,IL,.cons trivial W_⟩;simp only[V.nk,g1,ga,f1,if_true,f2,f4,ZV F4 ED.2,Vp,e7,if_pos gz,IC]
    simp
   ·rename_i Kh;have ID:=h1;obtain⟨v,s2,k1,k2,k4,k5⟩:=M5 hg hc h1;simp only[aa]at k1;obtain⟨s3,hp,k1⟩:=k1;split at k1
    case isFalse=>simp at k1
    rename_i DD;obtain⟨p1,p2,p3⟩:=nv hp;obtain⟨s4,l1,q1,q2,q3,q4⟩:=wv hg hc k1;refine⟨s4,Wc Ra Fa s1 o (V.quietAt A Fa all.toList b i o)::l1,by rw[td]at q1;exact q1,by rw[q2,p1,k2,h2],by rw[q3,p2,k4,h3],fun m φ sv lv BE hs F4 tS gg=> ?_⟩;obtain⟨g1,g2⟩:=h4 m φ sv hs;obtain⟨Qv,vv,DV,m2,gA,e1,e2,e3,e4,e5,e6⟩:=k5 m φ sv g2;obtain⟨tD,e7,e8,e9⟩:=p3 m2 gA DV vv e2 e3;have gz:=(tS.mono e4).all e9 DD;obtain⟨F5,m4,Z4,U5,IC,YQ,qV,JL,IL,W_⟩:=q4 m2 gA tD (lv++[V.Wc A Fa sv o (V.quietAt A Fa all.toList b i o)]) BE e9 ((F4.mono e5).snoc (Qv.mono e5)) (tS.mono e4) gz;rw[e8]at IL;refine⟨F5,m4,Z4,_::U5,?_,YQ,e4.trans qV,e5.trans JL,e6.trans IL e6.Pk.1,.cons (Qv.mono (e5.trans JL)) W_⟩;have QJ:V.tf A sv o=false:=by
     have hf:tf A Ra s1 o=false:=by simpa using Kh
     cases hw:WO (Wc Ra Fa s1 o (V.quietAt A Fa all.toList b i o))with
     |true=>
      revert ID
      generalize Wc Ra Fa s1 o (V.quietAt A Fa all.toList b i o)=t at hw;intro ID;cases t with
      |heap w=>
       cases w with
       |true=>simp only[LO]at ID;exact bz (s:=s1) (env:=env) hg ID rfl hf g2
       |false=>simp[WO]at hw
      |_=>simp[WO]at hw
     |false=>rw[fW hw]at ID;exact bz (s:=s1) hg ID rfl hf g2
    simp only[V.nk,g1,ga,QJ,Jd,if_false,e1,e7,if_pos gz,IC]
    simp
  |false=>
   simp only[aa]at h1;obtain⟨s3,hp,h1⟩:=h1;obtain⟨p1,p2,p3⟩:=nv hp;obtain⟨s4,l1,q1,q2,q3,q4⟩:=wv hg hc h1;refine⟨s4,.no::l1,by rw[td]at q1;exact q1,by rw[q2,p1,h2],by rw[q3,p2,h3],fun m φ sv lv BE hs F4 tS gg=> ?_⟩;obtain⟨g1,g2⟩:=h4 m φ sv hs;obtain⟨tD,e7,e8,e9⟩:=p3 m φ sv (.v (.Qc [])) g2 UO;have DW:tD.F=sv.F:=(BV e7);have gz:V.bh A C Fa BE tD:=fun r hr=>by
    have e:∀e',({ tD with e:=e' }:V.S)={ sv with e:=e' }:=fun e'=>by
     obtain⟨a1,a2,a3⟩:=tD;obtain⟨b1,b2,b3⟩:=sv;simp only at e8 DW;subst e8;subst DW;rfl
    rw[e];exact gg r hr
   obtain⟨F5,m4,Z4,U5,IC,YQ,qV,JL,IL,W_⟩:=q4 m φ tD (lv++[.no]) BE e9 (F4.snoc (show TR _ .no .no from trivial)) tS gz;rw[e8]at IL;refine⟨F5,m4,Z4,.no::U5,?_,YQ,qV,JL,IL,.cons trivial W_⟩;simp only[V.nk,g1,ga,e7,if_pos gz,IC]
   simp
theorem mM(hg:Fe A Ra){env:Env}(hc:Gc C env.call){os:Array Oper}{draw:Bool}{K:St->Option X}(h:region A Ra env Fa n os draw s K=some out):∃s',K s'=some out/\STo (V.region A C Fa n os draw) s s':=by
 unfold region at h;split at h
 ·rename_i hd;split at h
  case isFalse=>simp at h
  rename_i RI;obtain⟨s',l1,h1,h2,h3,h4⟩:=wv hg hc h;rw[List.nil_append]at h1;split at h1
  case isFalse=>simp at h1
  rename_i Qv;refine⟨s',h1,h2,h3,fun m φ sv hs=> ?_⟩;obtain⟨xe,m',Pg,U5,e1,e2,e3,e4,e5,e6⟩:=h4 m φ sv [] [] hs .nil .nil (fun r hr=>by simp at hr);have:=yR e2.f.inj e6 Qv;refine⟨xe,m',Pg,?_,e2,e3,e4,e5⟩;unfold V.region;rw[if_pos hd,if_pos RI,e1];simp[this]
 ·rename_i hd;obtain⟨s',h1,h2⟩:=KG hg hc h;refine⟨s',h1,h2.1,h2.2.1,fun m φ sv hs=> ?_⟩;unfold V.region;rw[if_neg hd];exact h2.2.2 m φ sv hs
def mR(run:V.S->Option (V.Ex×V.S))(s:St)(ex:V.Ex)(s':St):Prop:=
 s'.base=s.base/\s'.H.wm=s.H.wm/\∀(m:Mp)(φ:Nat->Option Nat)(sv:V.S),Om m φ s sv->∃xe m' Pg,run sv=some (ex,xe)/\Om m' Pg s' xe/\Yj s.base m sv.H m' xe.H
def loops(j:Nat->Bool):Code->List Code
 | .seq a b=>loops j a++loops j b
 | .region id os d=>cond (j (2000000+id)) [.region id os d] []
 | .cond c a b=>cond (j (1000000+qf a)) [.cond c a b] (loops j a++loops j b)
 | .block _ c=>loops j c
 | .scope c=>loops j c
 | .loop c=>[.loop c]
 | .rangeFunc g ps a b=>[.rangeFunc g ps a b]
 |_=>[]
def keyOf:Code->Nat
 | .loop c=>qf c
 | .region id _ _=>2000000+id
 | .cond _ a _=>1000000+qf a
 |c=>qf c
def Kc(JG:(X:Type)->Nat->St->(V.Ex->St->Option X)->Option X)(run:Code->V.S->Option (V.Ex×V.S))(c:Code):Prop:=
 ∀(X:Type)(s:St)(K:V.Ex->St->Option X)(out:X),JG X (keyOf c) s K=some out->∃ex s',K ex s'=some out/\mR (run c) s ex s'
theorem mR.same{run:V.S->Option (V.Ex×V.S)}{ex:V.Ex}(h:∀sv,run sv=some (ex,sv)):mR run s ex s:=
 ⟨rfl,rfl,fun m φ sv hs=>⟨sv,m,φ,h sv,hs,.refl _ (by rw[hs.h.len];exact hs.b)⟩⟩
theorem mR.trans{f g k:V.S->Option (V.Ex×V.S)}{s s1 s2:St}{ex V_:V.Ex}(h:mR f s ex s1)(h':mR g s1 V_ s2)(hk:∀sv xe,f sv=some (ex,xe)->k sv=g xe):mR k s V_ s2:=
 ⟨h'.1.trans h.1,h'.2.1.trans h.2.1,fun m φ sv hs=>by
  obtain⟨ik,m1,PA,h1,h2,h3⟩:=h.2.2 m φ sv hs;obtain⟨DV,m2,gA,k1,k2,k3⟩:=h'.2.2 m1 PA ik h2;rw[h.1]at k3;exact⟨DV,m2,gA,by rw[hk sv ik h1];exact k1,k2,h3.trans k3 (va _)⟩⟩
theorem mR.map{f k:V.S->Option (V.Ex×V.S)}{s s1:St}{ex V_:V.Ex}(h:mR f s ex s1)(hk:∀sv xe,f sv=some (ex,xe)->k sv=some (V_,xe)):mR k s V_ s1:=
 ⟨h.1,h.2.1,fun m φ sv hs=>let⟨ik,m1,PA,h1,h2,h3⟩:=h.2.2 m φ sv hs;⟨ik,m1,PA,hk _ _ h1,h2,h3⟩⟩
theorem jM{c:Operand}{b:Bool}(hc:val Ra s.e c=some (.bool b)):(uu s c b).base=s.base/\(uu s c b).H=s.H/\∀(m:Mp)(φ:Nat->Option Nat)(sv:V.S),Om m φ s sv->Om m φ (uu s c b) sv:=by
 unfold uu;split
 ·rename_i t;refine⟨rfl,rfl,fun m φ sv hs=>⟨hs.h,hs.f,fun t'=> ?_,hs.b⟩⟩;simp only[get];split
  ·rename_i e;subst e;have h1:=(XA hc).1;simp[operand]at h1;have:=hs.e t';rw[h1]at this;exact this
  ·exact hs.e t'
 ·exact⟨rfl,rfl,fun m φ sv hs=>hs⟩
theorem wg(hg:Fe A Ra){env:Env}(hc:Gc C env.call){keep:List Nat}:∀{c:Code}{s:St}{K:V.Ex->St->Option X},(∀c'∈loops env.join c,Kc env.loop (V.code A C rf Fa keep n) c')->code A Ra env Fa n c s K=some out->∃ex s',K ex s'=some out/\mR (V.code A C rf Fa keep n c) s ex s'
 | .skip,s,K,_,h=>⟨.normal,s,h,.same fun _=>rfl⟩
 | .label _,s,K,_,h=>⟨.normal,s,h,.same fun _=>rfl⟩
 | .exit id,s,K,_,h=>⟨.exit id,s,h,.same fun _=>rfl⟩
 | .ret,s,K,_,h=>⟨.ret,s,h,.same fun _=>rfl⟩
 | .region id os draw,s,K,hl,h=>by
  simp only[code]at h;cases hj:env.join (2000000+id)with
  |true=>
   rw[hj]at h;exact hl (.region id os draw) (by simp[loops,hj]) X s K out h
  |false=>
  rw[hj]at h;simp only[cond_false]at h;obtain⟨s',h1,h2⟩:=mM hg hc h;refine⟨.normal,s',h1,h2.1,h2.2.1,fun m φ sv hs=> ?_⟩;obtain⟨xe,m',Pg,e1,e2,e3,e4,e5⟩:=h2.2.2 m φ sv hs;exact⟨xe,m',Pg,by simp[V.code,e1],e2,e5.less (by rw[hs.h.len];exact hs.b)⟩
 | .seq a b,s,K,hl,h=>by
  simp only[code]at h;obtain⟨ex,s1,h1,h2⟩:=wg hg hc (fun c' oo=>hl c' (by simp[loops,oo])) h;cases ex with
  |normal=>
   simp only at h1;obtain⟨qI,s2,k1,k2⟩:=wg hg hc (fun c' oo=>hl c' (by simp[loops,oo])) h1;exact⟨qI,s2,k1,h2.trans k2 fun sv xe e=>by simp[V.code,e]⟩
  |exit id=>exact⟨.exit id,s1,h1,h2.map fun sv xe e=>by simp[V.code,e]⟩
  |ret=>exact⟨.ret,s1,h1,h2.map fun sv xe e=>by simp[V.code,e]⟩
 | .cond c x y,s,K,hl,h=>by
  simp only[code]at h;cases hj:env.join (1000000+qf x)with
  |true=>
   rw[hj]at h;exact hl (.cond c x y) (by simp[loops,hj]) X s K out h
  |false=>
  rw[hj]at h;simp only[cond_false,aa]at h;have hl:∀c'∈loops env.join x++loops env.join y,Kc env.loop (V.code A C rf Fa keep n) c':=fun c' oo=>hl c' (by simp only[loops,hj,cond_false];exact oo)
  obtain⟨cv,YW,h⟩:=h;split at h
  case h_2=>simp at h
  rename_i b;have key:∀{z:Code}{ex:V.Ex}{s':St},mR (V.code A C rf Fa keep n z) (uu s c b) ex s'->(∀sv,V.val A sv.e c=some (.bool b)->V.code A C rf Fa keep n (.cond c x y) sv=V.code A C rf Fa keep n z sv)->mR (V.code A C rf Fa keep n (.cond c x y)) s ex s':=fun{z ex s'}h1 h2=>by
   obtain⟨q1,q2,q3⟩:=jM YW;refine⟨h1.1.trans q1,h1.2.1.trans (by rw[q2]),fun m φ sv hs=> ?_⟩;obtain⟨cv',e1,e2⟩:=Jc hg YW hs.e;cases e2;obtain⟨xe,m',Pg,k1,k2,k3⟩:=h1.2.2 m φ sv (q3 m φ sv hs);rw[q1]at k3;exact⟨xe,m',Pg,by rw[h2 sv e1];exact k1,k2,k3⟩
  cases b with
  |true=>
   simp only[cond_true]at h;obtain⟨ex,s1,h1,h2⟩:=wg hg hc (fun c' oo=>hl c' (by simp[oo])) h;exact⟨ex,s1,h1,key h2 fun sv e=>by simp[V.code,e]⟩
  |false=>
   simp only[cond_false]at h;obtain⟨ex,s1,h1,h2⟩:=wg hg hc (fun c' oo=>hl c' (by simp[oo])) h;exact⟨ex,s1,h1,key h2 fun sv e=>by simp[V.code,e]⟩
 | .block id c,s,K,hl,h=>by
  simp only[code]at h;obtain⟨ex,s1,h1,h2⟩:=wg hg hc (fun c' oo=>hl c' (by simpa[loops]using oo)) h;cases ex with
  |normal=>exact⟨.normal,s1,h1,h2.map fun sv xe e=>by simp[V.code,e]⟩
  |ret=>exact⟨.ret,s1,h1,h2.map fun sv xe e=>by simp[V.code,e]⟩
  |exit gD=>
   simp only at h1;split at h1
   ·rename_i hid;exact⟨.normal,s1,h1,h2.map fun sv xe e=>by simp[V.code,e,hid]⟩
   ·rename_i hid;exact⟨.exit gD,s1,h1,h2.map fun sv xe e=>by simp[V.code,e,hid]⟩
 | .loop c,s,K,hl,h=>by
  simp only[code]at h;exact hl (.loop c) (by simp[loops]) X s K out h
 | .rangeFunc g ps a b,s,K,hl,h=>by
  simp only[code]at h;exact hl (.rangeFunc g ps a b) (by simp[loops]) X s K out h
 | .scope c,s,K,hl,h=>by
  simp only[code]at h;obtain⟨ex,s1,h1,h2⟩:=wg hg hc (fun c' oo=>hl c' (by simpa[loops]using oo)) h;exact⟨ex,s1,h1,h2.map fun sv xe e=>by simp[V.code,e]⟩
 | .goto _,s,K,_,h=>by simp[code]at h
 | .refuse _,s,K,_,h=>by simp[code]at h
end
end Go.U
