/- A second evaluator, over rows of Lean values, and that it is right over the first. -/
import Derived.Test.YtjenflkegbmkkaaGreatDoorB1
set_option linter.unusedVariables false
set_option linter.unusedSimpArgs false
set_option linter.unusedSectionVars false
open Bool renaming and_eq_true→Va,false_eq_true→Od,or_eq_true→Yh,and_eq_false_iff→Xs,true_and→wk
open List renaming take_length→Af,map_cons→Pd,length_map→Qc,all_eq_true→tc,getElem?_take→Db,getElem?_append_left→Ka,getElem?_append_right→Na,getElem?_drop→Ic,mem_of_getElem?→Nb,getElem?_eq_none→Ab,length_eq_zero_iff→Ja,mem_cons_self→Ad,mem_cons_of_mem→Wb,getElem?_of_mem→me,getElem?_eq_getElem→Ba,mem_cons→Yb,mem_append→Mw,append_assoc→xd
open Nat renaming zero_add→Re,le_refl→va,lt_or_ge→Vb,le_trans→Ib
open Nat.succ renaming inj→ZD
open Option renaming bind_some→ga,bind_eq_some_iff→aa,map_eq_some_iff→ia,map_some→Oc
open Option.some renaming injEq→Dc
namespace Go.U
open Go
variable [TB:GC]
section
variable {A:V.yh}{Pa:Nat->Option (List UV)}{m:Mp}{φ:Nat->Option Nat}{H H':UH}{Hv:V.AH}{X:Type}{out:X}
theorem Ck{e:TypeId}{t:TypeId}{lo hi:Option Int}{x':V.AV}{k:Nat}(hu:A.P.underlying t=some (.slice e))(hz:V.size A e=some k)(hx:x'= .Xa\/x'= .Ud)(h:0<=lo.getD 0/\lo.getD 0<=hi.getD ((0:Nat):Int)/\hi.getD ((0:Nat):Int)<=((0:Nat):Int)):V.slice A Hv t x' lo hi=some x':=by
 rcases hx with rfl|rfl<;>simp only[V.slice,hu,hz,ga,V.AN]<;>rw[if_pos h]<;>simp
theorem XQ{t:TypeId}{x:UV}{lo hi:Option Int}{K:UV->Option X}(h:slice A H t x lo hi K=some out):
  ∃v,K v=some out/\∀(m:Mp)(Hv:V.AH)(x':V.AV),RH m H Hv->RV m x x'->∃a,V.slice A Hv t x' lo hi=some a/\RV m v a:=by
 unfold slice at h;split at h
 ·rename_i s hu;obtain⟨h0,h⟩:=Cd h;simp only[Va,decide_eq_true_eq]at h0;refine⟨_,h,fun m Hv x' hh hx=> ?_⟩;cases hx with
  |str=>
   refine⟨_,?_,.str _⟩;simp only[V.slice,hu,V.AN];rw[if_pos ⟨h0.1.1,h0.1.2,h0.2⟩];rfl
 ·rename_i e c l hu;split at h
  case isFalse=>simp at h
  rename_i hz;split at h
  ·obtain⟨h0,h⟩:=Cd h;simp only[Va,decide_eq_true_eq]at h0;refine⟨_,h,fun m Hv x' hh hx=> ?_⟩;cases hx with
   |lit _ _ rows h1 h2 h3=>
    have vU:RT m c l rows:=⟨h1,fun i _=>⟨Ef _ _ _,Xd _ _ _⟩,fun i row _=>h2 i row,fun i row k x a _=>h3 i row k x a⟩;refine⟨.lit (width c) ((rows.take rows.length).drop (lo.getD 0).toNat),?_,?_⟩
    ·simp only[V.slice,hu,V.AN];rw[if_pos ⟨h0.1,by rw[h1];simpa using h0.2,by simp⟩];simp[hz]
    ·rw[Af];exact(vU.drop _).lit
   |di _ a ha=>
    refine⟨x',Ck hu hz ha ⟨h0.1,by simpa using h0.2,by simp⟩,?_⟩;rw[List.drop_nil];exact .di _ _ ha
  ·rename_i hv;obtain⟨h0,h⟩:=Cd h;simp only[Va,decide_eq_true_eq]at h0;refine⟨_,h,fun m Hv x' hh hx=> ?_⟩;cases hx with
   |lit _ _ rows h1 h2 h3=>
    have vU:RT m c l rows:=⟨h1,fun i _=>⟨Ef _ _ _,Xd _ _ _⟩,fun i row _=>h2 i row,fun i row k x a _=>h3 i row k x a⟩;refine⟨.lit (width c) ((rows.take hv.toNat).drop (lo.getD 0).toNat),?_,((vU.take _).drop _).lit⟩;simp only[V.slice,hu,V.AN];rw[if_pos ⟨h0.1.1,by simpa using h0.1.2,by rw[h1];simpa using h0.2⟩];simp[hz]
   |di _ a ha=>
    refine⟨x',Ck hu hz ha ⟨h0.1.1,by simpa using h0.1.2,by simpa using h0.2⟩,?_⟩;rw[List.take_nil,List.drop_nil];exact .di _ _ ha
 ·rename_i e b r n hu;split at h
  ·rename_i c l hb;split at h
   case isFalse=>simp at h
   rename_i hz;obtain⟨h0,h⟩:=Cd h;simp only[Va,decide_eq_true_eq]at h0;refine⟨_,h,fun m Hv x' hh hx=> ?_⟩;obtain⟨kb,kx⟩:=Cc (s:=⟨[],[],H,0⟩) (sv:=⟨[],[],Hv⟩) hh hb;cases hx with
   |sl _ _ _ xi Rf hle=>
    obtain⟨rows,ty,j2,j3,j4⟩:=kx xi Rf;have eO:Hv.bl[xi]?=some (.cells rows (width c) ty):=j2;refine⟨.sl xi (r+(lo.getD 0).toNat) ((hi.getD n).toNat-(lo.getD 0).toNat),?_,?_⟩
    ·simp only[V.slice,hu,V.AN];rw[if_pos ⟨h0.1.1,h0.1.2,h0.2⟩];simp[V.Jj,eO,hz]
    ·rw[CA];exact .sl b _ _ xi Rf (by omega)
   |Bt _ _ a ha=>
    refine⟨x',Ck hu hz ha ⟨h0.1.1,by simpa using h0.1.2,by simpa using h0.2⟩,?_⟩;have:(hi.getD ((0:Nat):Int)).toNat-(lo.getD 0).toNat=0:=by omega
    rw[this];exact .Bt _ _ _ ha
  ·rename_i c l hb;split at h
   case isFalse=>simp at h
   rename_i hz;obtain⟨h0,h⟩:=Cd h;simp only[Va,decide_eq_true_eq]at h0;refine⟨_,h,fun m Hv x' hh hx=> ?_⟩;obtain⟨kb,_,kx⟩:=Wd (s:=⟨[],[],H,0⟩) (sv:=⟨[],[],Hv⟩) hh hb;cases hx with
   |sl _ _ _ xi Rf hle=>
    obtain⟨rows,ty,j2,j3,j4⟩:=kx xi Rf;have eO:Hv.bl[xi]?=some (.cells rows 1 ty):=j2;refine⟨.sl xi (r+(lo.getD 0).toNat) ((hi.getD n).toNat-(lo.getD 0).toNat),?_,?_⟩
    ·simp only[V.slice,hu,V.AN];rw[if_pos ⟨h0.1.1,h0.1.2,h0.2⟩];simp[V.Jj,eO,hz]
    ·rw[CA];exact .sl b _ _ xi Rf (by omega)
   |Bt _ _ a ha=>
    refine⟨x',Ck hu hz ha ⟨h0.1.1,by simpa using h0.1.2,by simpa using h0.2⟩,?_⟩;have:(hi.getD ((0:Nat):Int)).toNat-(lo.getD 0).toNat=0:=by omega
    rw[this];exact .Bt _ _ _ ha
  ·simp at h
 ·rename_i e b hu;split at h
  ·rename_i c l hb;split at h
   case isFalse=>simp at h
   rename_i hz;obtain⟨h0,h⟩:=Cd h;simp only[Va,decide_eq_true_eq]at h0;refine⟨_,h,fun m Hv x' hh hx=> ?_⟩;obtain⟨kb,kx⟩:=Cc (s:=⟨[],[],H,0⟩) (sv:=⟨[],[],Hv⟩) hh hb;cases hx with
   |all _ xi Rf=>
    obtain⟨rows,ty,j2,j3,j4⟩:=kx xi Rf;have eO:Hv.bl[xi]?=some (.cells rows (width c) ty):=j2;refine⟨.sl xi (0+(lo.getD 0).toNat) ((hi.getD l.length).toNat-(lo.getD 0).toNat),?_,?_⟩
    ·simp only[V.slice,hu,V.AN,kb];rw[if_pos ⟨h0.1.1,h0.1.2,h0.2⟩];simp[V.Jj,eO,hz]
    ·rw[Re];exact .sl b _ _ xi Rf (by omega)
   |Yf _ a _ hl ha=>
    have mJ:l.length=0:=by omega
    rw[mJ]at h0 ⊢;refine⟨x',Ck hu hz ha ⟨h0.1.1,by simpa using h0.1.2,by simpa using h0.2⟩,?_⟩;have:(hi.getD ((0:Nat):Int)).toNat-(lo.getD 0).toNat=0:=by omega
    rw[this];exact .Bt _ _ _ ha
  ·rename_i c l hb;split at h
   case isFalse=>simp at h
   rename_i hz;obtain⟨h0,h⟩:=Cd h;simp only[Va,decide_eq_true_eq]at h0;refine⟨_,h,fun m Hv x' hh hx=> ?_⟩;obtain⟨kb,_,kx⟩:=Wd (s:=⟨[],[],H,0⟩) (sv:=⟨[],[],Hv⟩) hh hb;cases hx with
   |all _ xi Rf=>
    obtain⟨rows,ty,j2,j3,j4⟩:=kx xi Rf;have eO:Hv.bl[xi]?=some (.cells rows 1 ty):=j2;refine⟨.sl xi (0+(lo.getD 0).toNat) ((hi.getD l.length).toNat-(lo.getD 0).toNat),?_,?_⟩
    ·simp only[V.slice,hu,V.AN,kb];rw[if_pos ⟨h0.1.1,h0.1.2,h0.2⟩];simp[V.Jj,eO,hz]
    ·rw[Re];exact .sl b _ _ xi Rf (by omega)
   |Yf _ a _ hl ha=>
    have mJ:l.length=0:=by omega
    rw[mJ]at h0 ⊢;refine⟨x',Ck hu hz ha ⟨h0.1.1,by simpa using h0.1.2,by simpa using h0.2⟩,?_⟩;have:(hi.getD ((0:Nat):Int)).toNat-(lo.getD 0).toNat=0:=by omega
    rw[this];exact .Bt _ _ _ ha
  ·simp at h
 ·simp at h
theorem zR{op:BinOp}{k:IntKind}{x y:Int}{K:UV->Option X}(h:nq op k x y K=some out):∃v,K v=some out/\∃a,V.nq op k x y=some a/\∀m,RV m v a:=by
 unfold nq at h;split at h
 case h_4=>
  by_cases hy:y=0
  ·simp[hy]at h
  ·simp[hy]at h;exact⟨_,h,_,by simp only[V.nq];rw[if_neg hy],fun _=> .int _ _⟩
 case h_5=>
  by_cases hy:y=0
  ·simp[hy]at h
  ·simp[hy]at h;exact⟨_,h,_,by simp only[V.nq];rw[if_neg hy],fun _=> .int _ _⟩
 case h_6|h_7|h_8|h_9=>
  simp only[aa]at h;obtain⟨n,hn,h⟩:=h;exact⟨_,h,.int k n,by simp[V.nq,hn],fun _=> .int _ _⟩
 all_goals first
  |(exact⟨_,h,_,rfl,fun _=> .int _ _⟩)
  |(exact⟨_,h,_,rfl,fun _=> .bool _⟩)
  |(simp at h)
theorem Lo{eq:TypeId->UV->UV->Option Bool}{eqv:TypeId->V.AV->V.AV->Option Bool}{xs ys:List UV}{Pp ys':List V.AV}(he:∀t x y x' y' b,eq t x y=some b->RV m x x'->RV m y y'->eqv t x' y'=some b)
  (hx:RL m xs Pp) (hy:RL m ys ys'):∀(fs:List Field)(b:Bool),eqFields A eq xs ys fs=some b->V.eqFields A eqv Pp ys' fs=some b
 |[],b,h=>by simpa[eqFields,V.eqFields]using h
 |fd::fs,b,h=>by
  simp only[eqFields]at h;simp only[V.eqFields];split at h
  ·rename_i hn;rw[if_pos hn];exact Lo he hx hy fs b h
  ·rename_i hn;rw[if_neg hn];simp only[aa,ia]at h;obtain⟨x,h1,y,h2,b1,h3,c,h4,rfl⟩:=h;obtain⟨x',k1,k2⟩:=pg h1 hx;obtain⟨y',k3,k4⟩:=pg h2 hy;simp only[k1,k3,ga,he _ _ _ _ _ _ h3 k2 k4,Lo he hx hy fs c h4,Oc]
theorem mz{eq:UV->UV->Option Bool}{eqv:V.AV->V.AV->Option Bool}{e:TypeId}{sz:Nat}{xs ys:List UV}{Pp ys':List V.AV}(he:∀x y x' y' b,eq x y=some b->RV m x x'->RV m y y'->eqv x' y'=some b)
  (hx:RL m xs Pp) (hy:RL m ys ys'):∀(n i:Nat)(b:Bool),Lg A eq e sz xs ys n i=some b->V.Lg A eqv e sz Pp ys' n i=some b
 |0,i,b,h=>by simpa[Lg,V.Lg]using h
 |n+1,i,b,h=>by
  simp only[Lg]at h;simp only[V.Lg];simp only[aa,ia]at h;obtain⟨x,h1,y,h2,b1,h3,c,h4,rfl⟩:=h;obtain⟨x',k1,k2⟩:=pg h1 hx;obtain⟨y',k3,k4⟩:=pg h2 hy;simp only[k1,k3,ga,he _ _ _ _ _ h3 k2 k4,mz he hx hy n (i+1) c h4,Oc]
theorem AA:∀(d:Nat){t:TypeId}{x y:UV}{x' y':V.AV}{b:Bool},zw A d t x y=some b->RV m x x'->RV m y y'->V.zw A d t x' y'=some b
 |0,t,x,y,x',y',b,h,_,_=>by simp[zw]at h
 |d+1,t,x,y,x',y',b,h,hx,hy=>by
  simp only[zw]at h;split at h
  ·rename_i hu;cases hx;cases hy;simpa[V.zw,hu]using h
  ·rename_i k a k' b' hu;cases hx;cases hy;simpa[V.zw,hu]using h
  ·rename_i hu;cases hx;cases hy;simpa[V.zw,hu]using h
  ·rename_i fs xs ys hu;split at h
   ·simp at h
   rename_i hs;cases hx with
   |agg _ as hl hr=>
    cases hy with
    |agg _ bs bg Ql=>
     simp only[V.zw,hu];rw[if_neg hs];exact Lo (eq:=zw A d) (eqv:=V.zw A d) (fun t x y x' y' b h h1 h2=>AA d h h1 h2) ⟨hl,hr⟩ ⟨bg,Ql⟩ _ _ h
  ·rename_i n e xs ys hu;simp only[aa]at h;obtain⟨sz,ue,h⟩:=h;cases hx with
   |agg _ as hl hr=>
    cases hy with
    |agg _ bs bg Ql=>
     simp only[V.zw,hu,ue,ga];exact mz (eq:=zw A d e) (eqv:=V.zw A d e) (fun x y x' y' b h h1 h2=>AA d h h1 h2) ⟨hl,hr⟩ ⟨bg,Ql⟩ _ _ _ h
  ·simp at h
theorem rK{t:TypeId}{x y:UV}{x' y':V.AV}{b:Bool}(h:Ig A t x y=some b)(hx:RV m x x')(hy:RV m y y'):V.Ig A t x' y'=some b:=by
 unfold Ig at h;split at h
 case h_2=>
  rename_i fs xs ys hu;split at h
  ·simp at h
  rename_i hs;cases hx with
  |agg _ as hl hr=>
   cases hy with
   |agg _ bs bg Ql=>
    simp only[V.Ig,hu];rw[if_neg hs];exact AA 1000 h (.agg _ _ hl hr) (.agg _ _ bg Ql)
 case h_3=>
  rename_i n e xs ys hu;split at h
  ·simp at h
  rename_i hs;cases hx with
  |agg _ as hl hr=>
   cases hy with
   |agg _ bs bg Ql=>
    simp only[V.Ig,hu];rw[if_neg hs];exact AA 1000 h (.agg _ _ hl hr) (.agg _ _ bg Ql)
 all_goals first
  |(simp at h;done)
  |(rename_i hu;cases hx;cases hy;simpa only[V.Ig,hu]using h)
theorem mC{t:TypeId}{x y:UV}{x':V.AV}{b:Bool}(h:Ig A t x y=some b)(hx:RV m x x'):(∀k n,x'≠ .int k n)/\∀s,x'≠ .str s:=by
 unfold Ig at h;split at h
 all_goals first
  |(simp at h;done)
  |(cases hx;exact⟨fun _ _ e=>by simp at e,fun _ e=>by simp at e⟩)
theorem RQ{op:BinOp}{x y:ByteArray}{K:UV->Option X}(h:vt op x y K=some out):∃v,K v=some out/\∃a,V.vt op x y=some a/\∀m,RV m v a:=by
 unfold vt at h;split at h
 case h_1=>
  obtain⟨h0,h⟩:=Cd h;simp only[decide_eq_true_eq]at h0;exact⟨_,h,_,by simp only[V.vt];rw[if_pos h0],fun _=> .str _⟩
 all_goals first
  |(exact⟨_,h,_,rfl,fun _=> .bool _⟩)
  |(simp at h;done)
theorem iU{op:BinOp}{t:TypeId}{x y:UV}{K:UV->Option X}(h:binop A op t x y K=some out):
  ∃v,K v=some out/\∀(m:Mp)(x' y':V.AV),RV m x x'->RV m y y'->∃a,V.binop A op t x' y'=some a/\RV m v a:=by
 unfold binop at h;split at h
 ·obtain⟨h0,h⟩:=Cd h;simp only[decide_eq_true_eq]at h0;refine⟨_,h,fun m x' y' hx hy=> ?_⟩;cases hx;cases hy;exact⟨_,by simp only[V.binop];rw[if_pos h0],.int _ _⟩
 ·obtain⟨h0,h⟩:=Cd h;simp only[decide_eq_true_eq]at h0;refine⟨_,h,fun m x' y' hx hy=> ?_⟩;cases hx;cases hy;exact⟨_,by simp only[V.binop];rw[if_pos h0],.int _ _⟩
 ·rename_i k a k' b aak Zaj;split at h
  case isFalse=>simp at h
  rename_i hk;obtain⟨v,h1,a',h2,h3⟩:=zR h;refine⟨v,h1,fun m x' y' hx hy=> ?_⟩;cases hx;cases hy;refine⟨a',?_,h3 m⟩;cases op
  case shl=>exact(aak rfl).elim
  case shr=>exact(Zaj rfl).elim
  all_goals (simp only[V.binop];rw[if_pos hk];exact h2)
 ·obtain⟨v,h1,a',h2,h3⟩:=RQ h;refine⟨v,h1,fun m x' y' hx hy=> ?_⟩;cases hx;cases hy;refine⟨a',?_,h3 m⟩;cases op<;>first|exact h2|(simp[V.vt]at h2)
 ·simp only[aa]at h;obtain⟨b,hb,h⟩:=h;refine⟨_,h,fun m x' y' hx hy=>⟨.bool b,?_,.bool b⟩⟩;have h1:=rK hb hx hy;have h2:=mC hb hx;unfold V.binop;split
  all_goals first
   |(simp at *;done)
   |(rw[h1];rfl)
   |(exfalso;exact h2.1 _ _ rfl)
   |(exfalso;exact h2.2 _ rfl)
   |simp_all
 ·simp only[aa]at h;obtain⟨b,hb,h⟩:=h;refine⟨_,h,fun m x' y' hx hy=>⟨.bool !b,?_,.bool _⟩⟩;have h1:=rK hb hx hy;have h2:=mC hb hx;unfold V.binop;split
  all_goals first
   |(simp at *;done)
   |(rw[h1];rfl)
   |(exfalso;exact h2.1 _ _ rfl)
   |(exfalso;exact h2.2 _ rfl)
   |simp_all
 ·simp at h
end
end Go.U
namespace Go.U
open Go
variable [TB:GC]
def JK(φ Og:Nat->Option Nat):Prop:=∀i j,φ i=some j->Og i=some j
section
variable {A:V.yh}{Pa:Nat->Option (List UV)}{m:Mp}{φ:Nat->Option Nat}{H H':UH}{Hv:V.AH}{X:Type}{out:X}
theorem LU{op:UnOp}{x v:UV}{x':V.AV}(h:unop op x=some v)(hx:RV m x x'):∃a,V.unop op x'=some a/\RV m v a:=by
 unfold unop at h;split at h
 ·simp only[Dc]at h;subst h;cases hx;exact⟨_,rfl,.int _ _⟩
 ·rename_i k n;simp only[ia]at h;obtain⟨i,hi,rfl⟩:=h;cases hx;exact⟨.int k i,by simp only[V.unop,hi,Oc],.int _ _⟩
 ·simp at h;subst h;cases hx;exact⟨_,rfl,.bool _⟩
 ·simp at h
theorem gU{l:List Int}{rows:List (List V.AV)}(h:RT m (.int .u8) l rows):V.Nh rows=some (l.map fun n=>UInt8.ofNat n.toNat):=by
 induction rows generalizing l with
 |nil=>
  have:=h.1;cases l with
  |nil=>rfl
  |cons _ _=>simp at this
 |cons row rows ih=>
  have hl:=h.1;cases l with
  |nil=>simp at hl
  |cons n l=>
   have h0:=h.get (i:=0) rfl;obtain⟨a,as,rfl,h1,h2⟩:=RL.Wh (x:=UV.int .u8 n) (xs:=[]) h0;have:as=[]:=by have:=h2.1;simpa using this
   subst this;cases h1;have hr:RT m (.int .u8) l rows:= .of (ZD hl) fun i row hi hr=>h.get (i:=i+1) (by simpa using hr)
   simp only[V.Nh,ih hr,ga,Pd]
theorem AK{src dst:TypeId}{x:UV}{K:UV->UH->Option X}(h:convert A H src dst x K=some out):
  ∃v H',K v H'=some out/\H'.wm=H.wm/\∀(m:Mp)(Hv:V.AH)(x':V.AV),RH m H Hv->RV m x x'->∃a Nc,V.convert A Hv src dst x'=some (a,Nc)/\Jp m Hv v H' a Nc:=by
 unfold convert at h;split at h
 ·rename_i h1 h2;refine⟨_,_,h,rfl,fun m Hv x' hh hx=> ?_⟩;cases hx;exact⟨_,_,by simp only[V.convert,h1,h2],.same hh (.int _ _)⟩
 ·rename_i h1 h2;refine⟨_,_,h,rfl,fun m Hv x' hh hx=> ?_⟩;cases hx;exact⟨_,_,by simp only[V.convert,h1,h2],.same hh (.str _)⟩
 ·rename_i e s h1 h2;split at h
  case h_2=>simp at h
  rename_i h3;obtain⟨h0,h⟩:=Cd h;simp only[decide_eq_true_eq]at h0;refine⟨_,_,h,rfl,fun m Hv x' hh hx=> ?_⟩;cases hx;have:=hh.Ir (yC m s) (zl:=1) rfl (ty:=some (e,1));have hl:(zN s).length=s.size:=(Qc ..).trans rfl;refine⟨.sl Hv.bl.length 0 s.size,V.push Hv (.cells (V.uc s) 1 (some (e,1))),?_,by rw[<- hl];exact this⟩;simp only[V.convert,h1,h2,h3];rw[if_pos h0]
 ·rename_i e x h1 h2 SL;split at h
  case h_2=>simp at h
  rename_i h3;simp only[aa]at h;obtain⟨l,hr,h⟩:=h;refine⟨_,_,h,rfl,fun m Hv x' hh hx=> ?_⟩;obtain⟨rows,k1,k2⟩:=Dh hr hh hx;have hb:=gU k2;have Lr:∀s,x'≠ .str s:=fun s e=>by
   subst e;cases hx with
   |str=>exact SL s rfl
   |Sb=>simp[rowsOf]at hr
   |Bt _ _ _ ha=>simp at ha
   |Yf _ _ _ _ ha=>simp at ha
   |vu _ _ _ _ _ ha=>simp at ha
   |di _ _ ha=>simp at ha
  refine⟨.str (Hah l),Hv,?_,.same hh (.str _)⟩;have k1':V.rowsOf Hv x'=some rows:=by cases x'<;>first|exact k1|exact(Lr _ rfl).elim
  have h4:∀y:V.AV,(∀s,y≠ .str s)->V.convert A Hv src dst y=(V.rowsOf Hv y).bind fun rows=>(V.Nh rows).map fun l=>(.str ⟨l.toArray⟩,Hv):=fun y hy=>by
   cases y<;>first|exact(hy _ rfl).elim|simp only[V.convert,h1,h2,h3]
  rw[h4 x' Lr,k1',ga,hb,Oc];rfl
 ·simp at h
theorem Fw{d:Nat}{x:UV}(h:closed 8 x=true):Rb (d+1) x=true:=by
 cases x<;>first|exact h|simp[closed]at h
variable {k:KT}
theorem Lx(i j:td k):V.tB (Ph k i) (Ph k j)=some (nI k i j):=by
 cases k with
 |int k=>simp[Ph,V.tB,nI]
 |str=>rfl
theorem kn{x:UV}{i:td k}{x':V.AV}(h:keyOf? k x=some i)(hx:RV m x x'):x'=Ph k i:=by
 cases k with
 |int k=>
  simp only[keyOf?]at h;split at h
  ·split at h
   ·rename_i e;subst e;injection h with h;subst h;cases hx;rfl
   ·simp at h
  ·simp at h
 |str=>
  simp only[keyOf?]at h;split at h
  ·injection h with h;subst h;cases hx;rfl
  ·simp at h
theorem rG{t:TypeId}(h:Cz A t=some k)(i:td k):V.Ri A t (Ph k i)=true:=by
 unfold Cz at h;unfold V.Ri;split at h
 ·rename_i hu;simp at h;subst h;rw[hu];rfl
 ·rename_i hu;simp at h;subst h;rw[hu];rfl
 ·simp at h
theorem WE{i:td k}{z:UV}{K:UV->Bool->Option X}:∀{es:List (td k×UV)},JB i z K es=some out->∃v b,K v b=some out/\∀(m:Mp)(ud:List (V.AV×V.AV)),MR k m es ud->(b=true/\∃a,V.zi (Ph k i) ud=some (some a)/\RV m v a)\/(b=false/\v=z/\V.zi (Ph k i) ud=some none)
 |[],h=>⟨z,false,h,fun m ud hm=>by
   cases ud with
   |nil=>exact .inr ⟨rfl,rfl,rfl⟩
   |cons _ _=>exact hm.elim⟩
 |(j,v)::es,h=>by
  simp only[JB]at h;cases he:nI k i j with
  |true=>
   rw[he]at h;refine⟨v,true,h,fun m ud hm=> ?_⟩;cases ud with
   |nil=>exact hm.elim
   |cons p ud=>
    obtain⟨h1,h2,_,_⟩:=hm;refine .inl ⟨rfl,p.2,?_,h2⟩;obtain⟨key,a⟩:=p;subst h1;simp only[V.zi,Lx,he,ga]
  |false=>
   rw[he]at h;obtain⟨w,b,h1,h2⟩:=WE (es:=es) h;refine⟨w,b,h1,fun m ud hm=> ?_⟩;cases ud with
   |nil=>exact hm.elim
   |cons p ud=>
    obtain⟨key,a⟩:=p;obtain⟨k1,_,_,k4⟩:=hm;subst k1;simp only[V.zi,Lx,he,ga];exact h2 m ud k4
theorem WA{i:td k}{v:UV}:∀{es:List (td k×UV)}{K:List (td k×UV)->Option X},vL i v K es=some out->∃lN,K lN=some out/\∀(m:Mp)(ud:List (V.AV×V.AV))(a:V.AV),MR k m es ud->RV m v a->Rb 8 v=true->∃Ii,V.jo (Ph k i) a ud=some Ii/\MR k m lN Ii
 |[],K,h=>⟨[(i,v)],h,fun m ud a hm hv hc=>by
   cases ud with
   |nil=>exact⟨[(Ph k i,a)],rfl,rfl,hv,hc,trivial⟩
   |cons _ _=>exact hm.elim⟩
 |(j,w)::es,K,h=>by
  simp only[vL]at h;cases he:nI k i j with
  |true=>
   rw[he]at h;refine⟨_,h,fun m ud a hm hv hc=> ?_⟩;cases ud with
   |nil=>exact hm.elim
   |cons p ud=>
    obtain⟨key,a'⟩:=p;obtain⟨k1,_,_,k4⟩:=hm;subst k1;exact⟨(Ph k i,a)::ud,by simp only[V.jo,Lx,he,ga],rfl,hv,hc,k4⟩
  |false=>
   rw[he]at h;obtain⟨lN,h1,h2⟩:=WA (es:=es) h;refine⟨_,h1,fun m ud a hm hv hc=> ?_⟩;cases ud with
   |nil=>exact hm.elim
   |cons p ud=>
    obtain⟨key,a'⟩:=p;obtain⟨k1,k2,k3,k4⟩:=hm;subst k1;obtain⟨Ii,e1,e2⟩:=h2 m ud a k4 hv hc;exact⟨(Ph k j,a')::Ii,by simp only[V.jo,Lx,he,ga,e1,Oc],rfl,k2,k3,e2⟩
theorem sC{i:td k}:∀{es:List (td k×UV)}{K:List (td k×UV)->Option X},No i K es=some out->∃lN,K lN=some out/\∀(m:Mp)(ud:List (V.AV×V.AV)),MR k m es ud->∃Ii,V.oo (Ph k i) ud=some Ii/\MR k m lN Ii
 |[],K,h=>⟨[],h,fun m ud hm=>by
   cases ud with
   |nil=>exact⟨[],rfl,trivial⟩
   |cons _ _=>exact hm.elim⟩
 |(j,w)::es,K,h=>by
  simp only[No]at h;cases he:nI k i j with
  |true=>
   rw[he]at h;refine⟨_,h,fun m ud hm=> ?_⟩;cases ud with
   |nil=>exact hm.elim
   |cons p ud=>
    obtain⟨key,a'⟩:=p;obtain⟨k1,_,_,k4⟩:=hm;subst k1;exact⟨ud,by simp only[V.oo,Lx,he,ga],k4⟩
  |false=>
   rw[he]at h;obtain⟨lN,h1,h2⟩:=sC (es:=es) h;refine⟨_,h1,fun m ud hm=> ?_⟩;cases ud with
   |nil=>exact hm.elim
   |cons p ud=>
    obtain⟨key,a'⟩:=p;obtain⟨k1,k2,k3,k4⟩:=hm;subst k1;obtain⟨Ii,e1,e2⟩:=h2 m ud k4;exact⟨(Ph k j,a')::Ii,by simp only[V.oo,Lx,he,ga,e1,Oc],rfl,k2,k3,e2⟩
theorem BJ{g:Bool}{c:CT}{i:td k}{z:UV}{K:UV->Bool->Option X}:∀{l:List (td k×Gb c)},JB i z K (Qj g c l)=cond (vJ i l) (K (valOf g c (Lz i (XT c) l)) true) (K z false)
 |[]=>rfl
 |(j,x)::l=>by
  simp only[Qj,Pd,JB,vJ,List.any_cons,Lz];cases he:nI k i j with
  |true=>rfl
  |false=>exact BJ (l:=l)
theorem PN{g:Bool}{c:CT}{i:td k}{x:Gb c}:∀{l:List (td k×Gb c)}{K:List (td k×UV)->Option X},vL i (valOf g c x) K (Qj g c l)=K (Qj g c (VA i x l))
 |[],K=>rfl
 |(j,y)::l,K=>by
  simp only[Qj,Pd,vL,VA];cases he:nI k i j with
  |true=>rfl
  |false=>exact PN (l:=l)
theorem pQ{g:Bool}{c:CT}{i:td k}:∀{l:List (td k×Gb c)}{K:List (td k×UV)->Option X},No i K (Qj g c l)=K (Qj g c (MD i l))
 |[],K=>rfl
 |(j,y)::l,K=>by
  simp only[Qj,Pd,No,MD];cases he:nI k i j with
  |true=>rfl
  |false=>exact pQ (l:=l)
theorem xK{g:Bool}{c:CT}{x:UV}{y:Gb c}(h:V6 g c x=some y):Rb 8 (valOf g c y)=true/\∀(m:Mp)(a:V.AV),RV m x a->RV m (valOf g c y) a:=by
 unfold V6 at h;split at h
 ·rename_i cs;refine⟨?_,fun m a ha=> ?_⟩
  ·simp only[valOf,Rb,tc];exact fun v hv=>Fw (Gl c y v hv)
  ·cases ha with
   |agg _ as hl hr=>have:=Gn h (m:=m) ⟨hl,hr⟩;exact .agg _ _ this.1 this.2
 ·split at h
  case isFalse=>simp at h
  rename_i hw;have hlen:=Ih c y;rw[hw]at hlen;obtain⟨v,hv⟩:∃v,enc c y=[v]:=by
   match h1:enc c y,hlen with
   |[v],_=>exact⟨v,rfl⟩
  have pq:valOf false c y=v:=by simp only[valOf,hv]
  rw[pq];refine⟨Fw (Gl c y v (by rw[hv];simp)),fun m a ha=> ?_⟩;have:=Gn h (RL.cons ha .nil);rw[hv]at this;exact this.2 0 v a rfl rfl
 ·simp at h
theorem qB{t:TypeId}{x i:UV}{ok:Bool}{K:UV->Option X}(h:lookup A H t x i ok K=some out):
  ∃v,K v=some out/\∀(m:Mp)(Hv:V.AH)(x' i':V.AV),RH m H Hv->RV m x x'->RV m i i'->∃a,V.lookup A Hv t x' i' ok=some a/\RV m v a:=by
 unfold lookup at h;split at h
 case h_2=>simp at h
 rename_i kt et hu;split at h
 case h_2=>simp at h
 rename_i b;have key:∀{k:KT}{es:List (td k×UV)},(∀{m:Mp}{Hv:V.AH},RH m H Hv->∃x ud,m.ι b 0=some x/\Hv.bl[x]?=some (.map ud)/\MR k m es ud)->Cz A kt=some k->
   ((keyOf? k i).bind fun i=>(zeroV A et).bind fun z=>JB i z (fun v b=>K (if ok then .Sc [v,.bool b]else v)) es)=some out->
   ∃v,K v=some out/\∀(m:Mp)(Hv:V.AH)(x' i':V.AV),RH m H Hv->RV m (.mp b) x'->RV m i i'->∃a,V.lookup A Hv t x' i' ok=some a/\RV m v a:=fun{k es}hb lD h=>by
  simp only[aa]at h;obtain⟨i0,hi,z,hz,h⟩:=h;obtain⟨z',q1,q2,_⟩:=BQ hz;obtain⟨v,b0,h1,h2⟩:=WE h;refine⟨_,h1,fun m Hv x' i' hh hx Z4=> ?_⟩;have aW:=kn hi Z4;subst aW;cases hx with
  |mp _ xi Rf=>
   obtain⟨xi',ud,k1,k2,k3⟩:=hb hh;rw[Rf]at k1;simp at k1;subst k1;have H7:∀{w:UV}{a:V.AV}(b:Bool),RV m w a->RV m (if ok then .Sc [w,.bool b]else w) (if ok then .Sc [a,.bool b]else a):=fun{w a}b hw=>by
    clear h h1;cases ok with
    |true=>exact .Sc [w,.bool b] [a,.bool b] rfl (RL.cons hw (RL.cons (.bool b) .nil)).2
    |false=>exact hw
   rcases h2 m ud k3 with⟨rfl,a,e1,e2⟩|⟨rfl,rfl,e1⟩
   ·refine⟨_,?_,H7 true e2⟩;simp only[V.lookup,hu,rG lD,if_true,V.mapOf,k2,ga,e1]
   ·refine⟨_,?_,H7 false (q2 m)⟩;simp only[V.lookup,hu,rG lD,if_true,V.mapOf,k2,ga,e1,q1,Oc]
 split at h
 ·rename_i k es hb;split at h
  case isFalse=>simp at h
  rename_i lD;exact key (fun hh=>hh.Vc b _ hb) lD h
 ·rename_i k g c l hb;split at h
  case isFalse=>simp at h
  rename_i lD;refine key (es:=Qj g c l) (fun hh=>hh.Vc b _ hb) lD ?_;simp only[aa]at h ⊢;obtain⟨i0,hi,z,hz,h⟩:=h;exact⟨i0,hi,z,hz,by rw[BJ];exact h⟩
 ·simp at h
def s_(m:Mp)(Hv:V.AH)(H':UH)(Nc:V.AH):Prop:=RH m H' Nc/\Oj m.top m Hv m Nc
theorem Et{t:TypeId}{x i y:UV}{K:UH->Option X}(h:mapUpdate A H t x i y K=some out):
  ∃H',K H'=some out/\H'.wm=H.wm/\∀(m:Mp)(Hv:V.AH)(x' i' y':V.AV),RH m H Hv->RV m x x'->RV m i i'->RV m y y'->∃Nc,V.mapUpdate A Hv t x' i' y'=some Nc/\s_ m Hv H' Nc:=by
 unfold mapUpdate at h;split at h
 case h_2=>simp at h
 rename_i kt et b hu;split at h
 case isFalse=>simp at h
 rename_i OE;have Wo:∀{m:Mp}{Hv:V.AH}{x' y':V.AV}{k:KT}{i0:td k}{xi:Nat}{ud Ii:List (V.AV×V.AV)},RH m H Hv->m.ι b 0=some xi->x'= .mp xi->Cz A kt=some k->Hv.bl[xi]?=some (.map ud)->V.jo (Ph k i0) y' ud=some Ii->
   V.mapUpdate A Hv t x' (Ph k i0) y'=some (V.Ra Hv xi (.map Ii)):=fun{m Hv x' y' k i0 xi ud Ii}hh Rf Dk lD h2 h3=>by
  subst Dk;have hw:=hh.wm b xi Rf OE;simp[V.mapUpdate,hu,rG lD,hw,h2,h3]
 split at h
 ·rename_i k es hb;split at h
  case isFalse=>simp at h
  rename_i lD;simp only[aa]at h;obtain⟨i0,hi,h⟩:=h;obtain⟨lN,h1,h2⟩:=WA h;refine⟨_,h1,rfl,fun m Hv x' i' y' hh hx Z4 hy=> ?_⟩;have aW:=kn hi Z4;subst aW;cases hx with
  |mp _ xi Rf=>
   obtain⟨xi',ud,k1,k2,k3⟩:=hh.Vc b _ hb;rw[Rf]at k1;simp at k1;subst k1;obtain⟨Ii,e1,e2⟩:=h2 m ud y' k3 hy lD.2;have Fh:=hh.set (y:= .Zj k lN) (yv:= .map Ii) ⟨_,hb,rfl⟩ Rf ⟨xi,Ii,Rf,by rw[Ec,if_pos rfl,if_pos (hh.Ie b xi Rf).2],e2⟩;exact⟨_,Wo hh Rf rfl lD.1 k2 e1,Fh⟩
 ·rename_i k g c l hb;split at h
  case isFalse=>simp at h
  rename_i lD;simp only[aa]at h;obtain⟨i0,hi,xv,FV,h⟩:=h;refine⟨_,h,rfl,fun m Hv x' i' y' hh hx Z4 hy=> ?_⟩;have aW:=kn hi Z4;subst aW;cases hx with
  |mp _ xi Rf=>
   obtain⟨xi',ud,k1,k2,k3⟩:=hh.Vc b _ hb;rw[Rf]at k1;simp at k1;subst k1;obtain⟨d1,d2⟩:=xK FV;have kI:vL i0 (valOf g c xv) (fun ud=>some ud) (Qj g c l)=some (Qj g c (VA i0 xv l)):=PN;obtain⟨lN,e0,h2⟩:=WA kI;simp at e0;subst e0;obtain⟨Ii,e1,e2⟩:=h2 m ud y' k3 (d2 m y' hy) d1;have Fh:=hh.set (y:= .oh k g c (VA i0 xv l)) (yv:= .map Ii) ⟨_,hb,rfl⟩ Rf ⟨xi,Ii,Rf,by rw[Ec,if_pos rfl,if_pos (hh.Ie b xi Rf).2],e2⟩;exact⟨_,Wo hh Rf rfl lD k2 e1,Fh⟩
 ·simp at h
theorem bD{t:TypeId}{x i:UV}{K:UH->Option X}(h:Ff A H t x i K=some out):
  ∃H',K H'=some out/\H'.wm=H.wm/\∀(m:Mp)(Hv:V.AH)(x' i':V.AV),RH m H Hv->RV m x x'->RV m i i'->∃Nc,V.Ff A Hv t x' i'=some Nc/\s_ m Hv H' Nc:=by
 unfold Ff at h;split at h
 case h_2=>simp at h
 rename_i kt et b hu;split at h
 case isFalse=>simp at h
 rename_i OE;have Wo:∀{m:Mp}{Hv:V.AH}{x':V.AV}{k:KT}{i0:td k}{xi:Nat}{ud Ii:List (V.AV×V.AV)},RH m H Hv->m.ι b 0=some xi->x'= .mp xi->Cz A kt=some k->Hv.bl[xi]?=some (.map ud)->V.oo (Ph k i0) ud=some Ii->
   V.Ff A Hv t x' (Ph k i0)=some (V.Ra Hv xi (.map Ii)):=fun{m Hv x' k i0 xi ud Ii}hh Rf Dk lD h2 h3=>by
  subst Dk;have hw:=hh.wm b xi Rf OE;simp[V.Ff,hu,rG lD,hw,h2,h3]
 split at h
 ·rename_i k es hb;split at h
  case isFalse=>simp at h
  rename_i lD;simp only[aa]at h;obtain⟨i0,hi,h⟩:=h;obtain⟨lN,h1,h2⟩:=sC h;refine⟨_,h1,rfl,fun m Hv x' i' hh hx Z4=> ?_⟩;have aW:=kn hi Z4;subst aW;cases hx with
  |mp _ xi Rf=>
   obtain⟨xi',ud,k1,k2,k3⟩:=hh.Vc b _ hb;rw[Rf]at k1;simp at k1;subst k1;obtain⟨Ii,e1,e2⟩:=h2 m ud k3;have Fh:=hh.set (y:= .Zj k lN) (yv:= .map Ii) ⟨_,hb,rfl⟩ Rf ⟨xi,Ii,Rf,by rw[Ec,if_pos rfl,if_pos (hh.Ie b xi Rf).2],e2⟩;exact⟨_,Wo hh Rf rfl lD k2 e1,Fh⟩
 ·rename_i k g c l hb;split at h
  case isFalse=>simp at h
  rename_i lD;simp only[aa]at h;obtain⟨i0,hi,h⟩:=h;refine⟨_,h,rfl,fun m Hv x' i' hh hx Z4=> ?_⟩;have aW:=kn hi Z4;subst aW;cases hx with
  |mp _ xi Rf=>
   obtain⟨xi',ud,k1,k2,k3⟩:=hh.Vc b _ hb;rw[Rf]at k1;simp at k1;subst k1;have kI:No i0 (fun ud=>some ud) (Qj g c l)=some (Qj g c (MD i0 l)):=pQ;obtain⟨lN,e0,h2⟩:=sC kI;simp at e0;subst e0;obtain⟨Ii,e1,e2⟩:=h2 m ud k3;have Fh:=hh.set (y:= .oh k g c (MD i0 l)) (yv:= .map Ii) ⟨_,hb,rfl⟩ Rf ⟨xi,Ii,Rf,by rw[Ec,if_pos rfl,if_pos (hh.Ie b xi Rf).2],e2⟩;exact⟨_,Wo hh Rf rfl lD k2 e1,Fh⟩
 ·simp at h
theorem MR.length:∀{es:List (td k×UV)}{ud:List (V.AV×V.AV)},MR k m es ud->ud.length=es.length
 |[],[],_=>rfl
 |(_,_)::_,(_,_)::_,h=>by simp[MR.length h.2.2.2]
 |[],_::_,h=>h.elim
 |_::_,[],h=>h.elim
theorem Tx{f:UV->UV->Option UV}{g:V.AV->V.AV->Option V.AV}(hf:∀x y z x' y',f x y=some z->RV m x x'->RV m y y'->∃z',g x' y'=some z'/\RV m z z'):∀{ys:List UV}{x z:UV}{ys':List V.AV}{x':V.AV},Vk f x ys=some z->RV m x x'->RL m ys ys'->∃z',V.Vk g x' ys'=some z'/\RV m z z'
 |[],x,z,ys',x',h,hx,hy=>by
  have:ys'=[]:=by have:=hy.1;simpa using this
  subst this;simp[Vk]at h;subst h;exact⟨x',rfl,hx⟩
 |y::ys,x,z,ys',x',h,hx,hy=>by
  cases ys' with
  |nil=>have:=hy.1;simp at this
  |cons y' ys'=>
   simp only[Vk,aa]at h;obtain⟨w,hw,h⟩:=h;obtain⟨w',h1,h2⟩:=hf _ _ _ _ _ hw hx (hy.2 0 y y' rfl rfl);obtain⟨z',h3,h4⟩:=Tx (ys:=ys) (ys':=ys') hf h h2 ⟨by have:=hy.1;simpa using this,fun i a b k1 k2=>hy.2 (i+1) a b (by simpa using k1) (by simpa using k2)⟩;exact⟨z',by simp[V.Vk,h1,h3],h4⟩
theorem x4{x y z:UV}{x' y':V.AV}(h:vV x y=some z)(hx:RV m x x')(hy:RV m y y'):∃z',V.WI x' y'=some z'/\RV m z z':=by
 unfold vV at h;split at h
 ·simp at h;subst h;cases hx;cases hy;exact⟨_,rfl,.int _ _⟩
 ·simp at h
theorem u4{x y z:UV}{x' y':V.AV}(h:sV x y=some z)(hx:RV m x x')(hy:RV m y y'):∃z',V.UI x' y'=some z'/\RV m z z':=by
 unfold sV at h;split at h
 ·simp at h;subst h;cases hx;cases hy;exact⟨_,rfl,.int _ _⟩
 ·simp at h
theorem RH.B_(h:RH m H Hv){b:Nat}{y:UB}(hb:live H b)(hy:RB m Hv b y):RH m (Ra H b y) Hv:=by
 have k:∀{b'},live (Ra H b y) b'->live H b':=fun h=>by rcases sg h with⟨rfl,_⟩|⟨_,h⟩<;>assumption
 refine⟨fun b' _ x' Ld=>by simpa[Ra]using h.Ie b' x' Ld,fun b' y' Wf=> ?_,fun b1 b2 _ _ x' h1 h2 e1 e2=>h.pn b1 b2 x' (k h1) (k h2) e1 e2,h.wm,h.top,by simpa[Ra]using h.len⟩;rw[Lu]at Wf;split at Wf
 ·rename_i e;subst e;split at Wf
  ·simp at Wf;subst Wf;exact hy
  ·simp at Wf
 ·exact h.Vc b' y' Wf
theorem RL.two{x y:UV}{as:List V.AV}(h:RL m [x,y] as):∃a b,as=[a,b]/\RV m x a/\RV m y b:=by
 match as,h with
 |[a,b],h=>exact⟨a,b,rfl,h.2 0 x a rfl rfl,h.2 1 y b rfl rfl⟩
 |[],h=>have:=h.1;simp at this
 |[_],h=>have:=h.1;simp at this
 |_::_::_::_,h=>have:=h.1;simp at this
theorem RL.one{x:UV}{as:List V.AV}(h:RL m [x] as):∃a,as=[a]/\RV m x a:=by
 match as,h with
 |[a],h=>exact⟨a,rfl,h.2 0 x a rfl rfl⟩
 |[],h=>have:=h.1;simp at this
 |_::_::_,h=>have:=h.1;simp at this
theorem D4{t:TypeId}{x:UV}{ts:Array TypeId}{K:UV->UH->Option X}(ht:ts[0]?=some t)(h:builtin A H .len ts [x] K=some out):
  ∃v,K v H=some out/\∀(m:Mp)(Hv:V.AH)(x':V.AV),RH m H Hv->RV m x x'->∃a,V.builtin A Hv .len ts [x']=some (a,Hv)/\RV m v a:=by
 simp only[builtin,ht,ga]at h;split at h
 ·rename_i hu;refine⟨_,h,fun m Hv x' hh hx=> ?_⟩;cases hx;exact⟨_,by simp only[V.builtin,ht,ga,hu],.int _ _⟩
 ·rename_i hu;refine⟨_,h,fun m Hv x' hh hx=> ?_⟩;cases hx;exact⟨_,by simp only[V.builtin,ht,ga,hu],.int _ _⟩
 ·rename_i hu;refine⟨_,h,fun m Hv x' hh hx=> ?_⟩;cases hx;exact⟨_,by simp only[V.builtin,ht,ga,hu],.int _ _⟩
 ·rename_i c l hu;refine⟨_,h,fun m Hv x' hh hx=> ?_⟩;cases hx with
  |lit _ _ rows hl=>exact⟨.int .i64 rows.length,by simp only[V.builtin,ht,ga,hu],by rw[hl];exact .int _ _⟩
  |di _ _ ha=>exact⟨.int .i64 0,by rcases ha with rfl|rfl<;>simp only[V.builtin,ht,ga,hu],.int _ _⟩
 ·rename_i b hu;have key:∀{n:Nat},(∀(m:Mp)(Hv:V.AH),RH m H Hv->m.len b 0=n)->K (.int .i64 n) H=some out->∃v,K v H=some out/\∀(m:Mp)(Hv:V.AH)(x':V.AV),RH m H Hv->RV m (.all b) x'->∃a,V.builtin A Hv .len ts [x']=some (a,Hv)/\RV m v a:=fun{n}hn h=>by
   refine⟨_,h,fun m Hv x' hh hx=> ?_⟩;have k0:=hn m Hv hh;cases hx with
   |all=>exact⟨.int .i64 (m.len b 0:Nat),by simp only[V.builtin,ht,ga,hu],by rw[k0];exact .int _ _⟩
   |Yf _ _ _ hl ha=>exact⟨.int .i64 0,by rcases ha with rfl|rfl<;>simp only[V.builtin,ht,ga,hu],by rw[<- k0,hl];exact .int _ _⟩
  split at h
  ·rename_i c l hb;exact key (fun m Hv hh=>(Cc (s:=⟨[],[],H,0⟩) (sv:=⟨[],[],Hv⟩) hh hb).1) h
  ·rename_i c l hb;exact key (fun m Hv hh=>(Wd (s:=⟨[],[],H,0⟩) (sv:=⟨[],[],Hv⟩) hh hb).1) h
  ·simp at h
 ·rename_i b r hu;split at h
  case h_2=>simp at h
  rename_i c l hb;refine⟨_,h,fun m Hv x' hh hx=> ?_⟩;have k0:=(Wd (s:=⟨[],[],H,0⟩) (sv:=⟨[],[],Hv⟩) hh hb).2.1 r;cases hx with
  |xp=>exact⟨.int .i64 (m.len b (r+1):Nat),by simp only[V.builtin,ht,ga,hu],by rw[k0];exact .int _ _⟩
  |vu _ _ _ _ hl ha=>exact⟨.int .i64 0,by rcases ha with rfl|rfl<;>simp only[V.builtin,ht,ga,hu],by rw[<- k0,hl];exact .int _ _⟩
 ·rename_i n hu;refine⟨_,h,fun m Hv x' hh hx=> ?_⟩;cases hx with
  |sl=>exact⟨_,by simp only[V.builtin,ht,ga,hu],.int _ _⟩
  |Bt _ _ _ ha=>exact⟨.int .i64 0,by rcases ha with rfl|rfl<;>simp only[V.builtin,ht,ga,hu],.int _ _⟩
 ·rename_i b hu;split at h
  ·rename_i k es hb;refine⟨_,h,fun m Hv x' hh hx=> ?_⟩;cases hx with
   |mp _ xi Rf=>
    obtain⟨xi',ud,h1,h2,h3⟩:=hh.Vc b _ hb;rw[Rf]at h1;simp at h1;subst h1;exact⟨.int .i64 ud.length,by simp only[V.builtin,ht,ga,hu,V.mapOf,h2,Oc],by rw[h3.length];exact .int _ _⟩
  ·rename_i k g c l hb;refine⟨_,h,fun m Hv x' hh hx=> ?_⟩;cases hx with
   |mp _ xi Rf=>
    obtain⟨xi',ud,h1,h2,h3⟩:=hh.Vc b _ hb;rw[Rf]at h1;simp at h1;subst h1;exact⟨.int .i64 ud.length,by simp only[V.builtin,ht,ga,hu,V.mapOf,h2,Oc],by rw[h3.length,Qj,Qc];exact .int _ _⟩
  ·simp at h
 ·rename_i n e hu;refine⟨_,h,fun m Hv x' hh hx=>⟨.int .i64 n,by simp only[V.builtin,ht,ga,hu],.int _ _⟩⟩
 ·simp at h
theorem uy{c:CT}{l g:List (Gb c)}{rows ys:List (List V.AV)}{r n:Nat}(hr:l.length<=rows.length)(h:Sj m (width c) l.length (vw c l) rows)(hy:RT m c g ys)(hle:r+n<=l.length)(hn:n<=g.length):
  (Nz r n g l).length=l.length/\l.length<=(rows.take r++(ys.take n++rows.drop (r+n))).length/\Sj m (width c) (Nz r n g l).length (vw c (Nz r n g l)) (rows.take r++(ys.take n++rows.drop (r+n))):=by
 have xO:RT m c l (rows.take l.length):= .of (by simp;omega) fun i row hi Tk=>by
  rw[Db,if_pos hi]at Tk;obtain⟨Lb,j1,j2,j3⟩:=h.row hr hi;rw[j1]at Tk;simp at Tk;subst Tk;exact j2
 have CR:=hy.1;have hl:(Nz r n g l).length=l.length:=by simp[Nz];omega
 have ze:RT m c (Nz r n g l) ((rows.take l.length).take r++(ys.take n++(rows.take l.length).drop (r+n))):=(xO.take r).append ((hy.take n).append (xO.drop (r+n)));have hlen:l.length<=(rows.take r++(ys.take n++rows.drop (r+n))).length:=by simp;omega
 have heq:∀i,i<l.length->(rows.take r++(ys.take n++rows.drop (r+n)))[i]?=((rows.take l.length).take r++(ys.take n++(rows.take l.length).drop (r+n)))[i]?:=fun i hi=>by
  rw[List.take_take,Nat.min_eq_left (by omega:r<=l.length)];have e1:(rows.take r).length=r:=by simp;omega
  have e2:(ys.take n).length=n:=by simp;omega
  have aux:∀C:List (List V.AV),(rows.take r++(ys.take n++C))[i]?=if i<r then(rows.take r)[i]? else if i-r<n then(ys.take n)[i-r]? else C[i-r-n]?:=fun C=>by
   split
   ·rename_i h1;exact Ka (by rw[e1];exact h1)
   ·rename_i h1;rw[Na (by rw[e1];omega),e1];split
    ·rename_i h2;exact Ka (by rw[e2];exact h2)
    ·rename_i h2;rw[Na (by rw[e2];omega),e2]
  rw[aux,aux];split
  ·rfl
  ·split
   ·rfl
   ·rw[Ic,Ic,Db,if_pos (by omega)]
 refine⟨hl,hlen,fun i _=>⟨Ef _ _ _,Xd _ _ _⟩,fun i row hi Tk=> ?_,fun i row k y a hi Tk h1 h2=> ?_⟩
 ·rw[hl]at hi;rw[heq i hi]at Tk;exact ze.rows (Nb Tk)
 ·rw[hl]at hi;rw[heq i hi]at Tk;exact(ze.get Tk).2 k y a h1 h2
theorem U0{x y:UV}{ts:Array TypeId}{K:UV->UH->Option X}(h:builtin A H .copy ts [x,y] K=some out):
  ∃v H',K v H'=some out/\H'.wm=H.wm/\∀(m:Mp)(Hv:V.AH)(x' y':V.AV),RH m H Hv->RV m x x'->RV m y y'->∃a Nc,V.builtin A Hv .copy ts [x',y']=some (a,Nc)/\Jp m Hv v H' a Nc:=by
 simp only[builtin,aa]at h;obtain⟨t,ht,e,he,z,hz,h⟩:=h;split at h
 case isFalse=>simp at h
 rename_i SL;have main:∀{b r n:Nat}{c:CT}{l g:List (Gb c)},H.bl[b]?=some (.cells c l)->H.wm<=b->width c=z->rowsOf H c y=some g->∀(m:Mp)(Hv:V.AH)(x' y':V.AV),RH m H Hv->RV m y y'->
   ((∃xi,m.ι b 0=some xi/\x'= .sl xi r n/\r+n<=l.length)\/((x'= .Xa\/x'= .Ud)/\n=0))->
   ∃a Nc,V.builtin A Hv .copy ts [x',y']=some (a,Nc)/\Jp m Hv (.int .i64 (min g.length n:Nat)) (Ra H b (.cells c (Nz r (min g.length n) g l))) a Nc:=fun{b r n c l g}hb hw C2 hr m Hv x' y' hh hy hx=>by
  obtain⟨ys,k1,k2⟩:=Dh hr hh hy;have Nx:V.rowsOf Hv y'=some ys:=by
   cases y'<;>first|exact k1|skip
   cases hy with
   |str=>simp[qV]at SL
   |Sb=>simp[rowsOf]at hr
   |Bt _ _ _ ha=>simp at ha
   |Yf _ _ _ _ ha=>simp at ha
   |vu _ _ _ _ _ ha=>simp at ha
   |di _ _ ha=>simp at ha
  obtain⟨kb,kx⟩:=Cc (s:=⟨[],[],H,0⟩) (sv:=⟨[],[],Hv⟩) hh hb;have ae:live H b:=⟨_,hb,rfl⟩;rcases hx with⟨xi,Rf,rfl,hle⟩|⟨ha,rfl⟩
  ·obtain⟨rows,ty,j2,j3,j4⟩:=kx xi Rf;have eO:Hv.bl[xi]?=some (.cells rows (width c) ty):=j2;have L4:=hh.wm b xi Rf hw;have Hg:ys.all (fun q=>q.length==z)=true:=tc.2 fun q hq=>by simp[k2.rows hq,C2]
   obtain⟨c1,c2,c3⟩:=uy (r:=r) (n:=min g.length n) j3 j4 k2 (by omega) (by omega);have Lj:(ys.take (min g.length n)).length=min g.length n:=by simp[k2.1]
   have Fh:=hh.set (y:= .cells c (Nz r (min g.length n) g l)) (yv:= .cells (rows.take r++(ys.take (min g.length n)++rows.drop (r+min g.length n))) (width c) ty) ae Rf
    ⟨by rw[c1];exact kb,.inr ⟨xi,_,_,Rf,by rw[Ec,if_pos rfl,if_pos (hh.Ie b xi Rf).2],by rw[c1];exact c2,c3⟩⟩
   refine⟨.int .i64 (min g.length n:Nat),V.Ra Hv xi (.cells (rows.take r++(ys.take (min g.length n)++rows.drop (r+min g.length n))) (width c) ty),?_,m,Fh.1,.int _ _,.refl m,Fh.2⟩;simp only[V.builtin,ht,he,hz,Nx,ga,eO];rw[if_pos ⟨L4,by omega,C2,Hg⟩,k2.1,Lj]
  ·have h0:min g.length 0=0:=by omega
   refine⟨.int .i64 (min g.length 0:Nat),Hv,?_,m,hh.B_ ae ?_,.int _ _,.refl m,.refl Hv (va _)⟩
   ·rw[h0];rcases ha with rfl|rfl<;>simp only[V.builtin,ht,he,hz,Nx,ga]<;>rfl
   ·have:Nz r (min g.length 0) g l=l:=by rw[h0];simp[Nz]
    rw[this];exact hh.Vc b _ hb
 split at h
 ·rename_i b r n;split at h
  case h_2=>simp at h
  rename_i c l hb;split at h
  case isFalse=>simp at h
  rename_i hc;simp only[aa]at h;obtain⟨g,hr,h⟩:=h;refine⟨_,_,h,rfl,fun m Hv x' y' hh hx hy=>main hb hc.1 hc.2 hr m Hv x' y' hh hy ?_⟩;obtain⟨kb,_⟩:=Cc (s:=⟨[],[],H,0⟩) (sv:=⟨[],[],Hv⟩) hh hb;cases hx with
  |sl _ _ _ xi Rf hle=>exact .inl ⟨xi,Rf,rfl,by omega⟩
  |Bt _ _ _ ha=>exact .inr ⟨ha,rfl⟩
 ·rename_i b;split at h
  case h_2=>simp at h
  rename_i c l hb;split at h
  case isFalse=>simp at h
  rename_i hc;simp only[aa]at h;obtain⟨g,hr,h⟩:=h;refine⟨_,_,h,rfl,fun m Hv x' y' hh hx hy=>main hb hc.1 hc.2 hr m Hv x' y' hh hy ?_⟩;obtain⟨kb,_⟩:=Cc (s:=⟨[],[],H,0⟩) (sv:=⟨[],[],Hv⟩) hh hb;cases hx with
  |all _ xi Rf=>exact .inl ⟨xi,Rf,by rw[kb],by omega⟩
  |Yf _ _ _ hl ha=>exact .inr ⟨ha,by omega⟩
 ·simp at h
theorem EK{bi:Builtin}{args:List UV}{ts:Array TypeId}{K:UV->UH->Option X}(h:builtin A H bi ts args K=some out):
  ∃v H',K v H'=some out/\H'.wm=H.wm/\∀(m:Mp)(Hv:V.AH)(mh:List V.AV),RH m H Hv->RL m args mh->∃a Nc,V.builtin A Hv bi ts mh=some (a,Nc)/\Jp m Hv v H' a Nc:=by
 have h0:=h;unfold builtin at h;split at h
 ·obtain⟨v,H',h1,h2,h3⟩:=BN h;refine⟨v,H',h1,h2,fun m Hv mh hh ha=> ?_⟩;obtain⟨a,b,rfl,ha',hb⟩:=ha.two;exact h3 m Hv a b hh ha' hb
 ·simp only[aa]at h;obtain⟨t,ht,_⟩:=h;obtain⟨v,h1,h2⟩:=D4 ht h0;refine⟨v,H,h1,rfl,fun m Hv mh hh ha=> ?_⟩;obtain⟨a,rfl,ha'⟩:=ha.one;obtain⟨r,h3,h4⟩:=h2 m Hv a hh ha';exact⟨r,Hv,h3,.same hh h4⟩
 ·simp only[aa]at h;obtain⟨v,hv,h⟩:=h;refine⟨v,H,h,rfl,fun m Hv mh hh ha=> ?_⟩;cases mh with
  |nil=>have:=ha.1;simp at this
  |cons a as=>
   obtain⟨z,h1,h2⟩:=Tx (g:=V.WI) (fun x y z x' y'=>x4) hv (ha.2 0 _ a rfl rfl) (ys':=as) ⟨by have:=ha.1;simpa using this,fun i a b k1 k2=>ha.2 (i+1) a b (by simpa using k1) (by simpa using k2)⟩;exact⟨z,Hv,by simp[V.builtin,h1],.same hh h2⟩
 ·simp only[aa]at h;obtain⟨v,hv,h⟩:=h;refine⟨v,H,h,rfl,fun m Hv mh hh ha=> ?_⟩;cases mh with
  |nil=>have:=ha.1;simp at this
  |cons a as=>
   obtain⟨z,h1,h2⟩:=Tx (g:=V.UI) (fun x y z x' y'=>u4) hv (ha.2 0 _ a rfl rfl) (ys':=as) ⟨by have:=ha.1;simpa using this,fun i a b k1 k2=>ha.2 (i+1) a b (by simpa using k1) (by simpa using k2)⟩;exact⟨z,Hv,by simp[V.builtin,h1],.same hh h2⟩
 ·simp only[aa]at h;obtain⟨t,ht,h⟩:=h;obtain⟨H',h1,h2,h3⟩:=bD h;refine⟨_,H',h1,h2,fun m Hv mh hh ha=> ?_⟩;obtain⟨a,b,rfl,ha,hb⟩:=ha.two;obtain⟨Nc,e1,e2⟩:=h3 m Hv a b hh ha hb;exact⟨.Sc [],Nc,by simp[V.builtin,ht,e1],m,e2.1,.Sc [] [] rfl (fun i x a h=>by simp at h),.refl m,e2.2⟩
 ·obtain⟨v,H',h1,h2,h3⟩:=U0 h0;refine⟨v,H',h1,h2,fun m Hv mh hh ha=> ?_⟩;obtain⟨a,b,rfl,ha',hb⟩:=ha.two;exact h3 m Hv a b hh ha' hb
 ·simp at h
theorem RF.push{F:List (List UV)}{Fv:List (List V.AV)}(h:RF m φ F Fv){row:List UV}{Lb:List V.AV}(hr:RL m row Lb):
  RF m (fun i=>if i=F.length then some Fv.length else φ i) (F++[row]) (Fv++[Lb])/\JK φ (fun i=>if i=F.length then some Fv.length else φ i):=by
 have hle:JK φ (fun i=>if i=F.length then some Fv.length else φ i):=fun i j PC=>by
  have:=(h.Ie i j PC).1;simp only;rw[if_neg (by omega)];exact PC
 refine⟨⟨fun i j PC=> ?_,fun i r hi=> ?_,fun i i' j h1 h2=> ?_⟩,hle⟩
 ·split at PC
  ·rename_i e;simp at PC;subst PC;subst e;simp
  ·have:=h.Ie i j PC;simp;omega
 ·rcases Nat.lt_trichotomy i F.length with Ac|heq|hgt
  ·rw[Ka Ac]at hi;obtain⟨j,r',k1,k2,k3⟩:=h.row i r hi;exact⟨j,r',by rw[if_neg (by omega)];exact k1,by rw[Ka (Za k2)];exact k2,k3⟩
  ·subst heq;simp at hi;subst hi;exact⟨Fv.length,Lb,by simp,by simp,hr⟩
  ·rw[Ab (by simp;omega)]at hi;simp at hi
 ·split at h1<;>split at h2
  ·rename_i e1 e2;rw[e1,e2]
  ·simp at h1;subst h1;have:=(h.Ie _ _ h2).2;omega
  ·simp at h2;subst h2;have:=(h.Ie _ _ h1).2;omega
  ·exact h.inj i i' j h1 h2
theorem RS.mono{m':Mp}{Og:Nat->Option Nat}{x:US}{a:V.SV}(h:RS m φ x a)(hm:m.Le m')(hp:JK φ Og):RS m' Og x a:=by
 cases x with
 |v x=>
  cases a with
  |v a=>cases x<;>first|trivial|exact RV.mono hm h
  |loc j c=>cases x<;>first|trivial|exact h.elim
 |loc i c=>
  cases a with
  |v a=>exact h.elim
  |loc j c'=>exact⟨hp i j h.1,h.2⟩
theorem RE.mono{m':Mp}{Og:Nat->Option Nat}{e:List (Nat×US)}{ev:List (Nat×V.SV)}(h:RE m φ e ev)(hm:m.Le m')(hp:JK φ Og):RE m' Og e ev:=fun t=>(h t).mono hm hp
theorem RE.cons{e:List (Nat×US)}{ev:List (Nat×V.SV)}(h:RE m φ e ev)(d:Nat){x:US}{a:V.SV}(hx:RS m φ x a):RE m φ ((d,x)::e) ((d,a)::ev):=fun t=>by
 simp only[get,V.get];split
 ·exact hx
 ·exact h t
theorem EF{s:St}{t:TypeId}{il:Bool}{cs:List UV}{K:US->St->Option X}(h:boxed s t il cs K=some out):
  ∃v s',K v s'=some out/\s'.base=s.base/\s'.e=s.e/\s'.H.wm=s.H.wm/\∀(m:Mp)(φ:Nat->Option Nat)(sv:V.S)(Jh:List V.AV),vm m φ s sv->RL m cs Jh->∃vv xe m' Og,V.boxed sv t il Jh=some (vv,xe)/\vm m' Og s' xe/\RS m' Og v vv/\m.Le m'/\JK φ Og/\Oj m.top m sv.H m' xe.H/\xe.e=sv.e:=by
 unfold boxed at h;split at h
 case isFalse=>simp at h
 rename_i hc;cases il with
 |true=>
  refine⟨_,_,h,rfl,rfl,rfl,fun m φ sv Jh hs aj=> ?_⟩;have hp:=hs.f.push aj;refine⟨.loc sv.F.length 0,{ sv with F:=sv.F++[Jh] },m,_,by simp[V.boxed,V.box],⟨hs.h,hp.1,hs.e.mono (.refl m) hp.2,hs.b⟩,⟨by simp,rfl⟩,.refl m,hp.2,.refl _ (va _),rfl⟩
 |false=>
  simp at hc;by_cases hb:t=TB.bT/\BV cs=true
  ·unfold box at h;simp only[if_pos hb,Od,if_false]at h;refine⟨_,_,h,rfl,rfl,rfl,fun m φ sv Jh hs aj=> ?_⟩;obtain⟨rfl,hb⟩:=hb;have Cak:cs=[.Oe,.Xa]:=by
    unfold BV at hb;split at hb
    ·rfl
    ·simp at hb
   subst Cak;obtain⟨a1,l1,rfl,q1,q2⟩:=aj.Wh;obtain⟨a2,l2,rfl,q3,q4⟩:=q2.Wh;have lJ:l2=[]:=Ja.1 q4.1;subst lJ;cases q1;cases q3;have hp:=hs.h.push (Nc:=sv.H) (y:= .yp .empty) (x:=none) (n:=0) (fun _ _ _ _ _=>rfl) (va _) rfl (fun xv e=>by simp at e) ⟨by rw[zd];rfl,.inl ⟨rfl,be _ _ _ _⟩⟩;have XV:(push s.H (.yp .empty)).bl.length=s.H.bl.length+1:=by simp[push]
   have ze:=hp.1.new (y:= .um (.all s.H.bl.length)) (yv:= .cells [[.Oe,.Xa]] 2 (some (TB.bT,2))) (n:=0)
    ⟨_,.Oe,.Xa,be _ _ _ _,by rw[Ke,if_neg (by omega),if_pos rfl],.inl rfl,.Yf _ _ (by rw[XV];simp only[Mp.add,Mp.Ni];omega) (by rw[XV,CN _ _ _ (by omega),zd]) (.inl rfl),by simp⟩
   have g1:Oj m.top m sv.H (m.add s.H.bl.length none 0) sv.H:=⟨Mg hs.h _ _,fun _ _ _=>rfl,fun b _ xv hb=>by
    by_cases e:b=s.H.bl.length
    ·subst e;obtain⟨_,e⟩:=Ki hb;simp at e
    ·rw[Gf _ _ _ e]at hb;exact .inl ⟨b,_,hb⟩,va _,rfl⟩
   have hle:m.Le ((m.add s.H.bl.length none 0).add (push s.H (.yp .empty)).bl.length (some sv.H.bl.length) 0):=hp.2.trans ze.2.1;refine⟨.v (.ptr sv.H.bl.length 0 0),{ sv with H:=V.push sv.H (.cells [[.Oe,.Xa]] 2 (some (TB.bT,2))) },_,φ,?_,⟨ze.1,hs.f.mono hle,hs.e.mono hle fun _ _ h=>h,?_⟩,?_,hle,fun _ _ h=>h,g1.trans ze.2.2 (by simp only[Mp.add,Mp.Ni];have:=hs.h.len;omega),rfl⟩
   ·simp[V.boxed,V.box]
   ·have:=hs.b;simp[push];omega
   ·rw[<- XV];exact RV.ptr _ 0 _ (be _ _ _ _)
  unfold box at h;simp only[if_neg hb,Od,if_false]at h;refine⟨_,_,h,rfl,rfl,rfl,fun m φ sv Jh hs aj=> ?_⟩;have ze:=hs.h.new (y:= .Ya cs) (yv:= .cells [Jh] Jh.length (some (t,2))) (n:=0) ⟨_,Jh,_,be _ _ _ _,by rw[Ke,if_neg (by omega),if_pos rfl],aj.mono (DN hs.h _ _)⟩;refine⟨.v (.ptr sv.H.bl.length 0 0),{ sv with H:=V.push sv.H (.cells [Jh] Jh.length (some (t,2))) },_,φ,?_,⟨ze.1,hs.f.mono ze.2.1,hs.e.mono ze.2.1 fun _ _ h=>h,?_⟩,RV.ptr _ 0 _ (be _ _ _ _),ze.2.1,fun _ _ h=>h,ze.2.2,rfl⟩
  ·simp only[V.boxed,V.box];have:decide (0<Jh.length)=true:=by simp[aj.1,hc]
   simp[this]
  ·have:=hs.b;simp[push];omega
end
end Go.U
namespace Go.U
open Go
variable [TB:GC]
section
variable {A:V.yh}{Pa:Nat->Option (List UV)}{m:Mp}
theorem Tl{fz:V.AH->V.AV->Option (V.AV×V.AH)}{H:V.AH}:∀{l:List V.AV},(∀a∈l,fz H a=some (a,H))->V.Xg fz H l=some (l,H)
 |[],_=>rfl
 |a::l,h=>by
  simp only[V.Xg,h a (Ad ..),ga,Tl (l:=l) fun b hb=>h b (Wb _ hb)]
theorem sq{fz:V.AH->V.AV->Option (V.AV×V.AH)}{H:V.AH}:∀{l:List (List V.AV)},(∀row∈l,∀a∈row,fz H a=some (a,H))->V.Gh fz H l=some (l,H)
 |[],_=>rfl
 |a::l,h=>by
  simp only[V.Gh,Tl (h a (Ad ..)),ga,sq (l:=l) fun b hb=>h b (Wb _ hb)]
theorem RL.mem{xs:List UV}{as:List V.AV}(h:RL m xs as){a:V.AV}(ha:a∈as):∃x∈xs,RV m x a:=by
 obtain⟨i,hi⟩:=me ha;have hx:=Ba (l:=xs) (i:=i) (by rw[<- h.1];exact Za hi);exact⟨_,Nb hx,h.2 i _ a hx hi⟩
theorem Bj:∀(d:Nat){x:UV}{a:V.AV},Rb d x=true->RV m x a->∀Hv,V.freeze d Hv a=some (a,Hv)
 |0,x,a,h,hx,Hv=>by simp[Rb]at h
 |d+1,x,a,h,hx,Hv=>by
  cases hx with
  |Sb=>simp[Rb,closed]at h
  |sl=>simp[Rb,closed]at h
  |Bt=>simp[Rb,closed]at h
  |all=>simp[Rb,closed]at h
  |Yf=>simp[Rb,closed]at h
  |xp=>simp[Rb,closed]at h
  |vu=>simp[Rb,closed]at h
  |Hp=>simp[Rb,closed]at h
  |di _ _ ha=>rcases ha with rfl|rfl<;>rfl
  |agg cs as hl hr=>
   have:V.Xg (V.freeze d) Hv as=some (as,Hv):=Tl fun a ha=>by
    obtain⟨x,hx,hv⟩:=RL.mem (m:=m) ⟨hl,hr⟩ ha;exact Bj d (tc.1 (by simpa[Rb]using h) x hx) hv Hv
   simp only[V.freeze,this,ga]
  |Sc cs as hl hr=>
   have:V.Xg (V.freeze d) Hv as=some (as,Hv):=Tl fun a ha=>by
    obtain⟨x,hx,hv⟩:=RL.mem (m:=m) ⟨hl,hr⟩ ha;exact Bj d (tc.1 (by simpa[Rb]using h) x hx) hv Hv
   simp only[V.freeze,this,ga]
  |_=>rfl
def Fz(d:Nat)(x:UV)(H:UH)(x':UV)(H':UH):Prop:=H'.wm=H.wm/\∀(m:Mp)(Hv:V.AH)(a:V.AV),RH m H Hv->RV m x a->∃a' Nc,V.freeze d Hv a=some (a',Nc)/\Jp m Hv x' H' a' Nc
theorem Fz.same{d:Nat}{x:UV}{H:UH}(h:Rb d x=true):Fz d x H x H:=⟨rfl,fun m Hv a hh hx=>⟨a,Hv,Bj d h hx Hv,.same hh hx⟩⟩
theorem IL{H:UH}{d b:Nat}{c:CT}{x:UV}{l:List (Gb c)}(hd:0<d)(hw:H.wm<=b)(hr:rowsOf H c x=some l)(hx:(∃r n,x= .sl b r n)\/x= .all b):Fz (d+1) x H (.lit c l) (Ra H b .dead):=by
 refine⟨rfl,fun m Hv a hh hxa=> ?_⟩;have hb:∃c' l',H.bl[b]?=some (.cells c' l')/\c'=c:=by
  rcases hx with⟨r,n,rfl⟩|rfl
  all_goals
   simp only[rowsOf]at hr;split at hr
   case h_2=>simp at hr
   rename_i c' l' hb;split at hr
   case isFalse=>simp at hr
   rename_i hc;exact⟨c',l',hb,hc⟩
 obtain⟨c',l',hb,rfl⟩:=hb;have hk:=hh.kill b;have ae:live H b:=⟨_,hb,rfl⟩;obtain⟨rows,k1,k2⟩:=Dh hr hh hxa;obtain⟨kb,kx⟩:=Cc (s:=⟨[],[],H,0⟩) (sv:=⟨[],[],Hv⟩) hh hb;have Tae:(a= .Xa\/a= .Ud)->l=[]->∃a' Nc,V.freeze (d+1) Hv a=some (a',Nc)/\Jp m Hv (.lit c' l) (Ra H b .dead) a' Nc:=fun ha hl=>by
  subst hl;exact⟨a,Hv,by rcases ha with rfl|rfl<;>rfl,m,hk,.di _ _ ha,.refl m,.refl Hv (va _)⟩
 have main:∀{xi r n:Nat},m.ι b 0=some xi->a= .sl xi r n->∃a' Nc,V.freeze (d+1) Hv a=some (a',Nc)/\Jp m Hv (.lit c' l) (Ra H b .dead) a' Nc:=fun{xi r n}Rf ha=>by
  subst ha;obtain⟨rws,ty,j2,j3,j4⟩:=kx xi Rf;have eO:Hv.bl[xi]?=some (.cells rws (width c') ty):=j2;have L4:=hh.wm b xi Rf hw;have Lj:∀b' s',live (Ra H b .dead) b'->m.ι b' s'≠some xi:=fun b' s' hl e=>by
   rcases sg hl with⟨_,h'⟩|⟨Uc,bg⟩
   ·simp[Zd]at h'
   ·exact Uc (hh.inj b' b xi bg ae e Rf)
  have Nd:=hk.other Lj .dead;have k1':V.rowsOf Hv (.sl xi r n)=some rows:=k1;refine⟨.lit (width c') rows,V.Ra Hv xi .dead,?_,m,Nd,k2.lit,.refl m,⟨.refl (va _),fun x Dk hn=>by rw[Ec,if_neg (fun e=>hn b 0 (by rw[<- e];exact Rf))],fun b' s' x Ld=> .inl ⟨b',s',Ld⟩,by simp[V.Ra],rfl⟩⟩;have mD:V.Gh (V.freeze d) (V.Ra Hv xi .dead) rows=some (rows,V.Ra Hv xi .dead):=sq fun row sd a ha=>by
   obtain⟨i,hi⟩:=me sd;obtain⟨x,hxm,FV⟩:=(k2.get hi).mem ha;obtain⟨d',rfl⟩:∃d',d=d'+1:=⟨d-1,by omega⟩;exact Bj _ (Fw (Xd _ _ _ x hxm)) FV _
  simp only[V.freeze,k1',ga,V.Jj,eO,L4,if_true,mD]
 rcases hx with⟨r,n,rfl⟩|rfl
 ·simp only[rowsOf,hb]at hr;simp at hr;subst hr;cases hxa with
  |sl _ _ _ xi Rf hle=>exact main Rf rfl
  |Bt _ _ _ ha=>exact Tae ha (by rw[nk];simp)
 ·simp only[rowsOf,hb]at hr;simp at hr;subst hr;cases hxa with
  |all _ xi Rf=>exact main Rf rfl
  |Yf _ _ _ hl ha=>exact Tae ha (Ja.1 (by have:m.len b 0=l'.length:=kb;omega))
theorem rW{m:Mp}{c:CT}{d:Nat}:∀{L:List (List (Gb c))}{rows:List (List V.AV)}{Hc:V.AH}{F:Nat->Option Nat},rows.length=L.length->(∀r,r<L.length->∃a,rows[r]?=some [a]/\Il m Hc (F r) c (L.getD r []) a)->
  (∀r r' y,F r=some y->F r'=some y->r=r')->(∀r y,F r=some y->Hc.wm<=y)->∃Yd Hc',V.Gh (V.freeze (d+2)) Hc rows=some (Yd,Hc')/\Yd.length=L.length/\(∀r Lb,r<L.length->Yd[r]?=some Lb->RL m [.lit c (L.getD r [])] Lb)/\Hc'.bl.length=Hc.bl.length/\Hc'.wm=Hc.wm/\∀x,(∀r,F r≠some x)->Hc'.bl[x]?=Hc.bl[x]?
 |[],rows,Hc,F,hl,_,_,_=>by
  have:rows=[]:=Ja.1 hl;subst this;exact⟨[],Hc,rfl,rfl,fun r Lb hr=>by simp at hr,rfl,rfl,fun _ _=>rfl⟩
 |l0::L,[],Hc,F,hl,_,_,_=>by simp at hl
 |l0::L,row::rows,Hc,F,hl,hr,hi,hw=>by
  obtain⟨a,h1,h2⟩:=hr 0 (by simp);simp at h1;subst h1;have h2:Il m Hc (F 0) c l0 a:=h2;have step:∃a' H1,V.freeze (d+2) Hc a=some (a',H1)/\RV m (.lit c l0) a'/\H1.bl.length=Hc.bl.length/\H1.wm=Hc.wm/\∀x,F 0≠some x->H1.bl[x]?=Hc.bl[x]?:=by
   rcases h2 with⟨k1,k2,k3⟩|⟨y,ry,ty,k1,rfl,k3,k4,k5⟩
   ·have:l0=[]:=Ja.1 k1;subst this;exact⟨a,Hc,by rcases k3 with rfl|rfl<;>rfl,.di _ _ k3,rfl,rfl,fun _ _=>rfl⟩
   ·have vU:RT m c l0 (ry.take l0.length):= .of (by simp;omega) fun i row hi hr=>by
     rw[Db,if_pos hi]at hr;obtain⟨Lb,j1,j2,j3⟩:=k5.row k4 hi;rw[j1]at hr;simp at hr;subst hr;exact j2
    have I2:V.rowsOf Hc (.sl y 0 l0.length)=some (ry.take l0.length):=by
     simp only[V.rowsOf,k3];rw[if_pos (by omega)];simp
    have mD:V.Gh (V.freeze (d+1)) (V.Ra Hc y .dead) (ry.take l0.length)=some (ry.take l0.length,V.Ra Hc y .dead):=sq fun row sd a ha=>by
     obtain⟨i,hi⟩:=me sd;obtain⟨x,hxm,FV⟩:=(vU.get hi).mem ha;exact Bj _ (Fw (Xd _ _ _ x hxm)) FV _
    refine⟨.lit (width c) (ry.take l0.length),V.Ra Hc y .dead,?_,vU.lit,by simp[V.Ra],rfl,fun x hx=>by rw[Ec,if_neg];rintro rfl;exact hx k1⟩;simp only[V.freeze,I2,ga,V.Jj,k3,hw 0 y k1,if_true,mD]
  obtain⟨a',H1,s1,s2,s3,s4,s5⟩:=step;obtain⟨Yd,H2,t1,t2,t3,t4,t5,t6⟩:=rW (L:=L) (rows:=rows) (Hc:=H1) (F:=fun r=>F (r+1)) (d:=d) (by simpa using hl) (fun r Ql=>by
    obtain⟨a,k1,k2⟩:=hr (r+1) (by simp;omega);refine⟨a,by simpa using k1,?_⟩;have k2:Il m Hc (F (r+1)) c (L.getD r []) a:=by simpa using k2
    exact k2.keep (fun _ _ _ h=>h) fun x hx=>s5 x fun e=>by have:=hi _ _ x e hx;omega)
   (fun r r' y e e'=>by have:=hi _ _ y e e';omega) (fun r y e=>by rw[s4];exact hw _ y e)
  refine⟨[a']::Yd,H2,by simp only[V.Gh,V.Xg,s1,ga,t1],by simp[t2],fun r Lb Ql sd=> ?_,by rw[t4,s3],by rw[t5,s4],fun x hx=>by rw[t6 x fun r=>hx (r+1),s5 x (hx 0)]⟩;cases r with
  |zero=>simp at sd;subst sd;exact .cons s2 .nil
  |succ r=>have:=t3 r Lb (by simpa using Ql) (by simpa using sd);simpa using this
theorem zJ{H:UH}{d b:Nat}{c:CT}{l:List (List (Gb c))}(hd:1<d)(hw:H.wm<=b)(hb:H.bl[b]?=some (.deep c l)):Fz (d+1) (.all b) H (.lit (.slice c) l) (Ra H b .dead):=by
 refine⟨rfl,fun m Hv a hh hxa=> ?_⟩;have hk:=hh.kill b;have ae:live H b:=⟨_,hb,rfl⟩;obtain⟨k0,k1,kx⟩:=Wd (s:=⟨[],[],H,0⟩) (sv:=⟨[],[],Hv⟩) hh hb;obtain⟨d',rfl⟩:∃d',d=d'+2:=⟨d-2,by omega⟩;cases hxa with
 |Yf _ _ _ hl ha=>
  have:l=[]:=Ja.1 (by rw[<- k0];exact hl);subst this;exact⟨a,Hv,by rcases ha with rfl|rfl<;>rfl,m,hk,.di _ _ ha,.refl m,.refl Hv (va _)⟩
 |all _ xi Rf=>
  obtain⟨rws,ty,j2,j3,j4⟩:=kx xi Rf;have eO:Hv.bl[xi]?=some (.cells rws 1 ty):=j2;have L4:=hh.wm b xi Rf hw;have I2:V.rowsOf Hv (.sl xi 0 (m.len b 0))=some (rws.take l.length):=by
   simp only[V.rowsOf,eO];rw[k0,if_pos (by omega)];simp
  have hsx:∀{r y:Nat},m.ι b (r+1)=some y->xi≠y:=fun{r y}e e'=>by subst e';have:=(hh.pn b b xi ae ae Rf e).2;omega
  obtain⟨Yd,H2,t1,t2,t3,t4,t5,t6⟩:=rW (m:=m) (L:=l) (rows:=rws.take l.length) (Hc:=V.Ra Hv xi .dead) (F:=fun r=>m.ι b (r+1)) (d:=d') (by simp;omega) (fun r hr=>by
    obtain⟨a,q1,q2⟩:=j4 r hr;exact⟨a,by rw[Db,if_pos hr];exact q1,q2.keep (fun _ _ _ h=>h) fun x hx=>by rw[Ec,if_neg (hsx hx)]⟩)
   (fun r r' y e e'=>by have:=(hh.pn b b y ae ae e e').2;omega) (fun r y e=>hh.wm b y e hw)
  have vU:RT m (.slice c) l Yd:= .of t2 fun i row hi hr=>t3 i row hi hr
  have jc:∀x,(∀s,m.ι b s≠some x)->H2.bl[x]?=Hv.bl[x]?:=fun x hx=>by
   rw[t6 x fun r=>hx (r+1),Ec,if_neg (fun e=>hx 0 (by rw[<- e];exact Rf))]
  have lJ:H2.bl.length=Hv.bl.length:=by rw[t4];simp[V.Ra]
  have hrh:RH m (Ra H b .dead) H2:=hk.alike (fun b' s x bg e=>jc x fun s' e'=>by
   rcases sg bg with⟨_,h'⟩|⟨Uc,kak⟩
   ·simp[Zd]at h'
   ·exact Uc (hh.inj b' b x kak ae e e')) lJ t5
  refine⟨.lit 1 Yd,H2,?_,m,hrh,vU.lit,.refl m,⟨.refl (va _),fun x Dk hn=>jc x (hn b),fun b' s' x Ld=> .inl ⟨b',s',Ld⟩,by rw[lJ];exact va _,t5⟩⟩;simp only[V.freeze,I2,ga,V.Jj,eO,L4,if_true,t1]
end
section
variable {φ:Nat->Option Nat}{Hv:V.AH}
def Mo(m:Mp)(H H':UH)(Hv:V.AH)(P:Mp->Prop):Prop:=H'.wm=H.wm/\∃m',RH m' H' Hv/\m.Le m'/\Oj m.top m Hv m' Hv/\P m'
theorem Mo.same{m:Mp}{H:UH}{P:Mp->Prop}(hh:RH m H Hv)(hp:P m):Mo m H H Hv P:=⟨rfl,m,hh,.refl m,.refl Hv (va _),hp⟩
theorem Mo.trans{m:Mp}{H H1 H2:UH}{P:Mp->Prop}{Q:Mp->Prop}(h:Mo m H H1 Hv P)(h':∀m1,RH m1 H1 Hv->m.Le m1->P m1->Mo m1 H1 H2 Hv Q):Mo m H H2 Hv Q:=by
 obtain⟨w1,m1,h1,h2,h3,h4⟩:=h;obtain⟨w2,m2,k1,k2,k3,k4⟩:=h' m1 h1 h2 h4;exact⟨w2.trans w1,m2,k1,h2.trans k2,h3.trans k3 h3.Bk.1,k4⟩
theorem Mo.imp{m:Mp}{H H1:UH}{P:Mp->Prop}{Q:Mp->Prop}(h:Mo m H H1 Hv P)(h':∀m1,m.Le m1->P m1->Q m1):Mo m H H1 Hv Q:=by
 obtain⟨w1,m1,h1,h2,h3,h4⟩:=h;exact⟨w1,m1,h1,h2,h3,h' m1 h2 h4⟩
theorem Wu{m:Mp}{H:UH}(hh:RH m H Hv)(c:CT):Mo m H (push H (.cells c [])) Hv fun m'=>∀a,a= .Xa\/a= .Ud->RV m' (.all H.bl.length) a:=by
 have hp:=hh.push (Nc:=Hv) (y:= .cells c []) (x:=none) (n:=0) (fun _ _ _ _ _=>rfl) (va _) rfl (fun xv e=>by simp at e) ⟨zd _ _ _ _,.inl ⟨rfl,be _ _ _ _⟩⟩;refine⟨rfl,_,hp.1,hp.2,⟨Mg hh _ _,fun _ _ _=>rfl,fun b _ xv hb=> ?_,va _,rfl⟩,fun a h=> .Yf _ _ (by simp[Mp.add,Mp.Ni]) (zd _ _ _ _) h⟩;by_cases e:b=H.bl.length
 ·subst e;obtain⟨_,e⟩:=Ki hb;simp at e
 ·rw[Gf _ _ _ e]at hb;exact .inl ⟨b,_,hb⟩
end
section
variable {A:V.yh}{Pa:Nat->Option (List UV)}{m:Mp}
theorem UR{v:UV}{H:UH}{v':UV}{H':UH}(h:jM v H=some (v',H')):Fz 8 v H v' H':=by
 unfold jM at h;split at h
 case h_2=>simp at h
 split at h
 case isFalse=>simp at h
 rename_i hw;split at h
 ·rename_i c l hb;simp at h;obtain⟨rfl,rfl⟩:=h;exact IL (by omega) hw (by simp[rowsOf,hb]) (.inr rfl)
 ·rename_i c l hb;simp at h;obtain⟨rfl,rfl⟩:=h;exact zJ (by omega) hw hb
 ·simp at h
theorem tL{t:TypeId}{x v:UV}{H H':UH}(h:ri A H t x=some (v,H')):H'.wm=H.wm/\∀(m:Mp)(Hv:V.AH)(x':V.AV),RH m H Hv->RV m x x'->∃a Nc,V.ri A t x'=some a/\Nc=Hv/\Jp m Hv v H' a Nc:=by
 unfold ri at h;split at h
 case h_2=>simp at h
 rename_i e hu;split at h
 case isFalse=>simp at h
 rename_i hz;obtain⟨n,hn⟩:=Option.isSome_iff_exists.1 hz;have go:∀{m:Mp}{Hv:V.AH}(c:CT){x':V.AV},RH m H Hv->(∃a,V.ri A t x'=some a/\(a= .Xa\/a= .Ud))->∃a Nc,V.ri A t x'=some a/\Nc=Hv/\Jp m Hv (.all H.bl.length) (push H (.cells c [])) a Nc:=fun{m Hv}c{x'}hh⟨a,h1,h2⟩=>by
  obtain⟨_,m',k1,k2,k3,k4⟩:=Wu hh c;exact⟨a,Hv,h1,rfl,m',k1,k4 a h2,k2,k3⟩
 have sl:∀x':V.AV,(x'= .Xa\/x'= .Ud\/(∃s r,x'= .lit s r)\/∃b r k,x'= .sl b r k)->∃a,V.ri A t x'=some a/\(a= .Xa\/a= .Ud):=fun x' hx=>by
  rcases hx with rfl|rfl|⟨_,_,rfl⟩|⟨_,_,_,rfl⟩<;>simp[V.ri,hu,hn]
 split at h
 ·simp at h;obtain⟨rfl,rfl⟩:=h;exact⟨rfl,fun m Hv x' hh hx=>by cases hx;exact⟨.Xa,Hv,by simp[V.ri,hu,hn],rfl,.same hh .Xa⟩⟩
 ·simp at h;obtain⟨rfl,rfl⟩:=h;exact⟨rfl,fun m Hv x' hh hx=>by cases hx;exact⟨.Ud,Hv,by simp[V.ri,hu,hn],rfl,.same hh .Ud⟩⟩
 ·simp at h;obtain⟨rfl,rfl⟩:=h;refine⟨rfl,fun m Hv x' hh hx=>go _ hh (sl _ ?_)⟩;cases hx with
  |lit=>exact .inr (.inr (.inl ⟨_,_,rfl⟩))
  |di _ _ ha=>rcases ha with rfl|rfl<;>simp
 ·split at h
  ·simp at h;obtain⟨rfl,rfl⟩:=h;refine⟨rfl,fun m Hv x' hh hx=>go _ hh (sl _ ?_)⟩;cases hx with
   |sl=>exact .inr (.inr (.inr ⟨_,_,_,rfl⟩))
   |Bt _ _ _ ha=>rcases ha with rfl|rfl<;>simp
  ·simp at h
 ·split at h
  ·simp at h;obtain⟨rfl,rfl⟩:=h;refine⟨rfl,fun m Hv x' hh hx=>go _ hh (sl _ ?_)⟩;cases hx with
   |all=>exact .inr (.inr (.inr ⟨_,_,_,rfl⟩))
   |Yf _ _ _ _ ha=>rcases ha with rfl|rfl<;>simp
  ·simp at h
 ·simp at h
theorem jO{m:Mp}{x:UV}{a:V.AV}(h:CV x=true)(hx:RV m x a):V.CV a=true:=by
 unfold CV at h;split at h
 ·cases hx;simpa[V.CV]using h
 ·simp at h
end
end Go.U
namespace Go.U
open Go
variable [TB:GC]
def Jc(C:V.Callee)(call:(X:Type)->UV->List UV->UH->(UV->UH->Option X)->Option X):Prop:=
 ∀(X:Type)(fv:UV)(args:List UV)(H:UH)(K:UV->UH->Option X)(out:X),call X fv args H K=some out->
  ∃r H',K r H'=some out/\H'.wm=H.wm/\∀(m:Mp)(Hv:V.AH)(S2:V.AV)(mh:List V.AV),RH m H Hv->RV m fv S2->RL m args mh->∃r' Nc,C S2 mh Hv=some (r',Nc)/\Jp m Hv r H' r' Nc
def KK(A:V.yh)(C:V.Callee)(Fa:List Nat)(s:St)(o:Oper)(v:US)(s':St):Prop:=
 s'.base=s.base/\s'.e=s.e/\s'.H.wm=s.H.wm/\∀(m:Mp)(φ:Nat->Option Nat)(sv:V.S),vm m φ s sv->∃vv xe m' Og,V.op A C Fa sv o=some (vv,xe)/\vm m' Og s' xe/\RS m' Og v vv/\m.Le m'/\JK φ Og/\Oj m.top m sv.H m' xe.H/\xe.e=sv.e
section
variable {A:V.yh}{C:V.Callee}{Pa:Nat->Option (List UV)}{Fa:List Nat}{s:St}{o:Oper}{X:Type}{out:X}
theorem JK.refl(φ:Nat->Option Nat):JK φ φ:=fun _ _ h=>h
theorem JK.trans{φ Og uae:Nat->Option Nat}(h:JK φ Og)(h':JK Og uae):JK φ uae:=fun i j PC=>h' i j (h i j PC)
theorem KK.slot{v:US}(h:∀(m:Mp)(φ:Nat->Option Nat)(sv:V.S),vm m φ s sv->∃vv,V.op A C Fa sv o=some (vv,sv)/\RS m φ v vv):KK A C Fa s o v s:=
 ⟨rfl,rfl,rfl,fun m φ sv hs=>let⟨vv,h1,h2⟩:=h m φ sv hs;⟨vv,sv,m,φ,h1,hs,h2,.refl m,.refl φ,.refl _ (va _),rfl⟩⟩
theorem KK.pure{v:UV}(h:∀(m:Mp)(φ:Nat->Option Nat)(sv:V.S),vm m φ s sv->∃a,V.op A C Fa sv o=some (.v a,sv)/\RV m v a):KK A C Fa s o (.v v) s:=
 .slot fun m φ sv hs=>let⟨a,h1,h2⟩:=h m φ sv hs;⟨.v a,h1,h2.rs⟩
theorem KK.heap{v:UV}{H':UH}(hw:H'.wm=s.H.wm)(h:∀(m:Mp)(φ:Nat->Option Nat)(sv:V.S),vm m φ s sv->∃a Nc,V.op A C Fa sv o=some (.v a,{ sv with H:=Nc })/\Jp m sv.H v H' a Nc):KK A C Fa s o (.v v) { s with H:=H' }:=
 ⟨rfl,rfl,hw,fun m φ sv hs=>by
  obtain⟨a,Nc,h1,m',h2,h3,h4,h5⟩:=h m φ sv hs;refine⟨.v a,_,m',φ,h1,⟨h2,hs.f.mono h4,hs.e.mono h4 (.refl φ),?_⟩,h3.rs,h4,.refl φ,h5,rfl⟩;have:=h5.Bk.1;have:=h2.len;have:=hs.h.len;have:=hs.b;show s.base<=H'.bl.length;omega⟩
theorem kr{m:Mp}{x:UV}{a:V.AV}{n:Int}(h:toInt x=some n)(hx:RV m x a):V.toInt a=some n:=by
 unfold toInt at h;split at h
 ·cases hx;simpa[V.toInt]using h
 ·simp at h
theorem jB(hg:Ge A Pa){m:Mp}{φ:Nat->Option Nat}{e:List (Nat×US)}{ev:List (Nat×V.SV)}{x:Option Operand}{n:Option Int}(h:Qg Pa e x=some n)(he:RE m φ e ev):V.Qg A ev x=some n:=by
 cases x with
 |none=>simpa[Qg,V.Qg]using h
 |some x=>
  simp only[Qg,aa]at h;obtain⟨a,ha,h⟩:=h;obtain⟨a',h1,h2⟩:=Lc hg ha he;simp only[ia]at h;obtain⟨i,hi,rfl⟩:=h;simp[V.Qg,h1,kr hi h2]
theorem AL(hg:Ge A Pa){env:Env}(hc:Jc C env.call){K:US->St->Option X}(h:op A Pa env Fa s o K=some out):∃v s',K v s'=some out/\KK A C Fa s o v s':=by
 unfold op at h;split at h
 ·rename_i x ho;simp only[aa]at h;obtain⟨v,hv,h⟩:=h;refine⟨v,s,h,.slot fun m φ sv hs=> ?_⟩;obtain⟨vv,h1,h2⟩:=Bd hg hv hs.e;exact⟨vv,by simp[V.op,ho,h1],h2⟩
 ·rename_i x ho;simp only[aa]at h;obtain⟨v,hv,h⟩:=h;refine⟨v,s,h,.slot fun m φ sv hs=> ?_⟩;obtain⟨vv,h1,h2⟩:=Bd hg hv hs.e;exact⟨vv,by simp[V.op,ho,h1],h2⟩
 ·rename_i c a b ho;simp only[aa]at h;obtain⟨cv,fW,h⟩:=h;split at h
  case h_2=>simp at h
  rename_i p;cases p with
  |true=>
   simp only[cond_true,aa]at h;obtain⟨v,hv,h⟩:=h;refine⟨v,s,h,.slot fun m φ sv hs=> ?_⟩;obtain⟨c',h1,h2⟩:=Lc hg fW hs.e;cases h2;obtain⟨vv,h3,h4⟩:=Bd hg hv hs.e;exact⟨vv,by simp[V.op,ho,h1,h3],h4⟩
  |false=>
   simp only[cond_false,aa]at h;obtain⟨v,hv,h⟩:=h;refine⟨v,s,h,.slot fun m φ sv hs=> ?_⟩;obtain⟨c',h1,h2⟩:=Lc hg fW hs.e;cases h2;obtain⟨vv,h3,h4⟩:=Bd hg hv hs.e;exact⟨vv,by simp[V.op,ho,h1,h3],h4⟩
 ·rename_i t ho;simp only[aa]at h;obtain⟨z,hz,h⟩:=h;obtain⟨z',q1,q2,_⟩:=Np hz;obtain⟨v,s',h1,h2,h3,h4,h5⟩:=EF h;refine⟨v,s',h1,h2,h3,h4,fun m φ sv hs=> ?_⟩;obtain⟨vv,xe,m',Og,k1,k2⟩:=h5 m φ sv z' hs (q2 m);exact⟨vv,xe,m',Og,by simp only[V.op,ho,q1,ga];exact k1,k2⟩
 ·rename_i x0 x ho;simp only[aa]at h;obtain⟨a,ha,cs,aj,h⟩:=h;obtain⟨v,s',h1,h2,h3,h4,h5⟩:=EF h;refine⟨v,s',h1,h2,h3,h4,fun m φ sv hs=> ?_⟩;obtain⟨a',q1,q2⟩:=Lc hg ha hs.e;obtain⟨Jh,q3,q4⟩:=Qs aj q2;obtain⟨vv,xe,m',Og,k1,k2⟩:=h5 m φ sv Jh hs q4;exact⟨vv,xe,m',Og,by simp only[V.op,ho,q1,q3,ga];exact k1,k2⟩
 ·rename_i t ps ho;simp only[aa]at h;obtain⟨l,hl,v,hv,h⟩:=h;refine⟨_,s,h,.pure fun m φ sv hs=> ?_⟩;obtain⟨l',h1,h2⟩:=Br hg hs.e hl;obtain⟨a,h3,h4⟩:=hU hv h2;exact⟨a,by simp[V.op,ho,h1,h3,V.Uf],h4⟩
 ·rename_i t n ps ho;simp only[aa]at h;obtain⟨l,hl,⟨v,H'⟩,hv,⟨v2,H2⟩,N4,h⟩:=h;have hw:H'.wm=s.H.wm:=by
   simp only[buildSlice,aa]at hv;obtain⟨_,_,_,_,_,_,hv⟩:=hv;split at hv
   ·split at hv
    ·simp at hv;rw[<- hv.2]
    ·split at hv
     ·rename_i hd;simp at hv;subst hv;unfold tN at hd;split at hd
      ·split at hd
       ·simp only[aa]at hd;obtain⟨⟨L,H1⟩,h1,hd⟩:=hd;simp at hd;rw[<- hd.2];exact(show(push H1 (UB.deep _ L)).wm=H1.wm from rfl).trans (mm h1)
       ·simp at hd
      ·simp at hd
     simp only[aa]at hv;obtain⟨_,_,_,_,hv⟩:=hv;simp at hv;rw[<- hv.2];rfl
   ·simp at hv
  by_cases jJ:V.jn Fa o=true
  ·rw[jJ,cond_true]at N4;obtain⟨z1,z2⟩:=UR N4;refine⟨_,_,h,.heap (z1.trans hw) fun m φ sv hs=> ?_⟩;obtain⟨l',h1,h2⟩:=Br hg hs.e hl;obtain⟨a,Nc,h3,m1,h5,h6,h7,h8⟩:=Rq hv hs.h h2;obtain⟨a',Hv2,e1,m2,e2,e3,e4,e5⟩:=z2 m1 Nc a h5 h6;exact⟨a',Hv2,by simp[V.op,ho,h1,h3,V.th,jJ,e1],m2,e2,e3,h7.trans e4,h8.trans e5 h8.Bk.1⟩
  ·have jJ:V.jn Fa o=false:=by simpa using jJ
   rw[jJ,cond_false]at N4;simp at N4;obtain⟨rfl,rfl⟩:=N4;refine⟨_,_,h,.heap hw fun m φ sv hs=> ?_⟩;obtain⟨l',h1,h2⟩:=Br hg hs.e hl;obtain⟨a,Nc,h3,h4⟩:=Rq hv hs.h h2;exact⟨a,Nc,by simp[V.op,ho,h1,h3,V.th,jJ],h4⟩
 ·rename_i t x ho;simp only[aa]at h;obtain⟨p,hp,v,hv,h⟩:=h;refine⟨_,s,h,.pure fun m φ sv hs=> ?_⟩;obtain⟨pv,h1,h2⟩:=Bd hg hp hs.e;obtain⟨a,h3,h4⟩:=jv hv hs.h hs.f h2;exact⟨a,by simp[V.op,ho,h1,h3,V.Uf],h4⟩
 ·rename_i t x y ho;simp only[aa]at h;obtain⟨p,hp,a,ha,s',jc,h⟩:=h;have hb:s'.base=s.base/\s'.e=s.e/\s'.H.wm=s.H.wm/\s.H.bl.length<=s'.H.bl.length:=by
   simp only[store,aF,aa]at jc;obtain⟨_,_,_,_,jc⟩:=jc;split at jc
   case isFalse=>simp at jc
   split at jc
   ·simp only[aa]at jc;obtain⟨_,_,_,_,jc⟩:=jc;simp at jc;subst jc;simp
   ·split at jc
    case h_2=>simp at jc
    split at jc
    case isFalse=>simp at jc
    simp only[aa]at jc;obtain⟨_,_,jc⟩:=jc;simp at jc;subst jc;simp[Ra]
   ·split at jc
    case h_2=>simp at jc
    split at jc
    case isFalse=>simp at jc
    simp only[aa]at jc;obtain⟨_,_,_,_,jc⟩:=jc;simp at jc;subst jc;simp[Ra]
   ·split at jc
    case h_2=>simp at jc
    split at jc
    case isFalse=>simp at jc
    simp only[aa]at jc;obtain⟨_,_,_,_,jc⟩:=jc;simp at jc;subst jc;simp[Ra]
   ·simp at jc
  refine⟨_,s',h,hb.1,hb.2.1,hb.2.2.1,fun m φ sv hs=> ?_⟩;obtain⟨pv,h1,h2⟩:=Bd hg hp hs.e;obtain⟨a',h3,h4⟩:=Lc hg ha hs.e;obtain⟨xe,h5,h6,h7,h8,h9,R2,h11⟩:=SQ jc hs.h hs.f h2 h4;refine⟨.v .Sb,xe,m,φ,by simp[V.op,ho,h1,h3,h5],⟨h6,h7,by rw[h9,R2];exact hs.e,by have:=hs.b;omega⟩,trivial,.refl m,.refl φ,h8,R2⟩
 ·rename_i x ho;simp only[aa]at h;obtain⟨p,hp,h⟩:=h;have fin:∀{v:US},p=v->K v s=some out->(∀{m:Mp}{φ:Nat->Option Nat}{vv:V.SV},RS m φ v vv->(∃i c,vv= .loc i c)\/(∃b r c,vv= .v (.ptr b r c))\/(∃r,vv= .v (.Ed r))\/(∃f cs,vv= .v (.fn f cs))\/∃b,vv= .v (.yl b))->∃v s',K v s'=some out/\KK A C Fa s o v s':=fun{v}hpv hk hv=>by
   subst hpv;refine⟨p,s,hk,.slot fun m φ sv hs=> ?_⟩;obtain⟨vv,h1,h2⟩:=Bd hg hp hs.e;refine⟨vv,?_,h2⟩;rcases hv h2 with⟨i,c,rfl⟩|⟨b,r,c,rfl⟩|⟨r,rfl⟩|⟨f,cs,rfl⟩|⟨b,rfl⟩<;>simp[V.op,ho,h1]
  split at h
  ·exact fin rfl h fun{m φ vv}hr=>by cases vv with
    |loc i c=>exact .inl ⟨_,_,rfl⟩
    |v a=>exact hr.elim
  ·exact fin rfl h fun{m φ vv}hr=>by obtain⟨a,rfl,hr⟩:=hr.val (by simp);cases hr;exact .inr (.inl ⟨_,_,_,rfl⟩)
  ·exact fin rfl h fun{m φ vv}hr=>by obtain⟨a,rfl,hr⟩:=hr.val (by simp);cases hr;exact .inr (.inl ⟨_,_,_,rfl⟩)
  ·exact fin rfl h fun{m φ vv}hr=>by obtain⟨a,rfl,hr⟩:=hr.val (by simp);cases hr;exact .inr (.inl ⟨_,_,_,rfl⟩)
  ·exact fin rfl h fun{m φ vv}hr=>by obtain⟨a,rfl,hr⟩:=hr.val (by simp);cases hr;exact .inr (.inr (.inl ⟨_,rfl⟩))
  ·exact fin rfl h fun{m φ vv}hr=>by obtain⟨a,rfl,hr⟩:=hr.val (by simp);cases hr;exact .inr (.inr (.inr (.inl ⟨_,_,rfl⟩)))
  ·exact fin rfl h fun{m φ vv}hr=>by obtain⟨a,rfl,hr⟩:=hr.val (by simp);cases hr;exact .inr (.inr (.inr (.inr ⟨_,rfl⟩)))
  ·simp at h
 ·rename_i b t x y z ho;simp only[aa]at h;obtain⟨u,hu,v,hv,h⟩:=h;obtain⟨r,h1,h2⟩:=iU h;refine⟨_,s,h1,.pure fun m φ sv hs=> ?_⟩;obtain⟨u',k1,k2⟩:=Lc hg hu hs.e;obtain⟨v',k3,k4⟩:=Lc hg hv hs.e;obtain⟨a,k5,k6⟩:=h2 m u' v' k2 k4;exact⟨a,by simp[V.op,ho,k1,k3,k5,V.Uf],k6⟩
 ·rename_i u t x ho;simp only[aa]at h;obtain⟨v,hv,r,hr,h⟩:=h;refine⟨_,s,h,.pure fun m φ sv hs=> ?_⟩;obtain⟨v',k1,k2⟩:=Lc hg hv hs.e;obtain⟨a,k3,k4⟩:=LU hr k2;exact⟨a,by simp[V.op,ho,k1,k3,V.Uf],k4⟩
 ·rename_i src dst x ho;simp only[aa]at h;obtain⟨v,hv,h⟩:=h;obtain⟨r,H',h1,h2,h3⟩:=AK h;refine⟨_,_,h1,.heap h2 fun m φ sv hs=> ?_⟩;obtain⟨v',k1,k2⟩:=Lc hg hv hs.e;obtain⟨a,Nc,k3,k4⟩:=h3 m sv.H v' hs.h k2;exact⟨a,Nc,by simp[V.op,ho,k1,k3,V.th],k4⟩
 ·rename_i f first fh ho
  split at h
  case isFalse=>simp at h
  rename_i h0;simp only[aa]at h;obtain⟨l,hl,h⟩:=h;refine⟨_,s,h,.pure fun m φ sv hs=> ?_⟩;obtain⟨l',h1,h2⟩:=Rp hg hs.e hl;exact⟨.fn f l',by simp[V.op,ho,h0,h1],.fn f l l' h2.1 h2.2⟩
 ·rename_i t r ho;simp only[aa]at h;obtain⟨_,hr,h⟩:=h;have hvr:∀{m:Mp}{φ:Nat->Option Nat}{sv:V.S},vm m φ s sv->V.op A C Fa sv o=some (.v (.mp sv.H.bl.length),{ sv with H:=V.push sv.H (.map []) }):=fun{m φ sv}hs=>by
   cases r with
   |none=>simp[V.op,ho]
   |some x=>
    simp only at hr;split at hr
    case h_2=>simp at hr
    rename_i kt et hu;simp only[aa,ia]at hr;obtain⟨v,hv,n,hn,_⟩:=hr;obtain⟨v',k1,k2⟩:=Lc hg hv hs.e;simp[V.op,ho,hu,k1,kr hn k2]
  split at h
  case h_2=>simp at h
  rename_i kt et _;simp only[aa]at h;obtain⟨k,hk,h⟩:=h;refine⟨_,_,h,.heap rfl fun m φ sv hs=>⟨_,_,hvr hs,?_⟩⟩;have hrb:∀{m:Mp}{Hv:V.AH}{b x:Nat},m.ι b 0=some x->Hv.bl[x]?=some (.map [])->RB m Hv b (nG A k et):=fun{m Hv b x}h1 h2=>by
   unfold nG;split
   ·split
    ·exact⟨x,[],h1,h2,trivial⟩
    ·exact⟨x,[],h1,h2,trivial⟩
   ·exact⟨x,[],h1,h2,trivial⟩
  have ze:=hs.h.new (y:=nG A k et) (yv:= .map []) (n:=0) (hrb (be _ _ _ _) (by rw[Ke,if_neg (by omega),if_pos rfl]));exact⟨_,ze.1,.mp _ _ (be _ _ _ _),ze.2.1,ze.2.2⟩
 ·rename_i t l c ho;simp only[aa]at h;obtain⟨u,hu,v,hv,h⟩:=h;obtain⟨r,H',h1,h2,h3⟩:=cD h;refine⟨_,_,h1,.heap h2 fun m φ sv hs=> ?_⟩;obtain⟨u',k1,k2⟩:=Lc hg hu hs.e;obtain⟨v',k3,k4⟩:=Lc hg hv hs.e;obtain⟨a,Nc,k5,k6⟩:=h3 m sv.H u' v' hs.h k2 k4;exact⟨a,Nc,by simp[V.op,ho,k1,k3,k5,V.th],k6⟩
 ·rename_i t x lo hi ho;simp only[aa]at h;obtain⟨v,hv,l,hl,hh,hhh,h⟩:=h;obtain⟨r,h1,h2⟩:=XQ h;refine⟨_,s,h1,.pure fun m φ sv hs=> ?_⟩;obtain⟨v',k1,k2⟩:=Lc hg hv hs.e;obtain⟨a,k3,k4⟩:=h2 m sv.H v' hs.h k2;exact⟨a,by simp[V.op,ho,k1,jB hg hl hs.e,jB hg hhh hs.e,k3,V.Uf],k4⟩
 ·rename_i t x hi mx ho;simp only[aa]at h;obtain⟨v,hv,a,ha,b,hb,h⟩:=h;split at h
  case isFalse=>simp at h
  rename_i hc;simp only[Va]at hc;simp only[aa]at h;obtain⟨⟨r,H'⟩,hr,h⟩:=h;obtain⟨z1,z2⟩:=tL hr;refine⟨_,_,h,.heap z1 fun m φ sv hs=> ?_⟩;obtain⟨v',k1,k2⟩:=Lc hg hv hs.e;obtain⟨a',k3,k4⟩:=Lc hg ha hs.e;obtain⟨b',k5,k6⟩:=Lc hg hb hs.e;obtain⟨r',Nc,e1,rfl,e2⟩:=z2 m sv.H v' hs.h k2;exact⟨r',sv.H,by simp[V.op,ho,k1,k3,k5,jO hc.1 k4,jO hc.2 k6,e1,V.Uf],e2⟩
 ·rename_i t x f ho;simp only[aa]at h;obtain⟨p,hp,fd,qJ,n,hn,h⟩:=h;split at h
  case isTrue=>simp at h
  rename_i h0;simp only[aa]at h;obtain⟨v,hv,h⟩:=h;refine⟨v,s,h,.slot fun m φ sv hs=> ?_⟩;obtain⟨pv,h1,h2⟩:=Bd hg hp hs.e;obtain⟨pv',h3,h4⟩:=qz hv h2;exact⟨pv',by simp[V.op,ho,h1,qJ,hn,h0,h3],h4⟩
 ·rename_i t x f ho;simp only[aa]at h;obtain⟨v,hv,h⟩:=h;split at h
  case h_2=>simp at h
  rename_i cs;simp only[aa]at h;obtain⟨fd,qJ,r,hr,h⟩:=h;refine⟨_,s,h,.pure fun m φ sv hs=> ?_⟩;obtain⟨v',k1,k2⟩:=Lc hg hv hs.e;cases k2 with
  |agg _ as hl Tk=>
   obtain⟨a,k3,k4⟩:=pg hr ⟨hl,Tk⟩;exact⟨a,by simp[V.op,ho,k1,qJ,k3,V.Uf],k4⟩
 ·rename_i t x i ho;simp only[aa]at h;obtain⟨p,hp,n,hn,k,hk,h⟩:=h;obtain⟨v,h1,h2⟩:=eD h;refine⟨v,s,h1,.slot fun m φ sv hs=> ?_⟩;obtain⟨pv,k1,k2⟩:=Bd hg hp hs.e;obtain⟨n',k3,k4⟩:=Lc hg hn hs.e;obtain⟨vv,k5,k6⟩:=h2 m φ sv pv hs.h k2;exact⟨vv,by simp[V.op,ho,k1,k3,kr hk k4,k5],k6⟩
 ·rename_i t x i ho;simp only[aa]at h;obtain⟨v,hv,n,hn,k,hk,h⟩:=h;obtain⟨r,h1,h2⟩:=AR h;refine⟨_,s,h1,.pure fun m φ sv hs=> ?_⟩;obtain⟨v',k1,k2⟩:=Lc hg hv hs.e;obtain⟨n',k3,k4⟩:=Lc hg hn hs.e;obtain⟨a,k5,k6⟩:=h2 m v' k2;exact⟨a,by simp[V.op,ho,k1,k3,kr hk k4,k5,V.Uf],k6⟩
 ·rename_i t x i ok ho;simp only[aa]at h;obtain⟨v,hv,k,hk,h⟩:=h;obtain⟨r,h1,h2⟩:=qB h;refine⟨_,s,h1,.pure fun m φ sv hs=> ?_⟩;obtain⟨v',k1,k2⟩:=Lc hg hv hs.e;obtain⟨n',k3,k4⟩:=Lc hg hk hs.e;obtain⟨a,k5,k6⟩:=h2 m sv.H v' n' hs.h k2 k4;exact⟨a,by simp[V.op,ho,k1,k3,k5,V.Uf],k6⟩
 ·rename_i t x k y ho;simp only[aa]at h;obtain⟨mv,hm,kv,hk,v,hv,h⟩:=h;obtain⟨H',h1,h2,h3⟩:=Et h;refine⟨_,_,h1,.heap h2 fun m φ sv hs=> ?_⟩;obtain⟨m',k1,k2⟩:=Lc hg hm hs.e;obtain⟨k',k3,k4⟩:=Lc hg hk hs.e;obtain⟨v',k5,k6⟩:=Lc hg hv hs.e;obtain⟨Nc,k7,k8⟩:=h3 m sv.H m' k' v' hs.h k2 k4 k6;exact⟨.Sb,Nc,by simp[V.op,ho,k1,k3,k5,k7],m,k8.1,.Sb _,.refl m,k8.2⟩
 ·rename_i t x k y ho;simp only[aa]at h;obtain⟨mv,hm,kv,hk,v,hv,h⟩:=h;obtain⟨H',h1,h2,h3⟩:=Et h;refine⟨_,_,h1,.heap h2 fun m φ sv hs=> ?_⟩;obtain⟨m',k1,k2⟩:=Lc hg hm hs.e;obtain⟨k',k3,k4⟩:=Lc hg hk hs.e;obtain⟨v',k5,k6⟩:=Lc hg hv hs.e;obtain⟨Nc,k7,k8⟩:=h3 m sv.H m' k' v' hs.h k2 k4 k6;exact⟨.Sb,Nc,by simp[V.op,ho,k1,k3,k5,k7],m,k8.1,.Sb _,.refl m,k8.2⟩
 ·rename_i x i ho;simp only[aa]at h;obtain⟨v,hv,h⟩:=h;split at h
  case h_2=>simp at h
  rename_i vs;simp only[aa]at h;obtain⟨r,hr,h⟩:=h;refine⟨_,s,h,.pure fun m φ sv hs=> ?_⟩;obtain⟨v',k1,k2⟩:=Lc hg hv hs.e;cases k2 with
  |Sc _ as hl Tk=>
   obtain⟨a,k3,k4⟩:=RL.get (m:=m) ⟨hl,Tk⟩ hr;exact⟨a,by simp[V.op,ho,k1,k3],k4⟩
 ·rename_i c ho;simp only[aa]at h;obtain⟨args,ha,h⟩:=h;split at h
  ·rename_i f hf;simp only[aa]at h;obtain⟨g,hgv,h⟩:=h;obtain⟨r,H',h1,h2,h3⟩:=hc X g args s.H _ out h;refine⟨_,_,h1,.heap h2 fun m φ sv hs=> ?_⟩;obtain⟨as,k1,k2⟩:=Rp hg hs.e ha;obtain⟨g',k3,k4⟩:=Lc hg hgv hs.e;obtain⟨r',Nc,k5,k6⟩:=h3 m sv.H g' as hs.h k4 k2;exact⟨r',Nc,by simp[V.op,ho,k1,hf,k3,k5,V.th],k6⟩
  ·rename_i b hb;obtain⟨r,H',h1,h2,h3⟩:=EK h;refine⟨_,_,h1,.heap h2 fun m φ sv hs=> ?_⟩;obtain⟨as,k1,k2⟩:=Rp hg hs.e ha;obtain⟨r',Nc,k5,k6⟩:=h3 m sv.H as hs.h k2;exact⟨r',Nc,by simp[V.op,ho,k1,hb,k5,V.th],k6⟩
  ·simp at h
 ·simp at h
end
end Go.U
namespace Go.U
open Go
variable [TB:GC]{rf:Bool}
def STo(step:V.S->Option V.S)(s s':St):Prop:=
 s'.base=s.base/\s'.H.wm=s.H.wm/\∀(m:Mp)(φ:Nat->Option Nat)(sv:V.S),vm m φ s sv->∃xe m' Og,step sv=some xe/\vm m' Og s' xe/\m.Le m'/\JK φ Og/\Oj m.top m sv.H m' xe.H
section
variable {A:V.yh}{C:V.Callee}{Pa:Nat->Option (List UV)}{Fa:List Nat}{n:Nat}{s:St}{X:Type}{out:X}
theorem SE{os:Array Oper}{o:Oper}{K:Bool->St->Option X}(h:guard os s o K=some out):
  ∃b s',K b s'=some out/\s'.base=s.base/\s'.H=s.H/\∀(m:Mp)(φ:Nat->Option Nat)(sv:V.S),vm m φ s sv->V.Yc os sv o=some b/\vm m φ s' sv:=by
 unfold guard at h;split at h
 ·rename_i hg;exact⟨true,s,h,rfl,rfl,fun m φ sv hs=>⟨by simp[V.Yc,hg],hs⟩⟩
 ·rename_i j want hg;split at h
  case h_2=>simp at h
  rename_i d hd;split at h
  case h_3=>simp at h
  case h_2=>
   rename_i hb;refine⟨false,s,h,rfl,rfl,fun m φ sv hs=>⟨?_,hs⟩⟩;have h1:=hs.e d;rw[hb]at h1;obtain⟨a,ha,hr⟩:=RS.val h1 (by simp);cases hr with
   |Sc _ as hl _=>
    have:as=[]:=Ja.1 hl;subst this;simp[V.Yc,hg,hd,ha]
  rename_i b hb;have ref:∀{m:Mp}{φ:Nat->Option Nat}{sv:V.S},vm m φ s sv->V.get sv.e d= .v (.bool b)/\vm m φ { s with e:=(d,.v (.bool b))::s.e } sv:=fun{m φ sv}hs=>by
   have h1:=hs.e d;rw[hb]at h1;obtain⟨a,ha,hr⟩:=RS.val h1 (by simp);cases hr;refine⟨ha,hs.h,hs.f,fun t=> ?_,hs.b⟩;simp only[get];split
   ·rename_i e;subst e;rw[ha];exact RV.rs (.bool b)
   ·exact hs.e t
  cases b with
  |true=>
   refine⟨want,_,h,rfl,rfl,fun m φ sv hs=> ?_⟩;obtain⟨h1,h2⟩:=ref hs;exact⟨by simp[V.Yc,hg,hd,h1],h2⟩
  |false=>
   refine⟨!want,_,h,rfl,rfl,fun m φ sv hs=> ?_⟩;obtain⟨h1,h2⟩:=ref hs;exact⟨by simp[V.Yc,hg,hd,h1],h2⟩
theorem Qu{d:Option Nat}{v:US}{s':St}(h:put s n d v=some s'):
  s'.base=s.base/\s'.H=s.H/\∀(m:Mp)(φ:Nat->Option Nat)(sv:V.S)(vv:V.SV),vm m φ s sv->RS m φ v vv->∃xe,V.put sv n d vv=some xe/\xe.H=sv.H/\vm m φ s' xe:=by
 unfold put at h;split at h
 ·simp at h;subst h;exact⟨rfl,rfl,fun m φ sv vv hs hv=>⟨sv,rfl,rfl,hs⟩⟩
 ·rename_i d;split at h
  case isFalse=>simp at h
  rename_i hd;simp at h;subst h;exact⟨rfl,rfl,fun m φ sv vv hs hv=>⟨{ sv with e:=(d,vv)::sv.e },by simp[V.put,hd],rfl,hs.h,hs.f,hs.e.cons d hv,hs.b⟩⟩
theorem STo.trans{f g:V.S->Option V.S}{s s1 s2:St}(h:STo f s s1)(h':STo g s1 s2):STo (fun x=>(f x).bind g) s s2:=
 ⟨h'.1.trans h.1,h'.2.1.trans h.2.1,fun m φ sv hs=>by
  obtain⟨Vj,m1,GA,h1,h2,h3,h4,h5⟩:=h.2.2 m φ sv hs;obtain⟨NU,m2,Sz,k1,k2,k3,k4,k5⟩:=h'.2.2 m1 GA Vj h2;exact⟨NU,m2,Sz,by simp[h1,k1],k2,h3.trans k3,h4.trans k4,h5.trans k5 h5.Bk.1⟩⟩
theorem dO{m:Mp}{φ:Nat->Option Nat}:RS m φ (.v (.Sc [])) (.v (.Sc [])):=RV.Sc [] [] rfl fun i x a h=>by simp at h
theorem kG(hg:Ge A Pa){env:Env}(hc:Jc C env.call){all:Array Oper}:∀{os:List Oper}{s:St}{K:St->Option X},ops A Pa env Fa n all os s K=some out->∃s',K s'=some out/\STo (V.ops A C Fa n all os) s s'
 |[],s,K,h=>⟨s,h,rfl,rfl,fun m φ sv hs=>⟨sv,m,φ,rfl,hs,.refl m,.refl φ,.refl _ (va _)⟩⟩
 |o::os,s,K,h=>by
  simp only[ops,K8,wW]at h;obtain⟨b,s1,h1,h2,h3,h4⟩:=SE h;cases b with
  |true=>
   simp only at h1;obtain⟨v,s2,k1,k2,k3,k4,k5⟩:=AL hg hc h1;simp only[aa]at k1;obtain⟨s3,hp,k1⟩:=k1;obtain⟨p1,p2,p3⟩:=Qu hp;obtain⟨s4,q1,q2,q3,q4⟩:=kG hg hc k1;refine⟨s4,q1,by rw[q2,p1,k2,h2],by rw[q3,p2,k4,h3],fun m φ sv hs=> ?_⟩;obtain⟨g1,g2⟩:=h4 m φ sv hs;obtain⟨vv,NU,m2,Sz,e1,e2,e3,e4,e5,e6,_⟩:=k5 m φ sv g2;obtain⟨XC,e7,e8,e9⟩:=p3 m2 Sz NU vv e2 e3;obtain⟨O3,m4,B3,KD,SK,oQ,nQ,tK⟩:=q4 m2 Sz XC e9;rw[e8]at tK;exact⟨O3,m4,B3,by simp[V.ops,g1,e1,e7,KD],SK,e4.trans oQ,e5.trans nQ,e6.trans tK e6.Bk.1⟩
  |false=>
   simp only[aa]at h1;obtain⟨s3,hp,h1⟩:=h1;obtain⟨p1,p2,p3⟩:=Qu hp;obtain⟨s4,q1,q2,q3,q4⟩:=kG hg hc h1;refine⟨s4,q1,by rw[q2,p1,h2],by rw[q3,p2,h3],fun m φ sv hs=> ?_⟩;obtain⟨g1,g2⟩:=h4 m φ sv hs;obtain⟨XC,e7,e8,e9⟩:=p3 m φ sv (.v (.Sc [])) g2 dO;obtain⟨O3,m4,B3,KD,SK,oQ,nQ,tK⟩:=q4 m φ XC e9;rw[e8]at tK;exact⟨O3,m4,B3,by simp[V.ops,g1,e7,KD],SK,oQ,nQ,tK⟩
def TR(φ:Nat->Option Nat):V.qf->V.qf->Prop
 | .no,.no=>True
 | .heap w,.no=>w=false
 | .heap w,.heap w'=>w=w'
 | .box i w,.box j w'=>φ i=some j/\w=w'
 |_,_=>False
theorem TR.mono{φ Og:Nat->Option Nat}(h:JK φ Og){t t':V.qf}(ht:TR φ t t'):TR Og t t':=by
 cases t<;>cases t'<;>first|exact ht|exact⟨h _ _ ht.1,ht.2⟩
theorem TR.same(φ:Nat->Option Nat){t:V.qf}(h:∀i w,t≠ .box i w):TR φ t t:=by
 cases t<;>first|trivial|rfl|exact(h _ _ rfl).elim
theorem Gy{m:Mp}{φ:Nat->Option Nat}{w:Bool}{p:US}{pv:V.SV}(h:RS m φ p pv)(hn:p≠ .v .Sb):TR φ (tf w (some p)) (V.tf w (some pv)):=by
 cases p with
 |loc i c=>
  cases pv with
  |v a=>exact h.elim
  |loc j c'=>exact⟨h.1,rfl⟩
 |v x=>
  obtain⟨a,rfl,hr⟩:=h.val (fun e=>hn (by rw[e]));cases hr<;>first|exact(hn rfl).elim|exact rfl|(cases w<;>first|exact rfl|trivial)|skip
  all_goals (rename_i ha;rcases ha with rfl|rfl<;>exact rfl)
theorem Jx{s:St}{t:TypeId}{p:US}{v:UV}(h:load A s t p=some v):p≠ .v .Sb:=by
 rintro rfl;simp[load]at h
theorem kL{s s':St}{t:TypeId}{p:US}{v:UV}(h:store A s t p v=some s'):p≠ .v .Sb:=by
 rintro rfl
 simp only[store,aF,aa]at h;obtain⟨_,_,_,_,h⟩:=h;split at h<;>simp at h
theorem wC{X:Type}{i:Int}{sz:Nat}{K:US->Option X}:∀n j,cases i (fun j=>(Ng (j * sz) (.v .Sb)).bind K) n j=none
 |0,j=>rfl
 |n+1,j=>by
  have:=wC (i:=i) (sz:=sz) (K:=K) n (j+1);simp only[cases,Ng,Option.bind_none]at this ⊢;rw[this];cases decide (i=(j:Int))<;>rfl
theorem iE{e:List (Nat×US)}:∀{l:List Operand}{as:List UV},ah Pa e l=some as->∀a∈as,a≠ .Sb
 |[],as,h,a,ha=>by simp[ah]at h;subst h;simp at ha
 |x::l,as,h,a,ha=>by
  simp only[ah,aa]at h;obtain⟨b,hb,l',hl,h⟩:=h;simp at h;subst h;rcases Yb.1 ha with rfl|ha
  ·exact(OA hb).2
  ·exact iE hl a ha
theorem pE(hg:Ge A Pa){env:Env}{s0:St}{o:Oper}{q:Bool}{K:US->St->Option X}(h:op A Pa env Fa s0 o K=some out)(he:s0.e=s.e):
  ∀(m:Mp)(φ:Nat->Option Nat)(sv:V.S),vm m φ s sv->TR φ (Zc Pa Fa s o q) (V.Zc A Fa sv o q):=fun m φ sv hs=>by
 rcases o with⟨dst,op',ty,pos,after,gd⟩
 cases op' with
 |load t x=>
  simp only[op,aa]at h;obtain⟨p,hp,v,hv,h⟩:=h;rw[he]at hp;obtain⟨pv,h1,h2⟩:=Bd hg hp hs.e;simp only[Zc,V.Zc,hp,h1];exact Gy h2 (Jx hv)
 |store t x y=>
  simp only[op,aa]at h;obtain⟨p,hp,a,ha,s',jc,h⟩:=h;rw[he]at hp;obtain⟨pv,h1,h2⟩:=Bd hg hp hs.e;simp only[Zc,V.Zc,hp,h1];exact Gy h2 (kL jc)
 |alloc t=>
  simp only[Zc,V.Zc];split<;>first|trivial|exact rfl
 |box t x=>
  simp only[Zc,V.Zc];split<;>first|trivial|exact rfl
 |call c=>
  rcases c with⟨callee,args,_⟩
  cases callee with
  |builtin b=>
   cases b<;>first|trivial|exact rfl|skip
   simp only[op,aa]at h;obtain⟨l,hl,h⟩:=h;rw[he]at hl;obtain⟨l',h1,h2,h3⟩:=Rp hg hs.e hl;have hj:=iE hl;simp only[Zc,V.Zc,hl,h1];unfold rh;split
   ·rename_i e;simp at e;subst e;unfold V.rh;split<;>first|exact rfl|trivial
   ·rename_i Uc e;simp at e;subst e;have:V.rh (some l')= .no:=by
     unfold V.rh;split
     ·rename_i b e;simp at e;subst e
      match l,h2,h3,Uc,hj with
      |[x],_,h3,Uc,hj=>
       have:=h3 0 x _ rfl rfl;cases this with
       |mp b'=>exact absurd rfl (Uc b')
       |Sb=>exact absurd rfl (hj _ (List.mem_singleton.2 rfl))
       |_=>simp_all
      |[],h2,_,_,_=>simp at h2
      |_::_::_,h2,_,_,_=>simp at h2
     ·rfl
     ·rename_i e;simp at e
    rw[this];trivial
   ·rename_i e;simp at e
  |_=>first|trivial|exact rfl
 |indexAddr t x i=>
  simp only[op,aa]at h;obtain⟨p,hp,u,hu,n,hn,h⟩:=h;rw[he]at hp;obtain⟨pv,h1,h2⟩:=Bd hg hp hs.e;simp only[Zc,V.Zc,hp,h1];cases p with
  |loc i c=>
   cases pv with
   |v a=>exact h2.elim
   |loc j c'=>exact trivial
  |v x=>
   by_cases hx:x= .Sb
   ·subst hx;unfold indexAddr at h;split at h
    ·simp only[aa]at h;obtain⟨sz,_,h⟩:=h;rw[wC]at h;simp at h
    ·simp at h
    ·simp at h
   ·obtain⟨a,rfl,hr⟩:=h2.val hx;cases hr<;>first|exact(hx rfl).elim|trivial|exact rfl|skip
    all_goals (rename_i ha;rcases ha with rfl|rfl<;>first|trivial|exact rfl)
 |_=>first|trivial|exact rfl
inductive FN(φ:Nat->Option Nat):List V.qf->List V.qf->Prop
 |nil:FN φ [] []
 |cons {t t':V.qf} {l l':List V.qf}:TR φ t t'->FN φ l l'->FN φ (t::l) (t'::l')
theorem FN.get{φ:Nat->Option Nat}{l l':List V.qf}(h:FN φ l l'):∀{i:Nat}{t':V.qf},l'[i]?=some t'->∃t,l[i]?=some t/\TR φ t t':=by
 induction h with
 |nil=>intro i t' hi;simp at hi
 |cons h hs ih=>
  intro i t' hi;cases i with
  |zero=>simp at hi;subst hi;exact⟨_,rfl,h⟩
  |succ i=>simpa using ih (by simpa using hi)
theorem FN.mono{φ Og:Nat->Option Nat}(h:JK φ Og){l l':List V.qf}(hl:FN φ l l'):FN Og l l':=by
 induction hl with
 |nil=>exact .nil
 |cons h1 _ ih=>exact .cons (h1.mono h) ih
theorem MQ{φ:Nat->Option Nat}(hi:∀i i' j,φ i=some j->φ i'=some j->i=i'){b:List Nat}{l l':List V.qf}(hl:FN φ l l')(h:V.Nu b l=true):V.Nu b l'=true:=by
 simp only[V.Nu,tc,Yh,Bool.not_eq_true',Prod.forall,List.mem_zipIdx_iff_getElem?]at h ⊢;intro tj' j X4;obtain⟨tj,hj,Z7⟩:=hl.get X4;have hw:tj.writes=tj'.writes:=by
  cases tj<;>cases tj'<;>first|rfl|exact Z7.elim|(have:=Z7;simp only[TR]at this;simp[V.qf.writes,this])|skip
 rcases h tj j hj with h0|h0
 ·exact .inl (by rw[<- hw];exact h0)
 ·refine .inr fun ti' i PK=> ?_
  obtain⟨ti,hii,hri⟩:=hl.get PK;have hcf:V.conflict ti tj=false->V.conflict ti' tj'=false:=by
   cases ti' with
   |no=>intro _;cases tj'<;>rfl
   |heap a'=>
    cases tj' with
    |no=>intro _;rfl
    |box j w=>intro _;rfl
    |heap b'=>
     cases ti<;>first|exact hri.elim|skip
     cases tj<;>first|exact Z7.elim|skip
     simp only[TR]at hri Z7;subst hri;subst Z7;exact id
   |box i1 w1=>
    cases tj' with
    |no=>intro _;rfl
    |heap b'=>intro _;rfl
    |box j1 w2=>
     cases ti<;>first|exact hri.elim|skip
     cases tj<;>first|exact Z7.elim|skip
     rename_i a1 v1 a2 v2;simp only[TR]at hri Z7;obtain⟨e1,rfl⟩:=hri;obtain⟨e2,rfl⟩:=Z7;intro h;simp only[V.conflict,Xs]at h ⊢;rcases h with h|h
     ·refine .inl ?_;rw[beq_eq_false_iff_ne]at h ⊢
      rintro rfl
      exact h (hi _ _ _ e1 e2)
     ·exact .inr h
  rcases h0 ti i hii with h1|h1
  ·exact .inl h1
  ·exact .inr (hcf h1)
theorem RB.bl{m:Mp}{Hv Nc:V.AH}{b:Nat}{y:UB}(h:RB m Hv b y)(e:Nc.bl=Hv.bl):RB m Nc b y:=
 h.keep (.refl m) rfl rfl fun _ _ _ _=>by rw[e]
theorem RH.Dae{m:Mp}{H:UH}{Hv:V.AH}(h:RH m H Hv):RH m { H with wm:=H.bl.length } { Hv with wm:=Hv.bl.length }:=
 ⟨h.Ie,fun b y hb=>(h.Vc b y hb).bl rfl,h.pn,fun b _ x hb hw=>by have:=(h.Ie b x hb).1;simp only at hw;omega,va _,h.len⟩
theorem RH.x_{m m':Mp}{H H':UH}{Hv Nc:V.AH}(h:RH m H Hv)(h':RH m' H' Nc)(hw:H'.wm=H.bl.length)(ho:lU m.top m m')(hl:Hv.bl.length<=Nc.bl.length)(hwv:Nc.wm=Hv.bl.length):RH m' { H' with wm:=H.wm } { Nc with wm:=Hv.wm }:=
 ⟨h'.Ie,fun b y hb=>(h'.Vc b y hb).bl rfl,h'.pn,fun b _ x hb OE=>by
  rcases Vb b m.top with Ac|Jt
  ·rw[(ho.2 b Ac).1]at hb;exact h.wm b x hb OE
  ·have:=h'.wm b x hb (by rw[hw,<- h.len];exact Jt);have:=h.top;show Hv.wm<=x;omega,Ib h.top hl,h'.len⟩
def gO:V.qf->Bool
 | .heap true=>true
 |_=>false
theorem TR.gO{φ:Nat->Option Nat}{t t':V.qf}(h:TR φ t t'):gO t=gO t':=by
 cases t<;>cases t'<;>first|rfl|exact h.elim|(simp only[TR]at h;subst h;rfl)
theorem nV{env:Env}{t:V.qf}{o:Oper}{K:US->St->Option X}(h:gO t=false):TN A Pa env Fa t s o K=op A Pa env Fa { s with H:={ s.H with wm:=s.H.bl.length } } o fun v s'=>K v { s' with H:={ s'.H with wm:=s.H.wm } }:=by
 cases t with
 |heap w=>cases w<;>first|rfl|simp[gO]at h
 |_=>rfl
theorem M3{t:V.qf}{o:Oper}{sv:V.S}(h:gO t=false):V.TN A C Fa t sv o=(V.op A C Fa { sv with H:={ sv.H with wm:=sv.H.bl.length } } o).map fun(v,s')=>(v,{ s' with H:={ s'.H with wm:=sv.H.wm } }):=by
 cases t with
 |heap w=>cases w<;>first|rfl|simp[gO]at h
 |_=>rfl
theorem X3(hg:Ge A Pa){env:Env}(hc:Jc C env.call){o:Oper}{q:Bool}{K:US->St->Option X}(h:TN A Pa env Fa (Zc Pa Fa s o q) s o K=some out):
  ∃v s',K v s'=some out/\s'.base=s.base/\s'.H.wm=s.H.wm/\∀(m:Mp)(φ:Nat->Option Nat)(sv:V.S),vm m φ s sv->TR φ (Zc Pa Fa s o q) (V.Zc A Fa sv o q)/\∃vv xe m' Og,V.TN A C Fa (V.Zc A Fa sv o q) sv o=some (vv,xe)/\vm m' Og s' xe/\RS m' Og v vv/\m.Le m'/\JK φ Og/\Oj m.top m sv.H m' xe.H:=by
 cases hw:gO (Zc Pa Fa s o q)with
 |true=>
  have ht:Zc Pa Fa s o q= .heap true:=by
   revert hw;generalize Zc Pa Fa s o q=t;intro hw
   cases t with
   |heap w=>cases w<;>first|rfl|simp[gO]at hw
   |_=>simp[gO]at hw
  rw[ht]at h;have h':op A Pa env Fa s o K=some out:=h;obtain⟨v,s',k1,k2,k3,k4,k5⟩:=AL hg hc h';refine⟨v,s',k1,k2,k4,fun m φ sv hs=> ?_⟩;have Bv:=pE (q:=q) hg h' rfl m φ sv hs;obtain⟨vv,xe,m',Og,e1,e2,e3,e4,e5,e6,_⟩:=k5 m φ sv hs;refine⟨Bv,vv,xe,m',Og,?_,e2,e3,e4,e5,e6⟩;have:V.Zc A Fa sv o q= .heap true:=by
   rw[ht]at Bv
   revert Bv;generalize V.Zc A Fa sv o q=t;intro Bv
   cases t<;>first|(exact Bv.elim)|(simp only[TR]at Bv;rw[<- Bv])|(simp[TR]at Bv)
  rw[this];exact e1
 |false=>
  rw[nV hw]at h;obtain⟨v,s',k1,k2,k3,k4,k5⟩:=AL hg hc h;refine⟨v,_,k1,k2,rfl,fun m φ sv hs=> ?_⟩;have Bv:=pE (s:=s) (q:=q) hg h rfl m φ sv hs;have uU:vm m φ { s with H:={ s.H with wm:=s.H.bl.length } } { sv with H:={ sv.H with wm:=sv.H.bl.length } }:=⟨hs.h.Dae,hs.f,hs.e,hs.b⟩;obtain⟨vv,xe,m',Og,e1,e2,e3,e4,e5,e6,_⟩:=k5 m φ _ uU;refine⟨Bv,vv,{ xe with H:={ xe.H with wm:=sv.H.wm } },m',Og,?_,⟨hs.h.x_ e2.h k4 e6.Bk e6.len e6.wm,e2.f,e2.e,e2.b⟩,e3,e4,e5,⟨e6.Bk,e6.stay,e6.new,e6.len,rfl⟩⟩;rw[M3 (by rw[<- Bv.gO];exact hw),e1];rfl
theorem WU{m m':Mp}{v w:UV}{a a':V.AV}(h:XU v w=true)(hv:RV m v a)(hw:RV m' w a'):a=a':=by
 unfold XU at h;split at h
 ·rename_i f f';have:f=f':=by simpa using h
  subst this;cases hv with
  |fn _ _ as hl _=>
   cases hw with
   |fn _ _ Pm bg _=>
    have e1:as=[]:=Ja.1 hl;have e2:Pm=[]:=Ja.1 bg;rw[e1,e2]
 ·cases hv;cases hw;rfl
 ·simp at h
theorem sameKey_eq{k k':KT}{i:td k}{j:td k'}(h:sameKey k k' i j=true):Ph k i=Ph k' j:=by
 cases k with
 |int a=>
  cases k' with
  |int b=>
   have h':(decide (a=b)&&@decide (@Eq Int i j) (Int.instDecidableEq i j))=true:=h;rw[Va]at h';have h1:=of_decide_eq_true h'.1;have h2:@Eq Int i j:=@of_decide_eq_true _ (Int.instDecidableEq i j) h'.2;show V.AV.int a i=V.AV.int b j;rw[h1,h2]
  |str=>exact absurd h (by intro h;exact Bool.noConfusion h)
 |str=>exact absurd h (by cases k'<;>(intro h;exact Bool.noConfusion h))
theorem xE{m m':Mp}{k k':KT}:∀{es:List (td k×UV)}{ud:List (td k'×UV)}{x x':List (V.AV×V.AV)},au k k' es ud=true->MR k m es x->MR k' m' ud x'->x=x'
 |[],[],[],[],_,_,_=>rfl
 |[],[],[],_::_,_,_,h=>h.elim
 |[],[],_::_,_,_,h,_=>h.elim
 |(i,v)::es,(j,w)::ud,[],_,_,h,_=>h.elim
 |(i,v)::es,(j,w)::ud,_::_,[],_,_,h=>h.elim
 |(i,v)::es,(j,w)::ud,(q,a)::x,(q',a')::x',h,h1,h2=>by
  simp only[au,Va]at h;obtain⟨⟨h3,h4⟩,h5⟩:=h;obtain⟨rfl,k2,_,k4⟩:=h1;obtain⟨rfl,l2,_,l4⟩:=h2;rw[sameKey_eq h3,WU h4 k2 l2,xE h5 k4 l4]
 |[],_::_,_,_,h,_,_=>by simp[au]at h
 |_::_,[],_,_,h,_,_=>by simp[au]at h
theorem UU{m m':Mp}{v w:UV}{a a':V.AV}(h:VU v w=true)(hm:m.Le m')(hv:RV m v a)(hw:RV m' w a'):a'=a:=by
 unfold VU at h;split at h
 ·rename_i b b';have:b=b':=by simpa using h
  subst this;cases hv with
  |mp _ x hx=>
   cases hw with
   |mp _ y hy=>
    rw[(hm.of b x hx).1]at hy;simp at hy;rw[hy]
 ·rename_i f f';have:f=f':=by simpa using h
  subst this;cases hv with
  |fn _ _ as hl _=>
   cases hw with
   |fn _ _ Pm bg _=>
    have e1:as=[]:=Ja.1 hl;have e2:Pm=[]:=Ja.1 bg;rw[e1,e2]
 ·cases hv;cases hw;rfl
 ·cases hv;cases hw;rfl
 ·simp at h
def O1(A:V.yh)(C:V.Callee)(Fa:List Nat)(m:Mp)(r:Rec)(vr:Oper×List (Nat×V.SV)×V.SV):Prop:=
 ∀(m':Mp)(Og:Nat->Option Nat)(s:St)(sv:V.S),m.Le m'->vm m' Og s sv->GI A s r=true->∃xe,V.op A C Fa { sv with e:=vr.2.1 } vr.1=some (vr.2.2,xe)
inductive Iw(A:V.yh)(C:V.Callee)(Fa:List Nat)(m:Mp):List Rec->List (Oper×List (Nat×V.SV)×V.SV)->Prop
 |nil:Iw A C Fa m [] []
 |snoc {rs:List Rec} {cE:List (Oper×List (Nat×V.SV)×V.SV)} {r:Rec} {vr:Oper×List (Nat×V.SV)×V.SV}:Iw A C Fa m rs cE->O1 A C Fa m r vr->Iw A C Fa m (rs++[r]) (cE++[vr])
theorem O1.mono{m m':Mp}{r:Rec}{vr:Oper×List (Nat×V.SV)×V.SV}(h:O1 A C Fa m r vr)(hm:m.Le m'):O1 A C Fa m' r vr:=fun m2 Sz s sv h2 hs hr=>h m2 Sz s sv (hm.trans h2) hs hr
theorem Iw.mono{m m':Mp}{rs:List Rec}{cE:List (Oper×List (Nat×V.SV)×V.SV)}(h:Iw A C Fa m rs cE)(hm:m.Le m'):Iw A C Fa m' rs cE:=by
 induction h with
 |nil=>exact .nil
 |snoc _ h2 ih=>exact .snoc ih (h2.mono hm)
theorem Iw.all{m:Mp}{φ:Nat->Option Nat}{rs:List Rec}{cE:List (Oper×List (Nat×V.SV)×V.SV)}(h:Iw A C Fa m rs cE){s:St}{sv:V.S}(hs:vm m φ s sv)(hr:rs.all (GI A s)=true):V.Zg A C Fa cE sv:=by
 induction h with
 |nil=>exact fun r hr=>by simp at hr
 |snoc _ h2 ih=>
  simp only[List.all_append,Va]at hr;intro r hm;rcases Mw.1 hm with hm|hm
  ·exact ih hr.1 r hm
  ·simp at hm;subst hm;exact h2 m φ s sv (.refl m) hs (by simpa using hr.2)
theorem iR{m:Mp}{φ:Nat->Option Nat}{sv:V.S}{v:US}{vv:V.SV}(hp:Vz s.H.bl.length v=true)(hs:vm m φ s sv)(hv:RS m φ v vv):V.Ar sv.H.bl.length vv=true:=by
 unfold Vz at hp;split at hp
 ·obtain⟨a,rfl,hr⟩:=hv.val (by simp);cases hr with
  |mp _ x hx=>exact decide_eq_true (hs.h.Ie _ x hx).2
 ·obtain⟨a,rfl,hr⟩:=hv.val (by simp);cases hr with
  |fn f _ as hl _=>
   have e1:as=[]:=Ja.1 hl;rw[e1];rfl
 ·obtain⟨a,rfl,hr⟩:=hv.val (by simp);cases hr;rfl
 ·obtain⟨a,rfl,hr⟩:=hv.val (by simp);cases hr;rfl
 ·simp at hp
theorem KU{sv xe:V.S}{n:Nat}{d:Option Nat}{v:V.SV}(h:V.put sv n d v=some xe):xe.F=sv.F:=by
 unfold V.put at h;split at h
 ·simp at h;rw[h]
 ·split at h
  ·simp at h;rw[<- h]
  ·simp at h
theorem N3{t:TypeId}{pv:V.AV}{sv xe:V.S}(h:sv.H=xe.H):V.load A sv t (.v pv)=V.load A xe t (.v pv):=by
 unfold V.load;cases pv<;>simp only[h]
theorem TQ(hg:Ge A Pa){env:Env}(hc:Jc C env.call){o:Oper}{K:US->St->Option X}(h:op A Pa env Fa s o K=some out)(jc:yf A Pa s o=true):
  ∃v,K v s=some out/\(Vz s.H.bl.length v=true->∀r,QN Pa s o v=some r->∀(m:Mp)(φ:Nat->Option Nat)(sv:V.S),vm m φ s sv->V.yf A sv o=true/\∃vv,(∃xe,V.op A C Fa sv o=some (vv,xe))/\RS m φ v vv/\O1 A C Fa m r (o,sv.e,vv)):=by
 unfold yf at jc;simp only[Va]at jc;obtain⟨Hz,tg⟩:=jc;have Gz:=Hz;unfold V.Wj at Hz;split at Hz
 ·rename_i t x ho;unfold op at h;rw[ho]at h;simp only[aa]at h;obtain⟨p,hp,v,hv,h⟩:=h;refine⟨_,h,fun kD r hr m φ sv hs=> ?_⟩;simp only[ho,hp]at tg;obtain⟨pv,e1,e2⟩:=Bd (m:=m) (φ:=φ) hg hp hs.e;obtain⟨a,e3,e4⟩:=jv hv hs.h hs.f e2;have hpn:=Jx hv;unfold QN at hr;rw[ho]at hr;simp only[hp]at hr;cases p with
  |loc i c=>simp at tg
  |v p=>
   obtain⟨pa,rfl,e5⟩:=e2.val (fun e=>hpn (by rw[e]));simp only[Dc]at hr;subst hr;refine⟨?_,.v a,⟨sv,?_⟩,e4.rs,fun m' Og s' xe hm uU Qh=> ?_⟩
   ·unfold V.yf;rw[Gz,ho];simp only[e1,wk];cases e5<;>first|rfl|simp at tg
   ·unfold V.op;rw[ho];simp only[e1,ga,e3];rfl
   ·simp only[GI]at Qh;split at Qh
    case h_2=>simp at Qh
    rename_i a' ha';obtain⟨y,k1,k2⟩:=jv (sv:=xe) ha' uU.h uU.f (RV.rs (φ:=Og) (e5.mono hm));have:=UU Qh hm e4 k2;subst this;refine⟨{ xe with e:=sv.e },?_⟩;unfold V.op;rw[ho];simp only[e1,ga];have e9:=N3 (A:=A) (t:=t) (pv:=pa) (sv:={ xe with e:=sv.e }) (xe:=xe) rfl;rw[e9,k1];rfl
 ·rename_i t x i ho;unfold op at h;rw[ho]at h;simp only[aa]at h;obtain⟨mv,hm,kv,hk,h⟩:=h;obtain⟨v,h1,h2⟩:=qB h;refine⟨_,h1,fun kD r hr m φ sv hs=> ?_⟩;obtain⟨mv',e1,e2⟩:=Lc (m:=m) (φ:=φ) hg hm hs.e;obtain⟨kv',e3,e4⟩:=Lc (m:=m) (φ:=φ) hg hk hs.e;obtain⟨a,e5,e6⟩:=h2 m sv.H mv' kv' hs.h e2 e4;unfold QN at hr;rw[ho]at hr;simp only[hm]at hr;split at hr
  case h_2=>simp at hr
  rename_i b hb;simp only[Dc]at hb;subst hb;split at hr
  case h_2=>simp at hr
  rename_i kt es Hu;split at hr
  case isFalse=>simp at hr
  simp only[Dc]at hr;subst hr;cases e2 with
  |mp _ xb hx=>
   obtain⟨x1,lN,q1,q2,q3⟩:=hs.h.Vc b _ Hu;rw[hx]at q1;simp at q1;subst q1;refine⟨?_,.v a,⟨sv,?_⟩,e6.rs,fun m' Og s' xe hm' uU Qh=> ?_⟩
   ·unfold V.yf;rw[Gz,ho];rfl
   ·unfold V.op;rw[ho];simp only[e1,e3,ga,e5];rfl
   ·simp only[GI]at Qh;split at Qh
    case h_2=>simp at Qh
    rename_i kt' ud tJ;obtain⟨x2,es2,w1,w2,w3⟩:=uU.h.Vc b _ tJ;rw[(hm'.of b xb hx).1]at w1;simp at w1;subst w1;have he:lN=es2:=xE Qh q3 w3;have hl:V.lookup A xe.H t (.mp xb) kv' false=some a:=by
     rw[<- e5];unfold V.lookup V.mapOf;simp only[q2,w2,he]
    refine⟨{ xe with e:=sv.e },?_⟩;unfold V.op;rw[ho];simp only[e1,e3,ga,hl];rfl
 ·simp at Hz
theorem jV{φ:Nat->Option Nat}{b:List Nat}{i:Nat}{l l':List V.qf}(hl:FN φ l l')(h:V.kR b i l=true):V.kR b i l'=true:=by
 simp only[V.kR,tc,Yh,Bool.not_eq_true',Prod.forall,List.mem_zipIdx_iff_getElem?]at h ⊢;intro t' j X4;obtain⟨t,hj,hr⟩:=hl.get X4;have hw:(t.Fc&&t.writes)=(t'.Fc&&t'.writes):=by
  cases t<;>cases t'<;>first|rfl|exact hr.elim|(have:=hr;simp only[TR]at this;simp[V.qf.writes,V.qf.Fc,this])
 rcases h t j hj with h0|h0
 ·exact .inl (by rw[<- hw];exact h0)
 ·exact .inr h0
theorem FN.snoc{φ:Nat->Option Nat}{l l':List V.qf}{t t':V.qf}(h:FN φ l l')(ht:TR φ t t'):FN φ (l++[t]) (l'++[t']):=by
 induction h with
 |nil=>exact .cons ht .nil
 |cons h1 _ ih=>exact .cons h1 ih
theorem Qy(hg:Ge A Pa){env:Env}{o:Oper}{K:US->St->Option X}{s0:St}(h:op A Pa env Fa s0 o K=some out)(he:s0.e=s.e)(jc:yf A Pa s o=false){m:Mp}{φ:Nat->Option Nat}{sv:V.S}(hs:vm m φ s sv):V.yf A sv o=false:=by
 unfold yf at jc;unfold V.yf;cases h0:V.Wj A o with
 |false=>rfl
 |true=>
  rw[h0,wk]at jc;rw[wk];split at jc
  ·rename_i t x ho;unfold op at h;rw[ho]at h;simp only[aa]at h;obtain⟨p,hp,v,hv,h⟩:=h;rw[he]at hp;obtain⟨pv,e1,e2⟩:=Bd (m:=m) (φ:=φ) hg hp hs.e;have hpn:=Jx hv;simp only[hp]at jc;simp only[ho,e1];cases p with
   |loc i c=>
    cases pv with
    |v a=>exact e2.elim
    |loc j c'=>rfl
   |v p=>
    obtain⟨pa,rfl,e5⟩:=e2.val (fun e=>hpn (by rw[e]));cases e5<;>first|(exact(hpn rfl).elim)|rfl|(simp at jc;done)|skip
    all_goals (rename_i ha;rcases ha with rfl|rfl<;>rfl)
  ·simp at jc
theorem Vu(hg:Ge A Pa){env:Env}(hc:Jc C env.call){all:Array Oper}{b:List Nat}:∀{os:List Oper}{i:Nat}{s:St}{l:List V.qf}{rs:List Rec}{K:St->List V.qf->Option X},Xj A Pa env Fa n all b os i s l rs K=some out->
  ∃s' l1,K s' (l++l1)=some out/\s'.base=s.base/\s'.H.wm=s.H.wm/\∀(m:Mp)(φ:Nat->Option Nat)(sv:V.S)(lv:List V.qf)(cE:List (Oper×List (Nat×V.SV)×V.SV)),vm m φ s sv->FN φ l lv->Iw A C Fa m rs cE->V.Zg A C Fa cE sv->∃xe m' Og F4,V.Xj A C Fa n all b os i sv lv cE=some (xe,lv++F4)/\vm m' Og s' xe/\m.Le m'/\JK φ Og/\Oj m.top m sv.H m' xe.H/\FN Og l1 F4
 |[],i,s,l,rs,K,h=>⟨s,[],by simpa[Xj]using h,rfl,rfl,fun m φ sv lv cE hs _ _ _=>⟨sv,m,φ,[],by simp[V.Xj],hs,.refl m,.refl φ,.refl _ (va _),.nil⟩⟩
 |o::os,i,s,l,rs,K,h=>by
  simp only[Xj,K8,wW]at h;obtain⟨g,s1,h1,h2,h3,h4⟩:=SE h;cases g with
  |true=>
   simp only at h1;split at h1
   ·rename_i Eh;obtain⟨v,k1,k2⟩:=TQ (C:=C) hg hc h1 Eh;split at k1
    case isFalse=>simp at k1
    rename_i kD;simp only[Va]at kD;simp only[aa]at k1;obtain⟨r,hr,s3,hp,k1⟩:=k1;obtain⟨p1,p2,p3⟩:=Qu hp;obtain⟨s4,l1,q1,q2,q3,q4⟩:=Vu hg hc k1;refine⟨s4,.no::l1,by rw[xd]at q1;exact q1,by rw[q2,p1,h2],by rw[q3,p2,h3],fun m φ sv lv cE hs D2 FR Hg=> ?_⟩;obtain⟨g1,g2⟩:=h4 m φ sv hs;obtain⟨f1,vv,⟨svx,f2⟩,f3,f5⟩:=k2 kD.1 r hr m φ sv g2;have f4:=iR kD.1 g2 f3;obtain⟨XC,e7,e8,e9⟩:=p3 m φ sv vv g2 f3;have IV:XC.F=sv.F:=(KU e7);have Uy:V.Zg A C Fa (cE++[(o,sv.e,vv)]) XC:=fun r hr=>by
     have e:∀e',({ XC with e:=e' }:V.S)={ sv with e:=e' }:=fun e'=>by
      obtain⟨a1,a2,a3⟩:=XC;obtain⟨b1,b2,b3⟩:=sv;simp only at e8 IV;subst e8;subst IV;rfl
     rw[e];rcases Mw.1 hr with hr|hr
     ·exact Hg r hr
     ·simp at hr;subst hr;exact⟨svx,f2⟩
    obtain⟨O3,m4,B3,F4,KD,SK,oQ,nQ,tK,i_⟩:=q4 m φ XC (lv++[.no]) _ e9 (D2.snoc (show TR _ .no .no from trivial)) (.snoc FR f5) Uy;rw[e8]at tK;refine⟨O3,m4,B3,.no::F4,?_,SK,oQ,nQ,tK,.cons trivial i_⟩;simp only[V.Xj,g1,ga,f1,if_true,f2,f4,jV D2 kD.2,wk,e7,if_pos Uy,KD]
    simp
   ·rename_i Eh;have nD:=h1;obtain⟨v,s2,k1,k2,k4,k5⟩:=X3 hg hc h1;simp only[aa]at k1;obtain⟨s3,hp,k1⟩:=k1;split at k1
    case isFalse=>simp at k1
    rename_i jD;obtain⟨p1,p2,p3⟩:=Qu hp;obtain⟨s4,l1,q1,q2,q3,q4⟩:=Vu hg hc k1;refine⟨s4,Zc Pa Fa s1 o (V.quietAt A Fa all.toList b i o)::l1,by rw[xd]at q1;exact q1,by rw[q2,p1,k2,h2],by rw[q3,p2,k4,h3],fun m φ sv lv cE hs D2 FR Hg=> ?_⟩;obtain⟨g1,g2⟩:=h4 m φ sv hs;obtain⟨Bv,vv,NU,m2,Sz,e1,e2,e3,e4,e5,e6⟩:=k5 m φ sv g2;obtain⟨XC,e7,e8,e9⟩:=p3 m2 Sz NU vv e2 e3;have Uy:=(FR.mono e4).all e9 jD;obtain⟨O3,m4,B3,F4,KD,SK,oQ,nQ,tK,i_⟩:=q4 m2 Sz XC (lv++[V.Zc A Fa sv o (V.quietAt A Fa all.toList b i o)]) cE e9 ((D2.mono e5).snoc (Bv.mono e5)) (FR.mono e4) Uy;rw[e8]at tK;refine⟨O3,m4,B3,_::F4,?_,SK,e4.trans oQ,e5.trans nQ,e6.trans tK e6.Bk.1,.cons (Bv.mono (e5.trans nQ)) i_⟩;have SL:V.yf A sv o=false:=by
     have hf:yf A Pa s1 o=false:=by simpa using Eh
     cases hw:gO (Zc Pa Fa s1 o (V.quietAt A Fa all.toList b i o))with
     |true=>
      revert nD
      generalize Zc Pa Fa s1 o (V.quietAt A Fa all.toList b i o)=t at hw;intro nD;cases t with
      |heap w=>
       cases w with
       |true=>simp only[TN]at nD;exact Qy (s:=s1) (env:=env) hg nD rfl hf g2
       |false=>simp[gO]at hw
      |_=>simp[gO]at hw
     |false=>rw[nV hw]at nD;exact Qy (s:=s1) hg nD rfl hf g2
    simp only[V.Xj,g1,ga,SL,Od,if_false,e1,e7,if_pos Uy,KD]
    simp
  |false=>
   simp only[aa]at h1;obtain⟨s3,hp,h1⟩:=h1;obtain⟨p1,p2,p3⟩:=Qu hp;obtain⟨s4,l1,q1,q2,q3,q4⟩:=Vu hg hc h1;refine⟨s4,.no::l1,by rw[xd]at q1;exact q1,by rw[q2,p1,h2],by rw[q3,p2,h3],fun m φ sv lv cE hs D2 FR Hg=> ?_⟩;obtain⟨g1,g2⟩:=h4 m φ sv hs;obtain⟨XC,e7,e8,e9⟩:=p3 m φ sv (.v (.Sc [])) g2 dO;have IV:XC.F=sv.F:=(KU e7);have Uy:V.Zg A C Fa cE XC:=fun r hr=>by
    have e:∀e',({ XC with e:=e' }:V.S)={ sv with e:=e' }:=fun e'=>by
     obtain⟨a1,a2,a3⟩:=XC;obtain⟨b1,b2,b3⟩:=sv;simp only at e8 IV;subst e8;subst IV;rfl
    rw[e];exact Hg r hr
   obtain⟨O3,m4,B3,F4,KD,SK,oQ,nQ,tK,i_⟩:=q4 m φ XC (lv++[.no]) cE e9 (D2.snoc (show TR _ .no .no from trivial)) FR Uy;rw[e8]at tK;refine⟨O3,m4,B3,.no::F4,?_,SK,oQ,nQ,tK,.cons trivial i_⟩;simp only[V.Xj,g1,ga,e7,if_pos Uy,KD]
   simp
theorem xL(hg:Ge A Pa){env:Env}(hc:Jc C env.call){os:Array Oper}{draw:Bool}{K:St->Option X}(h:region A Pa env Fa n os draw s K=some out):∃s',K s'=some out/\STo (V.region A C Fa n os draw) s s':=by
 unfold region at h;split at h
 ·rename_i hd;split at h
  case isFalse=>simp at h
  rename_i kI;obtain⟨s',l1,h1,h2,h3,h4⟩:=Vu hg hc h;rw[List.nil_append]at h1;split at h1
  case isFalse=>simp at h1
  rename_i Bv;refine⟨s',h1,h2,h3,fun m φ sv hs=> ?_⟩;obtain⟨xe,m',Og,F4,e1,e2,e3,e4,e5,e6⟩:=h4 m φ sv [] [] hs .nil .nil (fun r hr=>by simp at hr);have:=MQ e2.f.inj e6 Bv;refine⟨xe,m',Og,?_,e2,e3,e4,e5⟩;unfold V.region;rw[if_pos hd,if_pos kI,e1];simp[this]
 ·rename_i hd;obtain⟨s',h1,h2⟩:=kG hg hc h;refine⟨s',h1,h2.1,h2.2.1,fun m φ sv hs=> ?_⟩;unfold V.region;rw[if_neg hd];exact h2.2.2 m φ sv hs
def zQ(run:V.S->Option (V.Ex×V.S))(s:St)(ex:V.Ex)(s':St):Prop:=
 s'.base=s.base/\s'.H.wm=s.H.wm/\∀(m:Mp)(φ:Nat->Option Nat)(sv:V.S),vm m φ s sv->∃xe m' Og,run sv=some (ex,xe)/\vm m' Og s' xe/\Oj s.base m sv.H m' xe.H
def loops(j:Nat->Bool):Code->List Code
 | .seq a b=>loops j a++loops j b
 | .region id os d=>cond (j (2000000+id)) [.region id os d] []
 | .cond c a b=>cond (j (1000000+vf a)) [.cond c a b] (loops j a++loops j b)
 | .block _ c=>loops j c
 | .scope c=>loops j c
 | .loop c=>[.loop c]
 | .rangeFunc g ps a b=>[.rangeFunc g ps a b]
 |_=>[]
def keyOf:Code->Nat
 | .loop c=>vf c
 | .region id _ _=>2000000+id
 | .cond _ a _=>1000000+vf a
 |c=>vf c
def Mc(jG:(X:Type)->Nat->St->(V.Ex->St->Option X)->Option X)(run:Code->V.S->Option (V.Ex×V.S))(c:Code):Prop:=
 ∀(X:Type)(s:St)(K:V.Ex->St->Option X)(out:X),jG X (keyOf c) s K=some out->∃ex s',K ex s'=some out/\zQ (run c) s ex s'
theorem zQ.same{run:V.S->Option (V.Ex×V.S)}{ex:V.Ex}(h:∀sv,run sv=some (ex,sv)):zQ run s ex s:=
 ⟨rfl,rfl,fun m φ sv hs=>⟨sv,m,φ,h sv,hs,.refl _ (by rw[hs.h.len];exact hs.b)⟩⟩
theorem zQ.trans{f g k:V.S->Option (V.Ex×V.S)}{s s1 s2:St}{ex h_:V.Ex}(h:zQ f s ex s1)(h':zQ g s1 h_ s2)(hk:∀sv xe,f sv=some (ex,xe)->k sv=g xe):zQ k s h_ s2:=
 ⟨h'.1.trans h.1,h'.2.1.trans h.2.1,fun m φ sv hs=>by
  obtain⟨Vj,m1,GA,h1,h2,h3⟩:=h.2.2 m φ sv hs;obtain⟨NU,m2,Sz,k1,k2,k3⟩:=h'.2.2 m1 GA Vj h2;rw[h.1]at k3;exact⟨NU,m2,Sz,by rw[hk sv Vj h1];exact k1,k2,h3.trans k3 (va _)⟩⟩
theorem zQ.map{f k:V.S->Option (V.Ex×V.S)}{s s1:St}{ex h_:V.Ex}(h:zQ f s ex s1)(hk:∀sv xe,f sv=some (ex,xe)->k sv=some (h_,xe)):zQ k s h_ s1:=
 ⟨h.1,h.2.1,fun m φ sv hs=>let⟨Vj,m1,GA,h1,h2,h3⟩:=h.2.2 m φ sv hs;⟨Vj,m1,GA,hk _ _ h1,h2,h3⟩⟩
theorem uL{c:Operand}{b:Bool}(hc:val Pa s.e c=some (.bool b)):(Zt s c b).base=s.base/\(Zt s c b).H=s.H/\∀(m:Mp)(φ:Nat->Option Nat)(sv:V.S),vm m φ s sv->vm m φ (Zt s c b) sv:=by
 unfold Zt;split
 ·rename_i t;refine⟨rfl,rfl,fun m φ sv hs=>⟨hs.h,hs.f,fun t'=> ?_,hs.b⟩⟩;simp only[get];split
  ·rename_i e;subst e;have h1:=(OA hc).1;simp[operand]at h1;have:=hs.e t';rw[h1]at this;exact this
  ·exact hs.e t'
 ·exact⟨rfl,rfl,fun m φ sv hs=>hs⟩
theorem yg(hg:Ge A Pa){env:Env}(hc:Jc C env.call){keep:List Nat}:∀{c:Code}{s:St}{K:V.Ex->St->Option X},(∀c'∈loops env.join c,Mc env.loop (V.code A C rf Fa keep n) c')->code A Pa env Fa n c s K=some out->∃ex s',K ex s'=some out/\zQ (V.code A C rf Fa keep n c) s ex s'
 | .skip,s,K,_,h=>⟨.normal,s,h,.same fun _=>rfl⟩
 | .label _,s,K,_,h=>⟨.normal,s,h,.same fun _=>rfl⟩
 | .exit id,s,K,_,h=>⟨.exit id,s,h,.same fun _=>rfl⟩
 | .ret,s,K,_,h=>⟨.ret,s,h,.same fun _=>rfl⟩
 | .region id os draw,s,K,hl,h=>by
  simp only[code]at h;cases hj:env.join (2000000+id)with
  |true=>
   rw[hj]at h;exact hl (.region id os draw) (by simp[loops,hj]) X s K out h
  |false=>
  rw[hj]at h;simp only[cond_false]at h;obtain⟨s',h1,h2⟩:=xL hg hc h;refine⟨.normal,s',h1,h2.1,h2.2.1,fun m φ sv hs=> ?_⟩;obtain⟨xe,m',Og,e1,e2,e3,e4,e5⟩:=h2.2.2 m φ sv hs;exact⟨xe,m',Og,by simp[V.code,e1],e2,e5.less (by rw[hs.h.len];exact hs.b)⟩
 | .seq a b,s,K,hl,h=>by
  simp only[code]at h;obtain⟨ex,s1,h1,h2⟩:=yg hg hc (fun c' Mn=>hl c' (by simp[loops,Mn])) h;cases ex with
  |normal=>
   simp only at h1;obtain⟨JH,s2,k1,k2⟩:=yg hg hc (fun c' Mn=>hl c' (by simp[loops,Mn])) h1;exact⟨JH,s2,k1,h2.trans k2 fun sv xe e=>by simp[V.code,e]⟩
  |exit id=>exact⟨.exit id,s1,h1,h2.map fun sv xe e=>by simp[V.code,e]⟩
  |ret=>exact⟨.ret,s1,h1,h2.map fun sv xe e=>by simp[V.code,e]⟩
 | .cond c x y,s,K,hl,h=>by
  simp only[code]at h;cases hj:env.join (1000000+vf x)with
  |true=>
   rw[hj]at h;exact hl (.cond c x y) (by simp[loops,hj]) X s K out h
  |false=>
  rw[hj]at h;simp only[cond_false,aa]at h;have hl:∀c'∈loops env.join x++loops env.join y,Mc env.loop (V.code A C rf Fa keep n) c':=fun c' Mn=>hl c' (by simp only[loops,hj,cond_false];exact Mn)
  obtain⟨cv,fW,h⟩:=h;split at h
  case h_2=>simp at h
  rename_i b;have key:∀{z:Code}{ex:V.Ex}{s':St},zQ (V.code A C rf Fa keep n z) (Zt s c b) ex s'->(∀sv,V.val A sv.e c=some (.bool b)->V.code A C rf Fa keep n (.cond c x y) sv=V.code A C rf Fa keep n z sv)->zQ (V.code A C rf Fa keep n (.cond c x y)) s ex s':=fun{z ex s'}h1 h2=>by
   obtain⟨q1,q2,q3⟩:=uL fW;refine⟨h1.1.trans q1,h1.2.1.trans (by rw[q2]),fun m φ sv hs=> ?_⟩;obtain⟨cv',e1,e2⟩:=Lc hg fW hs.e;cases e2;obtain⟨xe,m',Og,k1,k2,k3⟩:=h1.2.2 m φ sv (q3 m φ sv hs);rw[q1]at k3;exact⟨xe,m',Og,by rw[h2 sv e1];exact k1,k2,k3⟩
  cases b with
  |true=>
   simp only[cond_true]at h;obtain⟨ex,s1,h1,h2⟩:=yg hg hc (fun c' Mn=>hl c' (by simp[Mn])) h;exact⟨ex,s1,h1,key h2 fun sv e=>by simp[V.code,e]⟩
  |false=>
   simp only[cond_false]at h;obtain⟨ex,s1,h1,h2⟩:=yg hg hc (fun c' Mn=>hl c' (by simp[Mn])) h;exact⟨ex,s1,h1,key h2 fun sv e=>by simp[V.code,e]⟩
 | .block id c,s,K,hl,h=>by
  simp only[code]at h;obtain⟨ex,s1,h1,h2⟩:=yg hg hc (fun c' Mn=>hl c' (by simpa[loops]using Mn)) h;cases ex with
  |normal=>exact⟨.normal,s1,h1,h2.map fun sv xe e=>by simp[V.code,e]⟩
  |ret=>exact⟨.ret,s1,h1,h2.map fun sv xe e=>by simp[V.code,e]⟩
  |exit NC=>
   simp only at h1;split at h1
   ·rename_i hid;exact⟨.normal,s1,h1,h2.map fun sv xe e=>by simp[V.code,e,hid]⟩
   ·rename_i hid;exact⟨.exit NC,s1,h1,h2.map fun sv xe e=>by simp[V.code,e,hid]⟩
 | .loop c,s,K,hl,h=>by
  simp only[code]at h;exact hl (.loop c) (by simp[loops]) X s K out h
 | .rangeFunc g ps a b,s,K,hl,h=>by
  simp only[code]at h;exact hl (.rangeFunc g ps a b) (by simp[loops]) X s K out h
 | .scope c,s,K,hl,h=>by
  simp only[code]at h;obtain⟨ex,s1,h1,h2⟩:=yg hg hc (fun c' Mn=>hl c' (by simpa[loops]using Mn)) h;exact⟨ex,s1,h1,h2.map fun sv xe e=>by simp[V.code,e]⟩
 | .goto _,s,K,_,h=>by simp[code]at h
 | .refuse _,s,K,_,h=>by simp[code]at h
end
end Go.U
