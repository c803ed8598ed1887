/- An evaluator of the translated code and that it is right: each of its answers is an answer of the model. -/
import Derived.Test.YtcbcifeaalkdfaaGreatDoorA1
import Derived.Laws.StructEq
import Derived.ChangeKeysEq
import Derived.Laws.BytesString
import Derived.Laws.IdiomStrings
set_option linter.unusedVariables false
set_option linter.unusedSimpArgs false
set_option linter.unusedSectionVars false
open Array renaming getElem?_append_left→Qv
open List renaming length_nil→Om,eq_nil_of_length_eq_zero→Xt,getElem?_drop→Lc,getElem?_take→Jb,getElem?_map→xe,getElem?_eq_getElem→Da
open Nat renaming le_refl→ya,add_mul→Nf,add_assoc→Zf,zero_add→Qf
open Option renaming bind_eq_some_iff→aa,map_eq_some_iff→ja
open Option.some renaming injEq→Wc
namespace Go.V
open Go
variable [Inhabited Rn]
section
variable {A:Oi}{g:Gx}{f:Fx}{w:World}{s:S}{a:Act}
theorem uw{x:Option Operand}{n:Option Int}(h:yh A s.e x=some n)(hw:Jc A.Na g w s.H)(he:Mf g f w s.e a.tmps):
  (n=none/\x.map a.eval=none)\/∃i k,n=some i/\x.map a.eval=some (.int k i):=by
 cases x with
 |none=>simp[yh]at h;subst h;exact .inl ⟨rfl,rfl⟩
 |some x=>
  simp only[yh,aa,ja]at h;obtain⟨av,A_,i,hi,rfl⟩:=h;obtain⟨k,hk⟩:=Um hi (Fc A_ hw he);exact .inr ⟨i,k,rfl,by simp[hk]⟩
theorem Hi{IL:Bool}{n cap:Nat}{lo hi:Option Int}{lv hv:Option Value}(Sv:(lo=none/\lv=none)\/∃i k,lo=some i/\lv=some (.int k i))(qS:(hi=none/\hv=none)\/∃i k,hi=some i/\hv=some (.int k i))
  (h0:0<=lo.getD 0) (h1:lo.getD 0<=hi.getD n) (h2:hi.getD n<=n) (au:n<=cap):
  (Instr.sliceBounds IL n cap lv hv none).run A.P w= .ok ((lo.getD 0).toNat,(hi.getD n).toNat,cap) w:=by
 unfold Instr.sliceBounds;rcases qS with⟨rfl,rfl⟩|⟨i,k,rfl,rfl⟩<;>rcases Sv with⟨rfl,rfl⟩|⟨j,k',rfl,rfl⟩
 ·simp
 ·simp at h0 h1;simp[Instr.sliceBound,asIntOf,h0,h1]
 ·simp at h0 h1 h2;have:i<=(cap:Int):=by omega
  simp[Instr.sliceBound,asIntOf,h1,this]
 ·simp at h0 h1 h2;have:i<=(cap:Int):=by omega
  have h3:0<=i:=by omega
  simp[Instr.sliceBound,asIntOf,h3,this,h0];intro hc;omega
theorem Qr{lo hi:Option Int}{n l h:Nat}(e:PK lo hi n=some (l,h)):0<=lo.getD 0/\lo.getD 0<=hi.getD n/\hi.getD n<=n/\l=(lo.getD 0).toNat/\h=(hi.getD n).toNat/\l<=h/\h<=n:=by
 unfold PK at e;split at e
 case isFalse=>simp at e
 case isTrue hc=>simp at e;obtain⟨rfl,rfl⟩:=e;obtain⟨h1,h2,h3⟩:=hc;exact⟨h1,h2,h3,rfl,rfl,by omega,by omega⟩
theorem SG{x:AV}{v:Value}(h:qZ x=true)(hx:Cb g w x v):∃k,v= .int k 0:=by
 unfold qZ at h;split at h
 ·cases hx;simp at h;subst h;exact⟨_,rfl⟩
 ·simp at h
theorem fI{t:TypeId}{x v:AV}{xv:Value}(h:jj A t x=some v)(hx:Cb g w x xv):
  ∃rv,(∀k1 k2,(Instr.sliceAt t xv none (some (.int k1 0)) (some (.int k2 0))).run A.P w= .ok rv w)/\Cb g w v rv:=by
 unfold jj at h;split at h
 case h_2=>simp at h
 rename_i e hu;simp only[aa]at h;obtain⟨n,hn,h⟩:=h;have hb:∀(len cap:Nat)(k1 k2:IntKind),(Instr.sliceBounds true len cap none (some (.int k1 0)) (some (.int k2 0))).run A.P w= .ok (0,0,0) w:=λlen cap k1 k2=>by
  unfold Instr.sliceBounds;simp[Instr.sliceBound,asIntOf]
 have go:∀(a:Option Addr)(len cap:Nat)(k1 k2:IntKind),(Instr.sliceAt t (.slice a len cap) none (some (.int k1 0)) (some (.int k2 0))).run A.P w= .ok (.slice a 0 0) w:=λa len cap k1 k2=>by
  simp[Instr.sliceAt,run_underlying hu,Instr.slice,hb,Ld hn]
 split at h
 ·cases hx;simp at h;subst h;exact⟨_,go _ _ _,.Xa⟩
 ·cases hx;simp at h;subst h;exact⟨_,go _ _ _,.Ef _⟩
 ·simp at h;subst h;cases hx<;>exact⟨_,go _ _ _,.Ef _⟩
 ·simp at h;subst h;cases hx<;>exact⟨_,go _ _ _,.Ef _⟩
 ·simp at h
theorem bL{t:TypeId}{x v:AV}{xv:Value}{lo hi:Option Int}{lv hv:Option Value}(h:slice A s.H t x lo hi=some v)(hw:Jc A.Na g w s.H)(hx:Cb g w x xv)
  (Sv:(lo=none/\lv=none)\/∃i k,lo=some i/\lv=some (.int k i)) (qS:(hi=none/\hv=none)\/∃i k,hi=some i/\hv=some (.int k i)):
  ∃rv,(Instr.sliceAt t xv lv hv none).run A.P w= .ok rv w/\Cb g w v rv:=by
 have Rm:∀d,A.P.underlying t=some d->(∀n e,d≠ .array n e)->(Instr.sliceAt t xv lv hv none).run A.P w=(Instr.slice t xv lv hv none).run A.P w:=λd hu td=>by
  simp only[Instr.sliceAt,Sem.run_bind,run_underlying hu,Result.andThen_ok]
  all_goals (cases d<;>first|rfl|exact absurd rfl (td _ _))
 unfold slice at h;split at h
 ·rename_i sb hu;simp only[ja]at h;obtain⟨⟨l,h'⟩,hb,rfl⟩:=h;obtain⟨b1,b2,b3,rfl,rfl,b4,b5⟩:=Qr hb;cases hx;have hb:=Hi (A:=A) (w:=w) (IL:=false) (n:=sb.size) (cap:=sb.size) Sv qS b1 b2 b3 (ya _);refine⟨_,?_,Cb.str _⟩;rw[Rm _ hu (by simp)];simp[Instr.slice,run_underlying hu,hb]
 ·rename_i e hu;simp only[aa,ja]at h;obtain⟨sz,eg,⟨l,h'⟩,hb,rfl⟩:=h;obtain⟨b1,b2,b3,rfl,rfl,b4,b5⟩:=Qr hb;cases hx;have hb:=Hi (A:=A) (w:=w) (IL:=true) (n:=0) (cap:=0) Sv qS b1 b2 b3 (ya _);refine⟨.slice none 0 0,?_,Cb.Xa⟩;rw[Rm _ hu (by simp)];have e1:(lo.getD 0).toNat=0:=by omega
  have e2:(hi.getD (0:Nat)).toNat=0:=by omega
  rw[e1,e2]at hb;simp[Instr.slice,run_underlying hu,hb,Ld eg]
 ·rename_i e hu;simp only[aa,ja]at h;obtain⟨sz,eg,⟨l,h'⟩,hb,rfl⟩:=h;obtain⟨b1,b2,b3,rfl,rfl,b4,b5⟩:=Qr hb;cases hx with
  |Ef ad=>
  have hb:=Hi (A:=A) (w:=w) (IL:=true) (n:=0) (cap:=0) Sv qS b1 b2 b3 (ya _);refine⟨.slice (some ad) 0 0,?_,Cb.Ef ad⟩;rw[Rm _ hu (by simp)];have e1:(lo.getD 0).toNat=0:=by omega
  have e2:(hi.getD (0:Nat)).toNat=0:=by omega
  rw[e1,e2]at hb;simp[Instr.slice,run_underlying hu,hb,Ld eg]
 ·rename_i e sz rows hu;simp only[aa]at h;obtain⟨⟨l,h'⟩,hb,h⟩:=h;simp only at h;split at h
  case isFalse=>simp at h
  case isTrue eg=>
  simp at h;subst h;obtain⟨b1,b2,b3,rfl,rfl,b4,b5⟩:=Qr hb;cases hx with
  |lits _ ad=>
   have hb:=Hi (A:=A) (w:=w) (IL:=true) (n:=0) (cap:=0) Sv qS b1 b2 b3 (ya _);have e1:(lo.getD 0).toNat=0:=by simp at b3 b2;omega
   have e2:(hi.getD (([]:List (List AV)).length:Nat)).toNat=0:=by simp at b3 b2 ⊢;omega
   simp only[Om]at hb e2;rw[e1,e2]at hb;refine⟨.slice (some ad) 0 0,?_,by simp only[Om,e1,e2,List.take_zero,List.drop_nil];exact Cb.lits sz ad⟩;rw[Rm _ hu (by simp)];simp[Instr.slice,run_underlying hu,hb,Ld eg]
  |lit _ ad cap _ vs hs hc hz hl ei h1c hrel=>
  have hb:=Hi (A:=A) (w:=w) (IL:=true) (n:=rows.length) (cap:=cap) Sv qS b1 b2 b3 hc;generalize(lo.getD 0).toNat=l at *
  generalize(hi.getD (rows.length:Nat)).toNat=h' at *
  rw[Rm _ hu (by simp)];have hlen:((rows.take h').drop l).length=h'-l:=by simp;omega
  by_cases eW:cap=l
  ·have h0:(rows.take h').drop l=[]:=Xt (by rw[hlen];omega);refine⟨.slice (some ad) 0 0,?_,?_⟩
   ·have hh:h'-l=0:=by omega
    subst eW;simp[Instr.slice,run_underlying hu,hb,Ld eg,hh]
   ·rw[h0];exact .lit (g:=g) (w:=w) [] ad 0 sz (λ_ _=>undef) hs (ya _) (λh=>absurd rfl h) (λi row h=>by simp at h) (λi c h=>by simp at h) (λi c h=>by simp at h) (λi row c x h=>by simp at h)
  ·refine⟨.slice (some (ad.add (l * sz))) (h'-l) (cap-l),?_,?_⟩
   ·simp[Instr.slice,run_underlying hu,hb,Ld eg,eW]
   ·rw[Zl hs,Vg,<- hlen];have yq:∀(i:Nat)(row:List AV),((rows.take h').drop l)[i]?=some row->rows[l+i]?=some row:=λi row hi=>by
     rw[Lc,Jb]at hi;split at hi
     ·exact hi
     ·simp at hi
    refine .lit _ ⟨ad.block,ad.off+l * sz,none⟩ (cap-l) sz (λi c=>vs (l+i) c) rfl (by omega) (λtd=>⟨(hz (by intro e;subst e;simp at td)).1,λhk=>(hz (by intro e;subst e;simp at td)).2 (by first|exact XR (BI hk)|exact BI (XR hk))⟩) (λi row hi=>hl _ _ (yq i row hi)) (λi c hi Gn=> ?_) (λi c hi Gn=>h1c _ c (by omega) Gn) (λi row c x hi hx=>hrel _ row c x (yq i row hi) hx);have:=ei (l+i) c (by omega) Gn;rw[Nf,<- Zf]at this;exact this
 ·rename_i e b r n hu;simp only[aa]at h;obtain⟨⟨l,h'⟩,hb,sz,DO,h⟩:=h;split at h
  case isFalse=>simp at h
  case isTrue eg=>
  simp at h;subst h;obtain⟨b1,b2,b3,rfl,rfl,b4,b5⟩:=Qr hb;rw[Rm _ hu (by simp)];cases hx with
  |sl _ _ _ cap hd hle ez hmc=>
   obtain⟨e1,e2⟩:=pR hw hd DO.symm;have hb:=Hi (A:=A) (w:=w) (IL:=true) (n:=n) (cap:=cap) Sv qS b1 b2 b3 hle;generalize(lo.getD 0).toNat=l at *
   generalize(hi.getD (n:Nat)).toNat=h' at *
   by_cases eW:cap=l
   ·refine⟨.slice (some ⟨(g.ρ b).R,(g.ρ b).o+r * (g.ρ b).sz,none⟩) 0 0,?_,?_⟩
    ·have hh:h'-l=0:=by omega
     subst eW;simp[Instr.slice,run_underlying hu,hb,Ld eg,hh]
    ·have hh:h'-l=0:=by omega
     rw[hh];exact .sR b (r+l) _ hd
   ·refine⟨.slice (some ⟨(g.ρ b).R,(g.ρ b).o+(r+l) * (g.ρ b).sz,none⟩) (h'-l) (cap-l),?_,?_⟩
    ·simp[Instr.slice,run_underlying hu,hb,Ld eg,eW,Vg,e1,Nf,Zf]
    ·exact .sl b (r+l) (h'-l) (cap-l) hd (by omega) (by rw[show r+l+(cap-l)=r+cap by omega];exact ez) (by omega)
  |sR _ _ ad hd=>
   have hb:=Hi (A:=A) (w:=w) (IL:=true) (n:=0) (cap:=0) Sv qS b1 b2 b3 (ya _);have e1:(lo.getD 0).toNat=0:=by omega
   have e2:(hi.getD (0:Nat)).toNat=0:=by omega
   rw[e1,e2]at hb ⊢;refine⟨.slice (some ad) 0 0,?_,.sR b r ad hd⟩;simp[Instr.slice,run_underlying hu,hb,Ld eg]
 ·simp at h
theorem Dm{d:Nat}(ih:∀(t:TypeId)(x y:AV)(b:Bool)(xv yv:Value),ay A d t x y=some b->Cb g w x xv->Cb g w y yv->(Op.equalIn (d+9000) t xv yv).run A.P w= .ok b w)
  {xs ys:List AV} {xv yv:Array Value} (hx:Ay g w xs xv) (hy:Ay g w ys yv):∀(fs:List Field)(b:Bool),eqFields A (ay A d) xs ys fs=some b->(Op.eqFields (d+9000) xv yv fs).run A.P w= .ok b w
 |[],b,h=>by simp[eqFields]at h;subst h;simp[Op.eqFields]
 |fd::fs,b,h=>by
  unfold eqFields at h;unfold Op.eqFields;split at h
  ·rename_i hn;rw[if_neg (by simpa using hn)];exact Dm ih hx hy fs b h
  ·rename_i hn;rw[if_pos (by simpa using hn)];simp only[aa,ja]at h;obtain⟨x,hpx,y,hpy,b1,nr,c,hc,rfl⟩:=h;obtain⟨pY,e1,r1⟩:=Tj (A:=A) hpx hx;obtain⟨yv',e2,r2⟩:=Tj (A:=A) hpy hy;have e3:=ih _ _ _ _ _ _ nr r1 r2;have e4:=Dm ih hx hy fs c hc;simp only[Sem.run_bind,e1,e2,e3,Result.andThen_ok,Sem.run_ite,e4,Sem.run_pure];cases b1<;>simp
theorem Bu{d:Nat}{e:TypeId}{sz:Nat}(ih:∀(x y:AV)(b:Bool)(xv yv:Value),ay A d e x y=some b->Cb g w x xv->Cb g w y yv->(Op.equalIn (d+9000) e xv yv).run A.P w= .ok b w)
  {xs ys:List AV} {xv yv:Array Value} (hx:Ay g w xs xv) (hy:Ay g w ys yv):∀(n i:Nat)(b:Bool),qh A (ay A d e) e sz xs ys n i=some b->(Op.eqItems (d+9000) e sz xv yv (List.range' i n)).run A.P w= .ok b w
 |0,i,b,h=>by simp[qh]at h;subst h;simp[Op.eqItems]
 |n+1,i,b,h=>by
  unfold qh at h;rw[List.range'_succ];unfold Op.eqItems;simp only[aa,ja]at h;obtain⟨x,hpx,y,hpy,b1,nr,c,hc,rfl⟩:=h;obtain⟨pY,e1,r1⟩:=Tj (A:=A) hpx hx;obtain⟨yv',e2,r2⟩:=Tj (A:=A) hpy hy;have e3:=ih _ _ _ _ _ nr r1 r2;have e4:=Bu ih hx hy n (i+1) c hc;simp only[Sem.run_bind,e1,e2,e3,Result.andThen_ok,Sem.run_ite,e4,Sem.run_pure];cases b1<;>simp
theorem Pt:∀(d:Nat)(t:TypeId)(x y:AV)(b:Bool)(xv yv:Value),ay A d t x y=some b->Cb g w x xv->Cb g w y yv->(Op.equalIn (d+9000) t xv yv).run A.P w= .ok b w
 |0,t,x,y,b,xv,yv,h,_,_=>by simp[ay]at h
 |d+1,t,x,y,b,xv,yv,h,hx,hy=>by
  rw[show d+1+9000=(d+9000)+1 by omega];unfold ay at h;split at h
  ·rename_i hu;simp at h;subst h;cases hx;cases hy;exact run_equalIn_bool' w _ t _ _ hu
  ·rename_i k0 k a' k' b' hu;split at h
   case isFalse=>simp at h
   case isTrue e=>
    subst e;simp at h;subst h;cases hx;cases hy;rw[run_equalIn_int w _ t _ _ _ _ hu];congr 1
  ·rename_i hu;simp at h;subst h;cases hx;cases hy;rw[run_equalIn_string w _ t _ _ hu]
  ·rename_i fs xs ys hu;split at h
   case isTrue=>simp at h
   case isFalse GO=>
    obtain⟨pY,rfl,Eg⟩:=qi hx;obtain⟨yv',rfl,Ze⟩:=qi hy;have hfo:A.P.fieldsOf t=fs:=by simp[Program.fieldsOf,hu]
    rw[run_equalIn_struct w _ t _ _ (by rw[hfo];exact hu) (by simpa using GO),hfo];exact Dm (Pt d) Eg Ze fs.toList b h
  ·rename_i n e xs ys hu;simp only[aa]at h;obtain⟨sz,eg,h⟩:=h;obtain⟨pY,rfl,Eg⟩:=qi hx;obtain⟨yv',rfl,Ze⟩:=qi hy;unfold size at eg;obtain⟨i,hi,rfl⟩:=ja.1 eg;have hc:A.P.cellsOf e=i.size:=by simp[Program.cellsOf,hi]
   rw[run_equalIn_array w _ _ _ hu hi,hc,List.range_eq_range'];exact Bu (Pt d e) Eg Ze n 0 b h
  ·simp at h
end
end Go.V
namespace Go.V
open Go
variable [Inhabited Rn]
section
variable {A:Oi}{g:Gx}{f:Fx}{w:World}{s:S}{a:Act}
set_option maxHeartbeats 2000000 in
theorem WE{t:TypeId}{x y:AV}{b:Bool}{xv yv:Value}(h:gq A t x y=some b)(hx:Cb g w x xv)(hy:Cb g w y yv):(Op.equal t xv yv).run A.P w= .ok b w:=by
 unfold gq at h
 unfold Op.equal
 split at h
 case h_2 fs xs ys hu=>
  split at h
  · simp at h
  · exact Pt 1000 t _ _ b xv yv h hx hy
 case h_3 fs xs ys hu=>
  split at h
  · simp at h
  · exact Pt 1000 t _ _ b xv yv h hx hy
 all_goals
  first
  |(simp at h;done)
  |(rename_i hu
    simp only[Wc]at h;subst h
    have hd:Op.maxDepth=9999+1:=rfl
    rw[hd]
    generalize 9999=d
    cases hx<;>cases hy<;>simp[Op.equalIn,run_underlying hu])
set_option maxHeartbeats 2000000 in
theorem YE{op:BinOp}{t:TypeId}{ox oy:Operand}{x y:AV}{b:Bool}{xv yv:Value}(h:gq A t x y=some b)(hx:Cb g w x xv)(hy:Cb g w y yv):(eqGuard op t ox oy xv yv).run A.P w= .ok () w:=by
 unfold gq at h;split at h
 case h_2 fs xs ys hu=>
  split at h
  ·simp at h
  ·rename_i hg;obtain⟨pY,rfl,Eg⟩:=qi hx;obtain⟨yv',rfl,Ze⟩:=qi hy;exact run_eqGuard_agg w op t ox oy _ _ (by simpa using hg)
 case h_3 fs xs ys hu=>
  split at h
  ·simp at h
  ·rename_i hg;obtain⟨pY,rfl,Eg⟩:=qi hx;obtain⟨yv',rfl,Ze⟩:=qi hy;exact run_eqGuard_agg w op t ox oy _ _ (by simpa using hg)
 all_goals
  first
  |(simp at h;done)
  |(cases hx<;>cases hy<;>cases op<;>simp[eqGuard])
theorem Lr{op:BinOp}{t:TypeId}{ox oy:Operand}{k k':IntKind}{x y:Int}:(eqGuard op t ox oy (.int k x) (.int k' y)).run A.P w= .ok () w:=by
 cases op<;>simp[eqGuard]
theorem cN{op:BinOp}{t:TypeId}{ox oy:Operand}{x y:ByteArray}:(eqGuard op t ox oy (.string x) (.string y)).run A.P w= .ok () w:=by
 cases op<;>simp[eqGuard]
theorem KL{op:BinOp}{k:IntKind}{x y:Int}{t:TypeId}{v:AV}(h:ir op k x y=some v):∃rv,(binOp op t (.int k x) (.int k y)).run A.P w= .ok rv w/\Cb g w v rv:=by
 cases op<;>simp only[ir]at h
 case quo=>
  split at h
  ·simp at h
  ·rename_i hy;simp at h;subst h;exact⟨_,by simp[binOp,Op.intDiv,hy],.int _ _⟩
 case rem=>
  split at h
  ·simp at h
  ·rename_i hy;simp at h;subst h;exact⟨_,by simp[binOp,Op.intDiv,hy],.int _ _⟩
 case and=>simp[bits]at h;subst h;exact⟨_,by simp[binOp,Op.intBits],.int _ _⟩
 case or=>simp[bits]at h;subst h;exact⟨_,by simp[binOp,Op.intBits],.int _ _⟩
 case xor=>simp[bits]at h;subst h;exact⟨_,by simp[binOp,Op.intBits],.int _ _⟩
 case andNot=>simp[bits]at h;subst h;exact⟨_,by simp[binOp,Op.intBits],.int _ _⟩
 case shl=>simp at h
 case shr=>simp at h
 case add=>simp at h;subst h;exact⟨_,by simp[binOp,Op.intArith],.int _ _⟩
 case sub=>simp at h;subst h;exact⟨_,by simp[binOp,Op.intArith],.int _ _⟩
 case mul=>simp at h;subst h;exact⟨_,by simp[binOp,Op.intArith],.int _ _⟩
 case eql=>simp at h;subst h;exact⟨.bool (decide (x=y)),by simp[binOp,Op.intCmp];rfl,.bool _⟩
 case neq=>simp at h;subst h;exact⟨.bool (!decide (x=y)),by simp[binOp,Op.intCmp];rfl,.bool _⟩
 case lss=>simp at h;subst h;exact⟨_,by simp[binOp,Op.intCmp],.bool _⟩
 case leq=>simp at h;subst h;exact⟨_,by simp[binOp,Op.intCmp],.bool _⟩
 case gtr=>simp at h;subst h;exact⟨_,by simp[binOp,Op.intCmp],.bool _⟩
 case geq=>simp at h;subst h;exact⟨_,by simp[binOp,Op.intCmp],.bool _⟩
theorem YK{op:BinOp}{x y:ByteArray}{t:TypeId}{v:AV}(h:ku op x y=some v):∃rv,(binOp op t (.string x) (.string y)).run A.P w= .ok rv w/\Cb g w v rv:=by
 cases op<;>simp only[ku]at h
 case add=>
  split at h
  case isFalse=>simp at h
  case isTrue hle=>
   simp at h;subst h;have hm:¬((x.size:Int)+(y.size:Int)>9223372036854775807):=by omega
   refine⟨.string (x++y),?_,.str _⟩;have:¬(((x.size+y.size:Nat):Int)>IntKind.i64.max):=by
    have:IntKind.i64.max=9223372036854775807:=by decide
    rw[this];omega
   simp only[binOp,Op.stringOp,if_neg this];rfl
 all_goals first
  |(simp at h;done)
  |(simp only[Wc]at h;subst h;exact⟨_,rfl,.bool _⟩)
set_option maxHeartbeats 2000000 in
theorem uN{op:BinOp}{t:TypeId}{ox oy:Operand}{x y v:AV}{xv yv:Value}(h:binop A op t x y=some v)(hx:Cb g w x xv)(hy:Cb g w y yv):
  ∃rv,(eqGuard op t ox oy xv yv).run A.P w= .ok () w/\(binOp op t xv yv).run A.P w= .ok rv w/\Cb g w v rv:=by
 unfold binop at h;split at h
 ·split at h
  case isFalse=>simp at h
  case isTrue hb=>
   simp at h;subst h;cases hx;cases hy;have:¬(_:Int)<0:=Int.not_lt.2 hb;exact⟨_,Lr,by simp[binOp,Op.shift,this],.int _ _⟩
 ·split at h
  case isFalse=>simp at h
  case isTrue hb=>
   simp at h;subst h;cases hx;cases hy;have:¬(_:Int)<0:=Int.not_lt.2 hb;exact⟨_,Lr,by simp[binOp,Op.shift,this],.int _ _⟩
 ·split at h
  case isFalse=>simp at h
  case isTrue e=>
   subst e;cases hx;cases hy;obtain⟨rv,h1,h2⟩:=KL (A:=A) (g:=g) (w:=w) (t:=t) h;exact⟨rv,Lr,h1,h2⟩
 ·cases hx;cases hy;obtain⟨rv,h1,h2⟩:=YK (A:=A) (g:=g) (w:=w) (t:=t) h;exact⟨rv,cN,h1,h2⟩
 ·rename_i n_ hn2;simp only[ja]at h;obtain⟨b,hb,rfl⟩:=h;refine⟨.bool b,YE hb hx hy,?_,.bool _⟩;have e:=WE hb hx hy;have rag:binOp .eql t xv yv=(do pure (.bool (<- Op.equal t xv yv))):=by
   unfold gq at hb;split at hb
   all_goals
    first
    |(simp at hb;done)
    |(cases hx<;>cases hy<;>rfl)
  rw[rag];simp[e]
 ·simp only[ja]at h;obtain⟨b,hb,rfl⟩:=h;refine⟨.bool (!b),YE hb hx hy,?_,.bool _⟩;have e:=WE hb hx hy;have rag:binOp .neq t xv yv=(do pure (.bool (!(<- Op.equal t xv yv)))):=by
   unfold gq at hb;split at hb
   all_goals
    first
    |(simp at hb;done)
    |(cases hx<;>cases hy<;>rfl)
  rw[rag];simp[e]
 ·simp at h
theorem LN{op:UnOp}{x v:AV}{xv:Value}(h:unop op x=some v)(hx:Cb g w x xv):∃rv,(Op.unary op xv).run A.P w= .ok rv w/\Cb g w v rv:=by
 unfold unop at h;split at h
 ·simp at h;subst h;cases hx;exact⟨_,by simp[Op.unary,Op.intArith],.int _ _⟩
 ·simp[bits]at h;subst h;cases hx;exact⟨_,by simp[Op.unary,Op.intBits],.int _ _⟩
 ·simp at h;subst h;cases hx;exact⟨_,by simp[Op.unary],.bool _⟩
 ·simp at h
theorem NL{t:TypeId}{x v:AV}{xv:Value}{k:IntKind}{i:Int}(h:index A t x i=some v)(hx:Cb g w x xv):∃rv,(Instr.index t xv (.int k i)).run A.P w= .ok rv w/\Cb g w v rv:=by
 unfold index at h;split at h
 ·rename_i n e cs hu;split at h
  case isFalse=>simp at h
  case isTrue hr=>
   obtain⟨h0,h1⟩:=xk hr;simp only[aa]at h;obtain⟨sz,eg,h⟩:=h;obtain⟨vs,rfl,U8⟩:=qi hx;obtain⟨rv,e1,e2⟩:=Tj (A:=A) h U8;exact⟨rv,by simp[Instr.index,asIntOf,run_underlying hu,h0,h1,Ld eg,e1],e2⟩
 ·rename_i sb hu;split at h
  case isFalse=>simp at h
  case isTrue hr=>
   obtain⟨h0,h1⟩:=xk hr;simp at h;subst h;cases hx;have Mc:i.toNat<sb.size:=by omega
   refine⟨_,?_,.int _ _⟩;simp[Instr.index,asIntOf,run_underlying hu,h0,Mc,getElem!_pos]
 ·simp at h
theorem my{g:Gx}{w:World}(l:List UInt8)(cs:Array Value)(off:Nat)(h:∀(i:Nat)(b:UInt8),l[i]?=some b->cs[off+i]?=some (.int .u8 (b.toNat:Int)))(r:Nat)(row:List AV)
  (hr:(l.map λb=>[AV.int .u8 (b.toNat:Int)])[r]?=some row):row.length=1/\Lf g w cs (off+r * 1) row:=by
 rw[xe]at hr;cases hb:l[r]? with
 |none=>simp[hb]at hr
 |some b=>
  simp[hb]at hr;subst hr;refine⟨rfl,λc x hx=> ?_⟩;cases c with
  |zero=>simp at hx;subst hx;exact⟨_,by simpa using h r b hb,rfl,.int _ _⟩
  |succ c=>simp at hx
end
end Go.V
namespace Go.V
open Go
variable [Inhabited Rn]
section
variable {A:Oi}{g:Gx}{f:Fx}{w:World}{s:S}{a:Act}
theorem Gg{H:AH}{x:AV}{xv:Value}{rows:List (List AV)}(h:rowsOf H x=some rows)(hw:Jc A.Na g w H)(hx:Cb g w x xv):
  ∃ao cap,xv= .slice ao rows.length cap/\rows.length<=cap/\(rows≠[]->∃ad sz,ao=some ad/\ad.spot=none/\∀(i:Nat)(row:List AV),rows[i]?=some row->row.length=sz/\zn g w ad.block (ad.off+i * sz) row):=by
 unfold rowsOf at h;split at h
 ·simp at h;subst h;cases hx;exact⟨none,0,rfl,ya _,λh=>absurd rfl h⟩
 ·simp at h;subst h;cases hx with
  |Ef ad=>exact⟨some ad,0,rfl,ya _,λh=>absurd rfl h⟩
 ·rename_i sz xh;simp at h;subst h;cases hx with
  |lits _ ad=>exact⟨some ad,0,rfl,ya _,λh=>absurd rfl h⟩
  |lit _ ad cap _ vs hs hc hz hl ei h1c hrel=>
   refine⟨some ad,cap,rfl,hc,λtd=>⟨ad,sz,rfl,hs,λi row hi=>⟨hl i row hi,λj x hx=> ?_⟩⟩⟩;have h1:=getElem?_lt' hi;have h2:=getElem?_lt' hx;rw[hl i row hi]at h2;exact⟨vs i j,ei i j h1 h2,h1c i j h1 h2,hrel i row j x hi hx⟩
 ·rename_i b r n;split at h
  case h_2=>simp at h
  case h_1 xh sz ty hb=>
  split at h
  case isFalse=>simp at h
  case isTrue hle=>
  simp at h;subst h;have hlen:((xh.drop r).take n).length=n:=by simp;omega
  cases hx with
  |sl _ _ _ cap hd hn ez=>
   obtain⟨_,fg,eg,he,cs,⟨T,fz,hR,_⟩,de⟩:=hw.Kf b _ hd hb;refine⟨_,cap,by rw[hlen],by rw[hlen];exact hn,λtd=>⟨_,sz,rfl,rfl,λi row hi=> ?_⟩⟩;rw[Jb]at hi;split at hi
   case isFalse=>simp at hi
   case isTrue Zt=>
   rw[Lc]at hi;obtain⟨hl,hr⟩:=de _ _ hi;refine⟨hl,?_⟩;have:=zn.oO hR hr;rw[Nf,<- Zf]at this;rw[eg];exact this
  |sR _ _ ad hd=>
   refine⟨some ad,0,by rw[hlen],by simp,λtd=>absurd (Xt (by simp)) td⟩
 ·simp at h
theorem Qq:∀{rows:List (List AV)}{l:List UInt8},Ti rows=some l->l.length=rows.length/\∀(i:Nat)(row:List AV),rows[i]?=some row->∃n:Int,row=[.int .u8 n]/\l[i]?=some (UInt8.ofNat n.toNat)
 |[],l,h=>by simp[Ti]at h;subst h;exact⟨rfl,λi row h=>by simp at h⟩
 |row::rows,l,h=>by
  unfold Ti at h;split at h
  ·simp at *
  ·rename_i n rest heq;simp only[List.cons.injEq]at heq;obtain⟨rfl,rfl⟩:=heq;simp only[aa]at h;obtain⟨l',Fg,h⟩:=h;simp at h;subst h;obtain⟨h1,h2⟩:=Qq Fg;refine⟨by simp[h1],λi row hi=> ?_⟩;cases i with
   |zero=>simp at hi;subst hi;exact⟨n,rfl,by simp⟩
   |succ i=>simpa using h2 i row (by simpa using hi)
  ·simp at h
theorem JA:∀(l:List UInt8)(ns:List Int)(r:ByteArray),ns.length=l.length->(∀(i:Nat)(n:Int),ns[i]?=some n->l[i]?=some (UInt8.ofNat n.toNat))->
  ns.foldl (λr n=>r.push (UInt8.ofNat n.toNat)) r=⟨r.data++l.toArray⟩
 |[],[],r,_,_=>by simp
 |b::l,n::ns,r,hl,h=>by
  have h0:=h 0 n rfl;simp at h0;simp only[List.foldl_cons];rw[JA l ns _ (by simpa using hl) (λi n hi=>by simpa using h (i+1) n (by simpa using hi)),<- h0];simp[ByteArray.push]
 |[],_::_,_,hl,_=>by simp at hl
 |_::_,[],_,hl,_=>by simp at hl
theorem gG{src dst:TypeId}{x v:AV}{xv:Value}{H':AH}{r:Result Next}(h:convert A s.H src dst x=some (v,H'))(hw:Jc A.Na g w s.H)(hf:ze g f w s.H s.F)(hx:Cb g w x xv)
  (ue:r=((do pure (.value (<- Go.convert src dst xv))):Sem Next).run A.P w):HN A.Na g f w s { s with H:=H' } (.v v) r:=by
 unfold convert at h;split at h
 ·rename_i hs hd;simp at h;obtain⟨rfl,rfl⟩:=h;cases hx;refine Jf hw hf (rv:= .int _ _) ?_ (.int _ _);rw[ue];simp[Go.convert,run_underlying hs,run_underlying hd,Conv.intToInt]
 ·rename_i hs hd;simp at h;obtain⟨rfl,rfl⟩:=h;cases hx;refine Jf hw hf (rv:= .string _) ?_ (.str _);rw[ue];simp[Go.convert,run_underlying hs,run_underlying hd]
 ·rename_i e sb hs hd;split at h
  case h_2=>simp at h
  case h_1 he=>
  split at h
  case isFalse=>simp at h
  case isTrue eg=>
  simp at h;obtain⟨rfl,rfl⟩:=h;cases hx;have hr:=run_bytes_of_string (P:=A.P) w src dst e sb hs hd he;generalize hC:bytesRow sb (grownCap w sb.size 0 e)=C at hr;generalize au:grownCap w sb.size 0 e=cap at hr hC;have vu:sb.size<=cap:=by rw[<- au];simp[grownCap,Question.cut]
  have f_:C.size=cap:=by rw[<- hC];simp[bytesRow];omega
  refine Ou (rows:=Qc sb) (sz:=1) (cs:=C) (t:=e) (fz:=(C.size,C.size+1)) (w':=w.drew.alloc (.cells C e (C.size,C.size+1))) hw hf (by decide) ⟨?_,λr row hr=> ?_⟩ rfl (λoff ho=>by simp;omega)
   (Xn (by exact vu) (by omega) (by rw[<- au];exact Vm (by omega))) (by rw[ue];simp[hr])
  ·simp[Qc];omega
  ·have:=my (g:=g) (w:=w) sb.data.toList C 0 (λi b hb=>by
    rw[Qf,<- hC];have hi:=getElem?_lt' hb;simp only[bytesRow];rw[Qv (by simpa using hi)];simp at hb ⊢;exact⟨b,hb,rfl⟩) r row hr
   simpa using this
 ·rename_i e hs hd _;split at h
  case h_2=>simp at h
  case h_1 he=>
  simp only[aa,ja]at h;obtain⟨rows,de,l,hl,h⟩:=h;simp at h;obtain⟨rfl,rfl⟩:=h;obtain⟨hlen,hb⟩:=Qq hl;obtain⟨ao,cap,rfl,au,Wu⟩:=Gg de hw hx;refine Jf hw hf (rv:= .string ⟨l.toArray⟩) ?_ (.str _);rw[ue];have Mw:(Go.convert src dst (.slice ao rows.length cap)).run A.P w=(Conv.bytesToString (.slice ao rows.length cap)).run A.P w:=run_convert_bytes_string w src dst e ao _ cap hs he hd;by_cases td:rows=[]
  ·subst td;have:l=[]:=Xt (by simpa using hlen);subst this;cases ao with
   |none=>
    simp only[Om]at Mw;simp[Mw,Conv.bytesToString];rfl
   |some ad=>
    have h0:(loadCells ad ([]:List (List AV)).length).run A.P w= .ok (([]:List Int).map (Value.int .u8)).toArray w:=by simp[loadCells,loadCellsFrom]
    simp only[Sem.run_bind,Mw,run_bytesToString w ad _ cap [] h0];rfl
  ·obtain⟨ad,sz,rfl,aY,Rm⟩:=Wu td;obtain⟨ns,nar,Pam⟩:=pick (λ(i:Nat)(row:List AV)(n:Int)=>row=[.int .u8 n]/\w.cell? (ad.add i)=some (.int .u8 n)/\l[i]?=some (UInt8.ofNat n.toNat)) rows (λi row hi=>by
    obtain⟨n,rfl,hln⟩:=hb i row hi;obtain⟨h1,h2⟩:=Rm i _ hi;obtain⟨v,e1,_,e3⟩:=h2 0 (.int .u8 n) rfl;cases e3;refine⟨n,rfl,?_,hln⟩;rw[Zl aY,Vg];simp at h1;rw[<- h1]at e1
    simpa using e1)
   have De:∀(i:Nat)(n:Int),ns[i]?=some n->∃row,rows[i]?=some row:=λi n hi=>⟨_,Da (by have:=getElem?_lt' hi;omega)⟩
   have hlc:(loadCells ad rows.length).run A.P w= .ok (ns.map (Value.int .u8)).toArray w:=by
    have:=run_loadCells_list (P:=A.P) w ad (ns.map (Value.int .u8)) (λj v hj=>by
     rw[xe]at hj;cases hn:ns[j]? with
     |none=>simp[hn]at hj
     |some n=>
      simp[hn]at hj;subst hj;obtain⟨row,hr⟩:=De j n hn;exact(Pam j row n hr hn).2.1)
    simpa[nar]using this
   have Nw:=JA l ns ByteArray.empty (by omega) (λi n hi=>by obtain⟨row,hr⟩:=De i n hi;exact(Pam i row n hr hi).2.2);simp only[Sem.run_bind,Mw,run_bytesToString w ad rows.length cap ns hlc,Result.andThen_ok,Sem.run_pure,Nw];have he0:ByteArray.empty.data= #[]:=rfl;rw[he0];simp
 ·simp at h
end
end Go.V
