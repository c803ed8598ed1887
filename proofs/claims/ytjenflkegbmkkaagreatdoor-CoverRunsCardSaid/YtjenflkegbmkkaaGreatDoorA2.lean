/- An evaluator of the translated code and that it is right: each of its answers is an answer of the model. -/
import Derived.Test.YtjenflkegbmkkaaGreatDoorA1
import Derived.Laws.StructEq
import Derived.ChangeKeysEq
import Derived.Laws.BytesString
import Derived.Laws.IdiomStrings
set_option linter.unusedVariables false
set_option linter.unusedSimpArgs false
set_option linter.unusedSectionVars false
open Array renaming getElem?_append_left→Ow
open ByteArray renaming empty→Rz
open List renaming length_nil→Bb,eq_nil_of_length_eq_zero→Vs,getElem?_drop→Ic,getElem?_take→Db,getElem?_map→Tb,foldl_cons→Ve,getElem?_eq_getElem→Ba
open Nat renaming le_refl→va,add_mul→Me,add_assoc→Hf,zero_add→Re
open Option renaming bind_eq_some_iff→aa,map_eq_some_iff→ia
open Option.some renaming injEq→Dc
namespace Go.V
open Go
section
variable {A:yh}{g:Gx}{f:Fx}{w:World}{s:S}{a:Act}
theorem Uu{x:Option Operand}{n:Option Int}(h:Qg A s.e x=some n)(hw:dc A.Pa g w s.H)(he:Ze g f w s.e a.tmps):
  (n=none/\x.map a.eval=none)\/∃i k,n=some i/\x.map a.eval=some (.int k i):=by
 cases x with
 |none=>simp[Qg]at h;subst h;exact .inl ⟨rfl,rfl⟩
 |some x=>
  simp only[Qg,aa,ia]at h;obtain⟨av,u5,i,hi,rfl⟩:=h;obtain⟨k,hk⟩:=Nl hi (Ub u5 hw he);exact .inr ⟨i,k,rfl,by simp[hk]⟩
theorem Ch{dJ:Bool}{n cap:Nat}{lo hi:Option Int}{lv hv:Option Value}(Pw:(lo=none/\lv=none)\/∃i k,lo=some i/\lv=some (.int k i))(wO:(hi=none/\hv=none)\/∃i k,hi=some i/\hv=some (.int k i))
  (h0:0<=lo.getD 0) (h1:lo.getD 0<=hi.getD n) (h2:hi.getD n<=n) (Ml:n<=cap):
  (Instr.sliceBounds dJ n cap lv hv none).run A.P w= .ok ((lo.getD 0).toNat,(hi.getD n).toNat,cap) w:=by
 unfold Instr.sliceBounds;rcases wO with⟨rfl,rfl⟩|⟨i,k,rfl,rfl⟩<;>rcases Pw with⟨rfl,rfl⟩|⟨j,k',rfl,rfl⟩
 ·simp
 ·simp at h0 h1;simp[Instr.sliceBound,asIntOf,h0,h1]
 ·simp at h0 h1 h2;have:i<=(cap:Int):=by omega
  simp[Instr.sliceBound,asIntOf,h1,this]
 ·simp at h0 h1 h2;have:i<=(cap:Int):=by omega
  have h3:0<=i:=by omega
  simp[Instr.sliceBound,asIntOf,h3,this,h0];intro hc;omega
theorem Sq{lo hi:Option Int}{n l h:Nat}(e:AN lo hi n=some (l,h)):0<=lo.getD 0/\lo.getD 0<=hi.getD n/\hi.getD n<=n/\l=(lo.getD 0).toNat/\h=(hi.getD n).toNat/\l<=h/\h<=n:=by
 unfold AN at e;split at e
 case isFalse=>simp at e
 case isTrue hc=>simp at e;obtain⟨rfl,rfl⟩:=e;obtain⟨h1,h2,h3⟩:=hc;exact⟨h1,h2,h3,rfl,rfl,by omega,by omega⟩
theorem ME{x:AV}{v:Value}(h:CV x=true)(hx:mb g w x v):∃k,v= .int k 0:=by
 unfold CV at h;split at h
 ·cases hx;simp at h;subst h;exact⟨_,rfl⟩
 ·simp at h
theorem bG{t:TypeId}{x v:AV}{xv:Value}(h:ri A t x=some v)(hx:mb g w x xv):
  ∃rv,(∀k1 k2,(Instr.sliceAt t xv none (some (.int k1 0)) (some (.int k2 0))).run A.P w= .ok rv w)/\mb g w v rv:=by
 unfold ri at h;split at h
 case h_2=>simp at h
 rename_i e hu;simp only[aa]at h;obtain⟨n,hn,h⟩:=h;have hb:∀(len cap:Nat)(k1 k2:IntKind),(Instr.sliceBounds true len cap none (some (.int k1 0)) (some (.int k2 0))).run A.P w= .ok (0,0,0) w:=fun len cap k1 k2=>by
  unfold Instr.sliceBounds;simp[Instr.sliceBound,asIntOf]
 have go:∀(a:Option Addr)(len cap:Nat)(k1 k2:IntKind),(Instr.sliceAt t (.slice a len cap) none (some (.int k1 0)) (some (.int k2 0))).run A.P w= .ok (.slice a 0 0) w:=fun a len cap k1 k2=>by
  simp[Instr.sliceAt,run_underlying hu,Instr.slice,hb,Tc hn]
 split at h
 ·cases hx;simp at h;subst h;exact⟨_,go _ _ _,.Xa⟩
 ·cases hx;simp at h;subst h;exact⟨_,go _ _ _,.Ud _⟩
 ·simp at h;subst h;cases hx<;>exact⟨_,go _ _ _,.Ud _⟩
 ·simp at h;subst h;cases hx<;>exact⟨_,go _ _ _,.Ud _⟩
 ·simp at h
theorem CI{t:TypeId}{x v:AV}{xv:Value}{lo hi:Option Int}{lv hv:Option Value}(h:slice A s.H t x lo hi=some v)(hw:dc A.Pa g w s.H)(hx:mb g w x xv)
  (Pw:(lo=none/\lv=none)\/∃i k,lo=some i/\lv=some (.int k i)) (wO:(hi=none/\hv=none)\/∃i k,hi=some i/\hv=some (.int k i)):
  ∃rv,(Instr.sliceAt t xv lv hv none).run A.P w= .ok rv w/\mb g w v rv:=by
 have Uk:∀d,A.P.underlying t=some d->(∀n e,d≠ .array n e)->(Instr.sliceAt t xv lv hv none).run A.P w=(Instr.slice t xv lv hv none).run A.P w:=fun d hu Uc=>by
  simp only[Instr.sliceAt,Sem.run_bind,run_underlying hu,Result.andThen_ok]
  all_goals (cases d<;>first|rfl|exact absurd rfl (Uc _ _))
 unfold slice at h;split at h
 ·rename_i sb hu;simp only[ia]at h;obtain⟨⟨l,h'⟩,hb,rfl⟩:=h;obtain⟨b1,b2,b3,rfl,rfl,b4,b5⟩:=Sq hb;cases hx;have hb:=Ch (A:=A) (w:=w) (dJ:=false) (n:=sb.size) (cap:=sb.size) Pw wO b1 b2 b3 (va _);refine⟨_,?_,mb.str _⟩;rw[Uk _ hu (by simp)];simp[Instr.slice,run_underlying hu,hb]
 ·rename_i e hu;simp only[aa,ia]at h;obtain⟨sz,ue,⟨l,h'⟩,hb,rfl⟩:=h;obtain⟨b1,b2,b3,rfl,rfl,b4,b5⟩:=Sq hb;cases hx;have hb:=Ch (A:=A) (w:=w) (dJ:=true) (n:=0) (cap:=0) Pw wO b1 b2 b3 (va _);refine⟨.slice none 0 0,?_,mb.Xa⟩;rw[Uk _ hu (by simp)];have e1:(lo.getD 0).toNat=0:=by omega
  have e2:(hi.getD (0:Nat)).toNat=0:=by omega
  rw[e1,e2]at hb;simp[Instr.slice,run_underlying hu,hb,Tc ue]
 ·rename_i e hu;simp only[aa,ia]at h;obtain⟨sz,ue,⟨l,h'⟩,hb,rfl⟩:=h;obtain⟨b1,b2,b3,rfl,rfl,b4,b5⟩:=Sq hb;cases hx with
  |Ud ad=>
  have hb:=Ch (A:=A) (w:=w) (dJ:=true) (n:=0) (cap:=0) Pw wO b1 b2 b3 (va _);refine⟨.slice (some ad) 0 0,?_,mb.Ud ad⟩;rw[Uk _ hu (by simp)];have e1:(lo.getD 0).toNat=0:=by omega
  have e2:(hi.getD (0:Nat)).toNat=0:=by omega
  rw[e1,e2]at hb;simp[Instr.slice,run_underlying hu,hb,Tc ue]
 ·rename_i e sz rows hu;simp only[aa]at h;obtain⟨⟨l,h'⟩,hb,h⟩:=h;simp only at h;split at h
  case isFalse=>simp at h
  case isTrue ue=>
  simp at h;subst h;obtain⟨b1,b2,b3,rfl,rfl,b4,b5⟩:=Sq hb;cases hx with
  |lits _ ad=>
   have hb:=Ch (A:=A) (w:=w) (dJ:=true) (n:=0) (cap:=0) Pw wO b1 b2 b3 (va _);have e1:(lo.getD 0).toNat=0:=by simp at b3 b2;omega
   have e2:(hi.getD (([]:List (List AV)).length:Nat)).toNat=0:=by simp at b3 b2 ⊢;omega
   simp only[Bb]at hb e2;rw[e1,e2]at hb;refine⟨.slice (some ad) 0 0,?_,by simp only[Bb,e1,e2,List.take_zero,List.drop_nil];exact mb.lits sz ad⟩;rw[Uk _ hu (by simp)];simp[Instr.slice,run_underlying hu,hb,Tc ue]
  |lit _ ad cap _ vs hs hc hz hl Di h1c qn=>
  have hb:=Ch (A:=A) (w:=w) (dJ:=true) (n:=rows.length) (cap:=cap) Pw wO b1 b2 b3 hc;generalize(lo.getD 0).toNat=l at *
  generalize(hi.getD (rows.length:Nat)).toNat=h' at *
  rw[Uk _ hu (by simp)];have hlen:((rows.take h').drop l).length=h'-l:=by simp;omega
  by_cases OR:cap=l
  ·have h0:(rows.take h').drop l=[]:=Vs (by rw[hlen];omega);refine⟨.slice (some ad) 0 0,?_,?_⟩
   ·have hh:h'-l=0:=by omega
    subst OR;simp[Instr.slice,run_underlying hu,hb,Tc ue,hh]
   ·rw[h0];exact .lit (g:=g) (w:=w) [] ad 0 sz (fun _ _=>undef) hs (va _) (fun h=>absurd rfl h) (fun i row h=>by simp at h) (fun i c h=>by simp at h) (fun i c h=>by simp at h) (fun i row c x h=>by simp at h)
  ·refine⟨.slice (some (ad.add (l * sz))) (h'-l) (cap-l),?_,?_⟩
   ·simp[Instr.slice,run_underlying hu,hb,Tc ue,OR]
   ·rw[Ak hs,Ag,<- hlen];have bk:∀(i:Nat)(row:List AV),((rows.take h').drop l)[i]?=some row->rows[l+i]?=some row:=fun i row hi=>by
     rw[Ic,Db]at hi;split at hi
     ·exact hi
     ·simp at hi
    refine .lit _ ⟨ad.block,ad.off+l * sz,none⟩ (cap-l) sz (fun i c=>vs (l+i) c) rfl (by omega) (fun Uc=>hz (by intro e;subst e;simp at Uc)) (fun i row hi=>hl _ _ (bk i row hi)) (fun i c hi Mn=> ?_) (fun i c hi Mn=>h1c _ c (by omega) Mn) (fun i row c x hi hx=>qn _ row c x (bk i row hi) hx);have:=Di (l+i) c (by omega) Mn;rw[Me,<- Hf]at this;exact this
 ·rename_i e b r n hu;simp only[aa]at h;obtain⟨⟨l,h'⟩,hb,sz,NL,h⟩:=h;split at h
  case isFalse=>simp at h
  case isTrue ue=>
  simp at h;subst h;obtain⟨b1,b2,b3,rfl,rfl,b4,b5⟩:=Sq hb;rw[Uk _ hu (by simp)];cases hx with
  |sl _ _ _ cap hd hle Gp hmc=>
   obtain⟨e1,e2⟩:=MN hw hd NL.symm;have hb:=Ch (A:=A) (w:=w) (dJ:=true) (n:=n) (cap:=cap) Pw wO b1 b2 b3 hle;generalize(lo.getD 0).toNat=l at *
   generalize(hi.getD (n:Nat)).toNat=h' at *
   by_cases OR:cap=l
   ·refine⟨.slice (some ⟨(g.ρ b).R,(g.ρ b).o+r * (g.ρ b).sz,none⟩) 0 0,?_,?_⟩
    ·have hh:h'-l=0:=by omega
     subst OR;simp[Instr.slice,run_underlying hu,hb,Tc ue,hh]
    ·have hh:h'-l=0:=by omega
     rw[hh];exact .BI b (r+l) _ hd
   ·refine⟨.slice (some ⟨(g.ρ b).R,(g.ρ b).o+(r+l) * (g.ρ b).sz,none⟩) (h'-l) (cap-l),?_,?_⟩
    ·simp[Instr.slice,run_underlying hu,hb,Tc ue,OR,Ag,e1,Me,Hf]
    ·exact .sl b (r+l) (h'-l) (cap-l) hd (by omega) (by rw[show r+l+(cap-l)=r+cap by omega];exact Gp) (by omega)
  |BI _ _ ad hd=>
   have hb:=Ch (A:=A) (w:=w) (dJ:=true) (n:=0) (cap:=0) Pw wO b1 b2 b3 (va _);have e1:(lo.getD 0).toNat=0:=by omega
   have e2:(hi.getD (0:Nat)).toNat=0:=by omega
   rw[e1,e2]at hb ⊢;refine⟨.slice (some ad) 0 0,?_,.BI b r ad hd⟩;simp[Instr.slice,run_underlying hu,hb,Tc ue]
 ·simp at h
theorem Fl{d:Nat}(ih:∀(t:TypeId)(x y:AV)(b:Bool)(xv yv:Value),zw A d t x y=some b->mb g w x xv->mb g w y yv->(Op.equalIn (d+9000) t xv yv).run A.P w= .ok b w)
  {xs ys:List AV} {xv yv:Array Value} (hx:Kw g w xs xv) (hy:Kw g w ys yv):∀(fs:List Field)(b:Bool),eqFields A (zw A d) xs ys fs=some b->(Op.eqFields (d+9000) xv yv fs).run A.P w= .ok b w
 |[],b,h=>by simp[eqFields]at h;subst h;simp[Op.eqFields]
 |fd::fs,b,h=>by
  unfold eqFields at h;unfold Op.eqFields;split at h
  ·rename_i hn;rw[if_neg (by simpa using hn)];exact Fl ih hx hy fs b h
  ·rename_i hn;rw[if_pos (by simpa using hn)];simp only[aa,ia]at h;obtain⟨x,hpx,y,hpy,b1,ep,c,hc,rfl⟩:=h;obtain⟨FU,e1,r1⟩:=Zi (A:=A) hpx hx;obtain⟨yv',e2,r2⟩:=Zi (A:=A) hpy hy;have e3:=ih _ _ _ _ _ _ ep r1 r2;have e4:=Fl ih hx hy fs c hc;simp only[Sem.run_bind,e1,e2,e3,Result.andThen_ok,Sem.run_ite,e4,Sem.run_pure];cases b1<;>simp
theorem Ot{d:Nat}{e:TypeId}{sz:Nat}(ih:∀(x y:AV)(b:Bool)(xv yv:Value),zw A d e x y=some b->mb g w x xv->mb g w y yv->(Op.equalIn (d+9000) e xv yv).run A.P w= .ok b w)
  {xs ys:List AV} {xv yv:Array Value} (hx:Kw g w xs xv) (hy:Kw g w ys yv):∀(n i:Nat)(b:Bool),Lg A (zw A d e) e sz xs ys n i=some b->(Op.eqItems (d+9000) e sz xv yv (List.range' i n)).run A.P w= .ok b w
 |0,i,b,h=>by simp[Lg]at h;subst h;simp[Op.eqItems]
 |n+1,i,b,h=>by
  unfold Lg at h;rw[List.range'_succ];unfold Op.eqItems;simp only[aa,ia]at h;obtain⟨x,hpx,y,hpy,b1,ep,c,hc,rfl⟩:=h;obtain⟨FU,e1,r1⟩:=Zi (A:=A) hpx hx;obtain⟨yv',e2,r2⟩:=Zi (A:=A) hpy hy;have e3:=ih _ _ _ _ _ ep r1 r2;have e4:=Ot ih hx hy n (i+1) c hc;simp only[Sem.run_bind,e1,e2,e3,Result.andThen_ok,Sem.run_ite,e4,Sem.run_pure];cases b1<;>simp
theorem Ps:∀(d:Nat)(t:TypeId)(x y:AV)(b:Bool)(xv yv:Value),zw A d t x y=some b->mb g w x xv->mb g w y yv->(Op.equalIn (d+9000) t xv yv).run A.P w= .ok b w
 |0,t,x,y,b,xv,yv,h,_,_=>by simp[zw]at h
 |d+1,t,x,y,b,xv,yv,h,hx,hy=>by
  rw[show d+1+9000=(d+9000)+1 by omega];unfold zw at h;split at h
  ·rename_i hu;simp at h;subst h;cases hx;cases hy;exact run_equalIn_bool' w _ t _ _ hu
  ·rename_i k0 k a' k' b' hu;split at h
   case isFalse=>simp at h
   case isTrue e=>
    subst e;simp at h;subst h;cases hx;cases hy;rw[run_equalIn_int w _ t _ _ _ _ hu];congr 1
  ·rename_i hu;simp at h;subst h;cases hx;cases hy;rw[run_equalIn_string w _ t _ _ hu]
  ·rename_i fs xs ys hu;split at h
   case isTrue=>simp at h
   case isFalse SL=>
    obtain⟨FU,rfl,Dk⟩:=xh hx;obtain⟨yv',rfl,Wf⟩:=xh hy;have hfo:A.P.fieldsOf t=fs:=by simp[Program.fieldsOf,hu]
    rw[run_equalIn_struct w _ t _ _ (by rw[hfo];exact hu) (by simpa using SL),hfo];exact Fl (Ps d) Dk Wf fs.toList b h
  ·rename_i n e xs ys hu;simp only[aa]at h;obtain⟨sz,ue,h⟩:=h;obtain⟨FU,rfl,Dk⟩:=xh hx;obtain⟨yv',rfl,Wf⟩:=xh hy;unfold size at ue;obtain⟨i,hi,rfl⟩:=ia.1 ue;have hc:A.P.cellsOf e=i.size:=by simp[Program.cellsOf,hi]
   rw[run_equalIn_array w _ _ _ hu hi,hc,List.range_eq_range'];exact Ot (Ps d e) Dk Wf n 0 b h
  ·simp at h
end
end Go.V
namespace Go.V
open Go
section
variable {A:yh}{g:Gx}{f:Fx}{w:World}{s:S}{a:Act}
set_option maxHeartbeats 2000000 in
theorem lC{t:TypeId}{x y:AV}{b:Bool}{xv yv:Value}(h:Ig A t x y=some b)(hx:mb g w x xv)(hy:mb g w y yv):(Op.equal t xv yv).run A.P w= .ok b w:=by
 unfold Ig at h
 unfold Op.equal
 split at h
 case h_2 fs xs ys hu=>
  split at h
  · simp at h
  · exact Ps 1000 t _ _ b xv yv h hx hy
 case h_3 fs xs ys hu=>
  split at h
  · simp at h
  · exact Ps 1000 t _ _ b xv yv h hx hy
 all_goals
  first
  |(simp at h;done)
  |(rename_i hu
    simp only[Dc]at h;subst h
    have hd:Op.maxDepth=9999+1:=rfl
    rw[hd]
    generalize 9999=d
    cases hx<;>cases hy<;>simp[Op.equalIn,run_underlying hu])
set_option maxHeartbeats 2000000 in
theorem nC{op:BinOp}{t:TypeId}{ox oy:Operand}{x y:AV}{b:Bool}{xv yv:Value}(h:Ig A t x y=some b)(hx:mb g w x xv)(hy:mb g w y yv):(eqGuard op t ox oy xv yv).run A.P w= .ok () w:=by
 unfold Ig at h;split at h
 case h_2 fs xs ys hu=>
  split at h
  ·simp at h
  ·rename_i hg;obtain⟨FU,rfl,Dk⟩:=xh hx;obtain⟨yv',rfl,Wf⟩:=xh hy;exact run_eqGuard_agg w op t ox oy _ _ (by simpa using hg)
 case h_3 fs xs ys hu=>
  split at h
  ·simp at h
  ·rename_i hg;obtain⟨FU,rfl,Dk⟩:=xh hx;obtain⟨yv',rfl,Wf⟩:=xh hy;exact run_eqGuard_agg w op t ox oy _ _ (by simpa using hg)
 all_goals
  first
  |(simp at h;done)
  |(cases hx<;>cases hy<;>cases op<;>simp[eqGuard])
theorem Pq{op:BinOp}{t:TypeId}{ox oy:Operand}{k k':IntKind}{x y:Int}:(eqGuard op t ox oy (.int k x) (.int k' y)).run A.P w= .ok () w:=by
 cases op<;>simp[eqGuard]
theorem sK{op:BinOp}{t:TypeId}{ox oy:Operand}{x y:ByteArray}:(eqGuard op t ox oy (.string x) (.string y)).run A.P w= .ok () w:=by
 cases op<;>simp[eqGuard]
theorem eJ{op:BinOp}{k:IntKind}{x y:Int}{t:TypeId}{v:AV}(h:nq op k x y=some v):∃rv,(binOp op t (.int k x) (.int k y)).run A.P w= .ok rv w/\mb g w v rv:=by
 cases op<;>simp only[nq]at h
 case quo=>
  split at h
  ·simp at h
  ·rename_i hy;simp at h;subst h;exact⟨_,by simp[binOp,Op.intDiv,hy],.int _ _⟩
 case rem=>
  split at h
  ·simp at h
  ·rename_i hy;simp at h;subst h;exact⟨_,by simp[binOp,Op.intDiv,hy],.int _ _⟩
 case and=>simp[bits]at h;subst h;exact⟨_,by simp[binOp,Op.intBits],.int _ _⟩
 case or=>simp[bits]at h;subst h;exact⟨_,by simp[binOp,Op.intBits],.int _ _⟩
 case xor=>simp[bits]at h;subst h;exact⟨_,by simp[binOp,Op.intBits],.int _ _⟩
 case andNot=>simp[bits]at h;subst h;exact⟨_,by simp[binOp,Op.intBits],.int _ _⟩
 case shl=>simp at h
 case shr=>simp at h
 case add=>simp at h;subst h;exact⟨_,by simp[binOp,Op.intArith],.int _ _⟩
 case sub=>simp at h;subst h;exact⟨_,by simp[binOp,Op.intArith],.int _ _⟩
 case mul=>simp at h;subst h;exact⟨_,by simp[binOp,Op.intArith],.int _ _⟩
 case eql=>simp at h;subst h;exact⟨.bool (decide (x=y)),by simp[binOp,Op.intCmp];rfl,.bool _⟩
 case neq=>simp at h;subst h;exact⟨.bool (!decide (x=y)),by simp[binOp,Op.intCmp];rfl,.bool _⟩
 case lss=>simp at h;subst h;exact⟨_,by simp[binOp,Op.intCmp],.bool _⟩
 case leq=>simp at h;subst h;exact⟨_,by simp[binOp,Op.intCmp],.bool _⟩
 case gtr=>simp at h;subst h;exact⟨_,by simp[binOp,Op.intCmp],.bool _⟩
 case geq=>simp at h;subst h;exact⟨_,by simp[binOp,Op.intCmp],.bool _⟩
theorem vI{op:BinOp}{x y:ByteArray}{t:TypeId}{v:AV}(h:vt op x y=some v):∃rv,(binOp op t (.string x) (.string y)).run A.P w= .ok rv w/\mb g w v rv:=by
 cases op<;>simp only[vt]at h
 case add=>
  split at h
  case isFalse=>simp at h
  case isTrue hle=>
   simp at h;subst h;have hm:¬((x.size:Int)+(y.size:Int)>9223372036854775807):=by omega
   refine⟨.string (x++y),?_,.str _⟩;have:¬(((x.size+y.size:Nat):Int)>IntKind.i64.max):=by
    have:IntKind.i64.max=9223372036854775807:=by decide
    rw[this];omega
   simp only[binOp,Op.stringOp,if_neg this];rfl
 all_goals first
  |(simp at h;done)
  |(simp only[Dc]at h;subst h;exact⟨_,rfl,.bool _⟩)
set_option maxHeartbeats 2000000 in
theorem GK{op:BinOp}{t:TypeId}{ox oy:Operand}{x y v:AV}{xv yv:Value}(h:binop A op t x y=some v)(hx:mb g w x xv)(hy:mb g w y yv):
  ∃rv,(eqGuard op t ox oy xv yv).run A.P w= .ok () w/\(binOp op t xv yv).run A.P w= .ok rv w/\mb g w v rv:=by
 unfold binop at h;split at h
 ·split at h
  case isFalse=>simp at h
  case isTrue hb=>
   simp at h;subst h;cases hx;cases hy;have:¬(_:Int)<0:=Int.not_lt.2 hb;exact⟨_,Pq,by simp[binOp,Op.shift,this],.int _ _⟩
 ·split at h
  case isFalse=>simp at h
  case isTrue hb=>
   simp at h;subst h;cases hx;cases hy;have:¬(_:Int)<0:=Int.not_lt.2 hb;exact⟨_,Pq,by simp[binOp,Op.shift,this],.int _ _⟩
 ·split at h
  case isFalse=>simp at h
  case isTrue e=>
   subst e;cases hx;cases hy;obtain⟨rv,h1,h2⟩:=eJ (A:=A) (g:=g) (w:=w) (t:=t) h;exact⟨rv,Pq,h1,h2⟩
 ·cases hx;cases hy;obtain⟨rv,h1,h2⟩:=vI (A:=A) (g:=g) (w:=w) (t:=t) h;exact⟨rv,sK,h1,h2⟩
 ·rename_i hn1 hn2;simp only[ia]at h;obtain⟨b,hb,rfl⟩:=h;refine⟨.bool b,nC hb hx hy,?_,.bool _⟩;have e:=lC hb hx hy;have Taa:binOp .eql t xv yv=(do pure (.bool (<- Op.equal t xv yv))):=by
   unfold Ig at hb;split at hb
   all_goals
    first
    |(simp at hb;done)
    |(cases hx<;>cases hy<;>rfl)
  rw[Taa];simp[e]
 ·simp only[ia]at h;obtain⟨b,hb,rfl⟩:=h;refine⟨.bool (!b),nC hb hx hy,?_,.bool _⟩;have e:=lC hb hx hy;have Taa:binOp .neq t xv yv=(do pure (.bool (!(<- Op.equal t xv yv)))):=by
   unfold Ig at hb;split at hb
   all_goals
    first
    |(simp at hb;done)
    |(cases hx<;>cases hy<;>rfl)
  rw[Taa];simp[e]
 ·simp at h
theorem bL{op:UnOp}{x v:AV}{xv:Value}(h:unop op x=some v)(hx:mb g w x xv):∃rv,(Op.unary op xv).run A.P w= .ok rv w/\mb g w v rv:=by
 unfold unop at h;split at h
 ·simp at h;subst h;cases hx;exact⟨_,by simp[Op.unary,Op.intArith],.int _ _⟩
 ·simp[bits]at h;subst h;cases hx;exact⟨_,by simp[Op.unary,Op.intBits],.int _ _⟩
 ·simp at h;subst h;cases hx;exact⟨_,by simp[Op.unary],.bool _⟩
 ·simp at h
theorem fJ{t:TypeId}{x v:AV}{xv:Value}{k:IntKind}{i:Int}(h:index A t x i=some v)(hx:mb g w x xv):∃rv,(Instr.index t xv (.int k i)).run A.P w= .ok rv w/\mb g w v rv:=by
 unfold index at h;split at h
 ·rename_i n e cs hu;split at h
  case isFalse=>simp at h
  case isTrue hr=>
   obtain⟨h0,h1⟩:=vj hr;simp only[aa]at h;obtain⟨sz,ue,h⟩:=h;obtain⟨vs,rfl,T7⟩:=xh hx;obtain⟨rv,e1,e2⟩:=Zi (A:=A) h T7;exact⟨rv,by simp[Instr.index,asIntOf,run_underlying hu,h0,h1,Tc ue,e1],e2⟩
 ·rename_i sb hu;split at h
  case isFalse=>simp at h
  case isTrue hr=>
   obtain⟨h0,h1⟩:=vj hr;simp at h;subst h;cases hx;have Ac:i.toNat<sb.size:=by omega
   refine⟨_,?_,.int _ _⟩;simp[Instr.index,asIntOf,run_underlying hu,h0,Ac,getElem!_pos]
 ·simp at h
theorem Gw{g:Gx}{w:World}(l:List UInt8)(cs:Array Value)(off:Nat)(h:∀(i:Nat)(b:UInt8),l[i]?=some b->cs[off+i]?=some (.int .u8 (b.toNat:Int)))(r:Nat)(row:List AV)
  (hr:(l.map fun b=>[AV.int .u8 (b.toNat:Int)])[r]?=some row):row.length=1/\Ye g w cs (off+r * 1) row:=by
 rw[Tb]at hr;cases hb:l[r]? with
 |none=>simp[hb]at hr
 |some b=>
  simp[hb]at hr;subst hr;refine⟨rfl,fun c x hx=> ?_⟩;cases c with
  |zero=>simp at hx;subst hx;exact⟨_,by simpa using h r b hb,rfl,.int _ _⟩
  |succ c=>simp at hx
end
end Go.V
namespace Go.V
open Go
section
variable {A:yh}{g:Gx}{f:Fx}{w:World}{s:S}{a:Act}
theorem cg{H:AH}{x:AV}{xv:Value}{rows:List (List AV)}(h:rowsOf H x=some rows)(hw:dc A.Pa g w H)(hx:mb g w x xv):
  ∃ao cap,xv= .slice ao rows.length cap/\rows.length<=cap/\(rows≠[]->∃ad sz,ao=some ad/\ad.spot=none/\∀(i:Nat)(row:List AV),rows[i]?=some row->row.length=sz/\zm g w ad.block (ad.off+i * sz) row):=by
 unfold rowsOf at h;split at h
 ·simp at h;subst h;cases hx;exact⟨none,0,rfl,va _,fun h=>absurd rfl h⟩
 ·simp at h;subst h;cases hx with
  |Ud ad=>exact⟨some ad,0,rfl,va _,fun h=>absurd rfl h⟩
 ·rename_i sz Pg;simp at h;subst h;cases hx with
  |lits _ ad=>exact⟨some ad,0,rfl,va _,fun h=>absurd rfl h⟩
  |lit _ ad cap _ vs hs hc hz hl Di h1c qn=>
   refine⟨some ad,cap,rfl,hc,fun Uc=>⟨ad,sz,rfl,hs,fun i row hi=>⟨hl i row hi,fun j x hx=> ?_⟩⟩⟩;have h1:=getElem?_lt' hi;have h2:=getElem?_lt' hx;rw[hl i row hi]at h2;exact⟨vs i j,Di i j h1 h2,h1c i j h1 h2,qn i row j x hi hx⟩
 ·rename_i b r n;split at h
  case h_2=>simp at h
  case h_1 Pg sz ty hb=>
  split at h
  case isFalse=>simp at h
  case isTrue hle=>
  simp at h;subst h;have hlen:((Pg.drop r).take n).length=n:=by simp;omega
  cases hx with
  |sl _ _ _ cap hd hn Gp=>
   obtain⟨_,Lf,ue,he,cs,⟨T,fz,hR,_⟩,Pc⟩:=hw.Vc b _ hd hb;refine⟨_,cap,by rw[hlen],by rw[hlen];exact hn,fun Uc=>⟨_,sz,rfl,rfl,fun i row hi=> ?_⟩⟩;rw[Db]at hi;split at hi
   case isFalse=>simp at hi
   case isTrue zG=>
   rw[Ic]at hi;obtain⟨hl,hr⟩:=Pc _ _ hi;refine⟨hl,?_⟩;have:=zm.BL hR hr;rw[Me,<- Hf]at this;rw[ue];exact this
  |BI _ _ ad hd=>
   refine⟨some ad,0,by rw[hlen],by simp,fun Uc=>absurd (Vs (by simp)) Uc⟩
 ·simp at h
theorem Yp:∀{rows:List (List AV)}{l:List UInt8},Nh rows=some l->l.length=rows.length/\∀(i:Nat)(row:List AV),rows[i]?=some row->∃n:Int,row=[.int .u8 n]/\l[i]?=some (UInt8.ofNat n.toNat)
 |[],l,h=>by simp[Nh]at h;subst h;exact⟨rfl,fun i row h=>by simp at h⟩
 |row::rows,l,h=>by
  unfold Nh at h;split at h
  ·simp at *
  ·rename_i n rest heq;simp only[List.cons.injEq]at heq;obtain⟨rfl,rfl⟩:=heq;simp only[aa]at h;obtain⟨l',bg,h⟩:=h;simp at h;subst h;obtain⟨h1,h2⟩:=Yp bg;refine⟨by simp[h1],fun i row hi=> ?_⟩;cases i with
   |zero=>simp at hi;subst hi;exact⟨n,rfl,by simp⟩
   |succ i=>simpa using h2 i row (by simpa using hi)
  ·simp at h
theorem Zy:∀(l:List UInt8)(ns:List Int)(r:ByteArray),ns.length=l.length->(∀(i:Nat)(n:Int),ns[i]?=some n->l[i]?=some (UInt8.ofNat n.toNat))->
  ns.foldl (fun r n=>r.push (UInt8.ofNat n.toNat)) r=⟨r.data++l.toArray⟩
 |[],[],r,_,_=>by simp
 |b::l,n::ns,r,hl,h=>by
  have h0:=h 0 n rfl;simp at h0;simp only[Ve];rw[Zy l ns _ (by simpa using hl) (fun i n hi=>by simpa using h (i+1) n (by simpa using hi)),<- h0];simp[ByteArray.push]
 |[],_::_,_,hl,_=>by simp at hl
 |_::_,[],_,hl,_=>by simp at hl
theorem OD{src dst:TypeId}{x v:AV}{xv:Value}{H':AH}{r:Result Next}(h:convert A s.H src dst x=some (v,H'))(hw:dc A.Pa g w s.H)(hf:Td g f w s.H s.F)(hx:mb g w x xv)
  (ee:r=((do pure (.value (<- Go.convert src dst xv))):Sem Next).run A.P w):VK A.Pa g f w s { s with H:=H' } (.v v) r:=by
 unfold convert at h;split at h
 ·rename_i hs hd;simp at h;obtain⟨rfl,rfl⟩:=h;cases hx;refine Ue hw hf (rv:= .int _ _) ?_ (.int _ _);rw[ee];simp[Go.convert,run_underlying hs,run_underlying hd,Conv.intToInt]
 ·rename_i hs hd;simp at h;obtain⟨rfl,rfl⟩:=h;cases hx;refine Ue hw hf (rv:= .string _) ?_ (.str _);rw[ee];simp[Go.convert,run_underlying hs,run_underlying hd]
 ·rename_i e sb hs hd;split at h
  case h_2=>simp at h
  case h_1 he=>
  split at h
  case isFalse=>simp at h
  case isTrue ue=>
  simp at h;obtain⟨rfl,rfl⟩:=h;cases hx;have hr:=run_bytes_of_string (P:=A.P) w src dst e sb hs hd he;generalize hC:bytesRow sb (grownCap w sb.size 0 e)=C at hr;generalize Ml:grownCap w sb.size 0 e=cap at hr hC;have Jt:sb.size<=cap:=by rw[<- Ml];simp[grownCap,Question.cut]
  have O4:C.size=cap:=by rw[<- hC];simp[bytesRow];omega
  refine bu (rows:=uc sb) (sz:=1) (cs:=C) (t:=e) (fz:=(C.size,C.size+1)) (w':=w.drew.alloc (.cells C e (C.size,C.size+1))) hw hf (by decide) ⟨?_,fun r row hr=> ?_⟩ rfl (fun off ho=>by simp;omega)
   (Rm (by exact Jt) (by omega) (by rw[<- Ml];exact Sl (by omega))) (by rw[ee];simp[hr])
  ·simp[uc];omega
  ·have:=Gw (g:=g) (w:=w) sb.data.toList C 0 (fun i b hb=>by
    rw[Re,<- hC];have hi:=getElem?_lt' hb;simp only[bytesRow];rw[Ow (by simpa using hi)];simp at hb ⊢;exact⟨b,hb,rfl⟩) r row hr
   simpa using this
 ·rename_i e hs hd _;split at h
  case h_2=>simp at h
  case h_1 he=>
  simp only[aa,ia]at h;obtain⟨rows,Pc,l,hl,h⟩:=h;simp at h;obtain⟨rfl,rfl⟩:=h;obtain⟨hlen,hb⟩:=Yp hl;obtain⟨ao,cap,rfl,Ml,Ci⟩:=cg Pc hw hx;refine Ue hw hf (rv:= .string ⟨l.toArray⟩) ?_ (.str _);rw[ee];have Ip:(Go.convert src dst (.slice ao rows.length cap)).run A.P w=(Conv.bytesToString (.slice ao rows.length cap)).run A.P w:=run_convert_bytes_string w src dst e ao _ cap hs he hd;by_cases Uc:rows=[]
  ·subst Uc;have:l=[]:=Vs (by simpa using hlen);subst this;cases ao with
   |none=>
    simp only[Bb]at Ip;simp[Ip,Conv.bytesToString];rfl
   |some ad=>
    have h0:(loadCells ad ([]:List (List AV)).length).run A.P w= .ok (([]:List Int).map (Value.int .u8)).toArray w:=by simp[loadCells,loadCellsFrom]
    simp only[Sem.run_bind,Ip,run_bytesToString w ad _ cap [] h0];rfl
  ·obtain⟨ad,sz,rfl,uU,Uk⟩:=Ci Uc;obtain⟨ns,Waj,Haf⟩:=pick (fun(i:Nat)(row:List AV)(n:Int)=>row=[.int .u8 n]/\w.cell? (ad.add i)=some (.int .u8 n)/\l[i]?=some (UInt8.ofNat n.toNat)) rows (fun i row hi=>by
    obtain⟨n,rfl,OC⟩:=hb i row hi;obtain⟨h1,h2⟩:=Uk i _ hi;obtain⟨v,e1,_,e3⟩:=h2 0 (.int .u8 n) rfl;cases e3;refine⟨n,rfl,?_,OC⟩;rw[Ak uU,Ag];simp at h1;rw[<- h1]at e1
    simpa using e1)
   have sd:∀(i:Nat)(n:Int),ns[i]?=some n->∃row,rows[i]?=some row:=fun i n hi=>⟨_,Ba (by have:=getElem?_lt' hi;omega)⟩
   have hlc:(loadCells ad rows.length).run A.P w= .ok (ns.map (Value.int .u8)).toArray w:=by
    have:=run_loadCells_list (P:=A.P) w ad (ns.map (Value.int .u8)) (fun j v hj=>by
     rw[Tb]at hj;cases hn:ns[j]? with
     |none=>simp[hn]at hj
     |some n=>
      simp[hn]at hj;subst hj;obtain⟨row,hr⟩:=sd j n hn;exact(Haf j row n hr hn).2.1)
    simpa[Waj]using this
   have Ev:=Zy l ns Rz (by omega) (fun i n hi=>by obtain⟨row,hr⟩:=sd i n hi;exact(Haf i row n hr hi).2.2);simp only[Sem.run_bind,Ip,run_bytesToString w ad rows.length cap ns hlc,Result.andThen_ok,Sem.run_pure,Ev];have he0:ByteArray.empty.data= #[]:=rfl;rw[he0];simp
 ·simp at h
end
end Go.V
