/- An evaluator of the translated code and that it is right: each of its answers is an answer of the model. -/
import Derived.Test.YtjenflkegbmkkaaGreatDoorA1
import Derived.Laws.StructEq
import Derived.ChangeKeysEq
import Derived.Laws.BytesString
import Derived.Laws.IdiomStrings
set_option linter.unusedVariables false
set_option linter.unusedSimpArgs false
set_option linter.unusedSectionVars false
open Array renaming getElem?_append_left→ax
open List renaming length_nil→Ng,eq_nil_of_length_eq_zero→Jt,getElem?_drop→Ec,getElem?_take→Cb,getElem?_map→Wb,foldl_cons→Og,getElem?_eq_getElem→Aa
open Nat renaming le_refl→va,add_mul→Ke,add_assoc→Ue,zero_add→Qe
open Option renaming bind_eq_some_iff→aa,map_eq_some_iff→ia
open Option.some renaming injEq→zc
namespace Go.V
open Go
section
variable {A:Eh}{g:Gx}{f:Fx}{w:World}{s:S}{a:Act}
theorem uv{x:Option Operand}{n:Option Int}(h:Rg A s.e x=some n)(hw:Yb A.Ra g w s.H)(he:Ze g f w s.e a.tmps):
  (n=none/\x.map a.eval=none)\/∃i k,n=some i/\x.map a.eval=some (.int k i):=by
 cases x with
 |none=>simp[Rg]at h;subst h;exact .inl ⟨rfl,rfl⟩
 |some x=>
  simp only[Rg,aa,ia]at h;obtain⟨av,J6,i,hi,rfl⟩:=h;obtain⟨k,hk⟩:=Zl hi (Tb J6 hw he);exact .inr ⟨i,k,rfl,by simp[hk]⟩
theorem Ih{LJ:Bool}{n cap:Nat}{lo hi:Option Int}{lv hv:Option Value}(bx:(lo=none/\lv=none)\/∃i k,lo=some i/\lv=some (.int k i))(lP:(hi=none/\hv=none)\/∃i k,hi=some i/\hv=some (.int k i))
  (h0:0<=lo.getD 0) (h1:lo.getD 0<=hi.getD n) (h2:hi.getD n<=n) (Xl:n<=cap):
  (Instr.sliceBounds LJ n cap lv hv none).run A.P w= .ok ((lo.getD 0).toNat,(hi.getD n).toNat,cap) w:=by
 unfold Instr.sliceBounds;rcases lP with⟨rfl,rfl⟩|⟨i,k,rfl,rfl⟩<;>rcases bx with⟨rfl,rfl⟩|⟨j,k',rfl,rfl⟩
 ·simp
 ·simp at h0 h1;simp[Instr.sliceBound,asIntOf,h0,h1]
 ·simp at h0 h1 h2;have:i<=(cap:Int):=by omega
  simp[Instr.sliceBound,asIntOf,h1,this]
 ·simp at h0 h1 h2;have:i<=(cap:Int):=by omega
  have h3:0<=i:=by omega
  simp[Instr.sliceBound,asIntOf,h3,this,h0];intro hc;omega
theorem Ar{lo hi:Option Int}{n l h:Nat}(e:oO lo hi n=some (l,h)):0<=lo.getD 0/\lo.getD 0<=hi.getD n/\hi.getD n<=n/\l=(lo.getD 0).toNat/\h=(hi.getD n).toNat/\l<=h/\h<=n:=by
 unfold oO at e;split at e
 case isFalse=>simp at e
 case isTrue hc=>simp at e;obtain⟨rfl,rfl⟩:=e;obtain⟨h1,h2,h3⟩:=hc;exact⟨h1,h2,h3,rfl,rfl,by omega,by omega⟩
theorem kF{x:AV}{v:Value}(h:xW x=true)(hx:jb g w x v):∃k,v= .int k 0:=by
 unfold xW at h;split at h
 ·cases hx;simp at h;subst h;exact⟨_,rfl⟩
 ·simp at h
theorem CG{t:TypeId}{x v:AV}{xv:Value}(h:Di A t x=some v)(hx:jb g w x xv):
  ∃rv,(∀k1 k2,(Instr.sliceAt t xv none (some (.int k1 0)) (some (.int k2 0))).run A.P w= .ok rv w)/\jb g w v rv:=by
 unfold Di at h;split at h
 case h_2=>simp at h
 rename_i e hu;simp only[aa]at h;obtain⟨n,hn,h⟩:=h;have hb:∀(len cap:Nat)(k1 k2:IntKind),(Instr.sliceBounds true len cap none (some (.int k1 0)) (some (.int k2 0))).run A.P w= .ok (0,0,0) w:=fun len cap k1 k2=>by
  unfold Instr.sliceBounds;simp[Instr.sliceBound,asIntOf]
 have go:∀(a:Option Addr)(len cap:Nat)(k1 k2:IntKind),(Instr.sliceAt t (.slice a len cap) none (some (.int k1 0)) (some (.int k2 0))).run A.P w= .ok (.slice a 0 0) w:=fun a len cap k1 k2=>by
  simp[Instr.sliceAt,run_underlying hu,Instr.slice,hb,Rc hn]
 split at h
 ·cases hx;simp at h;subst h;exact⟨_,go _ _ _,.Ya⟩
 ·cases hx;simp at h;subst h;exact⟨_,go _ _ _,.Pd _⟩
 ·simp at h;subst h;cases hx<;>exact⟨_,go _ _ _,.Pd _⟩
 ·simp at h;subst h;cases hx<;>exact⟨_,go _ _ _,.Pd _⟩
 ·simp at h
theorem kJ{t:TypeId}{x v:AV}{xv:Value}{lo hi:Option Int}{lv hv:Option Value}(h:slice A s.H t x lo hi=some v)(hw:Yb A.Ra g w s.H)(hx:jb g w x xv)
  (bx:(lo=none/\lv=none)\/∃i k,lo=some i/\lv=some (.int k i)) (lP:(hi=none/\hv=none)\/∃i k,hi=some i/\hv=some (.int k i)):
  ∃rv,(Instr.sliceAt t xv lv hv none).run A.P w= .ok rv w/\jb g w v rv:=by
 have Ro:∀d,A.P.underlying t=some d->(∀n e,d≠ .array n e)->(Instr.sliceAt t xv lv hv none).run A.P w=(Instr.slice t xv lv hv none).run A.P w:=fun d hu Sc=>by
  simp only[Instr.sliceAt,Sem.run_bind,run_underlying hu,Result.andThen_ok]
  all_goals (cases d<;>first|rfl|exact absurd rfl (Sc _ _))
 unfold slice at h;split at h
 ·rename_i sb hu;simp only[ia]at h;obtain⟨⟨l,h'⟩,hb,rfl⟩:=h;obtain⟨b1,b2,b3,rfl,rfl,b4,b5⟩:=Ar hb;cases hx;have hb:=Ih (A:=A) (w:=w) (LJ:=false) (n:=sb.size) (cap:=sb.size) bx lP b1 b2 b3 (va _);refine⟨_,?_,jb.str _⟩;rw[Ro _ hu (by simp)];simp[Instr.slice,run_underlying hu,hb]
 ·rename_i e hu;simp only[aa,ia]at h;obtain⟨sz,se,⟨l,h'⟩,hb,rfl⟩:=h;obtain⟨b1,b2,b3,rfl,rfl,b4,b5⟩:=Ar hb;cases hx;have hb:=Ih (A:=A) (w:=w) (LJ:=true) (n:=0) (cap:=0) bx lP b1 b2 b3 (va _);refine⟨.slice none 0 0,?_,jb.Ya⟩;rw[Ro _ hu (by simp)];have e1:(lo.getD 0).toNat=0:=by omega
  have e2:(hi.getD (0:Nat)).toNat=0:=by omega
  rw[e1,e2]at hb;simp[Instr.slice,run_underlying hu,hb,Rc se]
 ·rename_i e hu;simp only[aa,ia]at h;obtain⟨sz,se,⟨l,h'⟩,hb,rfl⟩:=h;obtain⟨b1,b2,b3,rfl,rfl,b4,b5⟩:=Ar hb;cases hx with
  |Pd ad=>
  have hb:=Ih (A:=A) (w:=w) (LJ:=true) (n:=0) (cap:=0) bx lP b1 b2 b3 (va _);refine⟨.slice (some ad) 0 0,?_,jb.Pd ad⟩;rw[Ro _ hu (by simp)];have e1:(lo.getD 0).toNat=0:=by omega
  have e2:(hi.getD (0:Nat)).toNat=0:=by omega
  rw[e1,e2]at hb;simp[Instr.slice,run_underlying hu,hb,Rc se]
 ·rename_i e sz rows hu;simp only[aa]at h;obtain⟨⟨l,h'⟩,hb,h⟩:=h;simp only at h;split at h
  case isFalse=>simp at h
  case isTrue se=>
  simp at h;subst h;obtain⟨b1,b2,b3,rfl,rfl,b4,b5⟩:=Ar hb;cases hx with
  |lits _ ad=>
   have hb:=Ih (A:=A) (w:=w) (LJ:=true) (n:=0) (cap:=0) bx lP b1 b2 b3 (va _);have e1:(lo.getD 0).toNat=0:=by simp at b3 b2;omega
   have e2:(hi.getD (([]:List (List AV)).length:Nat)).toNat=0:=by simp at b3 b2 ⊢;omega
   simp only[Ng]at hb e2;rw[e1,e2]at hb;refine⟨.slice (some ad) 0 0,?_,by simp only[Ng,e1,e2,List.take_zero,List.drop_nil];exact jb.lits sz ad⟩;rw[Ro _ hu (by simp)];simp[Instr.slice,run_underlying hu,hb,Rc se]
  |lit _ ad cap _ vs hs hc hz hl Ki h1c Qn=>
  have hb:=Ih (A:=A) (w:=w) (LJ:=true) (n:=rows.length) (cap:=cap) bx lP b1 b2 b3 hc;generalize(lo.getD 0).toNat=l at *
  generalize(hi.getD (rows.length:Nat)).toNat=h' at *
  rw[Ro _ hu (by simp)];have hlen:((rows.take h').drop l).length=h'-l:=by simp;omega
  by_cases TM:cap=l
  ·have h0:(rows.take h').drop l=[]:=Jt (by rw[hlen];omega);refine⟨.slice (some ad) 0 0,?_,?_⟩
   ·have hh:h'-l=0:=by omega
    subst TM;simp[Instr.slice,run_underlying hu,hb,Rc se,hh]
   ·rw[h0];exact .lit (g:=g) (w:=w) [] ad 0 sz (fun _ _=>undef) hs (va _) (fun h=>absurd rfl h) (fun i row h=>by simp at h) (fun i c h=>by simp at h) (fun i c h=>by simp at h) (fun i row c x h=>by simp at h)
  ·refine⟨.slice (some (ad.add (l * sz))) (h'-l) (cap-l),?_,?_⟩
   ·simp[Instr.slice,run_underlying hu,hb,Rc se,TM]
   ·rw[Nk hs,zg,<- hlen];have wk:∀(i:Nat)(row:List AV),((rows.take h').drop l)[i]?=some row->rows[l+i]?=some row:=fun i row hi=>by
     rw[Ec,Cb]at hi;split at hi
     ·exact hi
     ·simp at hi
    refine .lit _ ⟨ad.block,ad.off+l * sz,none⟩ (cap-l) sz (fun i c=>vs (l+i) c) rfl (by omega) (fun Sc=>hz (by intro e;subst e;simp at Sc)) (fun i row hi=>hl _ _ (wk i row hi)) (fun i c hi oo=> ?_) (fun i c hi oo=>h1c _ c (by omega) oo) (fun i row c x hi hx=>Qn _ row c x (wk i row hi) hx);have:=Ki (l+i) c (by omega) oo;rw[Ke,<- Ue]at this;exact this
 ·rename_i e b r n hu;simp only[aa]at h;obtain⟨⟨l,h'⟩,hb,sz,EM,h⟩:=h;split at h
  case isFalse=>simp at h
  case isTrue se=>
  simp at h;subst h;obtain⟨b1,b2,b3,rfl,rfl,b4,b5⟩:=Ar hb;rw[Ro _ hu (by simp)];cases hx with
  |sl _ _ _ cap hd hle bq hmc=>
   obtain⟨e1,e2⟩:=DO hw hd EM.symm;have hb:=Ih (A:=A) (w:=w) (LJ:=true) (n:=n) (cap:=cap) bx lP b1 b2 b3 hle;generalize(lo.getD 0).toNat=l at *
   generalize(hi.getD (n:Nat)).toNat=h' at *
   by_cases TM:cap=l
   ·refine⟨.slice (some ⟨(g.ρ b).R,(g.ρ b).o+r * (g.ρ b).sz,none⟩) 0 0,?_,?_⟩
    ·have hh:h'-l=0:=by omega
     subst TM;simp[Instr.slice,run_underlying hu,hb,Rc se,hh]
    ·have hh:h'-l=0:=by omega
     rw[hh];exact .jJ b (r+l) _ hd
   ·refine⟨.slice (some ⟨(g.ρ b).R,(g.ρ b).o+(r+l) * (g.ρ b).sz,none⟩) (h'-l) (cap-l),?_,?_⟩
    ·simp[Instr.slice,run_underlying hu,hb,Rc se,TM,zg,e1,Ke,Ue]
    ·exact .sl b (r+l) (h'-l) (cap-l) hd (by omega) (by rw[show r+l+(cap-l)=r+cap by omega];exact bq) (by omega)
  |jJ _ _ ad hd=>
   have hb:=Ih (A:=A) (w:=w) (LJ:=true) (n:=0) (cap:=0) bx lP b1 b2 b3 (va _);have e1:(lo.getD 0).toNat=0:=by omega
   have e2:(hi.getD (0:Nat)).toNat=0:=by omega
   rw[e1,e2]at hb ⊢;refine⟨.slice (some ad) 0 0,?_,.jJ b r ad hd⟩;simp[Instr.slice,run_underlying hu,hb,Rc se]
 ·simp at h
theorem Rl{d:Nat}(ih:∀(t:TypeId)(x y:AV)(b:Bool)(xv yv:Value),Mw A d t x y=some b->jb g w x xv->jb g w y yv->(Op.equalIn (d+9000) t xv yv).run A.P w= .ok b w)
  {xs ys:List AV} {xv yv:Array Value} (hx:Xw g w xs xv) (hy:Xw g w ys yv):∀(fs:List Field)(b:Bool),eqFields A (Mw A d) xs ys fs=some b->(Op.eqFields (d+9000) xv yv fs).run A.P w= .ok b w
 |[],b,h=>by simp[eqFields]at h;subst h;simp[Op.eqFields]
 |fd::fs,b,h=>by
  unfold eqFields at h;unfold Op.eqFields;split at h
  ·rename_i hn;rw[if_neg (by simpa using hn)];exact Rl ih hx hy fs b h
  ·rename_i hn;rw[if_pos (by simpa using hn)];simp only[aa,ia]at h;obtain⟨x,hpx,y,hpy,b1,Np,c,hc,rfl⟩:=h;obtain⟨vV,e1,r1⟩:=lj (A:=A) hpx hx;obtain⟨yv',e2,r2⟩:=lj (A:=A) hpy hy;have e3:=ih _ _ _ _ _ _ Np r1 r2;have e4:=Rl ih hx hy fs c hc;simp only[Sem.run_bind,e1,e2,e3,Result.andThen_ok,Sem.run_ite,e4,Sem.run_pure];cases b1<;>simp
theorem iu{d:Nat}{e:TypeId}{sz:Nat}(ih:∀(x y:AV)(b:Bool)(xv yv:Value),Mw A d e x y=some b->jb g w x xv->jb g w y yv->(Op.equalIn (d+9000) e xv yv).run A.P w= .ok b w)
  {xs ys:List AV} {xv yv:Array Value} (hx:Xw g w xs xv) (hy:Xw g w ys yv):∀(n i:Nat)(b:Bool),Jg A (Mw A d e) e sz xs ys n i=some b->(Op.eqItems (d+9000) e sz xv yv (List.range' i n)).run A.P w= .ok b w
 |0,i,b,h=>by simp[Jg]at h;subst h;simp[Op.eqItems]
 |n+1,i,b,h=>by
  unfold Jg at h;rw[List.range'_succ];unfold Op.eqItems;simp only[aa,ia]at h;obtain⟨x,hpx,y,hpy,b1,Np,c,hc,rfl⟩:=h;obtain⟨vV,e1,r1⟩:=lj (A:=A) hpx hx;obtain⟨yv',e2,r2⟩:=lj (A:=A) hpy hy;have e3:=ih _ _ _ _ _ Np r1 r2;have e4:=iu ih hx hy n (i+1) c hc;simp only[Sem.run_bind,e1,e2,e3,Result.andThen_ok,Sem.run_ite,e4,Sem.run_pure];cases b1<;>simp
theorem Ct:∀(d:Nat)(t:TypeId)(x y:AV)(b:Bool)(xv yv:Value),Mw A d t x y=some b->jb g w x xv->jb g w y yv->(Op.equalIn (d+9000) t xv yv).run A.P w= .ok b w
 |0,t,x,y,b,xv,yv,h,_,_=>by simp[Mw]at h
 |d+1,t,x,y,b,xv,yv,h,hx,hy=>by
  rw[show d+1+9000=(d+9000)+1 by omega];unfold Mw at h;split at h
  ·rename_i hu;simp at h;subst h;cases hx;cases hy;exact run_equalIn_bool' w _ t _ _ hu
  ·rename_i k0 k a' k' b' hu;split at h
   case isFalse=>simp at h
   case isTrue e=>
    subst e;simp at h;subst h;cases hx;cases hy;rw[run_equalIn_int w _ t _ _ _ _ hu];congr 1
  ·rename_i hu;simp at h;subst h;cases hx;cases hy;rw[run_equalIn_string w _ t _ _ hu]
  ·rename_i fs xs ys hu;split at h
   case isTrue=>simp at h
   case isFalse QJ=>
    obtain⟨vV,rfl,Rk⟩:=Dh hx;obtain⟨yv',rfl,Tf⟩:=Dh hy;have hfo:A.P.fieldsOf t=fs:=by simp[Program.fieldsOf,hu]
    rw[run_equalIn_struct w _ t _ _ (by rw[hfo];exact hu) (by simpa using QJ),hfo];exact Rl (Ct d) Rk Tf fs.toList b h
  ·rename_i n e xs ys hu;simp only[aa]at h;obtain⟨sz,se,h⟩:=h;obtain⟨vV,rfl,Rk⟩:=Dh hx;obtain⟨yv',rfl,Tf⟩:=Dh hy;unfold size at se;obtain⟨i,hi,rfl⟩:=ia.1 se;have hc:A.P.cellsOf e=i.size:=by simp[Program.cellsOf,hi]
   rw[run_equalIn_array w _ _ _ hu hi,hc,List.range_eq_range'];exact iu (Ct d e) Rk Tf n 0 b h
  ·simp at h
end
end Go.V
namespace Go.V
open Go
section
variable {A:Eh}{g:Gx}{f:Fx}{w:World}{s:S}{a:Act}
set_option maxHeartbeats 2000000 in
theorem CC{t:TypeId}{x y:AV}{b:Bool}{xv yv:Value}(h:Fg A t x y=some b)(hx:jb g w x xv)(hy:jb g w y yv):(Op.equal t xv yv).run A.P w= .ok b w:=by
 unfold Fg at h
 unfold Op.equal
 split at h
 case h_2 fs xs ys hu=>
  split at h
  · simp at h
  · exact Ct 1000 t _ _ b xv yv h hx hy
 case h_3 fs xs ys hu=>
  split at h
  · simp at h
  · exact Ct 1000 t _ _ b xv yv h hx hy
 all_goals
  first
  |(simp at h;done)
  |(rename_i hu
    simp only[zc]at h;subst h
    have hd:Op.maxDepth=9999+1:=rfl
    rw[hd]
    generalize 9999=d
    cases hx<;>cases hy<;>simp[Op.equalIn,run_underlying hu])
set_option maxHeartbeats 2000000 in
theorem EC{op:BinOp}{t:TypeId}{ox oy:Operand}{x y:AV}{b:Bool}{xv yv:Value}(h:Fg A t x y=some b)(hx:jb g w x xv)(hy:jb g w y yv):(eqGuard op t ox oy xv yv).run A.P w= .ok () w:=by
 unfold Fg at h;split at h
 case h_2 fs xs ys hu=>
  split at h
  ·simp at h
  ·rename_i hg;obtain⟨vV,rfl,Rk⟩:=Dh hx;obtain⟨yv',rfl,Tf⟩:=Dh hy;exact run_eqGuard_agg w op t ox oy _ _ (by simpa using hg)
 case h_3 fs xs ys hu=>
  split at h
  ·simp at h
  ·rename_i hg;obtain⟨vV,rfl,Rk⟩:=Dh hx;obtain⟨yv',rfl,Tf⟩:=Dh hy;exact run_eqGuard_agg w op t ox oy _ _ (by simpa using hg)
 all_goals
  first
  |(simp at h;done)
  |(cases hx<;>cases hy<;>cases op<;>simp[eqGuard])
theorem kr{op:BinOp}{t:TypeId}{ox oy:Operand}{k k':IntKind}{x y:Int}:(eqGuard op t ox oy (.int k x) (.int k' y)).run A.P w= .ok () w:=by
 cases op<;>simp[eqGuard]
theorem bL{op:BinOp}{t:TypeId}{ox oy:Operand}{x y:ByteArray}:(eqGuard op t ox oy (.string x) (.string y)).run A.P w= .ok () w:=by
 cases op<;>simp[eqGuard]
theorem MJ{op:BinOp}{k:IntKind}{x y:Int}{t:TypeId}{v:AV}(h:Cq op k x y=some v):∃rv,(binOp op t (.int k x) (.int k y)).run A.P w= .ok rv w/\jb g w v rv:=by
 cases op<;>simp only[Cq]at h
 case quo=>
  split at h
  ·simp at h
  ·rename_i hy;simp at h;subst h;exact⟨_,by simp[binOp,Op.intDiv,hy],.int _ _⟩
 case rem=>
  split at h
  ·simp at h
  ·rename_i hy;simp at h;subst h;exact⟨_,by simp[binOp,Op.intDiv,hy],.int _ _⟩
 case and=>simp[bits]at h;subst h;exact⟨_,by simp[binOp,Op.intBits],.int _ _⟩
 case or=>simp[bits]at h;subst h;exact⟨_,by simp[binOp,Op.intBits],.int _ _⟩
 case xor=>simp[bits]at h;subst h;exact⟨_,by simp[binOp,Op.intBits],.int _ _⟩
 case andNot=>simp[bits]at h;subst h;exact⟨_,by simp[binOp,Op.intBits],.int _ _⟩
 case shl=>simp at h
 case shr=>simp at h
 case add=>simp at h;subst h;exact⟨_,by simp[binOp,Op.intArith],.int _ _⟩
 case sub=>simp at h;subst h;exact⟨_,by simp[binOp,Op.intArith],.int _ _⟩
 case mul=>simp at h;subst h;exact⟨_,by simp[binOp,Op.intArith],.int _ _⟩
 case eql=>simp at h;subst h;exact⟨.bool (decide (x=y)),by simp[binOp,Op.intCmp];rfl,.bool _⟩
 case neq=>simp at h;subst h;exact⟨.bool (!decide (x=y)),by simp[binOp,Op.intCmp];rfl,.bool _⟩
 case lss=>simp at h;subst h;exact⟨_,by simp[binOp,Op.intCmp],.bool _⟩
 case leq=>simp at h;subst h;exact⟨_,by simp[binOp,Op.intCmp],.bool _⟩
 case gtr=>simp at h;subst h;exact⟨_,by simp[binOp,Op.intCmp],.bool _⟩
 case geq=>simp at h;subst h;exact⟨_,by simp[binOp,Op.intCmp],.bool _⟩
theorem cJ{op:BinOp}{x y:ByteArray}{t:TypeId}{v:AV}(h:Ut op x y=some v):∃rv,(binOp op t (.string x) (.string y)).run A.P w= .ok rv w/\jb g w v rv:=by
 cases op<;>simp only[Ut]at h
 case add=>
  split at h
  case isFalse=>simp at h
  case isTrue hle=>
   simp at h;subst h;have hm:¬((x.size:Int)+(y.size:Int)>9223372036854775807):=by omega
   refine⟨.string (x++y),?_,.str _⟩;have:¬(((x.size+y.size:Nat):Int)>IntKind.i64.max):=by
    have:IntKind.i64.max=9223372036854775807:=by decide
    rw[this];omega
   simp only[binOp,Op.stringOp,if_neg this];rfl
 all_goals first
  |(simp at h;done)
  |(simp only[zc]at h;subst h;exact⟨_,rfl,.bool _⟩)
set_option maxHeartbeats 2000000 in
theorem wL{op:BinOp}{t:TypeId}{ox oy:Operand}{x y v:AV}{xv yv:Value}(h:binop A op t x y=some v)(hx:jb g w x xv)(hy:jb g w y yv):
  ∃rv,(eqGuard op t ox oy xv yv).run A.P w= .ok () w/\(binOp op t xv yv).run A.P w= .ok rv w/\jb g w v rv:=by
 unfold binop at h;split at h
 ·split at h
  case isFalse=>simp at h
  case isTrue hb=>
   simp at h;subst h;cases hx;cases hy;have:¬(_:Int)<0:=Int.not_lt.2 hb;exact⟨_,kr,by simp[binOp,Op.shift,this],.int _ _⟩
 ·split at h
  case isFalse=>simp at h
  case isTrue hb=>
   simp at h;subst h;cases hx;cases hy;have:¬(_:Int)<0:=Int.not_lt.2 hb;exact⟨_,kr,by simp[binOp,Op.shift,this],.int _ _⟩
 ·split at h
  case isFalse=>simp at h
  case isTrue e=>
   subst e;cases hx;cases hy;obtain⟨rv,h1,h2⟩:=MJ (A:=A) (g:=g) (w:=w) (t:=t) h;exact⟨rv,kr,h1,h2⟩
 ·cases hx;cases hy;obtain⟨rv,h1,h2⟩:=cJ (A:=A) (g:=g) (w:=w) (t:=t) h;exact⟨rv,bL,h1,h2⟩
 ·rename_i hn1 hn2;simp only[ia]at h;obtain⟨b,hb,rfl⟩:=h;refine⟨.bool b,EC hb hx hy,?_,.bool _⟩;have e:=CC hb hx hy;have Oab:binOp .eql t xv yv=(do pure (.bool (<- Op.equal t xv yv))):=by
   unfold Fg at hb;split at hb
   all_goals
    first
    |(simp at hb;done)
    |(cases hx<;>cases hy<;>rfl)
  rw[Oab];simp[e]
 ·simp only[ia]at h;obtain⟨b,hb,rfl⟩:=h;refine⟨.bool (!b),EC hb hx hy,?_,.bool _⟩;have e:=CC hb hx hy;have Oab:binOp .neq t xv yv=(do pure (.bool (!(<- Op.equal t xv yv)))):=by
   unfold Fg at hb;split at hb
   all_goals
    first
    |(simp at hb;done)
    |(cases hx<;>cases hy<;>rfl)
  rw[Oab];simp[e]
 ·simp at h
theorem TL{op:UnOp}{x v:AV}{xv:Value}(h:unop op x=some v)(hx:jb g w x xv):∃rv,(Op.unary op xv).run A.P w= .ok rv w/\jb g w v rv:=by
 unfold unop at h;split at h
 ·simp at h;subst h;cases hx;exact⟨_,by simp[Op.unary,Op.intArith],.int _ _⟩
 ·simp[bits]at h;subst h;cases hx;exact⟨_,by simp[Op.unary,Op.intBits],.int _ _⟩
 ·simp at h;subst h;cases hx;exact⟨_,by simp[Op.unary],.bool _⟩
 ·simp at h
theorem NJ{t:TypeId}{x v:AV}{xv:Value}{k:IntKind}{i:Int}(h:index A t x i=some v)(hx:jb g w x xv):∃rv,(Instr.index t xv (.int k i)).run A.P w= .ok rv w/\jb g w v rv:=by
 unfold index at h;split at h
 ·rename_i n e cs hu;split at h
  case isFalse=>simp at h
  case isTrue hr=>
   obtain⟨h0,h1⟩:=Dj hr;simp only[aa]at h;obtain⟨sz,se,h⟩:=h;obtain⟨vs,rfl,l9⟩:=Dh hx;obtain⟨rv,e1,e2⟩:=lj (A:=A) h l9;exact⟨rv,by simp[Instr.index,asIntOf,run_underlying hu,h0,h1,Rc se,e1],e2⟩
 ·rename_i sb hu;split at h
  case isFalse=>simp at h
  case isTrue hr=>
   obtain⟨h0,h1⟩:=Dj hr;simp at h;subst h;cases hx;have tc:i.toNat<sb.size:=by omega
   refine⟨_,?_,.int _ _⟩;simp[Instr.index,asIntOf,run_underlying hu,h0,tc,getElem!_pos]
 ·simp at h
theorem Rw{g:Gx}{w:World}(l:List UInt8)(cs:Array Value)(off:Nat)(h:∀(i:Nat)(b:UInt8),l[i]?=some b->cs[off+i]?=some (.int .u8 (b.toNat:Int)))(r:Nat)(row:List AV)
  (hr:(l.map fun b=>[AV.int .u8 (b.toNat:Int)])[r]?=some row):row.length=1/\Ye g w cs (off+r * 1) row:=by
 rw[Wb]at hr;cases hb:l[r]? with
 |none=>simp[hb]at hr
 |some b=>
  simp[hb]at hr;subst hr;refine⟨rfl,fun c x hx=> ?_⟩;cases c with
  |zero=>simp at hx;subst hx;exact⟨_,by simpa using h r b hb,rfl,.int _ _⟩
  |succ c=>simp at hx
end
end Go.V
namespace Go.V
open Go
section
variable {A:Eh}{g:Gx}{f:Fx}{w:World}{s:S}{a:Act}
theorem bg{H:AH}{x:AV}{xv:Value}{rows:List (List AV)}(h:rowsOf H x=some rows)(hw:Yb A.Ra g w H)(hx:jb g w x xv):
  ∃ao cap,xv= .slice ao rows.length cap/\rows.length<=cap/\(rows≠[]->∃ad sz,ao=some ad/\ad.spot=none/\∀(i:Nat)(row:List AV),rows[i]?=some row->row.length=sz/\Rm g w ad.block (ad.off+i * sz) row):=by
 unfold rowsOf at h;split at h
 ·simp at h;subst h;cases hx;exact⟨none,0,rfl,va _,fun h=>absurd rfl h⟩
 ·simp at h;subst h;cases hx with
  |Pd ad=>exact⟨some ad,0,rfl,va _,fun h=>absurd rfl h⟩
 ·rename_i sz Qg;simp at h;subst h;cases hx with
  |lits _ ad=>exact⟨some ad,0,rfl,va _,fun h=>absurd rfl h⟩
  |lit _ ad cap _ vs hs hc hz hl Ki h1c Qn=>
   refine⟨some ad,cap,rfl,hc,fun Sc=>⟨ad,sz,rfl,hs,fun i row hi=>⟨hl i row hi,fun j x hx=> ?_⟩⟩⟩;have h1:=getElem?_lt' hi;have h2:=getElem?_lt' hx;rw[hl i row hi]at h2;exact⟨vs i j,Ki i j h1 h2,h1c i j h1 h2,Qn i row j x hi hx⟩
 ·rename_i b r n;split at h
  case h_2=>simp at h
  case h_1 Qg sz ty hb=>
  split at h
  case isFalse=>simp at h
  case isTrue hle=>
  simp at h;subst h;have hlen:((Qg.drop r).take n).length=n:=by simp;omega
  cases hx with
  |sl _ _ _ cap hd hn bq=>
   obtain⟨_,Ff,se,he,cs,⟨T,fz,hR,_⟩,Nc⟩:=hw.Tc b _ hd hb;refine⟨_,cap,by rw[hlen],by rw[hlen];exact hn,fun Sc=>⟨_,sz,rfl,rfl,fun i row hi=> ?_⟩⟩;rw[Cb]at hi;split at hi
   case isFalse=>simp at hi
   case isTrue bH=>
   rw[Ec]at hi;obtain⟨hl,hr⟩:=Nc _ _ hi;refine⟨hl,?_⟩;have:=Rm.qM hR hr;rw[Ke,<- Ue]at this;rw[se];exact this
  |jJ _ _ ad hd=>
   refine⟨some ad,0,by rw[hlen],by simp,fun Sc=>absurd (Jt (by simp)) Sc⟩
 ·simp at h
theorem qq:∀{rows:List (List AV)}{l:List UInt8},Th rows=some l->l.length=rows.length/\∀(i:Nat)(row:List AV),rows[i]?=some row->∃n:Int,row=[.int .u8 n]/\l[i]?=some (UInt8.ofNat n.toNat)
 |[],l,h=>by simp[Th]at h;subst h;exact⟨rfl,fun i row h=>by simp at h⟩
 |row::rows,l,h=>by
  unfold Th at h;split at h
  ·simp at *
  ·rename_i n rest heq;simp only[List.cons.injEq]at heq;obtain⟨rfl,rfl⟩:=heq;simp only[aa]at h;obtain⟨l',Zf,h⟩:=h;simp at h;subst h;obtain⟨h1,h2⟩:=qq Zf;refine⟨by simp[h1],fun i row hi=> ?_⟩;cases i with
   |zero=>simp at hi;subst hi;exact⟨n,rfl,by simp⟩
   |succ i=>simpa using h2 i row (by simpa using hi)
  ·simp at h
theorem mz:∀(l:List UInt8)(ns:List Int)(r:ByteArray),ns.length=l.length->(∀(i:Nat)(n:Int),ns[i]?=some n->l[i]?=some (UInt8.ofNat n.toNat))->
  ns.foldl (fun r n=>r.push (UInt8.ofNat n.toNat)) r=⟨r.data++l.toArray⟩
 |[],[],r,_,_=>by simp
 |b::l,n::ns,r,hl,h=>by
  have h0:=h 0 n rfl;simp at h0;simp only[Og];rw[mz l ns _ (by simpa using hl) (fun i n hi=>by simpa using h (i+1) n (by simpa using hi)),<- h0];simp[ByteArray.push]
 |[],_::_,_,hl,_=>by simp at hl
 |_::_,[],_,hl,_=>by simp at hl
theorem oE{src dst:TypeId}{x v:AV}{xv:Value}{H':AH}{r:Result Next}(h:convert A s.H src dst x=some (v,H'))(hw:Yb A.Ra g w s.H)(hf:Od g f w s.H s.F)(hx:jb g w x xv)
  (de:r=((do pure (.value (<- Go.convert src dst xv))):Sem Next).run A.P w):ML A.Ra g f w s { s with H:=H' } (.v v) r:=by
 unfold convert at h;split at h
 ·rename_i hs hd;simp at h;obtain⟨rfl,rfl⟩:=h;cases hx;refine Te hw hf (rv:= .int _ _) ?_ (.int _ _);rw[de];simp[Go.convert,run_underlying hs,run_underlying hd,Conv.intToInt]
 ·rename_i hs hd;simp at h;obtain⟨rfl,rfl⟩:=h;cases hx;refine Te hw hf (rv:= .string _) ?_ (.str _);rw[de];simp[Go.convert,run_underlying hs,run_underlying hd]
 ·rename_i e sb hs hd;split at h
  case h_2=>simp at h
  case h_1 he=>
  split at h
  case isFalse=>simp at h
  case isTrue se=>
  simp at h;obtain⟨rfl,rfl⟩:=h;cases hx;have hr:=run_bytes_of_string (P:=A.P) w src dst e sb hs hd he;generalize hC:bytesRow sb (grownCap w sb.size 0 e)=C at hr;generalize Xl:grownCap w sb.size 0 e=cap at hr hC;have eu:sb.size<=cap:=by rw[<- Xl];simp[grownCap,Question.cut]
  have s6:C.size=cap:=by rw[<- hC];simp[bytesRow];omega
  refine wu (rows:=jc sb) (sz:=1) (cs:=C) (t:=e) (fz:=(C.size,C.size+1)) (w':=w.drew.alloc (.cells C e (C.size,C.size+1))) hw hf (by decide) ⟨?_,fun r row hr=> ?_⟩ rfl (fun off ho=>by simp;omega)
   (xn (by exact eu) (by omega) (by rw[<- Xl];exact gm (by omega))) (by rw[de];simp[hr])
  ·simp[jc];omega
  ·have:=Rw (g:=g) (w:=w) sb.data.toList C 0 (fun i b hb=>by
    rw[Qe,<- hC];have hi:=getElem?_lt' hb;simp only[bytesRow];rw[ax (by simpa using hi)];simp at hb ⊢;exact⟨b,hb,rfl⟩) r row hr
   simpa using this
 ·rename_i e hs hd _;split at h
  case h_2=>simp at h
  case h_1 he=>
  simp only[aa,ia]at h;obtain⟨rows,Nc,l,hl,h⟩:=h;simp at h;obtain⟨rfl,rfl⟩:=h;obtain⟨hlen,hb⟩:=qq hl;obtain⟨ao,cap,rfl,Xl,Ji⟩:=bg Nc hw hx;refine Te hw hf (rv:= .string ⟨l.toArray⟩) ?_ (.str _);rw[de];have fq:(Go.convert src dst (.slice ao rows.length cap)).run A.P w=(Conv.bytesToString (.slice ao rows.length cap)).run A.P w:=run_convert_bytes_string w src dst e ao _ cap hs he hd;by_cases Sc:rows=[]
  ·subst Sc;have:l=[]:=Jt (by simpa using hlen);subst this;cases ao with
   |none=>
    simp only[Ng]at fq;simp[fq,Conv.bytesToString];rfl
   |some ad=>
    have h0:(loadCells ad ([]:List (List AV)).length).run A.P w= .ok (([]:List Int).map (Value.int .u8)).toArray w:=by simp[loadCells,loadCellsFrom]
    simp only[Sem.run_bind,fq,run_bytesToString w ad _ cap [] h0];rfl
  ·obtain⟨ad,sz,rfl,jV,Ro⟩:=Ji Sc;obtain⟨ns,Lak,Cag⟩:=pick (fun(i:Nat)(row:List AV)(n:Int)=>row=[.int .u8 n]/\w.cell? (ad.add i)=some (.int .u8 n)/\l[i]?=some (UInt8.ofNat n.toNat)) rows (fun i row hi=>by
    obtain⟨n,rfl,iD⟩:=hb i row hi;obtain⟨h1,h2⟩:=Ro i _ hi;obtain⟨v,e1,_,e3⟩:=h2 0 (.int .u8 n) rfl;cases e3;refine⟨n,rfl,?_,iD⟩;rw[Nk jV,zg];simp at h1;rw[<- h1]at e1
    simpa using e1)
   have jd:∀(i:Nat)(n:Int),ns[i]?=some n->∃row,rows[i]?=some row:=fun i n hi=>⟨_,Aa (by have:=getElem?_lt' hi;omega)⟩
   have hlc:(loadCells ad rows.length).run A.P w= .ok (ns.map (Value.int .u8)).toArray w:=by
    have:=run_loadCells_list (P:=A.P) w ad (ns.map (Value.int .u8)) (fun j v hj=>by
     rw[Wb]at hj;cases hn:ns[j]? with
     |none=>simp[hn]at hj
     |some n=>
      simp[hn]at hj;subst hj;obtain⟨row,hr⟩:=jd j n hn;exact(Cag j row n hr hn).2.1)
    simpa[Lak]using this
   have Tv:=mz l ns ByteArray.empty (by omega) (fun i n hi=>by obtain⟨row,hr⟩:=jd i n hi;exact(Cag i row n hr hi).2.2);simp only[Sem.run_bind,fq,run_bytesToString w ad rows.length cap ns hlc,Result.andThen_ok,Sem.run_pure,Tv];have he0:ByteArray.empty.data= #[]:=rfl;rw[he0];simp
 ·simp at h
end
end Go.V
