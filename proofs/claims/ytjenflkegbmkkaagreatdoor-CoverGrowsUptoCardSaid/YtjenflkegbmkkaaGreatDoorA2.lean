/- An evaluator of the translated code and that it is right: each of its answers is an answer of the model. -/
import Derived.Test.YtjenflkegbmkkaaGreatDoorA1
import Derived.Laws.StructEq
import Derived.ChangeKeysEq
import Derived.Laws.BytesString
import Derived.Laws.IdiomStrings
set_option linter.unusedVariables false
set_option linter.unusedSimpArgs false
set_option linter.unusedSectionVars false
namespace Go.V
open Go
section
variable {A:Par} {g:Gx} {f:Fx} {w:World} {s:S} {a:Act}
theorem optInt_sound {x:Option Operand} {n:Option Int} (h:optInt A s.e x=some n) (hw:WRel A.glob g w s.H) (he:EnvRel g f w s.e a.tmps):
  (n=none/\x.map a.eval=none)\/∃ i k,n=some i/\x.map a.eval=some (.int k i):=by
 cases x with
 |none=>simp [optInt] at h;subst h;exact .inl ⟨rfl,rfl⟩
 |some x=>
  simp only [optInt,Option.bind_eq_some_iff,Option.map_eq_some_iff] at h;obtain ⟨av,hav,i,hi,rfl⟩:=h;obtain ⟨k,hk⟩:=toInt_sound hi (val_sound hav hw he);exact .inr ⟨i,k,rfl,by simp [hk]⟩
theorem run_bounds {isSl:Bool} {n cap:Nat} {lo hi:Option Int} {lv hv:Option Value} (hlo:(lo=none/\lv=none)\/∃ i k,lo=some i/\lv=some (.int k i)) (hhi:(hi=none/\hv=none)\/∃ i k,hi=some i/\hv=some (.int k i))
   (h0:0<=lo.getD 0) (h1:lo.getD 0<=hi.getD n) (h2:hi.getD n<=n) (hcap:n<=cap):
   (Instr.sliceBounds isSl n cap lv hv none).run A.P w= .ok ((lo.getD 0).toNat,(hi.getD n).toNat,cap) w:=by
 unfold Instr.sliceBounds;rcases hhi with ⟨rfl,rfl⟩|⟨i,k,rfl,rfl⟩<;>rcases hlo with ⟨rfl,rfl⟩|⟨j,k',rfl,rfl⟩
 · simp
 · simp at h0 h1;simp [Instr.sliceBound,asIntOf,h0,h1]
 · simp at h0 h1 h2;have:i<=(cap:Int):=by omega
   simp [Instr.sliceBound,asIntOf,h1,this]
 · simp at h0 h1 h2;have:i<=(cap:Int):=by omega
   have h3:0<=i:=by omega
   simp [Instr.sliceBound,asIntOf,h3,this,h0];intro hc;omega
theorem bnd_spec {lo hi:Option Int} {n l h:Nat} (e:bnd lo hi n=some (l,h)):0<=lo.getD 0/\lo.getD 0<=hi.getD n/\hi.getD n<=n/\l=(lo.getD 0).toNat/\h=(hi.getD n).toNat/\l<=h/\h<=n:=by
 unfold bnd at e;split at e
 case isFalse=>simp at e
 case isTrue hc=>simp at e;obtain ⟨rfl,rfl⟩:=e;obtain ⟨h1,h2,h3⟩:=hc;exact ⟨h1,h2,h3,rfl,rfl,by omega,by omega⟩
theorem is0_sound {x:AV} {v:Value} (h:is0 x=true) (hx:VRel g w x v):∃ k,v= .int k 0:=by
 unfold is0 at h;split at h
 · cases hx;simp at h;subst h;exact ⟨_,rfl⟩
 · simp at h
theorem slice0_sound {t:TypeId} {x v:AV} {xv:Value} (h:slice0 A t x=some v) (hx:VRel g w x xv):
   ∃ rv,(∀ k1 k2,(Instr.sliceAt t xv none (some (.int k1 0)) (some (.int k2 0))).run A.P w= .ok rv w)/\VRel g w v rv:=by
 unfold slice0 at h;split at h
 case h_2=>simp at h
 rename_i e hu;simp only [Option.bind_eq_some_iff] at h;obtain ⟨n,hn,h⟩:=h;have hb:∀ (len cap:Nat) (k1 k2:IntKind),(Instr.sliceBounds true len cap none (some (.int k1 0)) (some (.int k2 0))).run A.P w= .ok (0,0,0) w:=fun len cap k1 k2=>by
   unfold Instr.sliceBounds;simp [Instr.sliceBound,asIntOf]
 have go:∀ (a:Option Addr) (len cap:Nat) (k1 k2:IntKind),(Instr.sliceAt t (.slice a len cap) none (some (.int k1 0)) (some (.int k2 0))).run A.P w= .ok (.slice a 0 0) w:=fun a len cap k1 k2=>by
   simp [Instr.sliceAt,run_underlying hu,Instr.slice,hb,run_size hn]
 split at h
 · cases hx;simp at h;subst h;exact ⟨_,go _ _ _,.nils⟩
 · cases hx;simp at h;subst h;exact ⟨_,go _ _ _,.emp _⟩
 · simp at h;subst h;cases hx<;>exact ⟨_,go _ _ _,.emp _⟩
 · simp at h;subst h;cases hx<;>exact ⟨_,go _ _ _,.emp _⟩
 · simp at h
theorem slice_sound {t:TypeId} {x v:AV} {xv:Value} {lo hi:Option Int} {lv hv:Option Value} (h:slice A s.H t x lo hi=some v) (hw:WRel A.glob g w s.H) (hx:VRel g w x xv)
   (hlo:(lo=none/\lv=none)\/∃ i k,lo=some i/\lv=some (.int k i)) (hhi:(hi=none/\hv=none)\/∃ i k,hi=some i/\hv=some (.int k i)):
   ∃ rv,(Instr.sliceAt t xv lv hv none).run A.P w= .ok rv w/\VRel g w v rv:=by
 have hat:∀ d,A.P.underlying t=some d->(∀ n e,d≠ .array n e)->(Instr.sliceAt t xv lv hv none).run A.P w=(Instr.slice t xv lv hv none).run A.P w:=fun d hu hne=>by
   simp only [Instr.sliceAt,Sem.run_bind,run_underlying hu,Result.andThen_ok]
   all_goals (cases d<;>first|rfl|exact absurd rfl (hne _ _))
 unfold slice at h;split at h
 · rename_i sb hu;simp only [Option.map_eq_some_iff] at h;obtain ⟨⟨l,h'⟩,hb,rfl⟩:=h;obtain ⟨b1,b2,b3,rfl,rfl,b4,b5⟩:=bnd_spec hb;cases hx;have hb:=run_bounds (A:=A) (w:=w) (isSl:=false) (n:=sb.size) (cap:=sb.size) hlo hhi b1 b2 b3 (Nat.le_refl _);refine ⟨_,?_,VRel.str _⟩;rw [hat _ hu (by simp)];simp [Instr.slice,run_underlying hu,hb]
 · rename_i e hu;simp only [Option.bind_eq_some_iff,Option.map_eq_some_iff] at h;obtain ⟨sz,hsz,⟨l,h'⟩,hb,rfl⟩:=h;obtain ⟨b1,b2,b3,rfl,rfl,b4,b5⟩:=bnd_spec hb;cases hx;have hb:=run_bounds (A:=A) (w:=w) (isSl:=true) (n:=0) (cap:=0) hlo hhi b1 b2 b3 (Nat.le_refl _);refine ⟨.slice none 0 0,?_,VRel.nils⟩;rw [hat _ hu (by simp)];have e1:(lo.getD 0).toNat=0:=by omega
   have e2:(hi.getD (0:Nat)).toNat=0:=by omega
   rw [e1,e2] at hb;simp [Instr.slice,run_underlying hu,hb,run_size hsz]
 · rename_i e hu;simp only [Option.bind_eq_some_iff,Option.map_eq_some_iff] at h;obtain ⟨sz,hsz,⟨l,h'⟩,hb,rfl⟩:=h;obtain ⟨b1,b2,b3,rfl,rfl,b4,b5⟩:=bnd_spec hb;cases hx with
   |emp ad=>
   have hb:=run_bounds (A:=A) (w:=w) (isSl:=true) (n:=0) (cap:=0) hlo hhi b1 b2 b3 (Nat.le_refl _);refine ⟨.slice (some ad) 0 0,?_,VRel.emp ad⟩;rw [hat _ hu (by simp)];have e1:(lo.getD 0).toNat=0:=by omega
   have e2:(hi.getD (0:Nat)).toNat=0:=by omega
   rw [e1,e2] at hb;simp [Instr.slice,run_underlying hu,hb,run_size hsz]
 · rename_i e sz rows hu;simp only [Option.bind_eq_some_iff] at h;obtain ⟨⟨l,h'⟩,hb,h⟩:=h;simp only at h;split at h
   case isFalse=>simp at h
   case isTrue hsz=>
   simp at h;subst h;obtain ⟨b1,b2,b3,rfl,rfl,b4,b5⟩:=bnd_spec hb;cases hx with
   |lits _ ad=>
     have hb:=run_bounds (A:=A) (w:=w) (isSl:=true) (n:=0) (cap:=0) hlo hhi b1 b2 b3 (Nat.le_refl _);have e1:(lo.getD 0).toNat=0:=by simp at b3 b2;omega
     have e2:(hi.getD (([]:List (List AV)).length:Nat)).toNat=0:=by simp at b3 b2 ⊢;omega
     simp only [List.length_nil] at hb e2;rw [e1,e2] at hb;refine ⟨.slice (some ad) 0 0,?_,by simp only [List.length_nil,e1,e2,List.take_zero,List.drop_nil];exact VRel.lits sz ad⟩;rw [hat _ hu (by simp)];simp [Instr.slice,run_underlying hu,hb,run_size hsz]
   |lit _ ad cap _ vs hs hc hz hl hcell h1c hrel=>
   have hb:=run_bounds (A:=A) (w:=w) (isSl:=true) (n:=rows.length) (cap:=cap) hlo hhi b1 b2 b3 hc;generalize (lo.getD 0).toNat=l at *
   generalize (hi.getD (rows.length:Nat)).toNat=h' at *
   rw [hat _ hu (by simp)];have hlen:((rows.take h').drop l).length=h'-l:=by simp;omega
   by_cases hcl:cap=l
   · have h0:(rows.take h').drop l=[]:=List.eq_nil_of_length_eq_zero (by rw [hlen];omega);refine ⟨.slice (some ad) 0 0,?_,?_⟩
     · have hh:h'-l=0:=by omega
       subst hcl;simp [Instr.slice,run_underlying hu,hb,run_size hsz,hh]
     · rw [h0];exact .lit (g:=g) (w:=w) [] ad 0 sz (fun _ _=>undef) hs (Nat.le_refl _) (fun h=>absurd rfl h) (fun i row h=>by simp at h) (fun i c h=>by simp at h) (fun i c h=>by simp at h) (fun i row c x h=>by simp at h)
   · refine ⟨.slice (some (ad.add (l * sz))) (h'-l) (cap-l),?_,?_⟩
     · simp [Instr.slice,run_underlying hu,hb,run_size hsz,hcl]
     · rw [spot_none hs,add_none,<- hlen];have hget:∀ (i:Nat) (row:List AV),((rows.take h').drop l)[i]?=some row->rows[l+i]?=some row:=fun i row hi=>by
         rw [List.getElem?_drop,List.getElem?_take] at hi;split at hi
         · exact hi
         · simp at hi
       refine .lit _ ⟨ad.block,ad.off+l * sz,none⟩ (cap-l) sz (fun i c=>vs (l+i) c) rfl (by omega) (fun hne=>hz (by intro e;subst e;simp at hne)) (fun i row hi=>hl _ _ (hget i row hi)) (fun i c hi hc'=> ?_) (fun i c hi hc'=>h1c _ c (by omega) hc') (fun i row c x hi hx=>hrel _ row c x (hget i row hi) hx);have:=hcell (l+i) c (by omega) hc';rw [Nat.add_mul,<- Nat.add_assoc] at this;exact this
 · rename_i e b r n hu;simp only [Option.bind_eq_some_iff] at h;obtain ⟨⟨l,h'⟩,hb,sz,hszb,h⟩:=h;split at h
   case isFalse=>simp at h
   case isTrue hsz=>
   simp at h;subst h;obtain ⟨b1,b2,b3,rfl,rfl,b4,b5⟩:=bnd_spec hb;rw [hat _ hu (by simp)];cases hx with
   |sl _ _ _ cap hd hle hend hmc=>
     obtain ⟨e1,e2⟩:=szOf_eq hw hd hszb.symm;have hb:=run_bounds (A:=A) (w:=w) (isSl:=true) (n:=n) (cap:=cap) hlo hhi b1 b2 b3 hle;generalize (lo.getD 0).toNat=l at *
     generalize (hi.getD (n:Nat)).toNat=h' at *
     by_cases hcl:cap=l
     · refine ⟨.slice (some ⟨(g.ρ b).R,(g.ρ b).o+r * (g.ρ b).sz,none⟩) 0 0,?_,?_⟩
       · have hh:h'-l=0:=by omega
         subst hcl;simp [Instr.slice,run_underlying hu,hb,run_size hsz,hh]
       · have hh:h'-l=0:=by omega
         rw [hh];exact .slz b (r+l) _ hd
     · refine ⟨.slice (some ⟨(g.ρ b).R,(g.ρ b).o+(r+l) * (g.ρ b).sz,none⟩) (h'-l) (cap-l),?_,?_⟩
       · simp [Instr.slice,run_underlying hu,hb,run_size hsz,hcl,add_none,e1,Nat.add_mul,Nat.add_assoc]
       · exact .sl b (r+l) (h'-l) (cap-l) hd (by omega) (by rw [show r+l+(cap-l)=r+cap by omega];exact hend) (by omega)
   |slz _ _ ad hd=>
     have hb:=run_bounds (A:=A) (w:=w) (isSl:=true) (n:=0) (cap:=0) hlo hhi b1 b2 b3 (Nat.le_refl _);have e1:(lo.getD 0).toNat=0:=by omega
     have e2:(hi.getD (0:Nat)).toNat=0:=by omega
     rw [e1,e2] at hb ⊢;refine ⟨.slice (some ad) 0 0,?_,.slz b r ad hd⟩;simp [Instr.slice,run_underlying hu,hb,run_size hsz]
 · simp at h
theorem eqFields_sound {d:Nat} (ih:∀ (t:TypeId) (x y:AV) (b:Bool) (xv yv:Value),eqT A d t x y=some b->VRel g w x xv->VRel g w y yv->(Op.equalIn (d+9000) t xv yv).run A.P w= .ok b w)
  {xs ys:List AV} {xv yv:Array Value} (hx:AggR g w xs xv) (hy:AggR g w ys yv):∀ (fs:List Field) (b:Bool),eqFields A (eqT A d) xs ys fs=some b->(Op.eqFields (d+9000) xv yv fs).run A.P w= .ok b w
 |[],b,h=>by simp [eqFields] at h;subst h;simp [Op.eqFields]
 |fd::fs,b,h=>by
  unfold eqFields at h;unfold Op.eqFields;split at h
  · rename_i hn;rw [if_neg (by simpa using hn)];exact eqFields_sound ih hx hy fs b h
  · rename_i hn;rw [if_pos (by simpa using hn)];simp only [Option.bind_eq_some_iff,Option.map_eq_some_iff] at h;obtain ⟨x,hpx,y,hpy,b1,hb1,c,hc,rfl⟩:=h;obtain ⟨xv',e1,r1⟩:=part_sound (A:=A) hpx hx;obtain ⟨yv',e2,r2⟩:=part_sound (A:=A) hpy hy;have e3:=ih _ _ _ _ _ _ hb1 r1 r2;have e4:=eqFields_sound ih hx hy fs c hc;simp only [Sem.run_bind,e1,e2,e3,Result.andThen_ok,Sem.run_ite,e4,Sem.run_pure];cases b1<;>simp
theorem eqElems_sound {d:Nat} {e:TypeId} {sz:Nat} (ih:∀ (x y:AV) (b:Bool) (xv yv:Value),eqT A d e x y=some b->VRel g w x xv->VRel g w y yv->(Op.equalIn (d+9000) e xv yv).run A.P w= .ok b w)
  {xs ys:List AV} {xv yv:Array Value} (hx:AggR g w xs xv) (hy:AggR g w ys yv):∀ (n i:Nat) (b:Bool),eqElems A (eqT A d e) e sz xs ys n i=some b->(Op.eqItems (d+9000) e sz xv yv (List.range' i n)).run A.P w= .ok b w
 |0,i,b,h=>by simp [eqElems] at h;subst h;simp [Op.eqItems]
 |n+1,i,b,h=>by
  unfold eqElems at h;rw [List.range'_succ];unfold Op.eqItems;simp only [Option.bind_eq_some_iff,Option.map_eq_some_iff] at h;obtain ⟨x,hpx,y,hpy,b1,hb1,c,hc,rfl⟩:=h;obtain ⟨xv',e1,r1⟩:=part_sound (A:=A) hpx hx;obtain ⟨yv',e2,r2⟩:=part_sound (A:=A) hpy hy;have e3:=ih _ _ _ _ _ hb1 r1 r2;have e4:=eqElems_sound ih hx hy n (i+1) c hc;simp only [Sem.run_bind,e1,e2,e3,Result.andThen_ok,Sem.run_ite,e4,Sem.run_pure];cases b1<;>simp
theorem eqT_sound:∀ (d:Nat) (t:TypeId) (x y:AV) (b:Bool) (xv yv:Value),eqT A d t x y=some b->VRel g w x xv->VRel g w y yv->(Op.equalIn (d+9000) t xv yv).run A.P w= .ok b w
 |0,t,x,y,b,xv,yv,h,_,_=>by simp [eqT] at h
 |d+1,t,x,y,b,xv,yv,h,hx,hy=>by
  rw [show d+1+9000=(d+9000)+1 by omega];unfold eqT at h;split at h
  · rename_i hu;simp at h;subst h;cases hx;cases hy;exact run_equalIn_bool' w _ t _ _ hu
  · rename_i k0 k a' k' b' hu;split at h
    case isFalse=>simp at h
    case isTrue e=>
     subst e;simp at h;subst h;cases hx;cases hy;rw [run_equalIn_int w _ t _ _ _ _ hu];congr 1
  · rename_i hu;simp at h;subst h;cases hx;cases hy;rw [run_equalIn_string w _ t _ _ hu]
  · rename_i fs xs ys hu;split at h
    case isTrue=>simp at h
    case isFalse hns=>
     obtain ⟨xv',rfl,hx'⟩:=agg_aggR hx;obtain ⟨yv',rfl,hy'⟩:=agg_aggR hy;have hfo:A.P.fieldsOf t=fs:=by simp [Program.fieldsOf,hu]
     rw [run_equalIn_struct w _ t _ _ (by rw [hfo];exact hu) (by simpa using hns),hfo];exact eqFields_sound (eqT_sound d) hx' hy' fs.toList b h
  · rename_i n e xs ys hu;simp only [Option.bind_eq_some_iff] at h;obtain ⟨sz,hsz,h⟩:=h;obtain ⟨xv',rfl,hx'⟩:=agg_aggR hx;obtain ⟨yv',rfl,hy'⟩:=agg_aggR hy;unfold size at hsz;obtain ⟨i,hi,rfl⟩:=Option.map_eq_some_iff.1 hsz;have hc:A.P.cellsOf e=i.size:=by simp [Program.cellsOf,hi]
    rw [run_equalIn_array w _ _ _ hu hi,hc,List.range_eq_range'];exact eqElems_sound (eqT_sound d e) hx' hy' n 0 b h
  · simp at h
end
end Go.V
namespace Go.V
open Go
section
variable {A:Par} {g:Gx} {f:Fx} {w:World} {s:S} {a:Act}
set_option maxHeartbeats 2000000 in
theorem eqOp_sound {t:TypeId} {x y:AV} {b:Bool} {xv yv:Value} (h:eqOp A t x y=some b) (hx:VRel g w x xv) (hy:VRel g w y yv):(Op.equal t xv yv).run A.P w= .ok b w:=by
 unfold eqOp at h;unfold Op.equal;split at h
 case h_2 fs xs ys hu=>
  split at h
  · simp at h
  · exact eqT_sound 1000 t _ _ b xv yv h hx hy
 case h_3 fs xs ys hu=>
  split at h
  · simp at h
  · exact eqT_sound 1000 t _ _ b xv yv h hx hy
 all_goals
  first
  |(simp at h;done)
  |(rename_i hu
    simp only [Option.some.injEq] at h;subst h;have hd:Op.maxDepth=9999+1:=rfl;rw [hd];generalize 9999=d;cases hx<;>cases hy<;>simp [Op.equalIn,run_underlying hu])
set_option maxHeartbeats 2000000 in
theorem eqGuard_ok {op:BinOp} {t:TypeId} {ox oy:Operand} {x y:AV} {b:Bool} {xv yv:Value} (h:eqOp A t x y=some b) (hx:VRel g w x xv) (hy:VRel g w y yv):(eqGuard op t ox oy xv yv).run A.P w= .ok () w:=by
 unfold eqOp at h;split at h
 case h_2 fs xs ys hu=>
  split at h
  · simp at h
  · rename_i hg;obtain ⟨xv',rfl,hx'⟩:=agg_aggR hx;obtain ⟨yv',rfl,hy'⟩:=agg_aggR hy;exact run_eqGuard_agg w op t ox oy _ _ (by simpa using hg)
 case h_3 fs xs ys hu=>
  split at h
  · simp at h
  · rename_i hg;obtain ⟨xv',rfl,hx'⟩:=agg_aggR hx;obtain ⟨yv',rfl,hy'⟩:=agg_aggR hy;exact run_eqGuard_agg w op t ox oy _ _ (by simpa using hg)
 all_goals
  first
  |(simp at h;done)
  |(cases hx<;>cases hy<;>cases op<;>simp [eqGuard])
theorem eqGuard_int {op:BinOp} {t:TypeId} {ox oy:Operand} {k k':IntKind} {x y:Int}:(eqGuard op t ox oy (.int k x) (.int k' y)).run A.P w= .ok () w:=by
 cases op<;>simp [eqGuard]
theorem eqGuard_str {op:BinOp} {t:TypeId} {ox oy:Operand} {x y:ByteArray}:(eqGuard op t ox oy (.string x) (.string y)).run A.P w= .ok () w:=by
 cases op<;>simp [eqGuard]
theorem intOp_sound {op:BinOp} {k:IntKind} {x y:Int} {t:TypeId} {v:AV} (h:intOp op k x y=some v):∃ rv,(binOp op t (.int k x) (.int k y)).run A.P w= .ok rv w/\VRel g w v rv:=by
 cases op<;>simp only [intOp] at h
 case quo=>
  split at h
  · simp at h
  · rename_i hy;simp at h;subst h;exact ⟨_,by simp [binOp,Op.intDiv,hy],.int _ _⟩
 case rem=>
  split at h
  · simp at h
  · rename_i hy;simp at h;subst h;exact ⟨_,by simp [binOp,Op.intDiv,hy],.int _ _⟩
 case and=>simp [bits] at h;subst h;exact ⟨_,by simp [binOp,Op.intBits],.int _ _⟩
 case or=>simp [bits] at h;subst h;exact ⟨_,by simp [binOp,Op.intBits],.int _ _⟩
 case xor=>simp [bits] at h;subst h;exact ⟨_,by simp [binOp,Op.intBits],.int _ _⟩
 case andNot=>simp [bits] at h;subst h;exact ⟨_,by simp [binOp,Op.intBits],.int _ _⟩
 case shl=>simp at h
 case shr=>simp at h
 case add=>simp at h;subst h;exact ⟨_,by simp [binOp,Op.intArith],.int _ _⟩
 case sub=>simp at h;subst h;exact ⟨_,by simp [binOp,Op.intArith],.int _ _⟩
 case mul=>simp at h;subst h;exact ⟨_,by simp [binOp,Op.intArith],.int _ _⟩
 case eql=>simp at h;subst h;exact ⟨.bool (decide (x=y)),by simp [binOp,Op.intCmp];rfl,.bool _⟩
 case neq=>simp at h;subst h;exact ⟨.bool (!decide (x=y)),by simp [binOp,Op.intCmp];rfl,.bool _⟩
 case lss=>simp at h;subst h;exact ⟨_,by simp [binOp,Op.intCmp],.bool _⟩
 case leq=>simp at h;subst h;exact ⟨_,by simp [binOp,Op.intCmp],.bool _⟩
 case gtr=>simp at h;subst h;exact ⟨_,by simp [binOp,Op.intCmp],.bool _⟩
 case geq=>simp at h;subst h;exact ⟨_,by simp [binOp,Op.intCmp],.bool _⟩
theorem strOp_sound {op:BinOp} {x y:ByteArray} {t:TypeId} {v:AV} (h:strOp op x y=some v):∃ rv,(binOp op t (.string x) (.string y)).run A.P w= .ok rv w/\VRel g w v rv:=by
 cases op<;>simp only [strOp] at h
 case add=>
  split at h
  case isFalse=>simp at h
  case isTrue hle=>
   simp at h;subst h;have hm:¬ ((x.size:Int)+(y.size:Int)>9223372036854775807):=by omega
   refine ⟨.string (x++y),?_,.str _⟩;have:¬ (((x.size+y.size:Nat):Int)>IntKind.i64.max):=by
    have:IntKind.i64.max=9223372036854775807:=by decide
    rw [this];omega
   simp only [binOp,Op.stringOp,if_neg this];rfl
 all_goals first
  |(simp at h;done)
  |(simp only [Option.some.injEq] at h;subst h;exact ⟨_,rfl,.bool _⟩)
set_option maxHeartbeats 2000000 in
theorem binop_sound {op:BinOp} {t:TypeId} {ox oy:Operand} {x y v:AV} {xv yv:Value} (h:binop A op t x y=some v) (hx:VRel g w x xv) (hy:VRel g w y yv):
   ∃ rv,(eqGuard op t ox oy xv yv).run A.P w= .ok () w/\(binOp op t xv yv).run A.P w= .ok rv w/\VRel g w v rv:=by
 unfold binop at h;split at h
 · split at h
   case isFalse=>simp at h
   case isTrue hb=>
    simp at h;subst h;cases hx;cases hy;have:¬ (_:Int)<0:=Int.not_lt.2 hb;exact ⟨_,eqGuard_int,by simp [binOp,Op.shift,this],.int _ _⟩
 · split at h
   case isFalse=>simp at h
   case isTrue hb=>
    simp at h;subst h;cases hx;cases hy;have:¬ (_:Int)<0:=Int.not_lt.2 hb;exact ⟨_,eqGuard_int,by simp [binOp,Op.shift,this],.int _ _⟩
 · split at h
   case isFalse=>simp at h
   case isTrue e=>
    subst e;cases hx;cases hy;obtain ⟨rv,h1,h2⟩:=intOp_sound (A:=A) (g:=g) (w:=w) (t:=t) h;exact ⟨rv,eqGuard_int,h1,h2⟩
 · cases hx;cases hy;obtain ⟨rv,h1,h2⟩:=strOp_sound (A:=A) (g:=g) (w:=w) (t:=t) h;exact ⟨rv,eqGuard_str,h1,h2⟩
 · rename_i hn1 hn2;simp only [Option.map_eq_some_iff] at h;obtain ⟨b,hb,rfl⟩:=h;refine ⟨.bool b,eqGuard_ok hb hx hy,?_,.bool _⟩;have e:=eqOp_sound hb hx hy;have hbin:binOp .eql t xv yv=(do pure (.bool (<- Op.equal t xv yv))):=by
    unfold eqOp at hb;split at hb
    all_goals
     first
     |(simp at hb;done)
     |(cases hx<;>cases hy<;>rfl)
   rw [hbin];simp [e]
 · simp only [Option.map_eq_some_iff] at h;obtain ⟨b,hb,rfl⟩:=h;refine ⟨.bool (!b),eqGuard_ok hb hx hy,?_,.bool _⟩;have e:=eqOp_sound hb hx hy;have hbin:binOp .neq t xv yv=(do pure (.bool (!(<- Op.equal t xv yv)))):=by
    unfold eqOp at hb;split at hb
    all_goals
     first
     |(simp at hb;done)
     |(cases hx<;>cases hy<;>rfl)
   rw [hbin];simp [e]
 · simp at h
theorem unop_sound {op:UnOp} {x v:AV} {xv:Value} (h:unop op x=some v) (hx:VRel g w x xv):∃ rv,(Op.unary op xv).run A.P w= .ok rv w/\VRel g w v rv:=by
 unfold unop at h;split at h
 · simp at h;subst h;cases hx;exact ⟨_,by simp [Op.unary,Op.intArith],.int _ _⟩
 · simp [bits] at h;subst h;cases hx;exact ⟨_,by simp [Op.unary,Op.intBits],.int _ _⟩
 · simp at h;subst h;cases hx;exact ⟨_,by simp [Op.unary],.bool _⟩
 · simp at h
theorem index_sound {t:TypeId} {x v:AV} {xv:Value} {k:IntKind} {i:Int} (h:index A t x i=some v) (hx:VRel g w x xv):∃ rv,(Instr.index t xv (.int k i)).run A.P w= .ok rv w/\VRel g w v rv:=by
 unfold index at h;split at h
 · rename_i n e cs hu;split at h
   case isFalse=>simp at h
   case isTrue hr=>
    obtain ⟨h0,h1⟩:=inRange_iff hr;simp only [Option.bind_eq_some_iff] at h;obtain ⟨sz,hsz,h⟩:=h;obtain ⟨vs,rfl,hvs⟩:=agg_aggR hx;obtain ⟨rv,e1,e2⟩:=part_sound (A:=A) h hvs;exact ⟨rv,by simp [Instr.index,asIntOf,run_underlying hu,h0,h1,run_size hsz,e1],e2⟩
 · rename_i sb hu;split at h
   case isFalse=>simp at h
   case isTrue hr=>
    obtain ⟨h0,h1⟩:=inRange_iff hr;simp at h;subst h;cases hx;have hlt:i.toNat<sb.size:=by omega
    refine ⟨_,?_,.int _ _⟩;simp [Instr.index,asIntOf,run_underlying hu,h0,hlt,getElem!_pos]
 · simp at h
theorem byteRows_rel {g:Gx} {w:World} (l:List UInt8) (cs:Array Value) (off:Nat) (h:∀ (i:Nat) (b:UInt8),l[i]?=some b->cs[off+i]?=some (.int .u8 (b.toNat:Int))) (r:Nat) (row:List AV)
  (hr:(l.map fun b=>[AV.int .u8 (b.toNat:Int)])[r]?=some row):row.length=1/\RowRel g w cs (off+r * 1) row:=by
 rw [List.getElem?_map] at hr;cases hb:l[r]? with
 |none=>simp [hb] at hr
 |some b=>
  simp [hb] at hr;subst hr;refine ⟨rfl,fun c x hx=> ?_⟩;cases c with
  |zero=>simp at hx;subst hx;exact ⟨_,by simpa using h r b hb,rfl,.int _ _⟩
  |succ c=>simp at hx
end
end Go.V
namespace Go.V
open Go
section
variable {A:Par} {g:Gx} {f:Fx} {w:World} {s:S} {a:Act}
theorem slice_cells {H:AH} {x:AV} {xv:Value} {rows:List (List AV)} (h:rowsOf H x=some rows) (hw:WRel A.glob g w H) (hx:VRel g w x xv):
   ∃ ao cap,xv= .slice ao rows.length cap/\rows.length<=cap/\(rows≠[]->∃ ad sz,ao=some ad/\ad.spot=none/\∀ (i:Nat) (row:List AV),rows[i]?=some row->row.length=sz/\CellsAt g w ad.block (ad.off+i * sz) row):=by
 unfold rowsOf at h;split at h
 · simp at h;subst h;cases hx;exact ⟨none,0,rfl,Nat.le_refl _,fun h=>absurd rfl h⟩
 · simp at h;subst h;cases hx with
   |emp ad=>exact ⟨some ad,0,rfl,Nat.le_refl _,fun h=>absurd rfl h⟩
 · rename_i sz rows0;simp at h;subst h;cases hx with
   |lits _ ad=>exact ⟨some ad,0,rfl,Nat.le_refl _,fun h=>absurd rfl h⟩
   |lit _ ad cap _ vs hs hc hz hl hcell h1c hrel=>
    refine ⟨some ad,cap,rfl,hc,fun hne=>⟨ad,sz,rfl,hs,fun i row hi=>⟨hl i row hi,fun j x hx=> ?_⟩⟩⟩;have h1:=getElem?_lt' hi;have h2:=getElem?_lt' hx;rw [hl i row hi] at h2;exact ⟨vs i j,hcell i j h1 h2,h1c i j h1 h2,hrel i row j x hi hx⟩
 · rename_i b r n;split at h
   case h_2=>simp at h
   case h_1 rows0 sz ty hb=>
   split at h
   case isFalse=>simp at h
   case isTrue hle=>
   simp at h;subst h;have hlen:((rows0.drop r).take n).length=n:=by simp;omega
   cases hx with
   |sl _ _ _ cap hd hn hend=>
    obtain ⟨_,hpos,hsz,he,cs,⟨T,fz,hR,_⟩,hrows⟩:=hw.blk b _ hd hb;refine ⟨_,cap,by rw [hlen],by rw [hlen];exact hn,fun hne=>⟨_,sz,rfl,rfl,fun i row hi=> ?_⟩⟩;rw [List.getElem?_take] at hi;split at hi
    case isFalse=>simp at hi
    case isTrue hin=>
    rw [List.getElem?_drop] at hi;obtain ⟨hl,hr⟩:=hrows _ _ hi;refine ⟨hl,?_⟩;have:=CellsAt.of_row hR hr;rw [Nat.add_mul,<- Nat.add_assoc] at this;rw [hsz];exact this
   |slz _ _ ad hd=>
    refine ⟨some ad,0,by rw [hlen],by simp,fun hne=>absurd (List.eq_nil_of_length_eq_zero (by simp)) hne⟩
 · simp at h
theorem rowsBytes_spec:∀ {rows:List (List AV)} {l:List UInt8},rowsBytes rows=some l->l.length=rows.length/\∀ (i:Nat) (row:List AV),rows[i]?=some row->∃ n:Int,row=[.int .u8 n]/\l[i]?=some (UInt8.ofNat n.toNat)
 |[],l,h=>by simp [rowsBytes] at h;subst h;exact ⟨rfl,fun i row h=>by simp at h⟩
 |row::rows,l,h=>by
  unfold rowsBytes at h;split at h
  · simp at *
  · rename_i n rest heq;simp only [List.cons.injEq] at heq;obtain ⟨rfl,rfl⟩:=heq;simp only [Option.bind_eq_some_iff] at h;obtain ⟨l',hl',h⟩:=h;simp at h;subst h;obtain ⟨h1,h2⟩:=rowsBytes_spec hl';refine ⟨by simp [h1],fun i row hi=> ?_⟩;cases i with
    |zero=>simp at hi;subst hi;exact ⟨n,rfl,by simp⟩
    |succ i=>simpa using h2 i row (by simpa using hi)
  · simp at h
theorem foldl_bytes:∀ (l:List UInt8) (ns:List Int) (r:ByteArray),ns.length=l.length->(∀ (i:Nat) (n:Int),ns[i]?=some n->l[i]?=some (UInt8.ofNat n.toNat))->
  ns.foldl (fun r n=>r.push (UInt8.ofNat n.toNat)) r=⟨r.data++l.toArray⟩
 |[],[],r,_,_=>by simp
 |b::l,n::ns,r,hl,h=>by
  have h0:=h 0 n rfl;simp at h0;simp only [List.foldl_cons];rw [foldl_bytes l ns _ (by simpa using hl) (fun i n hi=>by simpa using h (i+1) n (by simpa using hi)),<- h0];simp [ByteArray.push]
 |[],_::_,_,hl,_=>by simp at hl
 |_::_,[],_,hl,_=>by simp at hl
theorem convert_sound {src dst:TypeId} {x v:AV} {xv:Value} {H':AH} {r:Result Next} (h:convert A s.H src dst x=some (v,H')) (hw:WRel A.glob g w s.H) (hf:FRel g f w s.H s.F) (hx:VRel g w x xv)
   (hrun:r=((do pure (.value (<- Go.convert src dst xv))):Sem Next).run A.P w):Did A.glob g f w s { s with H:=H' } (.v v) r:=by
 unfold convert at h;split at h
 · rename_i hs hd;simp at h;obtain ⟨rfl,rfl⟩:=h;cases hx;refine did_same hw hf (rv:= .int _ _) ?_ (.int _ _);rw [hrun];simp [Go.convert,run_underlying hs,run_underlying hd,Conv.intToInt]
 · rename_i hs hd;simp at h;obtain ⟨rfl,rfl⟩:=h;cases hx;refine did_same hw hf (rv:= .string _) ?_ (.str _);rw [hrun];simp [Go.convert,run_underlying hs,run_underlying hd]
 · rename_i e sb hs hd;split at h
   case h_2=>simp at h
   case h_1 he=>
   split at h
   case isFalse=>simp at h
   case isTrue hsz=>
   simp at h;obtain ⟨rfl,rfl⟩:=h;cases hx;have hr:=run_bytes_of_string (P:=A.P) w src dst e sb hs hd he;generalize hC:bytesRow sb (grownCap w sb.size 0 e)=C at hr;generalize hcap:grownCap w sb.size 0 e=cap at hr hC;have hge:sb.size<=cap:=by rw [<- hcap];simp [grownCap,Question.cut]
   have hsz':C.size=cap:=by rw [<- hC];simp [bytesRow];omega
   refine rows_sound (rows:=byteRows sb) (sz:=1) (cs:=C) (t:=e) (fz:=(C.size,C.size+1)) (w':=w.drew.alloc (.cells C e (C.size,C.size+1))) hw hf (by decide) ⟨?_,fun r row hr=> ?_⟩ rfl (fun off ho=>by simp;omega)
     (vrel_new (by exact hge) (by omega) (by rw [<- hcap];exact grown_small (by omega))) (by rw [hrun];simp [hr])
   · simp [byteRows];omega
   · have:=byteRows_rel (g:=g) (w:=w) sb.data.toList C 0 (fun i b hb=>by
      rw [Nat.zero_add,<- hC];have hi:=getElem?_lt' hb;simp only [bytesRow];rw [Array.getElem?_append_left (by simpa using hi)];simp at hb ⊢;exact ⟨b,hb,rfl⟩) r row hr
     simpa using this
 · rename_i e hs hd _;split at h
   case h_2=>simp at h
   case h_1 he=>
   simp only [Option.bind_eq_some_iff,Option.map_eq_some_iff] at h;obtain ⟨rows,hrows,l,hl,h⟩:=h;simp at h;obtain ⟨rfl,rfl⟩:=h;obtain ⟨hlen,hb⟩:=rowsBytes_spec hl;obtain ⟨ao,cap,rfl,hcap,hcells⟩:=slice_cells hrows hw hx;refine did_same hw hf (rv:= .string ⟨l.toArray⟩) ?_ (.str _);rw [hrun];have hgo:(Go.convert src dst (.slice ao rows.length cap)).run A.P w=(Conv.bytesToString (.slice ao rows.length cap)).run A.P w:=run_convert_bytes_string w src dst e ao _ cap hs he hd;by_cases hne:rows=[]
   · subst hne;have:l=[]:=List.eq_nil_of_length_eq_zero (by simpa using hlen);subst this;cases ao with
     |none=>
      simp only [List.length_nil] at hgo;simp [hgo,Conv.bytesToString];rfl
     |some ad=>
      have h0:(loadCells ad ([]:List (List AV)).length).run A.P w= .ok (([]:List Int).map (Value.int .u8)).toArray w:=by simp [loadCells,loadCellsFrom]
      simp only [Sem.run_bind,hgo,run_bytesToString w ad _ cap [] h0];rfl
   · obtain ⟨ad,sz,rfl,hs',hat⟩:=hcells hne;obtain ⟨ns,hns1,hns2⟩:=pick (fun (i:Nat) (row:List AV) (n:Int)=>row=[.int .u8 n]/\w.cell? (ad.add i)=some (.int .u8 n)/\l[i]?=some (UInt8.ofNat n.toNat)) rows (fun i row hi=>by
      obtain ⟨n,rfl,hln⟩:=hb i row hi;obtain ⟨h1,h2⟩:=hat i _ hi;obtain ⟨v,e1,_,e3⟩:=h2 0 (.int .u8 n) rfl;cases e3;refine ⟨n,rfl,?_,hln⟩;rw [spot_none hs',add_none];simp at h1;rw [<- h1] at e1
      simpa using e1)
     have hrow:∀ (i:Nat) (n:Int),ns[i]?=some n->∃ row,rows[i]?=some row:=fun i n hi=>⟨_,List.getElem?_eq_getElem (by have:=getElem?_lt' hi;omega)⟩
     have hlc:(loadCells ad rows.length).run A.P w= .ok (ns.map (Value.int .u8)).toArray w:=by
      have:=run_loadCells_list (P:=A.P) w ad (ns.map (Value.int .u8)) (fun j v hj=>by
       rw [List.getElem?_map] at hj;cases hn:ns[j]? with
       |none=>simp [hn] at hj
       |some n=>
        simp [hn] at hj;subst hj;obtain ⟨row,hr⟩:=hrow j n hn;exact (hns2 j row n hr hn).2.1)
      simpa [hns1] using this
     have hfold:=foldl_bytes l ns ByteArray.empty (by omega) (fun i n hi=>by obtain ⟨row,hr⟩:=hrow i n hi;exact (hns2 i row n hr hi).2.2);simp only [Sem.run_bind,hgo,run_bytesToString w ad rows.length cap ns hlc,Result.andThen_ok,Sem.run_pure,hfold];have he0:ByteArray.empty.data= #[]:=rfl;rw [he0];simp
 · simp at h
end
end Go.V
