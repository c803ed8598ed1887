/- An evaluator of the translated code and that it is right: each of its answers is an answer of the model. -/
import Derived.Test.YtjenflkegbmkkaaGreatDoorA4
import Derived.Shelf.GgSortFunc.InsertionK
set_option linter.unusedVariables false
set_option linter.unusedSimpArgs false
set_option linter.unusedSectionVars false
namespace Go.V
open Go
theorem putCells_get {α:Type} [Inhabited α] (enc:α->Value) (off:Nat) (d:Array α) (c:Array Value) (k:Nat):(Sort.putCells enc off d c)[k]?=(c[k]?).map fun x=>if off<=k/\k<off+d.size then enc d[k-off]! else x:=by
 unfold Sort.putCells;rw [Array.getElem?_mapIdx]
theorem putRow_heap {α:Type} [Inhabited α] (enc:α->Value) {w:World} {R off:Nat} {d:Array α} {cs:Array Value} {T:TypeId} {fz:Nat×Nat} (h:w.heap[R]?=some (.cells cs T fz)):(Sort.putRow enc w R off d).heap[R]?=some (.cells (Sort.putCells enc off d cs) T fz):=by
 simp only [Sort.putRow,Sort.mapBlock,Array.getElem?_modify,if_true,h,Option.map_some,Sort.onCells]
theorem putRow_heap_other {α:Type} [Inhabited α] (enc:α->Value) {w:World} {R R' off:Nat} {d:Array α} (h:R'≠R):(Sort.putRow enc w R off d).heap[R']?=w.heap[R']?:=by
 simp only [Sort.putRow,Sort.mapBlock,Array.getElem?_modify];rw [if_neg (fun e=>h e.symm)]
section
variable {A:Par}
theorem put_block {g:Gx} {w w1:World} {H:AH} {x:Nat} {rows new:List (List AV)} {sz:Nat} {ty:Option (TypeId×Nat)} (hw:WRel A.glob g w H) (hD:g.D x) (hx:H.bl[x]?=some (.cells rows sz ty)) (hwm:H.wm<=x)
  (hn:new.length<=rows.length) (hsz:∀ r∈new,r.length=sz) (flat:Nat->Value) (h1:∀ t,t<new.length * sz->(flat t).oneCell'=true) (hr:∀ (r c:Nat) (row:List AV) (y:AV),new[r]?=some row->row[c]?=some y->∀ g w,VRel g w y (flat (r * sz+c)))
  (hsize:w1.heap.size=w.heap.size) (hoth:∀ R,R≠(g.ρ x).R->w1.heap[R]?=w.heap[R]?)
  (hblk:∀ cs T fz,w.heap[(g.ρ x).R]?=some (.cells cs T fz)->∃ cs1,w1.heap[(g.ρ x).R]?=some (.cells cs1 T fz)/\cs1.size=cs.size/\∀ k,cs1[k]?=(cs[k]?).map fun v=>if (g.ρ x).o<=k/\k<(g.ρ x).o+new.length * sz then flat (k-(g.ρ x).o) else v)
  (hio:w1.os=w.os/\w1.output=w.output):WRel A.glob g w1 (setBl H x (.cells (new++rows.drop new.length) sz ty))/\Ext g w H g w1 (setBl H x (.cells (new++rows.drop new.length) sz ty)):=by
 have hlive:live g H x:=⟨hD,_,hx,rfl⟩;obtain ⟨hty,hpos,hszl,hend,cs,⟨T,fz,hR,hce,hfz,hZ⟩,hrows⟩:=hw.blk x _ hD hx;obtain ⟨cs1,hR1,hs1,hg1⟩:=hblk cs T fz hR;obtain ⟨q1,q2,q3⟩:=write_block (f:=noBox) (F:=[]) (w':=w1) (x:= .cells (new++rows.drop new.length) sz ty) hw frel_none hlive hwm hsize hoth (fun hle=>by
  refine ⟨hty.of fun cs' T' fz' e=>by rw [hR] at e;injection e with e;injection e with e1 e2 e3;subst e1;subst e2;subst e3;exact ⟨cs1,fz,hR1⟩,hpos,hszl,by rw [List.length_append,List.length_drop];rw [show new.length+(rows.length-new.length)=rows.length by omega];exact hend,cs1,⟨T,fz,hR1,by rw [hs1,hce],hfz,hZ⟩,fun r row hrow=> ?_⟩;by_cases hlt:r<new.length
  · rw [List.getElem?_append_left hlt] at hrow;have hl:=hsz row (List.mem_of_getElem? hrow);refine ⟨hl,fun c y hy=> ?_⟩;have hc:c<sz:=by rw [<- hl];exact getElem?_lt' hy
    have ht:r * sz+c<new.length * sz:=by
     have:r * sz+sz<=new.length * sz:=by rw [<- Nat.succ_mul];exact Nat.mul_le_mul_right _ hlt
     omega
    refine ⟨flat (r * sz+c),?_,h1 _ ht,hr r c row y hrow hy g w1⟩;rw [hg1];have hin:(g.ρ x).o+r * sz+c<cs.size:=by
     rw [hce];have:rows.length * sz≥new.length * sz:=Nat.mul_le_mul_right _ hn;omega
    rw [Array.getElem?_eq_getElem hin,Option.map_some,if_pos ⟨by omega,by omega⟩];congr 2;omega
  · rw [List.getElem?_append_right (by omega),List.getElem?_drop,show new.length+(r-new.length)=r by omega] at hrow;obtain ⟨p1,p2⟩:=hrows r row hrow;refine ⟨p1,fun c y hy=> ?_⟩;obtain ⟨v,v1,v2,v3⟩:=p2 c y hy;refine ⟨v,?_,v2,v3.mono hle⟩;rw [hg1,v1,Option.map_some,if_neg];have:new.length * sz<=r * sz:=Nat.mul_le_mul_right _ (by omega);omega) (hio:=hio)
 exact ⟨q1,q3.ext fun i h=>h⟩
theorem setBl_self {H:AH} {x:Nat} {y:AB} (hx:H.bl[x]?=some y):setBl H x y=H:=by
 unfold setBl;cases H with
 |mk bl wm=>
  simp only [AH.mk.injEq,and_true];apply List.ext_getElem?;intro i;rw [List.getElem?_set];split
  · rename_i e;subst e;have hlx:x<bl.length:=(List.getElem?_eq_some_iff.1 hx).1
    first|(rw [if_pos hlx];exact hx.symm)|exact hx.symm
  · rfl
theorem rows_cells {g:Gx} {w:World} {H:AH} {x n:Nat} {rows:List (List AV)} {sz:Nat} {ty:Option (TypeId×Nat)} {v:Value} (hw:WRel A.glob g w H) (hx:H.bl[x]?=some (.cells rows sz ty)) (hv:VRel g w (.sl x 0 n) v) (hn:n<=rows.length):
  g.D x/\((n=0/\∃ p cap,v= .slice p 0 cap)\/∃ cap,v= .slice (some ⟨(g.ρ x).R,(g.ρ x).o,none⟩) n cap/\n<=cap/\(g.ρ x).R<w.heap.size/\∀ (r c:Nat) (row:List AV) (y:AV),r<n->rows[r]?=some row->row[c]?=some y->∃ u,w.cell? ⟨(g.ρ x).R,(g.ρ x).o+(r * sz+c),none⟩=some u/\VRel g w y u/\w.frozen? ⟨(g.ρ x).R,(g.ρ x).o+(r * sz+c),none⟩=false):=by
 cases hv with
 |slz b r a hd=>exact ⟨hd,.inl ⟨rfl,_,_,rfl⟩⟩
 |sl b r n cap hd hcap hend=>
  obtain ⟨hty,hpos,hszl,hend2,cs,⟨T,fz,hR,hce,hfz,hZ⟩,hrows⟩:=hw.blk x _ hd hx;refine ⟨hd,.inr ⟨cap,by simp,hcap,getElem?_lt hR,fun r c row y hr hrow hy=> ?_⟩⟩;obtain ⟨p1,p2⟩:=hrows r row hrow;obtain ⟨u,u1,u2,u3⟩:=p2 c y hy;rw [Nat.add_assoc] at u1;refine ⟨u,by simp only [World.cell?,hR];simpa using u1,u3,?_⟩;have hlt:(g.ρ x).o+(r * sz+c)<(g.ρ x).e:=by have:=getElem?_lt u1;omega
  have:=hfz _ hlt;simp only [World.frozen?,hR];simp only [Bool.and_eq_false_iff,decide_eq_false_iff_not];by_cases h:fz.1<=(g.ρ x).o+(r * sz+c)
  · exact .inr fun h'=>this ⟨h,h'⟩
  · exact .inl h
theorem grow_ext {g:Gx} {w w1:World} {H H1:AH} (hw1:WRel A.glob g w1 H1) (he:Ext g w H g w1 H1) (os:Array Obj):WRel A.glob g (Sort.grow w1 os) H1/\Ext g w H g (Sort.grow w1 os) H1:=by
 have hsz:w1.heap.size<=(Sort.grow w1 os).heap.size:=by simp [Sort.grow]
 have hold:∀ R,R<w1.heap.size->(Sort.grow w1 os).heap[R]?=w1.heap[R]?:=fun R hR=>by
  show (w1.heap++os)[R]?=_;rw [Array.getElem?_append_left hR]
 obtain ⟨q1,q2,q3⟩:=more_world (f:=noBox) (F:=[]) hw1 frel_none hsz hold (hio:=⟨rfl,rfl⟩);exact ⟨q1,he.trans (q3.ext fun i h=>h)⟩
def unrow1:List (List AV)->Option (List Int)
 |[]=>some []
 |[.int .i64 z]::l=>(unrow1 l).map (z:: ·)
 |_=>none
def unrow2:List (List AV)->Option (List (Int×Int))
 |[]=>some []
 |[.int .i64 a,.int .i64 b]::l=>(unrow2 l).map ((a,b):: ·)
 |_=>none
def row1 (z:Int):List AV:=[.int .i64 z]
def row2 (p:Int×Int):List AV:=[.int .i64 p.1,.int .i64 p.2]
def enc2 (p:Int×Int):List Value:=[.int .i64 p.1,.int .i64 p.2]
theorem unrow1_eq:∀ {rows:List (List AV)} {l:List Int},unrow1 rows=some l->rows=l.map row1
 |[],l,h=>by simp [unrow1] at h;subst h;rfl
 |row::rows,l,h=>by
  unfold unrow1 at h;split at h
  · rename_i e;cases e
  · rename_i z l0 e;injection e with e1 e2;subst e1;subst e2
    simp only [Option.map_eq_some_iff] at h;obtain ⟨l1,h1,rfl⟩:=h;rw [unrow1_eq h1];rfl
  · simp at h
theorem unrow2_eq:∀ {rows:List (List AV)} {l:List (Int×Int)},unrow2 rows=some l->rows=l.map row2
 |[],l,h=>by simp [unrow2] at h;subst h;rfl
 |row::rows,l,h=>by
  unfold unrow2 at h;split at h
  · rename_i e;cases e
  · rename_i a b l0 e;injection e with e1 e2;subst e1;subst e2
    simp only [Option.map_eq_some_iff] at h;obtain ⟨l1,h1,rfl⟩:=h;rw [unrow2_eq h1];rfl
  · simp at h
def sort1X (srt:List Int->List Int) (args:List AV) (H:AH):Option (AV×AH):=
 match args with
 |[.nils]|[.emp]=>some (.tup [],H)
 |[.sl x 0 n]=>
  match H.bl[x]? with
  |some (.cells rows 1 ty)=>if H.wm<=x/\n<=rows.length/\n<4611686018427387904 then (unrow1 (rows.take n)).map fun l=>(.tup [],setBl H x (.cells ((srt l).map row1++rows.drop n) 1 ty)) else none
  |_=>none
 |_=>none
def sort2X (F:FuncId) (srt:List (Int×Int)->List (Int×Int)) (args:List AV) (H:AH):Option (AV×AH):=
 match args with
 |[.nils,.fn f []]|[.emp,.fn f []]=>if f=F then some (.tup [],H) else none
 |[.sl x 0 n,.fn f []]=>
  if f=F then
   match H.bl[x]? with
   |some (.cells rows 2 ty)=>if H.wm<=x/\n<=rows.length/\n<4611686018427387904 then (unrow2 (rows.take n)).map fun l=>(.tup [],setBl H x (.cells ((srt l).map row2++rows.drop n) 2 ty)) else none
   |_=>none
  else none
 |_=>none
def delL (l:List Int) (i j:Nat):List Int:=l.take i++l.drop j++List.replicate (j-i) 0
def del1X (args:List AV) (H:AH):Option (AV×AH):=
 match args with
 |[.nils,.int .i64 i,.int .i64 j]=>if i=0/\j=0 then some (.nils,H) else none
 |[.emp,.int .i64 i,.int .i64 j]=>if i=0/\j=0 then some (.emp,H) else none
 |[.sl x 0 n,.int .i64 i,.int .i64 j]=>
  match H.bl[x]? with
  |some (.cells rows 1 ty)=>if H.wm<=x/\n<=rows.length/\0<=i/\i<=j/\j<=n then (unrow1 (rows.take n)).map fun l=>(.sl x 0 (n-(j.toNat-i.toNat)),setBl H x (.cells ((delL l i.toNat j.toNat).map row1++rows.drop n) 1 ty)) else none
  |_=>none
 |_=>none
theorem delL_length {l:List Int} {i j:Nat} (h:i<=j) (h':j<=l.length):(delL l i j).length=l.length:=by simp [delL];omega
theorem sort1_goes {f:FuncId} {srt:List Int->List Int} (hlen:∀ l,(srt l).length=l.length)
   (hcon:∀ (blk off cap:Nat) (zs:List Int) (w:World),Sort.Holds (Value.int .i64) w blk off zs.toArray->blk<w.heap.size->zs.length<4611686018427387904->
    Calls A.P f #[.slice (some ⟨blk,off,none⟩) zs.length cap] w fun e w'=>e= .returned (.tuple #[])/\∃ n os,w'=Sort.grow (Sort.putRow (Value.int .i64) (Sort.ahead w n) blk off (srt zs).toArray) os)
   (hnone:∀ (p:Option Addr) (cap:Nat) (w:World),Calls A.P f #[.slice p 0 cap] w fun e w'=>e= .returned (.tuple #[])/\w'=w):ExtGoes A f (sort1X srt):=by
 intro args H r H' hh g w vs hw hv;have nil:∀ (p:Option Addr) (cap:Nat),Calls A.P f #[.slice p 0 cap] w fun e w'=>∃ rv g',e= .returned rv/\VRel g' w' (.tup []) rv/\WRel A.glob g' w' H/\Ext g w H g' w' H:=fun p cap=>(hnone p cap w).mono (by
   rintro e w' ⟨rfl,rfl⟩
   exact ⟨_,g,rfl,.tup [] [] rfl (fun i x v h=>by simp at h),hw,.refl _ _ _⟩)
 unfold sort1X at hh;split at hh
 · simp at hh;obtain ⟨rfl,rfl⟩:=hh
   match vs,hv with
   |[v],⟨r1,_⟩=>cases r1;exact nil _ _
 · simp at hh;obtain ⟨rfl,rfl⟩:=hh
   match vs,hv with
   |[v],⟨r1,_⟩=>cases r1;exact nil _ _
 · rename_i x n;split at hh
   case h_2=>simp at hh
   rename_i rows ty hx;split at hh
   case isFalse=>simp at hh
   rename_i hc;obtain ⟨hwm,hnr,hlt⟩:=hc;simp only [Option.map_eq_some_iff] at hh;obtain ⟨l,hl,hh⟩:=hh;simp at hh;obtain ⟨rfl,rfl⟩:=hh;have hrows:=unrow1_eq hl;have hln:l.length=n:=by have:=congrArg List.length hrows;simp at this;omega
   match vs,hv with
   |[v],⟨r1,_⟩=>
    obtain ⟨hD,hcase⟩:=rows_cells hw hx r1 hnr;rcases hcase with ⟨rfl,p,cap,rfl⟩|⟨cap,rfl,hcap,hRlt,hcells⟩
    · have:l=[]:=List.length_eq_zero_iff.1 hln;subst this;have hs0:srt []=[]:=List.length_eq_zero_iff.1 (by rw [hlen];rfl);rw [hs0];have e:setBl H x (.cells (List.map row1 []++rows.drop 0) 1 ty)=H:=setBl_self hx;rw [e];exact nil _ _
    · have hget:∀ j,j<n->rows[j]?=some (row1 (l.getD j 0)):=fun j hj=>by
       have h1:(rows.take n)[j]?=rows[j]?:=by rw [List.getElem?_take,if_pos hj]
       rw [<- h1,hrows,List.getElem?_map,List.getD_eq_getElem?_getD,List.getElem?_eq_getElem (by omega)];rfl
      have hH:Sort.Holds (Value.int .i64) w (g.ρ x).R (g.ρ x).o l.toArray:=fun j hj=>by
       have hj':j<n:=by simpa [hln] using hj
       obtain ⟨u,u1,u2,u3⟩:=hcells j 0 _ (.int .i64 (l.getD j 0)) hj' (hget j hj') rfl;cases u2;simp only [Nat.mul_one,Nat.add_zero] at u1 u3;refine ⟨?_,u3⟩;rw [u1];congr 2;simp [List.getD_eq_getElem?_getD,List.getElem?_eq_getElem (show j<l.length by omega),show j<l.length by omega]
      have hc:=hcon (g.ρ x).R (g.ρ x).o cap l w hH hRlt (by omega);rw [hln] at hc;refine hc.mono ?_
      rintro e w' ⟨rfl,q,os,rfl⟩
      have hsl:(srt l).length=n:=by rw [hlen,hln]
      have hp:=put_block (A:=A) (w1:=Sort.putRow (Value.int .i64) (Sort.ahead w q) (g.ρ x).R (g.ρ x).o (srt l).toArray) (new:=(srt l).map row1) hw hD hx hwm (by simp [hsl,hnr]) (fun r hr=>by obtain ⟨z,_,rfl⟩:=List.mem_map.1 hr;rfl) (fun t=> .int .i64 ((srt l).getD t 0)) (fun t _=>rfl) (fun r c row y hr hy g w=>by
        rw [List.getElem?_map] at hr;obtain ⟨z,hz,rfl⟩:=Option.map_eq_some_iff.1 hr
        match c,hy with
        |0,hy=>simp [row1] at hy;subst hy;simp [List.getD_eq_getElem?_getD,hz];exact .int _ _
        |c+1,hy=>simp [row1] at hy) (Sort.size_putRow ..) (fun R hne=>putRow_heap_other _ hne) (fun cs T fz hR=>⟨_,putRow_heap _ hR,by simp [Sort.putCells],fun k=>by
         rw [putCells_get];congr 1;funext v;simp only [List.size_toArray,List.length_map,hsl,Nat.mul_one];split
         · rename_i hk;congr 1;simp [List.getD_eq_getElem?_getD,List.getElem?_eq_getElem (show k-(g.ρ x).o<(srt l).length by omega),show k-(g.ρ x).o<(srt l).length by omega]
         · rfl⟩) ⟨rfl,rfl⟩
      rw [List.length_map,hsl] at hp;obtain ⟨q1,q2⟩:=hp;obtain ⟨p1,p2⟩:=grow_ext q1 q2 os;exact ⟨_,g,rfl,.tup [] [] rfl (fun i x v h=>by simp at h),p1,p2⟩
 · simp at hh
theorem fn_nil {g:Gx} {w:World} {f:FuncId} {v:Value} (h:VRel g w (.fn f []) v):v= .func (.func f) #[] #[]:=by
 cases h with
 |fn _ _ vs hl _=>
  have:vs=[]:=List.length_eq_zero_iff.1 hl;subst this;rfl
theorem sort2_goes {f F : FuncId} {srt : List (Int × Int) → List (Int × Int)} (hlen : ∀ l, (srt l).length = l.length)
   (hcon : ∀ (blk off cap : Nat) (zs : List (Int × Int)) (w : World), Sort.HoldsK enc2 2 w blk off zs.toArray → blk < w.heap.size → zs.length < 4611686018427387904 →
    Calls A.P f #[.slice (some ⟨blk, off, none⟩) zs.length cap, .func (.func F) #[] #[]] w fun e w' => e = .returned (.tuple #[]) ∧ ∃ n os, w' = Go.Proofs.sortWorldK enc2 2 w blk off n (srt zs).toArray os)
   (hnone : ∀ (p : Option Addr) (cap : Nat) (w : World), Calls A.P f #[.slice p 0 cap, .func (.func F) #[] #[]] w fun e w' => e = .returned (.tuple #[]) ∧ w' = w) : ExtGoes A f (sort2X F srt) := by
 intro args H r H' hh g w vs hw hv
 have nil : ∀ (p : Option Addr) (cap : Nat), Calls A.P f #[.slice p 0 cap, .func (.func F) #[] #[]] w fun e w' => ∃ rv g', e = .returned rv ∧ VRel g' w' (.tup []) rv ∧ WRel A.glob g' w' H ∧ Ext g w H g' w' H := fun p cap => (hnone p cap w).mono (by
   rintro e w' ⟨rfl, rfl⟩
   exact ⟨_, g, rfl, .tup [] [] rfl (fun i x v h => by simp at h), hw, .refl _ _ _⟩)
 unfold sort2X at hh
 split at hh
 · split at hh
   case isFalse => simp at hh
   rename_i ef; subst ef
   simp at hh; obtain ⟨rfl, rfl⟩ := hh
   match vs, hv with
   | [v, v2], ⟨r1, r2, _⟩ => cases r1; obtain rfl := fn_nil r2; exact nil _ _
 · split at hh
   case isFalse => simp at hh
   rename_i ef; subst ef
   simp at hh; obtain ⟨rfl, rfl⟩ := hh
   match vs, hv with
   | [v, v2], ⟨r1, r2, _⟩ => cases r1; obtain rfl := fn_nil r2; exact nil _ _
 · rename_i x n fv
   split at hh
   case isFalse => simp at hh
   rename_i ef; subst ef
   split at hh
   case h_2 => simp at hh
   rename_i rows ty hx
   split at hh
   case isFalse => simp at hh
   rename_i hc
   obtain ⟨hwm, hnr, hlt⟩ := hc
   simp only [Option.map_eq_some_iff] at hh
   obtain ⟨l, hl, hh⟩ := hh
   simp at hh; obtain ⟨rfl, rfl⟩ := hh
   have hrows := unrow2_eq hl
   have hln : l.length = n := by have := congrArg List.length hrows; simp at this; omega
   match vs, hv with
   | [v, v2], ⟨r1, r2, _⟩ =>
    obtain rfl := fn_nil r2
    obtain ⟨hD, hcase⟩ := rows_cells hw hx r1 hnr
    rcases hcase with ⟨rfl, p, cap, rfl⟩ | ⟨cap, rfl, hcap, hRlt, hcells⟩
    · have : l = [] := List.length_eq_zero_iff.1 hln
      subst this
      have hs0 : srt [] = [] := List.length_eq_zero_iff.1 (by rw [hlen]; rfl)
      rw [hs0]
      have e : setBl H x (.cells (List.map row2 [] ++ rows.drop 0) 2 ty) = H := setBl_self hx
      rw [e]
      exact nil _ _
    · have hget : ∀ j, j < n → rows[j]? = some (row2 (l.getD j (0, 0))) := fun j hj => by
       have h1 : (rows.take n)[j]? = rows[j]? := by rw [List.getElem?_take, if_pos hj]
       rw [← h1, hrows, List.getElem?_map, List.getD_eq_getElem?_getD, List.getElem?_eq_getElem (by omega)]; rfl
      have hH : Sort.HoldsK enc2 2 w (g.ρ x).R (g.ρ x).o l.toArray := fun t ht => by
       have ht' : t < n * 2 := by simpa [hln] using ht
       have hj : t / 2 < n := by omega
       obtain ⟨p, hp⟩ : ∃ p, l.getD (t / 2) (0, 0) = p := ⟨_, rfl⟩
       have hrow := hget _ hj
       rw [hp] at hrow
       have hla : l.toArray[t / 2]! = p := by
         rw [← hp, List.getD_eq_getElem?_getD]
         simp [List.getElem?_eq_getElem (show t / 2 < l.length by omega), show t / 2 < l.length by omega]
       rw [Sort.get_flatK _ _ _ _ (by simpa [hln] using ht'), hla]
       have e2 : t / 2 * 2 + t % 2 = t := by omega
       rcases (show t % 2 = 0 ∨ t % 2 = 1 by omega) with hm | hm
       · obtain ⟨u, u1, u2, u3⟩ := hcells (t / 2) 0 _ (.int .i64 p.1) hj hrow rfl
         cases u2
         rw [show t / 2 * 2 + 0 = t by omega] at u1 u3
         rw [hm]; exact ⟨u1, u3⟩
       · obtain ⟨u, u1, u2, u3⟩ := hcells (t / 2) 1 _ (.int .i64 p.2) hj hrow rfl
         cases u2
         rw [show t / 2 * 2 + 1 = t by omega] at u1 u3
         rw [hm]; exact ⟨u1, u3⟩
      have hc := hcon (g.ρ x).R (g.ρ x).o cap l w hH hRlt (by omega)
      rw [hln] at hc
      refine hc.mono ?_
      rintro e w' ⟨rfl, q, os, rfl⟩
      have hsl : (srt l).length = n := by rw [hlen, hln]
      have hp := put_block (A := A) (w1 := Sort.putRowK enc2 2 (Sort.ahead w q) (g.ρ x).R (g.ρ x).o (srt l).toArray) (new := (srt l).map row2) hw hD hx hwm (by simp [hsl, hnr]) (fun r hr => by obtain ⟨z, _, rfl⟩ := List.mem_map.1 hr; rfl) (fun t => (Sort.flatK enc2 2 (srt l).toArray)[t]!) (fun t ht => by
         rw [List.length_map] at ht
         rw [Sort.get_flatK _ _ _ _ (by simpa using ht)]
         rcases (show t % 2 = 0 ∨ t % 2 = 1 by omega) with hm | hm <;> rw [hm] <;> rfl) (fun r c row y hr hy g w => by
         rw [List.getElem?_map] at hr
         obtain ⟨z, hz, rfl⟩ := Option.map_eq_some_iff.1 hr
         have hrl := getElem?_lt' hz
         have hza : (srt l).toArray[r]! = z := by
          have := (List.getElem?_eq_some_iff.1 hz).2
          simp [hrl, this]
         match c, hy with
         | 0, hy =>
          simp [row2] at hy; subst hy
          rw [Sort.get_flatK _ _ _ _ (by simp; omega), show (r * 2 + 0) / 2 = r by omega, show (r * 2 + 0) % 2 = 0 by omega, hza]
          exact .int _ _
         | 1, hy =>
          simp [row2] at hy; subst hy
          rw [Sort.get_flatK _ _ _ _ (by simp; omega), show (r * 2 + 1) / 2 = r by omega, show (r * 2 + 1) % 2 = 1 by omega, hza]
          exact .int _ _
         | c + 2, hy => simp [row2] at hy) (Sort.size_putRow ..) (fun R hne => putRow_heap_other _ hne) (fun cs T fz hR => ⟨_, putRow_heap _ hR, by simp [Sort.putCells], fun k => by
          rw [putCells_get]
          congr 1; funext v
          simp only [Sort.size_flatK, List.size_toArray, List.length_map, hsl, id]⟩) ⟨rfl, rfl⟩
      rw [List.length_map, hsl] at hp
      obtain ⟨q1, q2⟩ := hp
      obtain ⟨p1, p2⟩ := grow_ext q1 q2 os
      exact ⟨_, g, rfl, .tup [] [] rfl (fun i x v h => by simp at h), p1, p2⟩
 · simp at hh
theorem del1_goes {f:FuncId}
   (hcon:∀ (blk off cap i j:Nat) (zs:List Int) (w:World),Sort.Holds (Value.int .i64) w blk off zs.toArray->zs.length<=cap->cap<=9223372036854775807->i<=j->j<=zs.length->
    Calls A.P f #[.slice (some ⟨blk,off,none⟩) zs.length cap,.int .i64 i,.int .i64 j] w fun e w'=>e= .returned (.slice (some ⟨blk,off,none⟩) (zs.length-(j-i)) cap)/\∃ q,w'=Sort.putRow (Value.int .i64) (Sort.ahead w q) blk off (delL zs i j).toArray)
   (hnone:∀ (p:Option Addr) (cap:Nat) (w:World),Calls A.P f #[.slice p 0 cap,.int .i64 0,.int .i64 0] w fun e w'=>e= .returned (.slice p 0 cap)/\w'=w):ExtGoes A f del1X:=by
 intro args H r H' hh g w vs hw hv;unfold del1X at hh;split at hh
 · rename_i i j;split at hh
   case isFalse=>simp at hh
   rename_i hc;obtain ⟨rfl,rfl⟩:=hc;simp at hh;obtain ⟨rfl,rfl⟩:=hh
   match vs,hv with
   |[v,v1,v2],⟨r1,r2,r3,_⟩=>
    cases r1;cases r2;cases r3;exact (hnone _ _ w).mono (by rintro e w' ⟨rfl,rfl⟩;exact ⟨_,g,rfl,.nils,hw,.refl _ _ _⟩)
 · rename_i i j;split at hh
   case isFalse=>simp at hh
   rename_i hc;obtain ⟨rfl,rfl⟩:=hc;simp at hh;obtain ⟨rfl,rfl⟩:=hh
   match vs,hv with
   |[v,v1,v2],⟨r1,r2,r3,_⟩=>
    cases r1;cases r2;cases r3;exact (hnone _ _ w).mono (by rintro e w' ⟨rfl,rfl⟩;exact ⟨_,g,rfl,.emp _,hw,.refl _ _ _⟩)
 · rename_i x n i j;split at hh
   case h_2=>simp at hh
   rename_i rows ty hx;split at hh
   case isFalse=>simp at hh
   rename_i hc;obtain ⟨hwm,hnr,hi0,hij,hjn⟩:=hc;simp only [Option.map_eq_some_iff] at hh;obtain ⟨l,hl,hh⟩:=hh;simp at hh;obtain ⟨rfl,rfl⟩:=hh;have hrows:=unrow1_eq hl;have hln:l.length=n:=by have:=congrArg List.length hrows;simp at this;omega
   obtain ⟨i',rfl⟩:∃ i':Nat,i=i':=⟨i.toNat,by omega⟩;obtain ⟨j',rfl⟩:∃ j':Nat,j=j':=⟨j.toNat,by omega⟩;simp only [Int.toNat_natCast]
   match vs,hv with
   |[v,v1,v2],⟨r1,r2,r3,_⟩=>
    cases r2;cases r3;have hx1:VRel g w (.sl x 0 n) v:=r1;obtain ⟨hD,hcase⟩:=rows_cells hw hx r1 hnr;rcases hcase with ⟨rfl,p,cap,rfl⟩|⟨cap,rfl,hcap,hRlt,hcells⟩
    · have:l=[]:=List.length_eq_zero_iff.1 hln;subst this;have e1:i'=0:=by omega
      have e2:j'=0:=by omega
      subst e1;subst e2;have e:setBl H x (.cells (List.map row1 (delL [] 0 0)++rows.drop 0) 1 ty)=H:=setBl_self hx;rw [e];exact (hnone _ _ w).mono (by rintro e w' ⟨rfl,rfl⟩;exact ⟨_,g,rfl,hx1,hw,.refl _ _ _⟩)
    · have hm:cap<=9223372036854775807:=by
        have:∀ v,VRel g w (.sl x 0 n) v->v= .slice (some ⟨(g.ρ x).R,(g.ρ x).o,none⟩) n cap->cap<=9223372036854775807:=by
         intro v h e;cases h with
         |sl _ _ _ cap' _ _ _ hm=>injection e with _ _ e;omega
         |slz=>injection e with _ _ e;omega
        exact this _ hx1 rfl
      have hend:n=0\/(g.ρ x).o+(0+cap) * (g.ρ x).sz<=(g.ρ x).e:=by
        have:∀ v,VRel g w (.sl x 0 n) v->v= .slice (some ⟨(g.ρ x).R,(g.ρ x).o,none⟩) n cap->n=0\/(g.ρ x).o+(0+cap) * (g.ρ x).sz<=(g.ρ x).e:=by
         intro v h e;cases h with
         |sl _ _ _ cap' _ _ he hm=>injection e with _ _ e;subst e;exact .inr he
         |slz=>exact .inl rfl
        exact this _ hx1 rfl
      have hget:∀ j,j<n->rows[j]?=some (row1 (l.getD j 0)):=fun j hj=>by
        have h1:(rows.take n)[j]?=rows[j]?:=by rw [List.getElem?_take,if_pos hj]
        rw [<- h1,hrows,List.getElem?_map,List.getD_eq_getElem?_getD,List.getElem?_eq_getElem (by omega)];rfl
      have hH:Sort.Holds (Value.int .i64) w (g.ρ x).R (g.ρ x).o l.toArray:=fun j hj=>by
        have hj':j<n:=by simpa [hln] using hj
        obtain ⟨u,u1,u2,u3⟩:=hcells j 0 _ (.int .i64 (l.getD j 0)) hj' (hget j hj') rfl;cases u2;simp only [Nat.mul_one,Nat.add_zero] at u1 u3;refine ⟨?_,u3⟩;rw [u1];congr 2;simp [List.getD_eq_getElem?_getD,List.getElem?_eq_getElem (show j<l.length by omega),show j<l.length by omega]
      by_cases hn0:n=0
      · subst hn0;have:l=[]:=List.length_eq_zero_iff.1 hln;subst this;have e1:i'=0:=by omega
        have e2:j'=0:=by omega
        subst e1;subst e2;have e:setBl H x (.cells (List.map row1 (delL [] 0 0)++rows.drop 0) 1 ty)=H:=setBl_self hx;rw [e];exact (hnone _ _ w).mono (by rintro e w' ⟨rfl,rfl⟩;exact ⟨_,g,rfl,hx1,hw,.refl _ _ _⟩)
      have hc:=hcon (g.ρ x).R (g.ρ x).o cap i' j' l w hH (by omega) hm (by omega) (by omega);rw [hln] at hc;refine hc.mono ?_
      rintro e w' ⟨rfl,q,rfl⟩
      have hsl:(delL l i' j').length=n:=by rw [delL_length (by omega) (by omega),hln]
      generalize delL l i' j'=d at hsl ⊢;have hp:=put_block (A:=A) (w1:=Sort.putRow (Value.int .i64) (Sort.ahead w q) (g.ρ x).R (g.ρ x).o d.toArray) (new:=d.map row1) hw hD hx hwm (by simp [hsl,hnr]) (fun r hr=>by obtain ⟨z,_,rfl⟩:=List.mem_map.1 hr;rfl) (fun t=> .int .i64 (d.getD t 0)) (fun t _=>rfl) (fun r c row y hr hy g w=>by
         rw [List.getElem?_map] at hr;obtain ⟨z,hz,rfl⟩:=Option.map_eq_some_iff.1 hr
         match c,hy with
         |0,hy=>simp [row1] at hy;subst hy;simp [List.getD_eq_getElem?_getD,hz];exact .int _ _
         |c+1,hy=>simp [row1] at hy) (Sort.size_putRow ..) (fun R hne=>putRow_heap_other _ hne) (fun cs T fz hR=>⟨_,putRow_heap _ hR,by simp [Sort.putCells],fun k=>by
          rw [putCells_get];congr 1;funext v;simp only [List.size_toArray,List.length_map,hsl,Nat.mul_one];split
          · rename_i hk;congr 1;simp [List.getD_eq_getElem?_getD,List.getElem?_eq_getElem (show k-(g.ρ x).o<d.length by omega),show k-(g.ρ x).o<d.length by omega]
          · rfl⟩) ⟨rfl,rfl⟩
      rw [List.length_map,hsl] at hp;obtain ⟨q1,q2⟩:=hp;refine ⟨_,g,rfl,?_,q1,q2⟩;have:=VRel.sl (g:=g) (w:=Sort.putRow (Value.int .i64) (Sort.ahead w q) (g.ρ x).R (g.ρ x).o d.toArray) x 0 (n-(j'-i')) cap hD (by omega) (hend.resolve_left hn0) hm
      simpa using this
 · simp at hh
end
end Go.V
namespace Go.V
open Go
def insertBy {α:Type} (lt:α->α->Bool) (x:α):List α->List α
 |[]=>[x]
 |y::l=>cond (lt y x) (y::insertBy lt x l) (x::y::l)
def sortBy {α:Type} (lt:α->α->Bool):List α->List α
 |[]=>[]
 |x::l=>insertBy lt x (sortBy lt l)
def ltA (x y:Int×Int):Bool:=decide (x.1<y.1)||(decide (x.1=y.1)&&decide (x.2<y.2))
def sortA (l:List (Int×Int)):List (Int×Int):=sortBy ltA l
def sortI (l:List Int):List Int:=sortBy (fun a b=>decide (a<b)) l
theorem insertBy_perm {α:Type} (lt:α->α->Bool) (x:α):∀ l:List α,(insertBy lt x l).Perm (x::l)
 |[]=> .refl _
 |y::l=>by
  unfold insertBy;cases lt y x
  · exact .refl _
  · exact ((insertBy_perm lt x l).cons y).trans (.swap x y l)
theorem sortBy_perm {α:Type} (lt:α->α->Bool):∀ l:List α,(sortBy lt l).Perm l
 |[]=> .refl _
 |x::l=>(insertBy_perm lt x _).trans ((sortBy_perm lt l).cons x)
theorem insertBy_sorted {α:Type} {lt:α->α->Bool} (htr:∀ a b c,lt b a=false->lt c b=false->lt c a=false) (has:∀ a b,lt a b=true->lt b a=false) (x:α):∀ l:List α,l.Pairwise (fun a b=>lt b a=false)->(insertBy lt x l).Pairwise fun a b=>lt b a=false
 |[],_=>by simp [insertBy]
 |y::l,h=>by
  obtain ⟨h1,h2⟩:=List.pairwise_cons.1 h;unfold insertBy;cases e:lt y x
  · refine List.pairwise_cons.2 ⟨fun z hz=> ?_,h⟩;rcases List.mem_cons.1 hz with rfl|hz
    · exact e
    · exact htr x y z e (h1 z hz)
  · refine List.pairwise_cons.2 ⟨fun z hz=> ?_,insertBy_sorted htr has x l h2⟩;rcases List.mem_cons.1 ((insertBy_perm lt x l).mem_iff.1 hz) with rfl|hz
    · exact has _ _ e
    · exact h1 z hz
theorem sortBy_sorted {α:Type} {lt:α->α->Bool} (htr:∀ a b c,lt b a=false->lt c b=false->lt c a=false) (has:∀ a b,lt a b=true->lt b a=false):∀ l:List α,(sortBy lt l).Pairwise fun a b=>lt b a=false
 |[]=> .nil
 |x::l=>insertBy_sorted htr has x _ (sortBy_sorted htr has l)
theorem sortBy_eq {α:Type} {lt:α->α->Bool} (htr:∀ a b c,lt b a=false->lt c b=false->lt c a=false) (has:∀ a b,lt a b=true->lt b a=false) (hto:∀ a b,lt a b=false->lt b a=false->a=b) (l:List α):l.mergeSort (fun x y=> !lt y x)=sortBy lt l:=by
 refine List.Perm.eq_of_pairwise (le:=fun a b=>lt b a=false) (fun a b _ _ h1 h2=>hto a b h2 h1) ?_ (sortBy_sorted htr has l) ((List.mergeSort_perm l _).trans (sortBy_perm lt l).symm);have:=List.pairwise_mergeSort (le:=fun x y=> !lt y x) (fun a b c h1 h2=>by simp only [Bool.not_eq_true'] at *;exact htr a b c h1 h2) (fun a b=>by
  cases e:lt b a with
  |false=>simp
  |true=>simp [has _ _ e]) l
 exact this.imp (by simp)
theorem ltA_tr (a b c:Int×Int) (h1:ltA b a=false) (h2:ltA c b=false):ltA c a=false:=by
 simp only [ltA,Bool.or_eq_false_iff,Bool.and_eq_false_iff,decide_eq_false_iff_not] at *
 omega
theorem ltA_as (a b:Int×Int) (h1:ltA a b=true):ltA b a=false:=by
 simp only [ltA,Bool.or_eq_false_iff,Bool.or_eq_true,Bool.and_eq_true,Bool.and_eq_false_iff,decide_eq_true_eq,decide_eq_false_iff_not] at *
 omega
theorem ltA_to (a b:Int×Int) (h1:ltA a b=false) (h2:ltA b a=false):a=b:=by
 simp only [ltA,Bool.or_eq_false_iff,Bool.and_eq_false_iff,decide_eq_false_iff_not] at *
 exact Prod.ext (by omega) (by omega)
theorem sortA_eq (l:List (Int×Int)):l.mergeSort (fun x y=> !ltA y x)=sortA l:=sortBy_eq ltA_tr ltA_as ltA_to l
theorem sortI_eq (l:List Int):l.mergeSort (fun x y=>decide (x<=y))=sortI l:=by
 rw [show (fun x y:Int=>decide (x<=y))=fun x y=> !(fun a b=>decide (a<b)) y x by funext x y;rw [<- decide_not];congr 1;apply propext;omega];exact sortBy_eq (fun a b c h1 h2=>by simp at *;omega) (fun a b h=>by simp at *;omega) (fun a b h1 h2=>by simp at *;omega) l
theorem sortA_len (l:List (Int×Int)):(sortA l).length=l.length:=(sortBy_perm _ l).length_eq
theorem sortI_len (l:List Int):(sortI l).length=l.length:=(sortBy_perm _ l).length_eq
theorem sort1X_quiet {srt:List Int->List Int} {args:List AV} {H H':AH} {r:AV} (h:sort1X srt args H=some (r,H')):Quiet H H':=by
 unfold sort1X at h;split at h
 · simp at h;obtain ⟨_,rfl⟩:=h;exact Quiet.refl _
 · simp at h;obtain ⟨_,rfl⟩:=h;exact Quiet.refl _
 · split at h
   case h_2=>simp at h
   split at h
   case isFalse=>simp at h
   rename_i hc;simp only [Option.map_eq_some_iff] at h;obtain ⟨l,_,h⟩:=h;simp at h;obtain ⟨_,rfl⟩:=h;exact Quiet.set hc.1 _
 · simp at h
theorem sort2X_quiet {F:FuncId} {srt:List (Int×Int)->List (Int×Int)} {args:List AV} {H H':AH} {r:AV} (h:sort2X F srt args H=some (r,H')):Quiet H H':=by
 unfold sort2X at h;split at h
 · split at h
   case isFalse=>simp at h
   simp at h;obtain ⟨_,rfl⟩:=h;exact Quiet.refl _
 · split at h
   case isFalse=>simp at h
   simp at h;obtain ⟨_,rfl⟩:=h;exact Quiet.refl _
 · split at h
   case isFalse=>simp at h
   split at h
   case h_2=>simp at h
   split at h
   case isFalse=>simp at h
   rename_i hc;simp only [Option.map_eq_some_iff] at h;obtain ⟨l,_,h⟩:=h;simp at h;obtain ⟨_,rfl⟩:=h;exact Quiet.set hc.1 _
 · simp at h
theorem del1X_quiet {args:List AV} {H H':AH} {r:AV} (h:del1X args H=some (r,H')):Quiet H H':=by
 unfold del1X at h;split at h
 · split at h
   case isFalse=>simp at h
   simp at h;obtain ⟨_,rfl⟩:=h;exact Quiet.refl _
 · split at h
   case isFalse=>simp at h
   simp at h;obtain ⟨_,rfl⟩:=h;exact Quiet.refl _
 · split at h
   case h_2=>simp at h
   split at h
   case isFalse=>simp at h
   rename_i hc;simp only [Option.map_eq_some_iff] at h;obtain ⟨l,_,h⟩:=h;simp at h;obtain ⟨_,rfl⟩:=h;exact Quiet.set hc.1 _
 · simp at h
end Go.V
