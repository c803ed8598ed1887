/- An evaluator of the translated code and that it is right: each of its answers is an answer of the model. -/
import Derived.Test.YtjenflkegbmkkaaGreatDoorA4
import Derived.Shelf.GgSortFunc.InsertionK
set_option linter.unusedVariables false
set_option linter.unusedSimpArgs false
set_option linter.unusedSectionVars false
open Array renaming getElem?_modify→Yl,getElem?_append_left→jv
open Bool renaming and_eq_false_iff→Dr,or_eq_true→Ff,and_eq_true→Ia
open Int renaming toNat_natCast→Ca
open List renaming length_append→Ud,length_drop→Kl,getElem?_append_left→Fa,mem_of_getElem?→jb,getElem?_append_right→Ka,getElem?_drop→Dc,getElem?_set→Kb,replicate→Ja,length→fa,length_eq_zero_iff→Da,getElem?_take→Ab,getElem?_map→Ob,getD_eq_getElem?_getD→Ea,getElem?_eq_getElem→ya,mem_map→ye,size_toArray→Di,length_map→Ec,mem_cons→oc
open Nat renaming succ_mul→Gi,mul_le_mul_right→Vb,add_assoc→ud,add_zero→td
open Option renaming map_some→Jc,map_eq_some_iff→ia
namespace Go.V
open Go
theorem bn {α:Type} [Inhabited α] (enc:α->Value) (off:Nat) (d:Array α) (c:Array Value) (k:Nat):(Sort.putCells enc off d c)[k]?=(c[k]?).map fun x=>if off<=k/\k<off+d.size then enc d[k-off]! else x:=by
 unfold Sort.putCells;rw [Array.getElem?_mapIdx]
theorem Ro {α:Type} [Inhabited α] (enc:α->Value) {w:World} {R off:Nat} {d:Array α} {cs:Array Value} {T:TypeId} {fz:Nat×Nat} (h:w.heap[R]?=some (.cells cs T fz)):(Sort.putRow enc w R off d).heap[R]?=some (.cells (Sort.putCells enc off d cs) T fz):=by
 simp only [Sort.putRow,Sort.mapBlock,Yl,if_true,h,Jc,Sort.onCells]
theorem Wh {α:Type} [Inhabited α] (enc:α->Value) {w:World} {R R' off:Nat} {d:Array α} (h:R'≠R):(Sort.putRow enc w R off d).heap[R']?=w.heap[R']?:=by
 simp only [Sort.putRow,Sort.mapBlock,Yl];rw [if_neg (fun e=>h e.symm)]
section
variable {A:oh}
theorem Ov {g:Gx} {w w1:World} {H:AH} {x:Nat} {rows new:List (List AV)} {sz:Nat} {ty:Option (TypeId×Nat)} (hw:Ub A.La g w H) (hD:g.D x) (hx:H.bl[x]?=some (.cells rows sz ty)) (Of:H.wm<=x)
  (hn:new.length<=rows.length) (ae:∀ r∈new,r.length=sz) (flat:Nat->Value) (h1:∀ t,t<new.length * sz->(flat t).oneCell'=true) (hr:∀ (r c:Nat) (row:List AV) (y:AV),new[r]?=some row->row[c]?=some y->∀ g w,Ya g w y (flat (r * sz+c)))
  (Rf:w1.heap.size=w.heap.size) (Cd:∀ R,R≠(g.ρ x).R->w1.heap[R]?=w.heap[R]?)
  (hblk:∀ cs T fz,w.heap[(g.ρ x).R]?=some (.cells cs T fz)->∃ cs1,w1.heap[(g.ρ x).R]?=some (.cells cs1 T fz)/\cs1.size=cs.size/\∀ k,cs1[k]?=(cs[k]?).map fun v=>if (g.ρ x).o<=k/\k<(g.ρ x).o+new.length * sz then flat (k-(g.ρ x).o) else v)
  (ov:w1.os=w.os/\w1.output=w.output):Ub A.La g w1 (Ma H x (.cells (new++rows.drop new.length) sz ty))/\Ext g w H g w1 (Ma H x (.cells (new++rows.drop new.length) sz ty)):=by
 have Td:live g H x:=⟨hD,_,hx,rfl⟩;obtain ⟨UE,zf,Hac,zo,cs,⟨T,fz,hR,mJ,Tk,hZ⟩,Kc⟩:=hw.Oc x _ hD hx;obtain ⟨cs1,N',kZ,hg1⟩:=hblk cs T fz hR;obtain ⟨q1,q2,q3⟩:=ue (f:=Vn) (F:=[]) (w':=w1) (x:= .cells (new++rows.drop new.length) sz ty) hw Jh Td Of Rf Cd (fun hle=>by
  refine ⟨UE.of fun Bh T' fz' e=>by rw [hR] at e;injection e with e;injection e with e1 e2 e3;subst e1;subst e2;subst e3;exact ⟨cs1,fz,N'⟩,zf,Hac,by rw [Ud,Kl];rw [show new.length+(rows.length-new.length)=rows.length by omega];exact zo,cs1,⟨T,fz,N',by rw [kZ,mJ],Tk,hZ⟩,fun r row Zc=> ?_⟩;by_cases nc:r<new.length
  · rw [Fa nc] at Zc;have hl:=ae row (jb Zc);refine ⟨hl,fun c y hy=> ?_⟩;have hc:c<sz:=by rw [<- hl];exact getElem?_lt' hy
    have ht:r * sz+c<new.length * sz:=by
     have:r * sz+sz<=new.length * sz:=by rw [<- Gi];exact Vb _ nc
     omega
    refine ⟨flat (r * sz+c),?_,h1 _ ht,hr r c row y Zc hy g w1⟩;rw [hg1];have XE:(g.ρ x).o+r * sz+c<cs.size:=by
     rw [mJ];have:rows.length * sz≥new.length * sz:=Vb _ hn;omega
    rw [Array.getElem?_eq_getElem XE,Jc,if_pos ⟨by omega,by omega⟩];congr 2;omega
  · rw [Ka (by omega),Dc,show new.length+(r-new.length)=r by omega] at Zc;obtain ⟨p1,p2⟩:=Kc r row Zc;refine ⟨p1,fun c y hy=> ?_⟩;obtain ⟨v,v1,v2,v3⟩:=p2 c y hy;refine ⟨v,?_,v2,v3.mono hle⟩;rw [hg1,v1,Jc,if_neg];have:new.length * sz<=r * sz:=Vb _ (by omega);omega) (ov:=ov)
 exact ⟨q1,q3.ext fun i h=>h⟩
theorem Xm {H:AH} {x:Nat} {y:AB} (hx:H.bl[x]?=some y):Ma H x y=H:=by
 unfold Ma;cases H with
 |mk bl wm=>
  simp only [AH.mk.injEq,and_true];apply List.ext_getElem?;intro i;rw [Kb];split
  · rename_i e;subst e;have hlx:x<bl.length:=(List.getElem?_eq_some_iff.1 hx).1
    first|(rw [if_pos hlx];exact hx.symm)|exact hx.symm
  · rfl
theorem Hs {g:Gx} {w:World} {H:AH} {x n:Nat} {rows:List (List AV)} {sz:Nat} {ty:Option (TypeId×Nat)} {v:Value} (hw:Ub A.La g w H) (hx:H.bl[x]?=some (.cells rows sz ty)) (hv:Ya g w (.sl x 0 n) v) (hn:n<=rows.length):
  g.D x/\((n=0/\∃ p cap,v= .slice p 0 cap)\/∃ cap,v= .slice (some ⟨(g.ρ x).R,(g.ρ x).o,none⟩) n cap/\n<=cap/\(g.ρ x).R<w.heap.size/\∀ (r c:Nat) (row:List AV) (y:AV),r<n->rows[r]?=some row->row[c]?=some y->∃ u,w.cell? ⟨(g.ρ x).R,(g.ρ x).o+(r * sz+c),none⟩=some u/\Ya g w y u/\w.frozen? ⟨(g.ρ x).R,(g.ρ x).o+(r * sz+c),none⟩=false):=by
 cases hv with
 |TG b r a hd=>exact ⟨hd,.inl ⟨rfl,_,_,rfl⟩⟩
 |sl b r n cap hd Kk zo=>
  obtain ⟨UE,zf,Hac,uaj,cs,⟨T,fz,hR,mJ,Tk,hZ⟩,Kc⟩:=hw.Oc x _ hd hx;refine ⟨hd,.inr ⟨cap,by simp,Kk,Ua hR,fun r c row y hr Zc hy=> ?_⟩⟩;obtain ⟨p1,p2⟩:=Kc r row Zc;obtain ⟨u,u1,u2,u3⟩:=p2 c y hy;rw [ud] at u1;refine ⟨u,by simp only [World.cell?,hR];simpa using u1,u3,?_⟩;have nc:(g.ρ x).o+(r * sz+c)<(g.ρ x).e:=by have:=Ua u1;omega
  have:=Tk _ nc;simp only [World.frozen?,hR];simp only [Dr,decide_eq_false_iff_not];by_cases h:fz.1<=(g.ρ x).o+(r * sz+c)
  · exact .inr fun h'=>this ⟨h,h'⟩
  · exact .inl h
theorem MH {g:Gx} {w w1:World} {H H1:AH} (cK:Ub A.La g w1 H1) (he:Ext g w H g w1 H1) (os:Array Obj):Ub A.La g (Sort.grow w1 os) H1/\Ext g w H g (Sort.grow w1 os) H1:=by
 have ae:w1.heap.size<=(Sort.grow w1 os).heap.size:=by simp [Sort.grow]
 have hold:∀ R,R<w1.heap.size->(Sort.grow w1 os).heap[R]?=w1.heap[R]?:=fun R hR=>by
  show (w1.heap++os)[R]?=_;rw [jv hR]
 obtain ⟨q1,q2,q3⟩:=qn (f:=Vn) (F:=[]) cK Jh ae hold (ov:=⟨rfl,rfl⟩);exact ⟨q1,he.trans (q3.ext fun i h=>h)⟩
def Tm:List (List AV)->Option (List Int)
 |[]=>some []
 |[.int .i64 z]::l=>(Tm l).map (z:: ·)
 |_=>none
def Jo:List (List AV)->Option (List (Int×Int))
 |[]=>some []
 |[.int .i64 a,.int .i64 b]::l=>(Jo l).map ((a,b):: ·)
 |_=>none
def nf (z:Int):List AV:=[.int .i64 z]
def wk (p:Int×Int):List AV:=[.int .i64 p.1,.int .i64 p.2]
def ZA (p:Int×Int):List Value:=[.int .i64 p.1,.int .i64 p.2]
theorem Ev:∀ {rows:List (List AV)} {l:List Int},Tm rows=some l->rows=l.map nf
 |[],l,h=>by simp [Tm] at h;subst h;rfl
 |row::rows,l,h=>by
  unfold Tm at h;split at h
  · rename_i e;cases e
  · rename_i z l0 e;injection e with e1 e2;subst e1;subst e2
    simp only [ia] at h;obtain ⟨l1,h1,rfl⟩:=h;rw [Ev h1];rfl
  · simp at h
theorem vC:∀ {rows:List (List AV)} {l:List (Int×Int)},Jo rows=some l->rows=l.map wk
 |[],l,h=>by simp [Jo] at h;subst h;rfl
 |row::rows,l,h=>by
  unfold Jo at h;split at h
  · rename_i e;cases e
  · rename_i a b l0 e;injection e with e1 e2;subst e1;subst e2
    simp only [ia] at h;obtain ⟨l1,h1,rfl⟩:=h;rw [vC h1];rfl
  · simp at h
def Wm (Jk:List Int->List Int) (args:List AV) (H:AH):Option (AV×AH):=
 match args with
 |[.Wa]|[.Kd]=>some (.Rc [],H)
 |[.sl x 0 n]=>
  match H.bl[x]? with
  |some (.cells rows 1 ty)=>if H.wm<=x/\n<=rows.length/\n<4611686018427387904 then (Tm (rows.take n)).map fun l=>(.Rc [],Ma H x (.cells ((Jk l).map nf++rows.drop n) 1 ty)) else none
  |_=>none
 |_=>none
def Ll (F:FuncId) (Jk:List (Int×Int)->List (Int×Int)) (args:List AV) (H:AH):Option (AV×AH):=
 match args with
 |[.Wa,.fn f []]|[.Kd,.fn f []]=>if f=F then some (.Rc [],H) else none
 |[.sl x 0 n,.fn f []]=>
  if f=F then
   match H.bl[x]? with
   |some (.cells rows 2 ty)=>if H.wm<=x/\n<=rows.length/\n<4611686018427387904 then (Jo (rows.take n)).map fun l=>(.Rc [],Ma H x (.cells ((Jk l).map wk++rows.drop n) 2 ty)) else none
   |_=>none
  else none
 |_=>none
def On (l:List Int) (i j:Nat):List Int:=l.take i++l.drop j++Ja (j-i) 0
def Mu (args:List AV) (H:AH):Option (AV×AH):=
 match args with
 |[.Wa,.int .i64 i,.int .i64 j]=>if i=0/\j=0 then some (.Wa,H) else none
 |[.Kd,.int .i64 i,.int .i64 j]=>if i=0/\j=0 then some (.Kd,H) else none
 |[.sl x 0 n,.int .i64 i,.int .i64 j]=>
  match H.bl[x]? with
  |some (.cells rows 1 ty)=>if H.wm<=x/\n<=rows.length/\0<=i/\i<=j/\j<=n then (Tm (rows.take n)).map fun l=>(.sl x 0 (n-(j.toNat-i.toNat)),Ma H x (.cells ((On l i.toNat j.toNat).map nf++rows.drop n) 1 ty)) else none
  |_=>none
 |_=>none
theorem PI {l:List Int} {i j:Nat} (h:i<=j) (h':j<=l.length):(On l i j).length=l.length:=by simp [On];omega
theorem GJ {f:FuncId} {Jk:List Int->List Int} (hlen:∀ l,(Jk l).length=l.length)
   (sA:∀ (Oc off cap:Nat) (zs:List Int) (w:World),Sort.Holds (Value.int .i64) w Oc off zs.toArray->Oc<w.heap.size->zs.length<4611686018427387904->
    Calls A.P f #[.slice (some ⟨Oc,off,none⟩) zs.length cap] w fun e w'=>e= .returned (.tuple #[])/\∃ n os,w'=Sort.grow (Sort.putRow (Value.int .i64) (Sort.ahead w n) Oc off (Jk zs).toArray) os)
   (jj:∀ (p:Option Addr) (cap:Nat) (w:World),Calls A.P f #[.slice p 0 cap] w fun e w'=>e= .returned (.tuple #[])/\w'=w):Il A f (Wm Jk):=by
 intro args H r H' hh g w vs hw hv;have nil:∀ (p:Option Addr) (cap:Nat),Calls A.P f #[.slice p 0 cap] w fun e w'=>∃ rv g',e= .returned rv/\Ya g' w' (.Rc []) rv/\Ub A.La g' w' H/\Ext g w H g' w' H:=fun p cap=>(jj p cap w).mono (by
   rintro e w' ⟨rfl,rfl⟩
   exact ⟨_,g,rfl,.Rc [] [] rfl (fun i x v h=>by simp at h),hw,.refl _ _ _⟩)
 unfold Wm at hh;split at hh
 · simp at hh;obtain ⟨rfl,rfl⟩:=hh
   match vs,hv with
   |[v],⟨r1,_⟩=>cases r1;exact nil _ _
 · simp at hh;obtain ⟨rfl,rfl⟩:=hh
   match vs,hv with
   |[v],⟨r1,_⟩=>cases r1;exact nil _ _
 · rename_i x n;split at hh
   case h_2=>simp at hh
   rename_i rows ty hx;split at hh
   case isFalse=>simp at hh
   rename_i hc;obtain ⟨Of,P0,nc⟩:=hc;simp only [ia] at hh;obtain ⟨l,hl,hh⟩:=hh;simp at hh;obtain ⟨rfl,rfl⟩:=hh;have Kc:=Ev hl;have BB:l.length=n:=by have:=congrArg fa Kc;simp at this;omega
   match vs,hv with
   |[v],⟨r1,_⟩=>
    obtain ⟨hD,HH⟩:=Hs hw hx r1 P0;rcases HH with ⟨rfl,p,cap,rfl⟩|⟨cap,rfl,Kk,E1,Yh⟩
    · have:l=[]:=Da.1 BB;subst this;have lZ:Jk []=[]:=Da.1 (by rw [hlen];rfl);rw [lZ];have e:Ma H x (.cells (List.map nf []++rows.drop 0) 1 ty)=H:=Xm hx;rw [e];exact nil _ _
    · have Qj:∀ j,j<n->rows[j]?=some (nf (l.getD j 0)):=fun j hj=>by
       have h1:(rows.take n)[j]?=rows[j]?:=by rw [Ab,if_pos hj]
       rw [<- h1,Kc,Ob,Ea,ya (by omega)];rfl
      have hH:Sort.Holds (Value.int .i64) w (g.ρ x).R (g.ρ x).o l.toArray:=fun j hj=>by
       have U0:j<n:=by simpa [BB] using hj
       obtain ⟨u,u1,u2,u3⟩:=Yh j 0 _ (.int .i64 (l.getD j 0)) U0 (Qj j U0) rfl;cases u2;simp only [Nat.mul_one,td] at u1 u3;refine ⟨?_,u3⟩;rw [u1];congr 2;simp [Ea,ya (show j<l.length by omega),show j<l.length by omega]
      have hc:=sA (g.ρ x).R (g.ρ x).o cap l w hH E1 (by omega);rw [BB] at hc;refine hc.mono ?_
      rintro e w' ⟨rfl,q,os,rfl⟩
      have FG:(Jk l).length=n:=by rw [hlen,BB]
      have hp:=Ov (A:=A) (w1:=Sort.putRow (Value.int .i64) (Sort.ahead w q) (g.ρ x).R (g.ρ x).o (Jk l).toArray) (new:=(Jk l).map nf) hw hD hx Of (by simp [FG,P0]) (fun r hr=>by obtain ⟨z,_,rfl⟩:=ye.1 hr;rfl) (fun t=> .int .i64 ((Jk l).getD t 0)) (fun t _=>rfl) (fun r c row y hr hy g w=>by
        rw [Ob] at hr;obtain ⟨z,hz,rfl⟩:=ia.1 hr
        match c,hy with
        |0,hy=>simp [nf] at hy;subst hy;simp [Ea,hz];exact .int _ _
        |c+1,hy=>simp [nf] at hy) (Sort.size_putRow ..) (fun R Nc=>Wh _ Nc) (fun cs T fz hR=>⟨_,Ro _ hR,by simp [Sort.putCells],fun k=>by
         rw [bn];congr 1;funext v;simp only [Di,Ec,FG,Nat.mul_one];split
         · rename_i hk;congr 1;simp [Ea,ya (show k-(g.ρ x).o<(Jk l).length by omega),show k-(g.ρ x).o<(Jk l).length by omega]
         · rfl⟩) ⟨rfl,rfl⟩
      rw [Ec,FG] at hp;obtain ⟨q1,q2⟩:=hp;obtain ⟨p1,p2⟩:=MH q1 q2 os;exact ⟨_,g,rfl,.Rc [] [] rfl (fun i x v h=>by simp at h),p1,p2⟩
 · simp at hh
theorem AK {g:Gx} {w:World} {f:FuncId} {v:Value} (h:Ya g w (.fn f []) v):v= .func (.func f) #[] #[]:=by
 cases h with
 |fn _ _ vs hl _=>
  have:vs=[]:=Da.1 hl;subst this;rfl
theorem EJ {f F : FuncId} {Jk : List (Int × Int) → List (Int × Int)} (hlen : ∀ l, (Jk l).length = l.length)
   (sA : ∀ (Oc off cap : Nat) (zs : List (Int × Int)) (w : World), Sort.HoldsK ZA 2 w Oc off zs.toArray → Oc < w.heap.size → zs.length < 4611686018427387904 →
    Calls A.P f #[.slice (some ⟨Oc, off, none⟩) zs.length cap, .func (.func F) #[] #[]] w fun e w' => e = .returned (.tuple #[]) ∧ ∃ n os, w' = Go.Proofs.sortWorldK ZA 2 w Oc off n (Jk zs).toArray os)
   (jj : ∀ (p : Option Addr) (cap : Nat) (w : World), Calls A.P f #[.slice p 0 cap, .func (.func F) #[] #[]] w fun e w' => e = .returned (.tuple #[]) ∧ w' = w) : Il A f (Ll F Jk) := by
 intro args H r H' hh g w vs hw hv
 have nil : ∀ (p : Option Addr) (cap : Nat), Calls A.P f #[.slice p 0 cap, .func (.func F) #[] #[]] w fun e w' => ∃ rv g', e = .returned rv ∧ Ya g' w' (.Rc []) rv ∧ Ub A.La g' w' H ∧ Ext g w H g' w' H := fun p cap => (jj p cap w).mono (by
   rintro e w' ⟨rfl, rfl⟩
   exact ⟨_, g, rfl, .Rc [] [] rfl (fun i x v h => by simp at h), hw, .refl _ _ _⟩)
 unfold Ll at hh
 split at hh
 · split at hh
   case isFalse => simp at hh
   rename_i ef; subst ef
   simp at hh; obtain ⟨rfl, rfl⟩ := hh
   match vs, hv with
   | [v, v2], ⟨r1, r2, _⟩ => cases r1; obtain rfl := AK r2; exact nil _ _
 · split at hh
   case isFalse => simp at hh
   rename_i ef; subst ef
   simp at hh; obtain ⟨rfl, rfl⟩ := hh
   match vs, hv with
   | [v, v2], ⟨r1, r2, _⟩ => cases r1; obtain rfl := AK r2; exact nil _ _
 · rename_i x n fv
   split at hh
   case isFalse => simp at hh
   rename_i ef; subst ef
   split at hh
   case h_2 => simp at hh
   rename_i rows ty hx
   split at hh
   case isFalse => simp at hh
   rename_i hc
   obtain ⟨Of, P0, nc⟩ := hc
   simp only [ia] at hh
   obtain ⟨l, hl, hh⟩ := hh
   simp at hh; obtain ⟨rfl, rfl⟩ := hh
   have Kc := vC hl
   have BB : l.length = n := by have := congrArg fa Kc; simp at this; omega
   match vs, hv with
   | [v, v2], ⟨r1, r2, _⟩ =>
    obtain rfl := AK r2
    obtain ⟨hD, HH⟩ := Hs hw hx r1 P0
    rcases HH with ⟨rfl, p, cap, rfl⟩ | ⟨cap, rfl, Kk, E1, Yh⟩
    · have : l = [] := Da.1 BB
      subst this
      have lZ : Jk [] = [] := Da.1 (by rw [hlen]; rfl)
      rw [lZ]
      have e : Ma H x (.cells (List.map wk [] ++ rows.drop 0) 2 ty) = H := Xm hx
      rw [e]
      exact nil _ _
    · have Qj : ∀ j, j < n → rows[j]? = some (wk (l.getD j (0, 0))) := fun j hj => by
       have h1 : (rows.take n)[j]? = rows[j]? := by rw [Ab, if_pos hj]
       rw [← h1, Kc, Ob, Ea, ya (by omega)]; rfl
      have hH : Sort.HoldsK ZA 2 w (g.ρ x).R (g.ρ x).o l.toArray := fun t ht => by
       have X8 : t < n * 2 := by simpa [BB] using ht
       have hj : t / 2 < n := by omega
       obtain ⟨p, hp⟩ : ∃ p, l.getD (t / 2) (0, 0) = p := ⟨_, rfl⟩
       have Zc := Qj _ hj
       rw [hp] at Zc
       have hla : l.toArray[t / 2]! = p := by
         rw [← hp, Ea]
         simp [ya (show t / 2 < l.length by omega), show t / 2 < l.length by omega]
       rw [Sort.get_flatK _ _ _ _ (by simpa [BB] using X8), hla]
       have e2 : t / 2 * 2 + t % 2 = t := by omega
       rcases (show t % 2 = 0 ∨ t % 2 = 1 by omega) with hm | hm
       · obtain ⟨u, u1, u2, u3⟩ := Yh (t / 2) 0 _ (.int .i64 p.1) hj Zc rfl
         cases u2
         rw [show t / 2 * 2 + 0 = t by omega] at u1 u3
         rw [hm]; exact ⟨u1, u3⟩
       · obtain ⟨u, u1, u2, u3⟩ := Yh (t / 2) 1 _ (.int .i64 p.2) hj Zc rfl
         cases u2
         rw [show t / 2 * 2 + 1 = t by omega] at u1 u3
         rw [hm]; exact ⟨u1, u3⟩
      have hc := sA (g.ρ x).R (g.ρ x).o cap l w hH E1 (by omega)
      rw [BB] at hc
      refine hc.mono ?_
      rintro e w' ⟨rfl, q, os, rfl⟩
      have FG : (Jk l).length = n := by rw [hlen, BB]
      have hp := Ov (A := A) (w1 := Sort.putRowK ZA 2 (Sort.ahead w q) (g.ρ x).R (g.ρ x).o (Jk l).toArray) (new := (Jk l).map wk) hw hD hx Of (by simp [FG, P0]) (fun r hr => by obtain ⟨z, _, rfl⟩ := ye.1 hr; rfl) (fun t => (Sort.flatK ZA 2 (Jk l).toArray)[t]!) (fun t ht => by
         rw [Ec] at ht
         rw [Sort.get_flatK _ _ _ _ (by simpa using ht)]
         rcases (show t % 2 = 0 ∨ t % 2 = 1 by omega) with hm | hm <;> rw [hm] <;> rfl) (fun r c row y hr hy g w => by
         rw [Ob] at hr
         obtain ⟨z, hz, rfl⟩ := ia.1 hr
         have YC := getElem?_lt' hz
         have E0 : (Jk l).toArray[r]! = z := by
          have := (List.getElem?_eq_some_iff.1 hz).2
          simp [YC, this]
         match c, hy with
         | 0, hy =>
          simp [wk] at hy; subst hy
          rw [Sort.get_flatK _ _ _ _ (by simp; omega), show (r * 2 + 0) / 2 = r by omega, show (r * 2 + 0) % 2 = 0 by omega, E0]
          exact .int _ _
         | 1, hy =>
          simp [wk] at hy; subst hy
          rw [Sort.get_flatK _ _ _ _ (by simp; omega), show (r * 2 + 1) / 2 = r by omega, show (r * 2 + 1) % 2 = 1 by omega, E0]
          exact .int _ _
         | c + 2, hy => simp [wk] at hy) (Sort.size_putRow ..) (fun R Nc => Wh _ Nc) (fun cs T fz hR => ⟨_, Ro _ hR, by simp [Sort.putCells], fun k => by
          rw [bn]
          congr 1; funext v
          simp only [Sort.size_flatK, Di, Ec, FG, id]⟩) ⟨rfl, rfl⟩
      rw [Ec, FG] at hp
      obtain ⟨q1, q2⟩ := hp
      obtain ⟨p1, p2⟩ := MH q1 q2 os
      exact ⟨_, g, rfl, .Rc [] [] rfl (fun i x v h => by simp at h), p1, p2⟩
 · simp at hh
theorem GR {f:FuncId}
   (sA:∀ (Oc off cap i j:Nat) (zs:List Int) (w:World),Sort.Holds (Value.int .i64) w Oc off zs.toArray->zs.length<=cap->cap<=9223372036854775807->i<=j->j<=zs.length->
    Calls A.P f #[.slice (some ⟨Oc,off,none⟩) zs.length cap,.int .i64 i,.int .i64 j] w fun e w'=>e= .returned (.slice (some ⟨Oc,off,none⟩) (zs.length-(j-i)) cap)/\∃ q,w'=Sort.putRow (Value.int .i64) (Sort.ahead w q) Oc off (On zs i j).toArray)
   (jj:∀ (p:Option Addr) (cap:Nat) (w:World),Calls A.P f #[.slice p 0 cap,.int .i64 0,.int .i64 0] w fun e w'=>e= .returned (.slice p 0 cap)/\w'=w):Il A f Mu:=by
 intro args H r H' hh g w vs hw hv;unfold Mu at hh;split at hh
 · rename_i i j;split at hh
   case isFalse=>simp at hh
   rename_i hc;obtain ⟨rfl,rfl⟩:=hc;simp at hh;obtain ⟨rfl,rfl⟩:=hh
   match vs,hv with
   |[v,v1,v2],⟨r1,r2,r3,_⟩=>
    cases r1;cases r2;cases r3;exact (jj _ _ w).mono (by rintro e w' ⟨rfl,rfl⟩;exact ⟨_,g,rfl,.Wa,hw,.refl _ _ _⟩)
 · rename_i i j;split at hh
   case isFalse=>simp at hh
   rename_i hc;obtain ⟨rfl,rfl⟩:=hc;simp at hh;obtain ⟨rfl,rfl⟩:=hh
   match vs,hv with
   |[v,v1,v2],⟨r1,r2,r3,_⟩=>
    cases r1;cases r2;cases r3;exact (jj _ _ w).mono (by rintro e w' ⟨rfl,rfl⟩;exact ⟨_,g,rfl,.Kd _,hw,.refl _ _ _⟩)
 · rename_i x n i j;split at hh
   case h_2=>simp at hh
   rename_i rows ty hx;split at hh
   case isFalse=>simp at hh
   rename_i hc;obtain ⟨Of,P0,hi0,Ky,GG⟩:=hc;simp only [ia] at hh;obtain ⟨l,hl,hh⟩:=hh;simp at hh;obtain ⟨rfl,rfl⟩:=hh;have Kc:=Ev hl;have BB:l.length=n:=by have:=congrArg fa Kc;simp at this;omega
   obtain ⟨i',rfl⟩:∃ i':Nat,i=i':=⟨i.toNat,by omega⟩;obtain ⟨j',rfl⟩:∃ j':Nat,j=j':=⟨j.toNat,by omega⟩;simp only [Ca]
   match vs,hv with
   |[v,v1,v2],⟨r1,r2,r3,_⟩=>
    cases r2;cases r3;have dj:Ya g w (.sl x 0 n) v:=r1;obtain ⟨hD,HH⟩:=Hs hw hx r1 P0;rcases HH with ⟨rfl,p,cap,rfl⟩|⟨cap,rfl,Kk,E1,Yh⟩
    · have:l=[]:=Da.1 BB;subst this;have e1:i'=0:=by omega
      have e2:j'=0:=by omega
      subst e1;subst e2;have e:Ma H x (.cells (List.map nf (On [] 0 0)++rows.drop 0) 1 ty)=H:=Xm hx;rw [e];exact (jj _ _ w).mono (by rintro e w' ⟨rfl,rfl⟩;exact ⟨_,g,rfl,dj,hw,.refl _ _ _⟩)
    · have hm:cap<=9223372036854775807:=by
        have:∀ v,Ya g w (.sl x 0 n) v->v= .slice (some ⟨(g.ρ x).R,(g.ρ x).o,none⟩) n cap->cap<=9223372036854775807:=by
         intro v h e;cases h with
         |sl _ _ _ gC _ _ _ hm=>injection e with _ _ e;omega
         |TG=>injection e with _ _ e;omega
        exact this _ dj rfl
      have zo:n=0\/(g.ρ x).o+(0+cap) * (g.ρ x).sz<=(g.ρ x).e:=by
        have:∀ v,Ya g w (.sl x 0 n) v->v= .slice (some ⟨(g.ρ x).R,(g.ρ x).o,none⟩) n cap->n=0\/(g.ρ x).o+(0+cap) * (g.ρ x).sz<=(g.ρ x).e:=by
         intro v h e;cases h with
         |sl _ _ _ gC _ _ he hm=>injection e with _ _ e;subst e;exact .inr he
         |TG=>exact .inl rfl
        exact this _ dj rfl
      have Qj:∀ j,j<n->rows[j]?=some (nf (l.getD j 0)):=fun j hj=>by
        have h1:(rows.take n)[j]?=rows[j]?:=by rw [Ab,if_pos hj]
        rw [<- h1,Kc,Ob,Ea,ya (by omega)];rfl
      have hH:Sort.Holds (Value.int .i64) w (g.ρ x).R (g.ρ x).o l.toArray:=fun j hj=>by
        have U0:j<n:=by simpa [BB] using hj
        obtain ⟨u,u1,u2,u3⟩:=Yh j 0 _ (.int .i64 (l.getD j 0)) U0 (Qj j U0) rfl;cases u2;simp only [Nat.mul_one,td] at u1 u3;refine ⟨?_,u3⟩;rw [u1];congr 2;simp [Ea,ya (show j<l.length by omega),show j<l.length by omega]
      by_cases jK:n=0
      · subst jK;have:l=[]:=Da.1 BB;subst this;have e1:i'=0:=by omega
        have e2:j'=0:=by omega
        subst e1;subst e2;have e:Ma H x (.cells (List.map nf (On [] 0 0)++rows.drop 0) 1 ty)=H:=Xm hx;rw [e];exact (jj _ _ w).mono (by rintro e w' ⟨rfl,rfl⟩;exact ⟨_,g,rfl,dj,hw,.refl _ _ _⟩)
      have hc:=sA (g.ρ x).R (g.ρ x).o cap i' j' l w hH (by omega) hm (by omega) (by omega);rw [BB] at hc;refine hc.mono ?_
      rintro e w' ⟨rfl,q,rfl⟩
      have FG:(On l i' j').length=n:=by rw [PI (by omega) (by omega),BB]
      generalize On l i' j'=d at FG ⊢;have hp:=Ov (A:=A) (w1:=Sort.putRow (Value.int .i64) (Sort.ahead w q) (g.ρ x).R (g.ρ x).o d.toArray) (new:=d.map nf) hw hD hx Of (by simp [FG,P0]) (fun r hr=>by obtain ⟨z,_,rfl⟩:=ye.1 hr;rfl) (fun t=> .int .i64 (d.getD t 0)) (fun t _=>rfl) (fun r c row y hr hy g w=>by
         rw [Ob] at hr;obtain ⟨z,hz,rfl⟩:=ia.1 hr
         match c,hy with
         |0,hy=>simp [nf] at hy;subst hy;simp [Ea,hz];exact .int _ _
         |c+1,hy=>simp [nf] at hy) (Sort.size_putRow ..) (fun R Nc=>Wh _ Nc) (fun cs T fz hR=>⟨_,Ro _ hR,by simp [Sort.putCells],fun k=>by
          rw [bn];congr 1;funext v;simp only [Di,Ec,FG,Nat.mul_one];split
          · rename_i hk;congr 1;simp [Ea,ya (show k-(g.ρ x).o<d.length by omega),show k-(g.ρ x).o<d.length by omega]
          · rfl⟩) ⟨rfl,rfl⟩
      rw [Ec,FG] at hp;obtain ⟨q1,q2⟩:=hp;refine ⟨_,g,rfl,?_,q1,q2⟩;have:=Ya.sl (g:=g) (w:=Sort.putRow (Value.int .i64) (Sort.ahead w q) (g.ρ x).R (g.ρ x).o d.toArray) x 0 (n-(j'-i')) cap hD (by omega) (zo.resolve_left jK) hm
      simpa using this
 · simp at hh
end
end Go.V
namespace Go.V
open Go
def Bk {α:Type} (lt:α->α->Bool) (x:α):List α->List α
 |[]=>[x]
 |y::l=>cond (lt y x) (y::Bk lt x l) (x::y::l)
def Jv {α:Type} (lt:α->α->Bool):List α->List α
 |[]=>[]
 |x::l=>Bk lt x (Jv lt l)
def ey (x y:Int×Int):Bool:=decide (x.1<y.1)||(decide (x.1=y.1)&&decide (x.2<y.2))
def Xg (l:List (Int×Int)):List (Int×Int):=Jv ey l
def Qe (l:List Int):List Int:=Jv (fun a b=>decide (a<b)) l
theorem Ol {α:Type} (lt:α->α->Bool) (x:α):∀ l:List α,(Bk lt x l).Perm (x::l)
 |[]=> .refl _
 |y::l=>by
  unfold Bk;cases lt y x
  · exact .refl _
  · exact ((Ol lt x l).cons y).trans (.swap x y l)
theorem Re {α:Type} (lt:α->α->Bool):∀ l:List α,(Jv lt l).Perm l
 |[]=> .refl _
 |x::l=>(Ol lt x _).trans ((Re lt l).cons x)
theorem Zn {α:Type} {lt:α->α->Bool} (gu:∀ a b c,lt b a=false->lt c b=false->lt c a=false) (has:∀ a b,lt a b=true->lt b a=false) (x:α):∀ l:List α,l.Pairwise (fun a b=>lt b a=false)->(Bk lt x l).Pairwise fun a b=>lt b a=false
 |[],_=>by simp [Bk]
 |y::l,h=>by
  obtain ⟨h1,h2⟩:=List.pairwise_cons.1 h;unfold Bk;cases e:lt y x
  · refine List.pairwise_cons.2 ⟨fun z hz=> ?_,h⟩;rcases oc.1 hz with rfl|hz
    · exact e
    · exact gu x y z e (h1 z hz)
  · refine List.pairwise_cons.2 ⟨fun z hz=> ?_,Zn gu has x l h2⟩;rcases oc.1 ((Ol lt x l).mem_iff.1 hz) with rfl|hz
    · exact has _ _ e
    · exact h1 z hz
theorem Yi {α:Type} {lt:α->α->Bool} (gu:∀ a b c,lt b a=false->lt c b=false->lt c a=false) (has:∀ a b,lt a b=true->lt b a=false):∀ l:List α,(Jv lt l).Pairwise fun a b=>lt b a=false
 |[]=> .nil
 |x::l=>Zn gu has x _ (Yi gu has l)
theorem DC {α:Type} {lt:α->α->Bool} (gu:∀ a b c,lt b a=false->lt c b=false->lt c a=false) (has:∀ a b,lt a b=true->lt b a=false) (hto:∀ a b,lt a b=false->lt b a=false->a=b) (l:List α):l.mergeSort (fun x y=> !lt y x)=Jv lt l:=by
 refine List.Perm.eq_of_pairwise (le:=fun a b=>lt b a=false) (fun a b _ _ h1 h2=>hto a b h2 h1) ?_ (Yi gu has l) ((List.mergeSort_perm l _).trans (Re lt l).symm);have:=List.pairwise_mergeSort (le:=fun x y=> !lt y x) (fun a b c h1 h2=>by simp only [Bool.not_eq_true'] at *;exact gu a b c h1 h2) (fun a b=>by
  cases e:lt b a with
  |false=>simp
  |true=>simp [has _ _ e]) l
 exact this.imp (by simp)
theorem lT (a b c:Int×Int) (h1:ey b a=false) (h2:ey c b=false):ey c a=false:=by
 simp only [ey,Bool.or_eq_false_iff,Dr,decide_eq_false_iff_not] at *
 omega
theorem UJ (a b:Int×Int) (h1:ey a b=true):ey b a=false:=by
 simp only [ey,Bool.or_eq_false_iff,Ff,Ia,Dr,decide_eq_true_eq,decide_eq_false_iff_not] at *
 omega
theorem TJ (a b:Int×Int) (h1:ey a b=false) (h2:ey b a=false):a=b:=by
 simp only [ey,Bool.or_eq_false_iff,Dr,decide_eq_false_iff_not] at *
 exact Prod.ext (by omega) (by omega)
theorem DS (l:List (Int×Int)):l.mergeSort (fun x y=> !ey y x)=Xg l:=DC lT UJ TJ l
theorem CS (l:List Int):l.mergeSort (fun x y=>decide (x<=y))=Qe l:=by
 rw [show (fun x y:Int=>decide (x<=y))=fun x y=> !(fun a b=>decide (a<b)) y x by funext x y;rw [<- decide_not];congr 1;apply propext;omega];exact DC (fun a b c h1 h2=>by simp at *;omega) (fun a b h=>by simp at *;omega) (fun a b h1 h2=>by simp at *;omega) l
theorem EC (l:List (Int×Int)):(Xg l).length=l.length:=(Re _ l).length_eq
theorem Iv (l:List Int):(Qe l).length=l.length:=(Re _ l).length_eq
theorem pE {Jk:List Int->List Int} {args:List AV} {H H':AH} {r:AV} (h:Wm Jk args H=some (r,H')):Fc H H':=by
 unfold Wm at h;split at h
 · simp at h;obtain ⟨_,rfl⟩:=h;exact Fc.refl _
 · simp at h;obtain ⟨_,rfl⟩:=h;exact Fc.refl _
 · split at h
   case h_2=>simp at h
   split at h
   case isFalse=>simp at h
   rename_i hc;simp only [ia] at h;obtain ⟨l,_,h⟩:=h;simp at h;obtain ⟨_,rfl⟩:=h;exact Fc.set hc.1 _
 · simp at h
theorem oE {F:FuncId} {Jk:List (Int×Int)->List (Int×Int)} {args:List AV} {H H':AH} {r:AV} (h:Ll F Jk args H=some (r,H')):Fc H H':=by
 unfold Ll at h;split at h
 · split at h
   case isFalse=>simp at h
   simp at h;obtain ⟨_,rfl⟩:=h;exact Fc.refl _
 · split at h
   case isFalse=>simp at h
   simp at h;obtain ⟨_,rfl⟩:=h;exact Fc.refl _
 · split at h
   case isFalse=>simp at h
   split at h
   case h_2=>simp at h
   split at h
   case isFalse=>simp at h
   rename_i hc;simp only [ia] at h;obtain ⟨l,_,h⟩:=h;simp at h;obtain ⟨_,rfl⟩:=h;exact Fc.set hc.1 _
 · simp at h
theorem QI {args:List AV} {H H':AH} {r:AV} (h:Mu args H=some (r,H')):Fc H H':=by
 unfold Mu at h;split at h
 · split at h
   case isFalse=>simp at h
   simp at h;obtain ⟨_,rfl⟩:=h;exact Fc.refl _
 · split at h
   case isFalse=>simp at h
   simp at h;obtain ⟨_,rfl⟩:=h;exact Fc.refl _
 · split at h
   case h_2=>simp at h
   split at h
   case isFalse=>simp at h
   rename_i hc;simp only [ia] at h;obtain ⟨l,_,h⟩:=h;simp at h;obtain ⟨_,rfl⟩:=h;exact Fc.set hc.1 _
 · simp at h
end Go.V
