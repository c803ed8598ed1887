/- An evaluator of the translated code and that it is right: each of its answers is an answer of the model. -/
import Derived.Test.YtjenflkegbmkkaaGreatDoorA4
import Derived.Shelf.GgSortFunc.InsertionK
set_option linter.unusedVariables false
set_option linter.unusedSimpArgs false
set_option linter.unusedSectionVars false
open Array renaming getElem?_modify→vn,getElem?_append_left→ax
open Bool renaming and_eq_false_iff→Lt,or_eq_true→Pf,and_eq_true→Na
open Int renaming toNat_natCast→Ca
open List renaming length_append→qd,length_drop→Tt,getElem?_append_left→La,mem_of_getElem?→Db,getElem?_append_right→Qa,getElem?_drop→Ec,getElem?_set→Ob,replicate→Ba,length→da,length_eq_zero_iff→Ja,getElem?_take→Cb,getElem?_map→Wb,getD_eq_getElem?_getD→Ka,getElem?_eq_getElem→Aa,mem_map→bj,size_toArray→Vi,length_map→Oc,pairwise_cons→Vl,mem_cons→Vb
open Nat renaming succ_mul→aj,mul_le_mul_right→Zb,add_assoc→Ue,add_zero→ve
open Option renaming map_some→Mc,map_eq_some_iff→ia
namespace Go.V
open Go
theorem Eo{α:Type}[Inhabited α](enc:α->Value)(off:Nat)(d:Array α)(c:Array Value)(k:Nat):(Sort.putCells enc off d c)[k]?=(c[k]?).map fun x=>if off<=k/\k<off+d.size then enc d[k-off]! else x:=by
 unfold Sort.putCells;rw[Array.getElem?_mapIdx]
theorem vq{α:Type}[Inhabited α](enc:α->Value){w:World}{R off:Nat}{d:Array α}{cs:Array Value}{T:TypeId}{fz:Nat×Nat}(h:w.heap[R]?=some (.cells cs T fz)):(Sort.putRow enc w R off d).heap[R]?=some (.cells (Sort.putCells enc off d cs) T fz):=by
 simp only[Sort.putRow,Sort.mapBlock,vn,if_true,h,Mc,Sort.onCells]
theorem Fi{α:Type}[Inhabited α](enc:α->Value){w:World}{R R' off:Nat}{d:Array α}(h:R'≠R):(Sort.putRow enc w R off d).heap[R']?=w.heap[R']?:=by
 simp only[Sort.putRow,Sort.mapBlock,vn];rw[if_neg (fun e=>h e.symm)]
section
variable {A:Eh}
theorem Lx{g:Gx}{w w1:World}{H:AH}{x:Nat}{rows new:List (List AV)}{sz:Nat}{ty:Option (TypeId×Nat)}(hw:Yb A.Ra g w H)(hD:g.D x)(hx:H.bl[x]?=some (.cells rows sz ty))(Yf:H.wm<=x)
  (hn:new.length<=rows.length) (se:∀r∈new,r.length=sz) (flat:Nat->Value) (h1:∀t,t<new.length * sz->(flat t).oneCell'=true) (hr:∀(r c:Nat)(row:List AV)(y:AV),new[r]?=some row->row[c]?=some y->∀g w,jb g w y (flat (r * sz+c)))
  (cg:w1.heap.size=w.heap.size) (Ed:∀R,R≠(g.ρ x).R->w1.heap[R]?=w.heap[R]?)
  (hblk:∀cs T fz,w.heap[(g.ρ x).R]?=some (.cells cs T fz)->∃cs1,w1.heap[(g.ρ x).R]?=some (.cells cs1 T fz)/\cs1.size=cs.size/\∀k,cs1[k]?=(cs[k]?).map fun v=>if(g.ρ x).o<=k/\k<(g.ρ x).o+new.length * sz then flat (k-(g.ρ x).o)else v)
  (dx:w1.os=w.os/\w1.output=w.output):Yb A.Ra g w1 (Sa H x (.cells (new++rows.drop new.length) sz ty))/\Ext g w H g w1 (Sa H x (.cells (new++rows.drop new.length) sz ty)):=by
 have Yd:live g H x:=⟨hD,_,hx,rfl⟩;obtain⟨BD,Ff,lag,bq,cs,⟨T,fz,hR,HL,fm,hZ⟩,Nc⟩:=hw.Tc x _ hD hx;obtain⟨cs1,hR1,G4,hg1⟩:=hblk cs T fz hR;obtain⟨q1,q2,q3⟩:=Be (f:=Dp) (F:=[]) (w':=w1) (x:= .cells (new++rows.drop new.length) sz ty) hw Xh Yd Yf cg Ed (fun hle=>by
  refine⟨BD.of fun Oh T' fz' e=>by rw[hR]at e;injection e with e;injection e with e1 e2 e3;subst e1;subst e2;subst e3;exact⟨cs1,fz,hR1⟩,Ff,lag,by rw[qd,Tt];rw[show new.length+(rows.length-new.length)=rows.length by omega];exact bq,cs1,⟨T,fz,hR1,by rw[G4,HL],fm,hZ⟩,fun r row jd=> ?_⟩;by_cases tc:r<new.length
  ·rw[La tc]at jd;have hl:=se row (Db jd);refine⟨hl,fun c y hy=> ?_⟩;have hc:c<sz:=by rw[<- hl];exact getElem?_lt' hy
   have ht:r * sz+c<new.length * sz:=by
    have:r * sz+sz<=new.length * sz:=by rw[<- aj];exact Zb _ tc
    omega
   refine⟨flat (r * sz+c),?_,h1 _ ht,hr r c row y jd hy g w1⟩;rw[hg1];have bH:(g.ρ x).o+r * sz+c<cs.size:=by
    rw[HL];have:rows.length * sz≥new.length * sz:=Zb _ hn;omega
   rw[Array.getElem?_eq_getElem bH,Mc,if_pos ⟨by omega,by omega⟩];congr 2;omega
  ·rw[Qa (by omega),Ec,show new.length+(r-new.length)=r by omega]at jd;obtain⟨p1,p2⟩:=Nc r row jd;refine⟨p1,fun c y hy=> ?_⟩;obtain⟨v,v1,v2,v3⟩:=p2 c y hy;refine⟨v,?_,v2,v3.mono hle⟩;rw[hg1,v1,Mc,if_neg];have:new.length * sz<=r * sz:=Zb _ (by omega);omega) (dx:=dx)
 exact⟨q1,q3.ext fun i h=>h⟩
theorem Ao{H:AH}{x:Nat}{y:AB}(hx:H.bl[x]?=some y):Sa H x y=H:=by
 unfold Sa;cases H with
 |mk bl wm=>
  simp only[AH.mk.injEq,and_true];apply List.ext_getElem?;intro i;rw[Ob];split
  ·rename_i e;subst e;have hlx:x<bl.length:=(List.getElem?_eq_some_iff.1 hx).1
   first|(rw[if_pos hlx];exact hx.symm)|exact hx.symm
  ·rfl
theorem xu{g:Gx}{w:World}{H:AH}{x n:Nat}{rows:List (List AV)}{sz:Nat}{ty:Option (TypeId×Nat)}{v:Value}(hw:Yb A.Ra g w H)(hx:H.bl[x]?=some (.cells rows sz ty))(hv:jb g w (.sl x 0 n) v)(hn:n<=rows.length):
  g.D x/\((n=0/\∃p cap,v= .slice p 0 cap)\/∃cap,v= .slice (some ⟨(g.ρ x).R,(g.ρ x).o,none⟩) n cap/\n<=cap/\(g.ρ x).R<w.heap.size/\∀(r c:Nat)(row:List AV)(y:AV),r<n->rows[r]?=some row->row[c]?=some y->∃u,w.cell? ⟨(g.ρ x).R,(g.ρ x).o+(r * sz+c),none⟩=some u/\jb g w y u/\w.frozen? ⟨(g.ρ x).R,(g.ρ x).o+(r * sz+c),none⟩=false):=by
 cases hv with
 |jJ b r a hd=>exact⟨hd,.inl ⟨rfl,_,_,rfl⟩⟩
 |sl b r n cap hd Xl bq=>
  obtain⟨BD,Ff,lag,van,cs,⟨T,fz,hR,HL,fm,hZ⟩,Nc⟩:=hw.Tc x _ hd hx;refine⟨hd,.inr ⟨cap,by simp,Xl,Xa hR,fun r c row y hr jd hy=> ?_⟩⟩;obtain⟨p1,p2⟩:=Nc r row jd;obtain⟨u,u1,u2,u3⟩:=p2 c y hy;rw[Ue]at u1;refine⟨u,by simp only[World.cell?,hR];simpa using u1,u3,?_⟩;have tc:(g.ρ x).o+(r * sz+c)<(g.ρ x).e:=by have:=Xa u1;omega
  have:=fm _ tc;simp only[World.frozen?,hR];simp only[Lt,decide_eq_false_iff_not];by_cases h:fz.1<=(g.ρ x).o+(r * sz+c)
  ·exact .inr fun h'=>this ⟨h,h'⟩
  ·exact .inl h
theorem eK{g:Gx}{w w1:World}{H H1:AH}(DM:Yb A.Ra g w1 H1)(he:Ext g w H g w1 H1)(os:Array Obj):Yb A.Ra g (Sort.grow w1 os) H1/\Ext g w H g (Sort.grow w1 os) H1:=by
 have se:w1.heap.size<=(Sort.grow w1 os).heap.size:=by simp[Sort.grow]
 have hold:∀R,R<w1.heap.size->(Sort.grow w1 os).heap[R]?=w1.heap[R]?:=fun R hR=>by
  show(w1.heap++os)[R]?=_;rw[ax hR]
 obtain⟨q1,q2,q3⟩:=Jo (f:=Dp) (F:=[]) DM Xh se hold (dx:=⟨rfl,rfl⟩);exact⟨q1,he.trans (q3.ext fun i h=>h)⟩
def uo:List (List AV)->Option (List Int)
 |[]=>some []
 |[.int .i64 z]::l=>(uo l).map (z:: ·)
 |_=>none
def nq:List (List AV)->Option (List (Int×Int))
 |[]=>some []
 |[.int .i64 a,.int .i64 b]::l=>(nq l).map ((a,b):: ·)
 |_=>none
def zf(z:Int):List AV:=[.int .i64 z]
def Yk(p:Int×Int):List AV:=[.int .i64 p.1,.int .i64 p.2]
def GC(p:Int×Int):List Value:=[.int .i64 p.1,.int .i64 p.2]
theorem Bx:∀{rows:List (List AV)}{l:List Int},uo rows=some l->rows=l.map zf
 |[],l,h=>by simp[uo]at h;subst h;rfl
 |row::rows,l,h=>by
  unfold uo at h;split at h
  ·rename_i e;cases e
  ·rename_i z l0 e;injection e with e1 e2;subst e1;subst e2
   simp only[ia]at h;obtain⟨l1,h1,rfl⟩:=h;rw[Bx h1];rfl
  ·simp at h
theorem HE:∀{rows:List (List AV)}{l:List (Int×Int)},nq rows=some l->rows=l.map Yk
 |[],l,h=>by simp[nq]at h;subst h;rfl
 |row::rows,l,h=>by
  unfold nq at h;split at h
  ·rename_i e;cases e
  ·rename_i a b l0 e;injection e with e1 e2;subst e1;subst e2
   simp only[ia]at h;obtain⟨l1,h1,rfl⟩:=h;rw[HE h1];rfl
  ·simp at h
def zo(Wl:List Int->List Int)(args:List AV)(H:AH):Option (AV×AH):=
 match args with
 |[.Ya]|[.Pd]=>some (.Qc [],H)
 |[.sl x 0 n]=>
  match H.bl[x]? with
  |some (.cells rows 1 ty)=>if H.wm<=x/\n<=rows.length/\n<4611686018427387904 then(uo (rows.take n)).map fun l=>(.Qc [],Sa H x (.cells ((Wl l).map zf++rows.drop n) 1 ty))else none
  |_=>none
 |_=>none
def Sm(F:FuncId)(Wl:List (Int×Int)->List (Int×Int))(args:List AV)(H:AH):Option (AV×AH):=
 match args with
 |[.Ya,.fn f []]|[.Pd,.fn f []]=>if f=F then some (.Qc [],H)else none
 |[.sl x 0 n,.fn f []]=>
  if f=F then
   match H.bl[x]? with
   |some (.cells rows 2 ty)=>if H.wm<=x/\n<=rows.length/\n<4611686018427387904 then(nq (rows.take n)).map fun l=>(.Qc [],Sa H x (.cells ((Wl l).map Yk++rows.drop n) 2 ty))else none
   |_=>none
  else none
 |_=>none
def qp(l:List Int)(i j:Nat):List Int:=l.take i++l.drop j++Ba (j-i) 0
def Nw(args:List AV)(H:AH):Option (AV×AH):=
 match args with
 |[.Ya,.int .i64 i,.int .i64 j]=>if i=0/\j=0 then some (.Ya,H)else none
 |[.Pd,.int .i64 i,.int .i64 j]=>if i=0/\j=0 then some (.Pd,H)else none
 |[.sl x 0 n,.int .i64 i,.int .i64 j]=>
  match H.bl[x]? with
  |some (.cells rows 1 ty)=>if H.wm<=x/\n<=rows.length/\0<=i/\i<=j/\j<=n then(uo (rows.take n)).map fun l=>(.sl x 0 (n-(j.toNat-i.toNat)),Sa H x (.cells ((qp l i.toNat j.toNat).map zf++rows.drop n) 1 ty))else none
  |_=>none
 |_=>none
theorem gL{l:List Int}{i j:Nat}(h:i<=j)(h':j<=l.length):(qp l i j).length=l.length:=by simp[qp];omega
theorem gM{f:FuncId}{Wl:List Int->List Int}(hlen:∀l,(Wl l).length=l.length)
  (OB:∀(Tc off cap:Nat)(zs:List Int)(w:World),Sort.Holds (Value.int .i64) w Tc off zs.toArray->Tc<w.heap.size->zs.length<4611686018427387904->
   Calls A.P f #[.slice (some ⟨Tc,off,none⟩) zs.length cap] w fun e w'=>e= .returned (.tuple #[])/\∃n os,w'=Sort.grow (Sort.putRow (Value.int .i64) (Sort.ahead w n) Tc off (Wl zs).toArray) os)
  (Fj:∀(p:Option Addr)(cap:Nat)(w:World),Calls A.P f #[.slice p 0 cap] w fun e w'=>e= .returned (.tuple #[])/\w'=w):Qm A f (zo Wl):=by
 intro args H r H' hh g w vs hw hv;have nil:∀(p:Option Addr)(cap:Nat),Calls A.P f #[.slice p 0 cap] w fun e w'=>∃rv g',e= .returned rv/\jb g' w' (.Qc []) rv/\Yb A.Ra g' w' H/\Ext g w H g' w' H:=fun p cap=>(Fj p cap w).mono (by
  rintro e w' ⟨rfl,rfl⟩
  exact⟨_,g,rfl,.Qc [] [] rfl (fun i x v h=>by simp at h),hw,.refl _ _ _⟩)
 unfold zo at hh;split at hh
 ·simp at hh;obtain⟨rfl,rfl⟩:=hh
  match vs,hv with
  |[v],⟨r1,_⟩=>cases r1;exact nil _ _
 ·simp at hh;obtain⟨rfl,rfl⟩:=hh
  match vs,hv with
  |[v],⟨r1,_⟩=>cases r1;exact nil _ _
 ·rename_i x n;split at hh
  case h_2=>simp at hh
  rename_i rows ty hx;split at hh
  case isFalse=>simp at hh
  rename_i hc;obtain⟨Yf,B6,tc⟩:=hc;simp only[ia]at hh;obtain⟨l,hl,hh⟩:=hh;simp at hh;obtain⟨rfl,rfl⟩:=hh;have Nc:=Bx hl;have iD:l.length=n:=by have:=congrArg da Nc;simp at this;omega
  match vs,hv with
  |[v],⟨r1,_⟩=>
   obtain⟨hD,aK⟩:=xu hw hx r1 B6;rcases aK with⟨rfl,p,cap,rfl⟩|⟨cap,rfl,Xl,K6,Ji⟩
   ·have:l=[]:=Ja.1 iD;subst this;have I4:Wl []=[]:=Ja.1 (by rw[hlen];rfl);rw[I4];have e:Sa H x (.cells (List.map zf []++rows.drop 0) 1 ty)=H:=Ao hx;rw[e];exact nil _ _
   ·have wk:∀j,j<n->rows[j]?=some (zf (l.getD j 0)):=fun j hj=>by
     have h1:(rows.take n)[j]?=rows[j]?:=by rw[Cb,if_pos hj]
     rw[<- h1,Nc,Wb,Ka,Aa (by omega)];rfl
    have hH:Sort.Holds (Value.int .i64) w (g.ρ x).R (g.ρ x).o l.toArray:=fun j hj=>by
     have E6:j<n:=by simpa[iD]using hj
     obtain⟨u,u1,u2,u3⟩:=Ji j 0 _ (.int .i64 (l.getD j 0)) E6 (wk j E6) rfl;cases u2;simp only[Nat.mul_one,ve]at u1 u3;refine⟨?_,u3⟩;rw[u1];congr 2;simp[Ka,Aa (show j<l.length by omega),show j<l.length by omega]
    have hc:=OB (g.ρ x).R (g.ρ x).o cap l w hH K6 (by omega);rw[iD]at hc;refine hc.mono ?_
    rintro e w' ⟨rfl,q,os,rfl⟩
    have RI:(Wl l).length=n:=by rw[hlen,iD]
    have hp:=Lx (A:=A) (w1:=Sort.putRow (Value.int .i64) (Sort.ahead w q) (g.ρ x).R (g.ρ x).o (Wl l).toArray) (new:=(Wl l).map zf) hw hD hx Yf (by simp[RI,B6]) (fun r hr=>by obtain⟨z,_,rfl⟩:=bj.1 hr;rfl) (fun t=> .int .i64 ((Wl l).getD t 0)) (fun t _=>rfl) (fun r c row y hr hy g w=>by
      rw[Wb]at hr;obtain⟨z,hz,rfl⟩:=ia.1 hr
      match c,hy with
      |0,hy=>simp[zf]at hy;subst hy;simp[Ka,hz];exact .int _ _
      |c+1,hy=>simp[zf]at hy) (Sort.size_putRow ..) (fun R Sc=>Fi _ Sc) (fun cs T fz hR=>⟨_,vq _ hR,by simp[Sort.putCells],fun k=>by
       rw[Eo];congr 1;funext v;simp only[Vi,Oc,RI,Nat.mul_one];split
       ·rename_i hk;congr 1;simp[Ka,Aa (show k-(g.ρ x).o<(Wl l).length by omega),show k-(g.ρ x).o<(Wl l).length by omega]
       ·rfl⟩) ⟨rfl,rfl⟩
    rw[Oc,RI]at hp;obtain⟨q1,q2⟩:=hp;obtain⟨p1,p2⟩:=eK q1 q2 os;exact⟨_,g,rfl,.Qc [] [] rfl (fun i x v h=>by simp at h),p1,p2⟩
 ·simp at hh
theorem YM{g:Gx}{w:World}{f:FuncId}{v:Value}(h:jb g w (.fn f []) v):v= .func (.func f) #[] #[]:=by
 cases h with
 |fn _ _ vs hl _=>
  have:vs=[]:=Ja.1 hl;subst this;rfl
theorem eM{f F : FuncId}{Wl : List (Int × Int) → List (Int × Int)}(hlen : ∀l, (Wl l).length = l.length)
   (OB : ∀(Tc off cap : Nat)(zs : List (Int × Int))(w : World), Sort.HoldsK GC 2 w Tc off zs.toArray → Tc < w.heap.size → zs.length < 4611686018427387904 →
    Calls A.P f #[.slice (some ⟨Tc, off, none⟩) zs.length cap, .func (.func F) #[] #[]] w fun e w' => e = .returned (.tuple #[]) ∧ ∃n os, w' = Go.Proofs.sortWorldK GC 2 w Tc off n (Wl zs).toArray os)
   (Fj : ∀(p : Option Addr)(cap : Nat)(w : World), Calls A.P f #[.slice p 0 cap, .func (.func F) #[] #[]] w fun e w' => e = .returned (.tuple #[]) ∧ w' = w) : Qm A f (Sm F Wl) := by
 intro args H r H' hh g w vs hw hv
 have nil : ∀(p : Option Addr)(cap : Nat), Calls A.P f #[.slice p 0 cap, .func (.func F) #[] #[]] w fun e w' => ∃rv g', e = .returned rv ∧ jb g' w' (.Qc []) rv ∧ Yb A.Ra g' w' H ∧ Ext g w H g' w' H := fun p cap => (Fj p cap w).mono (by
   rintro e w' ⟨rfl, rfl⟩
   exact⟨_, g, rfl, .Qc [] [] rfl (fun i x v h => by simp at h), hw, .refl _ _ _⟩)
 unfold Sm at hh
 split at hh
 · split at hh
   case isFalse => simp at hh
   rename_i ef; subst ef
   simp at hh; obtain⟨rfl, rfl⟩ := hh
   match vs, hv with
   | [v, v2], ⟨r1, r2, _⟩ => cases r1; obtain rfl := YM r2; exact nil _ _
 · split at hh
   case isFalse => simp at hh
   rename_i ef; subst ef
   simp at hh; obtain⟨rfl, rfl⟩ := hh
   match vs, hv with
   | [v, v2], ⟨r1, r2, _⟩ => cases r1; obtain rfl := YM r2; exact nil _ _
 · rename_i x n fv
   split at hh
   case isFalse => simp at hh
   rename_i ef; subst ef
   split at hh
   case h_2 => simp at hh
   rename_i rows ty hx
   split at hh
   case isFalse => simp at hh
   rename_i hc
   obtain⟨Yf, B6, tc⟩ := hc
   simp only[ia]at hh
   obtain⟨l, hl, hh⟩ := hh
   simp at hh; obtain⟨rfl, rfl⟩ := hh
   have Nc := HE hl
   have iD : l.length = n := by have := congrArg da Nc; simp at this; omega
   match vs, hv with
   | [v, v2], ⟨r1, r2, _⟩ =>
    obtain rfl := YM r2
    obtain⟨hD, aK⟩ := xu hw hx r1 B6
    rcases aK with⟨rfl, p, cap, rfl⟩ | ⟨cap, rfl, Xl, K6, Ji⟩
    · have : l = [] := Ja.1 iD
      subst this
      have I4 : Wl [] = [] := Ja.1 (by rw[hlen]; rfl)
      rw[I4]
      have e : Sa H x (.cells (List.map Yk [] ++ rows.drop 0) 2 ty) = H := Ao hx
      rw[e]
      exact nil _ _
    · have wk : ∀j, j < n → rows[j]? = some (Yk (l.getD j (0, 0))) := fun j hj => by
       have h1 : (rows.take n)[j]? = rows[j]? := by rw[Cb, if_pos hj]
       rw[← h1, Nc, Wb, Ka, Aa (by omega)]; rfl
      have hH : Sort.HoldsK GC 2 w (g.ρ x).R (g.ρ x).o l.toArray := fun t ht => by
       have ht' : t < n * 2 := by simpa[iD]using ht
       have hj : t / 2 < n := by omega
       obtain⟨p, hp⟩ : ∃p, l.getD (t / 2) (0, 0) = p := ⟨_, rfl⟩
       have jd := wk _ hj
       rw[hp]at jd
       have hla : l.toArray[t / 2]! = p := by
         rw[← hp, Ka]
         simp[Aa (show t / 2 < l.length by omega), show t / 2 < l.length by omega]
       rw[Sort.get_flatK _ _ _ _ (by simpa[iD]using ht'), hla]
       have e2 : t / 2 * 2 + t % 2 = t := by omega
       rcases(show t % 2 = 0 ∨ t % 2 = 1 by omega)with hm | hm
       · obtain⟨u, u1, u2, u3⟩ := Ji (t / 2) 0 _ (.int .i64 p.1) hj jd rfl
         cases u2
         rw[show t / 2 * 2 + 0 = t by omega]at u1 u3
         rw[hm]; exact⟨u1, u3⟩
       · obtain⟨u, u1, u2, u3⟩ := Ji (t / 2) 1 _ (.int .i64 p.2) hj jd rfl
         cases u2
         rw[show t / 2 * 2 + 1 = t by omega]at u1 u3
         rw[hm]; exact⟨u1, u3⟩
      have hc := OB (g.ρ x).R (g.ρ x).o cap l w hH K6 (by omega)
      rw[iD]at hc
      refine hc.mono ?_
      rintro e w' ⟨rfl, q, os, rfl⟩
      have RI : (Wl l).length = n := by rw[hlen, iD]
      have hp := Lx (A := A) (w1 := Sort.putRowK GC 2 (Sort.ahead w q) (g.ρ x).R (g.ρ x).o (Wl l).toArray) (new := (Wl l).map Yk) hw hD hx Yf (by simp[RI, B6]) (fun r hr => by obtain⟨z, _, rfl⟩ := bj.1 hr; rfl) (fun t => (Sort.flatK GC 2 (Wl l).toArray)[t]!) (fun t ht => by
         rw[Oc]at ht
         rw[Sort.get_flatK _ _ _ _ (by simpa using ht)]
         rcases(show t % 2 = 0 ∨ t % 2 = 1 by omega)with hm | hm <;> rw[hm] <;> rfl) (fun r c row y hr hy g w => by
         rw[Wb]at hr
         obtain⟨z, hz, rfl⟩ := ia.1 hr
         have XG := getElem?_lt' hz
         have j6 : (Wl l).toArray[r]! = z := by
          have := (List.getElem?_eq_some_iff.1 hz).2
          simp[XG, this]
         match c, hy with
         | 0, hy =>
          simp[Yk]at hy; subst hy
          rw[Sort.get_flatK _ _ _ _ (by simp; omega), show(r * 2 + 0) / 2 = r by omega, show(r * 2 + 0) % 2 = 0 by omega, j6]
          exact .int _ _
         | 1, hy =>
          simp[Yk]at hy; subst hy
          rw[Sort.get_flatK _ _ _ _ (by simp; omega), show(r * 2 + 1) / 2 = r by omega, show(r * 2 + 1) % 2 = 1 by omega, j6]
          exact .int _ _
         | c + 2, hy => simp[Yk]at hy) (Sort.size_putRow ..) (fun R Sc => Fi _ Sc) (fun cs T fz hR => ⟨_, vq _ hR, by simp[Sort.putCells], fun k => by
          rw[Eo]
          congr 1; funext v
          simp only[Sort.size_flatK, Vi, Oc, RI, id]⟩) ⟨rfl, rfl⟩
      rw[Oc, RI]at hp
      obtain⟨q1, q2⟩ := hp
      obtain⟨p1, p2⟩ := eK q1 q2 os
      exact⟨_, g, rfl, .Qc [] [] rfl (fun i x v h => by simp at h), p1, p2⟩
 · simp at hh
theorem NU{f:FuncId}
  (OB:∀(Tc off cap i j:Nat)(zs:List Int)(w:World),Sort.Holds (Value.int .i64) w Tc off zs.toArray->zs.length<=cap->cap<=9223372036854775807->i<=j->j<=zs.length->
   Calls A.P f #[.slice (some ⟨Tc,off,none⟩) zs.length cap,.int .i64 i,.int .i64 j] w fun e w'=>e= .returned (.slice (some ⟨Tc,off,none⟩) (zs.length-(j-i)) cap)/\∃q,w'=Sort.putRow (Value.int .i64) (Sort.ahead w q) Tc off (qp zs i j).toArray)
  (Fj:∀(p:Option Addr)(cap:Nat)(w:World),Calls A.P f #[.slice p 0 cap,.int .i64 0,.int .i64 0] w fun e w'=>e= .returned (.slice p 0 cap)/\w'=w):Qm A f Nw:=by
 intro args H r H' hh g w vs hw hv;unfold Nw at hh;split at hh
 ·rename_i i j;split at hh
  case isFalse=>simp at hh
  rename_i hc;obtain⟨rfl,rfl⟩:=hc;simp at hh;obtain⟨rfl,rfl⟩:=hh
  match vs,hv with
  |[v,v1,v2],⟨r1,r2,r3,_⟩=>
   cases r1;cases r2;cases r3;exact(Fj _ _ w).mono (by rintro e w' ⟨rfl,rfl⟩;exact⟨_,g,rfl,.Ya,hw,.refl _ _ _⟩)
 ·rename_i i j;split at hh
  case isFalse=>simp at hh
  rename_i hc;obtain⟨rfl,rfl⟩:=hc;simp at hh;obtain⟨rfl,rfl⟩:=hh
  match vs,hv with
  |[v,v1,v2],⟨r1,r2,r3,_⟩=>
   cases r1;cases r2;cases r3;exact(Fj _ _ w).mono (by rintro e w' ⟨rfl,rfl⟩;exact⟨_,g,rfl,.Pd _,hw,.refl _ _ _⟩)
 ·rename_i x n i j;split at hh
  case h_2=>simp at hh
  rename_i rows ty hx;split at hh
  case isFalse=>simp at hh
  rename_i hc;obtain⟨Yf,B6,hi0,jD,bu⟩:=hc;simp only[ia]at hh;obtain⟨l,hl,hh⟩:=hh;simp at hh;obtain⟨rfl,rfl⟩:=hh;have Nc:=Bx hl;have iD:l.length=n:=by have:=congrArg da Nc;simp at this;omega
  obtain⟨i',rfl⟩:∃i':Nat,i=i':=⟨i.toNat,by omega⟩;obtain⟨j',rfl⟩:∃j':Nat,j=j':=⟨j.toNat,by omega⟩;simp only[Ca]
  match vs,hv with
  |[v,v1,v2],⟨r1,r2,r3,_⟩=>
   cases r2;cases r3;have Ej:jb g w (.sl x 0 n) v:=r1;obtain⟨hD,aK⟩:=xu hw hx r1 B6;rcases aK with⟨rfl,p,cap,rfl⟩|⟨cap,rfl,Xl,K6,Ji⟩
   ·have:l=[]:=Ja.1 iD;subst this;have e1:i'=0:=by omega
    have e2:j'=0:=by omega
    subst e1;subst e2;have e:Sa H x (.cells (List.map zf (qp [] 0 0)++rows.drop 0) 1 ty)=H:=Ao hx;rw[e];exact(Fj _ _ w).mono (by rintro e w' ⟨rfl,rfl⟩;exact⟨_,g,rfl,Ej,hw,.refl _ _ _⟩)
   ·have hm:cap<=9223372036854775807:=by
     have:∀v,jb g w (.sl x 0 n) v->v= .slice (some ⟨(g.ρ x).R,(g.ρ x).o,none⟩) n cap->cap<=9223372036854775807:=by
      intro v h e;cases h with
      |sl _ _ _ tE _ _ _ hm=>injection e with _ _ e;omega
      |jJ=>injection e with _ _ e;omega
     exact this _ Ej rfl
    have bq:n=0\/(g.ρ x).o+(0+cap) * (g.ρ x).sz<=(g.ρ x).e:=by
     have:∀v,jb g w (.sl x 0 n) v->v= .slice (some ⟨(g.ρ x).R,(g.ρ x).o,none⟩) n cap->n=0\/(g.ρ x).o+(0+cap) * (g.ρ x).sz<=(g.ρ x).e:=by
      intro v h e;cases h with
      |sl _ _ _ tE _ _ he hm=>injection e with _ _ e;subst e;exact .inr he
      |jJ=>exact .inl rfl
     exact this _ Ej rfl
    have wk:∀j,j<n->rows[j]?=some (zf (l.getD j 0)):=fun j hj=>by
     have h1:(rows.take n)[j]?=rows[j]?:=by rw[Cb,if_pos hj]
     rw[<- h1,Nc,Wb,Ka,Aa (by omega)];rfl
    have hH:Sort.Holds (Value.int .i64) w (g.ρ x).R (g.ρ x).o l.toArray:=fun j hj=>by
     have E6:j<n:=by simpa[iD]using hj
     obtain⟨u,u1,u2,u3⟩:=Ji j 0 _ (.int .i64 (l.getD j 0)) E6 (wk j E6) rfl;cases u2;simp only[Nat.mul_one,ve]at u1 u3;refine⟨?_,u3⟩;rw[u1];congr 2;simp[Ka,Aa (show j<l.length by omega),show j<l.length by omega]
    by_cases IM:n=0
    ·subst IM;have:l=[]:=Ja.1 iD;subst this;have e1:i'=0:=by omega
     have e2:j'=0:=by omega
     subst e1;subst e2;have e:Sa H x (.cells (List.map zf (qp [] 0 0)++rows.drop 0) 1 ty)=H:=Ao hx;rw[e];exact(Fj _ _ w).mono (by rintro e w' ⟨rfl,rfl⟩;exact⟨_,g,rfl,Ej,hw,.refl _ _ _⟩)
    have hc:=OB (g.ρ x).R (g.ρ x).o cap i' j' l w hH (by omega) hm (by omega) (by omega);rw[iD]at hc;refine hc.mono ?_
    rintro e w' ⟨rfl,q,rfl⟩
    have RI:(qp l i' j').length=n:=by rw[gL (by omega) (by omega),iD]
    generalize qp l i' j'=d at RI ⊢;have hp:=Lx (A:=A) (w1:=Sort.putRow (Value.int .i64) (Sort.ahead w q) (g.ρ x).R (g.ρ x).o d.toArray) (new:=d.map zf) hw hD hx Yf (by simp[RI,B6]) (fun r hr=>by obtain⟨z,_,rfl⟩:=bj.1 hr;rfl) (fun t=> .int .i64 (d.getD t 0)) (fun t _=>rfl) (fun r c row y hr hy g w=>by
      rw[Wb]at hr;obtain⟨z,hz,rfl⟩:=ia.1 hr
      match c,hy with
      |0,hy=>simp[zf]at hy;subst hy;simp[Ka,hz];exact .int _ _
      |c+1,hy=>simp[zf]at hy) (Sort.size_putRow ..) (fun R Sc=>Fi _ Sc) (fun cs T fz hR=>⟨_,vq _ hR,by simp[Sort.putCells],fun k=>by
       rw[Eo];congr 1;funext v;simp only[Vi,Oc,RI,Nat.mul_one];split
       ·rename_i hk;congr 1;simp[Ka,Aa (show k-(g.ρ x).o<d.length by omega),show k-(g.ρ x).o<d.length by omega]
       ·rfl⟩) ⟨rfl,rfl⟩
    rw[Oc,RI]at hp;obtain⟨q1,q2⟩:=hp;refine⟨_,g,rfl,?_,q1,q2⟩;have:=jb.sl (g:=g) (w:=Sort.putRow (Value.int .i64) (Sort.ahead w q) (g.ρ x).R (g.ρ x).o d.toArray) x 0 (n-(j'-i')) cap hD (by omega) (bq.resolve_left IM) hm
    simpa using this
 ·simp at hh
end
end Go.V
namespace Go.V
open Go
def ql{α:Type}(lt:α->α->Bool)(x:α):List α->List α
 |[]=>[x]
 |y::l=>cond (lt y x) (y::ql lt x l) (x::y::l)
def Hx{α:Type}(lt:α->α->Bool):List α->List α
 |[]=>[]
 |x::l=>ql lt x (Hx lt l)
def Mt(x y:Int×Int):Bool:=decide (x.1<y.1)||(decide (x.1=y.1)&&decide (x.2<y.2))
def qh(l:List (Int×Int)):List (Int×Int):=Hx Mt l
def Ci(l:List Int):List Int:=Hx (fun a b=>decide (a<b)) l
theorem Wm{α:Type}(lt:α->α->Bool)(x:α):∀l:List α,(ql lt x l).Perm (x::l)
 |[]=> .refl _
 |y::l=>by
  unfold ql;cases lt y x
  ·exact .refl _
  ·exact((Wm lt x l).cons y).trans (.swap x y l)
theorem Df{α:Type}(lt:α->α->Bool):∀l:List α,(Hx lt l).Perm l
 |[]=> .refl _
 |x::l=>(Wm lt x _).trans ((Df lt l).cons x)
theorem Jp{α:Type}{lt:α->α->Bool}(Qv:∀a b c,lt b a=false->lt c b=false->lt c a=false)(has:∀a b,lt a b=true->lt b a=false)(x:α):∀l:List α,l.Pairwise (fun a b=>lt b a=false)->(ql lt x l).Pairwise fun a b=>lt b a=false
 |[],_=>by simp[ql]
 |y::l,h=>by
  obtain⟨h1,h2⟩:=Vl.1 h;unfold ql;cases e:lt y x
  ·refine Vl.2 ⟨fun z hz=> ?_,h⟩;rcases Vb.1 hz with rfl|hz
   ·exact e
   ·exact Qv x y z e (h1 z hz)
  ·refine Vl.2 ⟨fun z hz=> ?_,Jp Qv has x l h2⟩;rcases Vb.1 ((Wm lt x l).mem_iff.1 hz)with rfl|hz
   ·exact has _ _ e
   ·exact h1 z hz
theorem yj{α:Type}{lt:α->α->Bool}(Qv:∀a b c,lt b a=false->lt c b=false->lt c a=false)(has:∀a b,lt a b=true->lt b a=false):∀l:List α,(Hx lt l).Pairwise fun a b=>lt b a=false
 |[]=> .nil
 |x::l=>Jp Qv has x _ (yj Qv has l)
theorem SE{α:Type}{lt:α->α->Bool}(Qv:∀a b c,lt b a=false->lt c b=false->lt c a=false)(has:∀a b,lt a b=true->lt b a=false)(hto:∀a b,lt a b=false->lt b a=false->a=b)(l:List α):l.mergeSort (fun x y=> !lt y x)=Hx lt l:=by
 refine List.Perm.eq_of_pairwise (le:=fun a b=>lt b a=false) (fun a b _ _ h1 h2=>hto a b h2 h1) ?_ (yj Qv has l) ((List.mergeSort_perm l _).trans (Df lt l).symm);have:=List.pairwise_mergeSort (le:=fun x y=> !lt y x) (fun a b c h1 h2=>by simp only[Bool.not_eq_true']at *;exact Qv a b c h1 h2) (fun a b=>by
  cases e:lt b a with
  |false=>simp
  |true=>simp[has _ _ e]) l
 exact this.imp (by simp)
theorem tM(a b c:Int×Int)(h1:Mt b a=false)(h2:Mt c b=false):Mt c a=false:=by
 simp only[Mt,Bool.or_eq_false_iff,Lt,decide_eq_false_iff_not]at *
 omega
theorem Rx(a b:Int×Int)(h1:Mt a b=true):Mt b a=false:=by
 simp only[Mt,Bool.or_eq_false_iff,Pf,Na,Lt,decide_eq_true_eq,decide_eq_false_iff_not]at *
 omega
theorem uM(a b:Int×Int)(h1:Mt a b=false)(h2:Mt b a=false):a=b:=by
 simp only[Mt,Bool.or_eq_false_iff,Lt,decide_eq_false_iff_not]at *
 exact Prod.ext (by omega) (by omega)
theorem KV(l:List (Int×Int)):l.mergeSort (fun x y=> !Mt y x)=qh l:=SE tM Rx uM l
theorem JV(l:List Int):l.mergeSort (fun x y=>decide (x<=y))=Ci l:=by
 rw[show(fun x y:Int=>decide (x<=y))=fun x y=> !(fun a b=>decide (a<b)) y x by funext x y;rw[<- decide_not];congr 1;apply propext;omega];exact SE (fun a b c h1 h2=>by simp at *;omega) (fun a b h=>by simp at *;omega) (fun a b h1 h2=>by simp at *;omega) l
theorem TE(l:List (Int×Int)):(qh l).length=l.length:=(Df _ l).length_eq
theorem Dx(l:List Int):(Ci l).length=l.length:=(Df _ l).length_eq
theorem AG{Wl:List Int->List Int}{args:List AV}{H H':AH}{r:AV}(h:zo Wl args H=some (r,H')):Ic H H':=by
 unfold zo at h;split at h
 ·simp at h;obtain⟨_,rfl⟩:=h;exact Ic.refl _
 ·simp at h;obtain⟨_,rfl⟩:=h;exact Ic.refl _
 ·split at h
  case h_2=>simp at h
  split at h
  case isFalse=>simp at h
  rename_i hc;simp only[ia]at h;obtain⟨l,_,h⟩:=h;simp at h;obtain⟨_,rfl⟩:=h;exact Ic.set hc.1 _
 ·simp at h
theorem zG{F:FuncId}{Wl:List (Int×Int)->List (Int×Int)}{args:List AV}{H H':AH}{r:AV}(h:Sm F Wl args H=some (r,H')):Ic H H':=by
 unfold Sm at h;split at h
 ·split at h
  case isFalse=>simp at h
  simp at h;obtain⟨_,rfl⟩:=h;exact Ic.refl _
 ·split at h
  case isFalse=>simp at h
  simp at h;obtain⟨_,rfl⟩:=h;exact Ic.refl _
 ·split at h
  case isFalse=>simp at h
  split at h
  case h_2=>simp at h
  split at h
  case isFalse=>simp at h
  rename_i hc;simp only[ia]at h;obtain⟨l,_,h⟩:=h;simp at h;obtain⟨_,rfl⟩:=h;exact Ic.set hc.1 _
 ·simp at h
theorem iL{args:List AV}{H H':AH}{r:AV}(h:Nw args H=some (r,H')):Ic H H':=by
 unfold Nw at h;split at h
 ·split at h
  case isFalse=>simp at h
  simp at h;obtain⟨_,rfl⟩:=h;exact Ic.refl _
 ·split at h
  case isFalse=>simp at h
  simp at h;obtain⟨_,rfl⟩:=h;exact Ic.refl _
 ·split at h
  case h_2=>simp at h
  split at h
  case isFalse=>simp at h
  rename_i hc;simp only[ia]at h;obtain⟨l,_,h⟩:=h;simp at h;obtain⟨_,rfl⟩:=h;exact Ic.set hc.1 _
 ·simp at h
end Go.V
