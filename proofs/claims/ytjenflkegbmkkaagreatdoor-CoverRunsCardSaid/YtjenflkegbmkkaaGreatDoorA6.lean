/- An evaluator of the translated code and that it is right: each of its answers is an answer of the model. -/
import Derived.Test.YtjenflkegbmkkaaGreatDoorA4
import Derived.Shelf.GgSortFunc.InsertionK
set_option linter.unusedVariables false
set_option linter.unusedSimpArgs false
set_option linter.unusedSectionVars false
open Array renaming getElem?_modify→Qm,getElem?_append_left→Ow
open Bool renaming and_eq_false_iff→Xs,or_eq_true→Yh,and_eq_true→Va
open Int renaming toNat_natCast→La
open List renaming length_append→qd,length_drop→qt,getElem?_append_left→Ka,mem_of_getElem?→Nb,getElem?_append_right→Na,getElem?_drop→Ic,getElem?_set→Ob,replicate→Ca,length→da,length_eq_zero_iff→Ja,getElem?_take→Db,getElem?_map→Tb,getD_eq_getElem?_getD→Ia,getElem?_eq_getElem→Ba,mem_map→Ju,size_toArray→Mi,length_map→Qc,pairwise_cons→Jl,mem_cons→Yb
open Nat renaming succ_mul→Oi,mul_le_mul_right→ec,add_assoc→Hf,add_zero→Je
open Option renaming map_some→Oc,map_eq_some_iff→ia
namespace Go.V
open Go
theorem Xn{α:Type}[Inhabited α](enc:α->Value)(off:Nat)(d:Array α)(c:Array Value)(k:Nat):(Sort.putCells enc off d c)[k]?=(c[k]?).map fun x=>if off<=k/\k<off+d.size then enc d[k-off]! else x:=by
 unfold Sort.putCells;rw[Array.getElem?_mapIdx]
theorem fq{α:Type}[Inhabited α](enc:α->Value){w:World}{R off:Nat}{d:Array α}{cs:Array Value}{T:TypeId}{fz:Nat×Nat}(h:w.heap[R]?=some (.cells cs T fz)):(Sort.putRow enc w R off d).heap[R]?=some (.cells (Sort.putCells enc off d cs) T fz):=by
 simp only[Sort.putRow,Sort.mapBlock,Qm,if_true,h,Oc,Sort.onCells]
theorem vi{α:Type}[Inhabited α](enc:α->Value){w:World}{R R' off:Nat}{d:Array α}(h:R'≠R):(Sort.putRow enc w R off d).heap[R']?=w.heap[R']?:=by
 simp only[Sort.putRow,Sort.mapBlock,Qm];rw[if_neg (fun e=>h e.symm)]
section
variable {A:yh}
theorem vx{g:Gx}{w w1:World}{H:AH}{x:Nat}{rows new:List (List AV)}{sz:Nat}{ty:Option (TypeId×Nat)}(hw:dc A.Pa g w H)(hD:g.D x)(hx:H.bl[x]?=some (.cells rows sz ty))(ag:H.wm<=x)
  (hn:new.length<=rows.length) (ue:∀r∈new,r.length=sz) (flat:Nat->Value) (h1:∀t,t<new.length * sz->(flat t).oneCell'=true) (hr:∀(r c:Nat)(row:List AV)(y:AV),new[r]?=some row->row[c]?=some y->∀g w,mb g w y (flat (r * sz+c)))
  (gg:w1.heap.size=w.heap.size) (Nd:∀R,R≠(g.ρ x).R->w1.heap[R]?=w.heap[R]?)
  (hblk:∀cs T fz,w.heap[(g.ρ x).R]?=some (.cells cs T fz)->∃cs1,w1.heap[(g.ρ x).R]?=some (.cells cs1 T fz)/\cs1.size=cs.size/\∀k,cs1[k]?=(cs[k]?).map fun v=>if(g.ρ x).o<=k/\k<(g.ρ x).o+new.length * sz then flat (k-(g.ρ x).o)else v)
  (Qw:w1.os=w.os/\w1.output=w.output):dc A.Pa g w1 (Ra H x (.cells (new++rows.drop new.length) sz ty))/\Ext g w H g w1 (Ra H x (.cells (new++rows.drop new.length) sz ty)):=by
 have ae:live g H x:=⟨hD,_,hx,rfl⟩;obtain⟨gD,Lf,saf,Gp,cs,⟨T,fz,hR,RK,Rl,hZ⟩,Pc⟩:=hw.Vc x _ hD hx;obtain⟨cs1,hR1,E2,hg1⟩:=hblk cs T fz hR;obtain⟨q1,q2,q3⟩:=Be (f:=Xo) (F:=[]) (w':=w1) (x:= .cells (new++rows.drop new.length) sz ty) hw Rh ae ag gg Nd (fun hle=>by
  refine⟨gD.of fun Jh T' fz' e=>by rw[hR]at e;injection e with e;injection e with e1 e2 e3;subst e1;subst e2;subst e3;exact⟨cs1,fz,hR1⟩,Lf,saf,by rw[qd,qt];rw[show new.length+(rows.length-new.length)=rows.length by omega];exact Gp,cs1,⟨T,fz,hR1,by rw[E2,RK],Rl,hZ⟩,fun r row sd=> ?_⟩;by_cases Ac:r<new.length
  ·rw[Ka Ac]at sd;have hl:=ue row (Nb sd);refine⟨hl,fun c y hy=> ?_⟩;have hc:c<sz:=by rw[<- hl];exact getElem?_lt' hy
   have ht:r * sz+c<new.length * sz:=by
    have:r * sz+sz<=new.length * sz:=by rw[<- Oi];exact ec _ Ac
    omega
   refine⟨flat (r * sz+c),?_,h1 _ ht,hr r c row y sd hy g w1⟩;rw[hg1];have zG:(g.ρ x).o+r * sz+c<cs.size:=by
    rw[RK];have:rows.length * sz≥new.length * sz:=ec _ hn;omega
   rw[Array.getElem?_eq_getElem zG,Oc,if_pos ⟨by omega,by omega⟩];congr 2;omega
  ·rw[Na (by omega),Ic,show new.length+(r-new.length)=r by omega]at sd;obtain⟨p1,p2⟩:=Pc r row sd;refine⟨p1,fun c y hy=> ?_⟩;obtain⟨v,v1,v2,v3⟩:=p2 c y hy;refine⟨v,?_,v2,v3.mono hle⟩;rw[hg1,v1,Oc,if_neg];have:new.length * sz<=r * sz:=ec _ (by omega);omega) (Qw:=Qw)
 exact⟨q1,q3.ext fun i h=>h⟩
theorem Un{H:AH}{x:Nat}{y:AB}(hx:H.bl[x]?=some y):Ra H x y=H:=by
 unfold Ra;cases H with
 |mk bl wm=>
  simp only[AH.mk.injEq,and_true];apply List.ext_getElem?;intro i;rw[Ob];split
  ·rename_i e;subst e;have hlx:x<bl.length:=(List.getElem?_eq_some_iff.1 hx).1
   first|(rw[if_pos hlx];exact hx.symm)|exact hx.symm
  ·rfl
theorem eu{g:Gx}{w:World}{H:AH}{x n:Nat}{rows:List (List AV)}{sz:Nat}{ty:Option (TypeId×Nat)}{v:Value}(hw:dc A.Pa g w H)(hx:H.bl[x]?=some (.cells rows sz ty))(hv:mb g w (.sl x 0 n) v)(hn:n<=rows.length):
  g.D x/\((n=0/\∃p cap,v= .slice p 0 cap)\/∃cap,v= .slice (some ⟨(g.ρ x).R,(g.ρ x).o,none⟩) n cap/\n<=cap/\(g.ρ x).R<w.heap.size/\∀(r c:Nat)(row:List AV)(y:AV),r<n->rows[r]?=some row->row[c]?=some y->∃u,w.cell? ⟨(g.ρ x).R,(g.ρ x).o+(r * sz+c),none⟩=some u/\mb g w y u/\w.frozen? ⟨(g.ρ x).R,(g.ρ x).o+(r * sz+c),none⟩=false):=by
 cases hv with
 |BI b r a hd=>exact⟨hd,.inl ⟨rfl,_,_,rfl⟩⟩
 |sl b r n cap hd Ml Gp=>
  obtain⟨gD,Lf,saf,vam,cs,⟨T,fz,hR,RK,Rl,hZ⟩,Pc⟩:=hw.Vc x _ hd hx;refine⟨hd,.inr ⟨cap,by simp,Ml,Za hR,fun r c row y hr sd hy=> ?_⟩⟩;obtain⟨p1,p2⟩:=Pc r row sd;obtain⟨u,u1,u2,u3⟩:=p2 c y hy;rw[Hf]at u1;refine⟨u,by simp only[World.cell?,hR];simpa using u1,u3,?_⟩;have Ac:(g.ρ x).o+(r * sz+c)<(g.ρ x).e:=by have:=Za u1;omega
  have:=Rl _ Ac;simp only[World.frozen?,hR];simp only[Xs,decide_eq_false_iff_not];by_cases h:fz.1<=(g.ρ x).o+(r * sz+c)
  ·exact .inr fun h'=>this ⟨h,h'⟩
  ·exact .inl h
theorem yJ{g:Gx}{w w1:World}{H H1:AH}(ML:dc A.Pa g w1 H1)(he:Ext g w H g w1 H1)(os:Array Obj):dc A.Pa g (Sort.grow w1 os) H1/\Ext g w H g (Sort.grow w1 os) H1:=by
 have ue:w1.heap.size<=(Sort.grow w1 os).heap.size:=by simp[Sort.grow]
 have hold:∀R,R<w1.heap.size->(Sort.grow w1 os).heap[R]?=w1.heap[R]?:=fun R hR=>by
  show(w1.heap++os)[R]?=_;rw[Ow hR]
 obtain⟨q1,q2,q3⟩:=fo (f:=Xo) (F:=[]) ML Rh ue hold (Qw:=⟨rfl,rfl⟩);exact⟨q1,he.trans (q3.ext fun i h=>h)⟩
def Qn:List (List AV)->Option (List Int)
 |[]=>some []
 |[.int .i64 z]::l=>(Qn l).map (z:: ·)
 |_=>none
def Sp:List (List AV)->Option (List (Int×Int))
 |[]=>some []
 |[.int .i64 a,.int .i64 b]::l=>(Sp l).map ((a,b):: ·)
 |_=>none
def Cf(z:Int):List AV:=[.int .i64 z]
def Mk(p:Int×Int):List AV:=[.int .i64 p.1,.int .i64 p.2]
def pC(p:Int×Int):List Value:=[.int .i64 p.1,.int .i64 p.2]
theorem ax:∀{rows:List (List AV)}{l:List Int},Qn rows=some l->rows=l.map Cf
 |[],l,h=>by simp[Qn]at h;subst h;rfl
 |row::rows,l,h=>by
  unfold Qn at h;split at h
  ·rename_i e;cases e
  ·rename_i z l0 e;injection e with e1 e2;subst e1;subst e2
   simp only[ia]at h;obtain⟨l1,h1,rfl⟩:=h;rw[ax h1];rfl
  ·simp at h
theorem lE:∀{rows:List (List AV)}{l:List (Int×Int)},Sp rows=some l->rows=l.map Mk
 |[],l,h=>by simp[Sp]at h;subst h;rfl
 |row::rows,l,h=>by
  unfold Sp at h;split at h
  ·rename_i e;cases e
  ·rename_i a b l0 e;injection e with e1 e2;subst e1;subst e2
   simp only[ia]at h;obtain⟨l1,h1,rfl⟩:=h;rw[lE h1];rfl
  ·simp at h
def Tn(Kl:List Int->List Int)(args:List AV)(H:AH):Option (AV×AH):=
 match args with
 |[.Xa]|[.Ud]=>some (.Sc [],H)
 |[.sl x 0 n]=>
  match H.bl[x]? with
  |some (.cells rows 1 ty)=>if H.wm<=x/\n<=rows.length/\n<4611686018427387904 then(Qn (rows.take n)).map fun l=>(.Sc [],Ra H x (.cells ((Kl l).map Cf++rows.drop n) 1 ty))else none
  |_=>none
 |_=>none
def Bm(F:FuncId)(Kl:List (Int×Int)->List (Int×Int))(args:List AV)(H:AH):Option (AV×AH):=
 match args with
 |[.Xa,.fn f []]|[.Ud,.fn f []]=>if f=F then some (.Sc [],H)else none
 |[.sl x 0 n,.fn f []]=>
  if f=F then
   match H.bl[x]? with
   |some (.cells rows 2 ty)=>if H.wm<=x/\n<=rows.length/\n<4611686018427387904 then(Sp (rows.take n)).map fun l=>(.Sc [],Ra H x (.cells ((Kl l).map Mk++rows.drop n) 2 ty))else none
   |_=>none
  else none
 |_=>none
def No(l:List Int)(i j:Nat):List Int:=l.take i++l.drop j++Ca (j-i) 0
def Aw(args:List AV)(H:AH):Option (AV×AH):=
 match args with
 |[.Xa,.int .i64 i,.int .i64 j]=>if i=0/\j=0 then some (.Xa,H)else none
 |[.Ud,.int .i64 i,.int .i64 j]=>if i=0/\j=0 then some (.Ud,H)else none
 |[.sl x 0 n,.int .i64 i,.int .i64 j]=>
  match H.bl[x]? with
  |some (.cells rows 1 ty)=>if H.wm<=x/\n<=rows.length/\0<=i/\i<=j/\j<=n then(Qn (rows.take n)).map fun l=>(.sl x 0 (n-(j.toNat-i.toNat)),Ra H x (.cells ((No l i.toNat j.toNat).map Cf++rows.drop n) 1 ty))else none
  |_=>none
 |_=>none
theorem vK{l:List Int}{i j:Nat}(h:i<=j)(h':j<=l.length):(No l i j).length=l.length:=by simp[No];omega
theorem sL{f:FuncId}{Kl:List Int->List Int}(hlen:∀l,(Kl l).length=l.length)
  (EB:∀(Vc off cap:Nat)(zs:List Int)(w:World),Sort.Holds (Value.int .i64) w Vc off zs.toArray->Vc<w.heap.size->zs.length<4611686018427387904->
   Calls A.P f #[.slice (some ⟨Vc,off,none⟩) zs.length cap] w fun e w'=>e= .returned (.tuple #[])/\∃n os,w'=Sort.grow (Sort.putRow (Value.int .i64) (Sort.ahead w n) Vc off (Kl zs).toArray) os)
  (yj:∀(p:Option Addr)(cap:Nat)(w:World),Calls A.P f #[.slice p 0 cap] w fun e w'=>e= .returned (.tuple #[])/\w'=w):ym A f (Tn Kl):=by
 intro args H r H' hh g w vs hw hv;have nil:∀(p:Option Addr)(cap:Nat),Calls A.P f #[.slice p 0 cap] w fun e w'=>∃rv g',e= .returned rv/\mb g' w' (.Sc []) rv/\dc A.Pa g' w' H/\Ext g w H g' w' H:=fun p cap=>(yj p cap w).mono (by
  rintro e w' ⟨rfl,rfl⟩
  exact⟨_,g,rfl,.Sc [] [] rfl (fun i x v h=>by simp at h),hw,.refl _ _ _⟩)
 unfold Tn at hh;split at hh
 ·simp at hh;obtain⟨rfl,rfl⟩:=hh
  match vs,hv with
  |[v],⟨r1,_⟩=>cases r1;exact nil _ _
 ·simp at hh;obtain⟨rfl,rfl⟩:=hh
  match vs,hv with
  |[v],⟨r1,_⟩=>cases r1;exact nil _ _
 ·rename_i x n;split at hh
  case h_2=>simp at hh
  rename_i rows ty hx;split at hh
  case isFalse=>simp at hh
  rename_i hc;obtain⟨ag,T4,Ac⟩:=hc;simp only[ia]at hh;obtain⟨l,hl,hh⟩:=hh;simp at hh;obtain⟨rfl,rfl⟩:=hh;have Pc:=ax hl;have OC:l.length=n:=by have:=congrArg da Pc;simp at this;omega
  match vs,hv with
  |[v],⟨r1,_⟩=>
   obtain⟨hD,sJ⟩:=eu hw hx r1 T4;rcases sJ with⟨rfl,p,cap,rfl⟩|⟨cap,rfl,Ml,w5,Ci⟩
   ·have:l=[]:=Ja.1 OC;subst this;have G2:Kl []=[]:=Ja.1 (by rw[hlen];rfl);rw[G2];have e:Ra H x (.cells (List.map Cf []++rows.drop 0) 1 ty)=H:=Un hx;rw[e];exact nil _ _
   ·have bk:∀j,j<n->rows[j]?=some (Cf (l.getD j 0)):=fun j hj=>by
     have h1:(rows.take n)[j]?=rows[j]?:=by rw[Db,if_pos hj]
     rw[<- h1,Pc,Tb,Ia,Ba (by omega)];rfl
    have hH:Sort.Holds (Value.int .i64) w (g.ρ x).R (g.ρ x).o l.toArray:=fun j hj=>by
     have X4:j<n:=by simpa[OC]using hj
     obtain⟨u,u1,u2,u3⟩:=Ci j 0 _ (.int .i64 (l.getD j 0)) X4 (bk j X4) rfl;cases u2;simp only[Nat.mul_one,Je]at u1 u3;refine⟨?_,u3⟩;rw[u1];congr 2;simp[Ia,Ba (show j<l.length by omega),show j<l.length by omega]
    have hc:=EB (g.ρ x).R (g.ρ x).o cap l w hH w5 (by omega);rw[OC]at hc;refine hc.mono ?_
    rintro e w' ⟨rfl,q,os,rfl⟩
    have kI:(Kl l).length=n:=by rw[hlen,OC]
    have hp:=vx (A:=A) (w1:=Sort.putRow (Value.int .i64) (Sort.ahead w q) (g.ρ x).R (g.ρ x).o (Kl l).toArray) (new:=(Kl l).map Cf) hw hD hx ag (by simp[kI,T4]) (fun r hr=>by obtain⟨z,_,rfl⟩:=Ju.1 hr;rfl) (fun t=> .int .i64 ((Kl l).getD t 0)) (fun t _=>rfl) (fun r c row y hr hy g w=>by
      rw[Tb]at hr;obtain⟨z,hz,rfl⟩:=ia.1 hr
      match c,hy with
      |0,hy=>simp[Cf]at hy;subst hy;simp[Ia,hz];exact .int _ _
      |c+1,hy=>simp[Cf]at hy) (Sort.size_putRow ..) (fun R Uc=>vi _ Uc) (fun cs T fz hR=>⟨_,fq _ hR,by simp[Sort.putCells],fun k=>by
       rw[Xn];congr 1;funext v;simp only[Mi,Qc,kI,Nat.mul_one];split
       ·rename_i hk;congr 1;simp[Ia,Ba (show k-(g.ρ x).o<(Kl l).length by omega),show k-(g.ρ x).o<(Kl l).length by omega]
       ·rfl⟩) ⟨rfl,rfl⟩
    rw[Qc,kI]at hp;obtain⟨q1,q2⟩:=hp;obtain⟨p1,p2⟩:=yJ q1 q2 os;exact⟨_,g,rfl,.Sc [] [] rfl (fun i x v h=>by simp at h),p1,p2⟩
 ·simp at hh
theorem lM{g:Gx}{w:World}{f:FuncId}{v:Value}(h:mb g w (.fn f []) v):v= .func (.func f) #[] #[]:=by
 cases h with
 |fn _ _ vs hl _=>
  have:vs=[]:=Ja.1 hl;subst this;rfl
theorem pL{f F : FuncId}{Kl : List (Int × Int) → List (Int × Int)}(hlen : ∀l, (Kl l).length = l.length)
   (EB : ∀(Vc off cap : Nat)(zs : List (Int × Int))(w : World), Sort.HoldsK pC 2 w Vc off zs.toArray → Vc < w.heap.size → zs.length < 4611686018427387904 →
    Calls A.P f #[.slice (some ⟨Vc, off, none⟩) zs.length cap, .func (.func F) #[] #[]] w fun e w' => e = .returned (.tuple #[]) ∧ ∃n os, w' = Go.Proofs.sortWorldK pC 2 w Vc off n (Kl zs).toArray os)
   (yj : ∀(p : Option Addr)(cap : Nat)(w : World), Calls A.P f #[.slice p 0 cap, .func (.func F) #[] #[]] w fun e w' => e = .returned (.tuple #[]) ∧ w' = w) : ym A f (Bm F Kl) := by
 intro args H r H' hh g w vs hw hv
 have nil : ∀(p : Option Addr)(cap : Nat), Calls A.P f #[.slice p 0 cap, .func (.func F) #[] #[]] w fun e w' => ∃rv g', e = .returned rv ∧ mb g' w' (.Sc []) rv ∧ dc A.Pa g' w' H ∧ Ext g w H g' w' H := fun p cap => (yj p cap w).mono (by
   rintro e w' ⟨rfl, rfl⟩
   exact⟨_, g, rfl, .Sc [] [] rfl (fun i x v h => by simp at h), hw, .refl _ _ _⟩)
 unfold Bm at hh
 split at hh
 · split at hh
   case isFalse => simp at hh
   rename_i ef; subst ef
   simp at hh; obtain⟨rfl, rfl⟩ := hh
   match vs, hv with
   | [v, v2], ⟨r1, r2, _⟩ => cases r1; obtain rfl := lM r2; exact nil _ _
 · split at hh
   case isFalse => simp at hh
   rename_i ef; subst ef
   simp at hh; obtain⟨rfl, rfl⟩ := hh
   match vs, hv with
   | [v, v2], ⟨r1, r2, _⟩ => cases r1; obtain rfl := lM r2; exact nil _ _
 · rename_i x n fv
   split at hh
   case isFalse => simp at hh
   rename_i ef; subst ef
   split at hh
   case h_2 => simp at hh
   rename_i rows ty hx
   split at hh
   case isFalse => simp at hh
   rename_i hc
   obtain⟨ag, T4, Ac⟩ := hc
   simp only[ia]at hh
   obtain⟨l, hl, hh⟩ := hh
   simp at hh; obtain⟨rfl, rfl⟩ := hh
   have Pc := lE hl
   have OC : l.length = n := by have := congrArg da Pc; simp at this; omega
   match vs, hv with
   | [v, v2], ⟨r1, r2, _⟩ =>
    obtain rfl := lM r2
    obtain⟨hD, sJ⟩ := eu hw hx r1 T4
    rcases sJ with⟨rfl, p, cap, rfl⟩ | ⟨cap, rfl, Ml, w5, Ci⟩
    · have : l = [] := Ja.1 OC
      subst this
      have G2 : Kl [] = [] := Ja.1 (by rw[hlen]; rfl)
      rw[G2]
      have e : Ra H x (.cells (List.map Mk [] ++ rows.drop 0) 2 ty) = H := Un hx
      rw[e]
      exact nil _ _
    · have bk : ∀j, j < n → rows[j]? = some (Mk (l.getD j (0, 0))) := fun j hj => by
       have h1 : (rows.take n)[j]? = rows[j]? := by rw[Db, if_pos hj]
       rw[← h1, Pc, Tb, Ia, Ba (by omega)]; rfl
      have hH : Sort.HoldsK pC 2 w (g.ρ x).R (g.ρ x).o l.toArray := fun t ht => by
       have ht' : t < n * 2 := by simpa[OC]using ht
       have hj : t / 2 < n := by omega
       obtain⟨p, hp⟩ : ∃p, l.getD (t / 2) (0, 0) = p := ⟨_, rfl⟩
       have sd := bk _ hj
       rw[hp]at sd
       have hla : l.toArray[t / 2]! = p := by
         rw[← hp, Ia]
         simp[Ba (show t / 2 < l.length by omega), show t / 2 < l.length by omega]
       rw[Sort.get_flatK _ _ _ _ (by simpa[OC]using ht'), hla]
       have e2 : t / 2 * 2 + t % 2 = t := by omega
       rcases(show t % 2 = 0 ∨ t % 2 = 1 by omega)with hm | hm
       · obtain⟨u, u1, u2, u3⟩ := Ci (t / 2) 0 _ (.int .i64 p.1) hj sd rfl
         cases u2
         rw[show t / 2 * 2 + 0 = t by omega]at u1 u3
         rw[hm]; exact⟨u1, u3⟩
       · obtain⟨u, u1, u2, u3⟩ := Ci (t / 2) 1 _ (.int .i64 p.2) hj sd rfl
         cases u2
         rw[show t / 2 * 2 + 1 = t by omega]at u1 u3
         rw[hm]; exact⟨u1, u3⟩
      have hc := EB (g.ρ x).R (g.ρ x).o cap l w hH w5 (by omega)
      rw[OC]at hc
      refine hc.mono ?_
      rintro e w' ⟨rfl, q, os, rfl⟩
      have kI : (Kl l).length = n := by rw[hlen, OC]
      have hp := vx (A := A) (w1 := Sort.putRowK pC 2 (Sort.ahead w q) (g.ρ x).R (g.ρ x).o (Kl l).toArray) (new := (Kl l).map Mk) hw hD hx ag (by simp[kI, T4]) (fun r hr => by obtain⟨z, _, rfl⟩ := Ju.1 hr; rfl) (fun t => (Sort.flatK pC 2 (Kl l).toArray)[t]!) (fun t ht => by
         rw[Qc]at ht
         rw[Sort.get_flatK _ _ _ _ (by simpa using ht)]
         rcases(show t % 2 = 0 ∨ t % 2 = 1 by omega)with hm | hm <;> rw[hm] <;> rfl) (fun r c row y hr hy g w => by
         rw[Tb]at hr
         obtain⟨z, hz, rfl⟩ := ia.1 hr
         have wG := getElem?_lt' hz
         have K4 : (Kl l).toArray[r]! = z := by
          have := (List.getElem?_eq_some_iff.1 hz).2
          simp[wG, this]
         match c, hy with
         | 0, hy =>
          simp[Mk]at hy; subst hy
          rw[Sort.get_flatK _ _ _ _ (by simp; omega), show(r * 2 + 0) / 2 = r by omega, show(r * 2 + 0) % 2 = 0 by omega, K4]
          exact .int _ _
         | 1, hy =>
          simp[Mk]at hy; subst hy
          rw[Sort.get_flatK _ _ _ _ (by simp; omega), show(r * 2 + 1) / 2 = r by omega, show(r * 2 + 1) % 2 = 1 by omega, K4]
          exact .int _ _
         | c + 2, hy => simp[Mk]at hy) (Sort.size_putRow ..) (fun R Uc => vi _ Uc) (fun cs T fz hR => ⟨_, fq _ hR, by simp[Sort.putCells], fun k => by
          rw[Xn]
          congr 1; funext v
          simp only[Sort.size_flatK, Mi, Qc, kI, id]⟩) ⟨rfl, rfl⟩
      rw[Qc, kI]at hp
      obtain⟨q1, q2⟩ := hp
      obtain⟨p1, p2⟩ := yJ q1 q2 os
      exact⟨_, g, rfl, .Sc [] [] rfl (fun i x v h => by simp at h), p1, p2⟩
 · simp at hh
theorem YT{f:FuncId}
  (EB:∀(Vc off cap i j:Nat)(zs:List Int)(w:World),Sort.Holds (Value.int .i64) w Vc off zs.toArray->zs.length<=cap->cap<=9223372036854775807->i<=j->j<=zs.length->
   Calls A.P f #[.slice (some ⟨Vc,off,none⟩) zs.length cap,.int .i64 i,.int .i64 j] w fun e w'=>e= .returned (.slice (some ⟨Vc,off,none⟩) (zs.length-(j-i)) cap)/\∃q,w'=Sort.putRow (Value.int .i64) (Sort.ahead w q) Vc off (No zs i j).toArray)
  (yj:∀(p:Option Addr)(cap:Nat)(w:World),Calls A.P f #[.slice p 0 cap,.int .i64 0,.int .i64 0] w fun e w'=>e= .returned (.slice p 0 cap)/\w'=w):ym A f Aw:=by
 intro args H r H' hh g w vs hw hv;unfold Aw at hh;split at hh
 ·rename_i i j;split at hh
  case isFalse=>simp at hh
  rename_i hc;obtain⟨rfl,rfl⟩:=hc;simp at hh;obtain⟨rfl,rfl⟩:=hh
  match vs,hv with
  |[v,v1,v2],⟨r1,r2,r3,_⟩=>
   cases r1;cases r2;cases r3;exact(yj _ _ w).mono (by rintro e w' ⟨rfl,rfl⟩;exact⟨_,g,rfl,.Xa,hw,.refl _ _ _⟩)
 ·rename_i i j;split at hh
  case isFalse=>simp at hh
  rename_i hc;obtain⟨rfl,rfl⟩:=hc;simp at hh;obtain⟨rfl,rfl⟩:=hh
  match vs,hv with
  |[v,v1,v2],⟨r1,r2,r3,_⟩=>
   cases r1;cases r2;cases r3;exact(yj _ _ w).mono (by rintro e w' ⟨rfl,rfl⟩;exact⟨_,g,rfl,.Ud _,hw,.refl _ _ _⟩)
 ·rename_i x n i j;split at hh
  case h_2=>simp at hh
  rename_i rows ty hx;split at hh
  case isFalse=>simp at hh
  rename_i hc;obtain⟨ag,T4,hi0,PC,It⟩:=hc;simp only[ia]at hh;obtain⟨l,hl,hh⟩:=hh;simp at hh;obtain⟨rfl,rfl⟩:=hh;have Pc:=ax hl;have OC:l.length=n:=by have:=congrArg da Pc;simp at this;omega
  obtain⟨i',rfl⟩:∃i':Nat,i=i':=⟨i.toNat,by omega⟩;obtain⟨j',rfl⟩:∃j':Nat,j=j':=⟨j.toNat,by omega⟩;simp only[La]
  match vs,hv with
  |[v,v1,v2],⟨r1,r2,r3,_⟩=>
   cases r2;cases r3;have xj:mb g w (.sl x 0 n) v:=r1;obtain⟨hD,sJ⟩:=eu hw hx r1 T4;rcases sJ with⟨rfl,p,cap,rfl⟩|⟨cap,rfl,Ml,w5,Ci⟩
   ·have:l=[]:=Ja.1 OC;subst this;have e1:i'=0:=by omega
    have e2:j'=0:=by omega
    subst e1;subst e2;have e:Ra H x (.cells (List.map Cf (No [] 0 0)++rows.drop 0) 1 ty)=H:=Un hx;rw[e];exact(yj _ _ w).mono (by rintro e w' ⟨rfl,rfl⟩;exact⟨_,g,rfl,xj,hw,.refl _ _ _⟩)
   ·have hm:cap<=9223372036854775807:=by
     have:∀v,mb g w (.sl x 0 n) v->v= .slice (some ⟨(g.ρ x).R,(g.ρ x).o,none⟩) n cap->cap<=9223372036854775807:=by
      intro v h e;cases h with
      |sl _ _ _ UD _ _ _ hm=>injection e with _ _ e;omega
      |BI=>injection e with _ _ e;omega
     exact this _ xj rfl
    have Gp:n=0\/(g.ρ x).o+(0+cap) * (g.ρ x).sz<=(g.ρ x).e:=by
     have:∀v,mb g w (.sl x 0 n) v->v= .slice (some ⟨(g.ρ x).R,(g.ρ x).o,none⟩) n cap->n=0\/(g.ρ x).o+(0+cap) * (g.ρ x).sz<=(g.ρ x).e:=by
      intro v h e;cases h with
      |sl _ _ _ UD _ _ he hm=>injection e with _ _ e;subst e;exact .inr he
      |BI=>exact .inl rfl
     exact this _ xj rfl
    have bk:∀j,j<n->rows[j]?=some (Cf (l.getD j 0)):=fun j hj=>by
     have h1:(rows.take n)[j]?=rows[j]?:=by rw[Db,if_pos hj]
     rw[<- h1,Pc,Tb,Ia,Ba (by omega)];rfl
    have hH:Sort.Holds (Value.int .i64) w (g.ρ x).R (g.ρ x).o l.toArray:=fun j hj=>by
     have X4:j<n:=by simpa[OC]using hj
     obtain⟨u,u1,u2,u3⟩:=Ci j 0 _ (.int .i64 (l.getD j 0)) X4 (bk j X4) rfl;cases u2;simp only[Nat.mul_one,Je]at u1 u3;refine⟨?_,u3⟩;rw[u1];congr 2;simp[Ia,Ba (show j<l.length by omega),show j<l.length by omega]
    by_cases UL:n=0
    ·subst UL;have:l=[]:=Ja.1 OC;subst this;have e1:i'=0:=by omega
     have e2:j'=0:=by omega
     subst e1;subst e2;have e:Ra H x (.cells (List.map Cf (No [] 0 0)++rows.drop 0) 1 ty)=H:=Un hx;rw[e];exact(yj _ _ w).mono (by rintro e w' ⟨rfl,rfl⟩;exact⟨_,g,rfl,xj,hw,.refl _ _ _⟩)
    have hc:=EB (g.ρ x).R (g.ρ x).o cap i' j' l w hH (by omega) hm (by omega) (by omega);rw[OC]at hc;refine hc.mono ?_
    rintro e w' ⟨rfl,q,rfl⟩
    have kI:(No l i' j').length=n:=by rw[vK (by omega) (by omega),OC]
    generalize No l i' j'=d at kI ⊢;have hp:=vx (A:=A) (w1:=Sort.putRow (Value.int .i64) (Sort.ahead w q) (g.ρ x).R (g.ρ x).o d.toArray) (new:=d.map Cf) hw hD hx ag (by simp[kI,T4]) (fun r hr=>by obtain⟨z,_,rfl⟩:=Ju.1 hr;rfl) (fun t=> .int .i64 (d.getD t 0)) (fun t _=>rfl) (fun r c row y hr hy g w=>by
      rw[Tb]at hr;obtain⟨z,hz,rfl⟩:=ia.1 hr
      match c,hy with
      |0,hy=>simp[Cf]at hy;subst hy;simp[Ia,hz];exact .int _ _
      |c+1,hy=>simp[Cf]at hy) (Sort.size_putRow ..) (fun R Uc=>vi _ Uc) (fun cs T fz hR=>⟨_,fq _ hR,by simp[Sort.putCells],fun k=>by
       rw[Xn];congr 1;funext v;simp only[Mi,Qc,kI,Nat.mul_one];split
       ·rename_i hk;congr 1;simp[Ia,Ba (show k-(g.ρ x).o<d.length by omega),show k-(g.ρ x).o<d.length by omega]
       ·rfl⟩) ⟨rfl,rfl⟩
    rw[Qc,kI]at hp;obtain⟨q1,q2⟩:=hp;refine⟨_,g,rfl,?_,q1,q2⟩;have:=mb.sl (g:=g) (w:=Sort.putRow (Value.int .i64) (Sort.ahead w q) (g.ρ x).R (g.ρ x).o d.toArray) x 0 (n-(j'-i')) cap hD (by omega) (Gp.resolve_left UL) hm
    simpa using this
 ·simp at hh
end
end Go.V
namespace Go.V
open Go
def Rk{α:Type}(lt:α->α->Bool)(x:α):List α->List α
 |[]=>[x]
 |y::l=>cond (lt y x) (y::Rk lt x l) (x::y::l)
def jx{α:Type}(lt:α->α->Bool):List α->List α
 |[]=>[]
 |x::l=>Rk lt x (jx lt l)
def Ft(x y:Int×Int):Bool:=decide (x.1<y.1)||(decide (x.1=y.1)&&decide (x.2<y.2))
def Mh(l:List (Int×Int)):List (Int×Int):=jx Ft l
def Vp(l:List Int):List Int:=jx (fun a b=>decide (a<b)) l
theorem Fm{α:Type}(lt:α->α->Bool)(x:α):∀l:List α,(Rk lt x l).Perm (x::l)
 |[]=> .refl _
 |y::l=>by
  unfold Rk;cases lt y x
  ·exact .refl _
  ·exact((Fm lt x l).cons y).trans (.swap x y l)
theorem Lh{α:Type}(lt:α->α->Bool):∀l:List α,(jx lt l).Perm l
 |[]=> .refl _
 |x::l=>(Fm lt x _).trans ((Lh lt l).cons x)
theorem bp{α:Type}{lt:α->α->Bool}(Bv:∀a b c,lt b a=false->lt c b=false->lt c a=false)(has:∀a b,lt a b=true->lt b a=false)(x:α):∀l:List α,l.Pairwise (fun a b=>lt b a=false)->(Rk lt x l).Pairwise fun a b=>lt b a=false
 |[],_=>by simp[Rk]
 |y::l,h=>by
  obtain⟨h1,h2⟩:=Jl.1 h;unfold Rk;cases e:lt y x
  ·refine Jl.2 ⟨fun z hz=> ?_,h⟩;rcases Yb.1 hz with rfl|hz
   ·exact e
   ·exact Bv x y z e (h1 z hz)
  ·refine Jl.2 ⟨fun z hz=> ?_,bp Bv has x l h2⟩;rcases Yb.1 ((Fm lt x l).mem_iff.1 hz)with rfl|hz
   ·exact has _ _ e
   ·exact h1 z hz
theorem Am{α:Type}{lt:α->α->Bool}(Bv:∀a b c,lt b a=false->lt c b=false->lt c a=false)(has:∀a b,lt a b=true->lt b a=false):∀l:List α,(jx lt l).Pairwise fun a b=>lt b a=false
 |[]=> .nil
 |x::l=>bp Bv has x _ (Am Bv has l)
theorem uE{α:Type}{lt:α->α->Bool}(Bv:∀a b c,lt b a=false->lt c b=false->lt c a=false)(has:∀a b,lt a b=true->lt b a=false)(hto:∀a b,lt a b=false->lt b a=false->a=b)(l:List α):l.mergeSort (fun x y=> !lt y x)=jx lt l:=by
 refine List.Perm.eq_of_pairwise (le:=fun a b=>lt b a=false) (fun a b _ _ h1 h2=>hto a b h2 h1) ?_ (Am Bv has l) ((List.mergeSort_perm l _).trans (Lh lt l).symm);have:=List.pairwise_mergeSort (le:=fun x y=> !lt y x) (fun a b c h1 h2=>by simp only[Bool.not_eq_true']at *;exact Bv a b c h1 h2) (fun a b=>by
  cases e:lt b a with
  |false=>simp
  |true=>simp[has _ _ e]) l
 exact this.imp (by simp)
theorem EL(a b c:Int×Int)(h1:Ft b a=false)(h2:Ft c b=false):Ft c a=false:=by
 simp only[Ft,Bool.or_eq_false_iff,Xs,decide_eq_false_iff_not]at *
 omega
theorem Ix(a b:Int×Int)(h1:Ft a b=true):Ft b a=false:=by
 simp only[Ft,Bool.or_eq_false_iff,Yh,Va,Xs,decide_eq_true_eq,decide_eq_false_iff_not]at *
 omega
theorem FL(a b:Int×Int)(h1:Ft a b=false)(h2:Ft b a=false):a=b:=by
 simp only[Ft,Bool.or_eq_false_iff,Xs,decide_eq_false_iff_not]at *
 exact Prod.ext (by omega) (by omega)
theorem TU(l:List (Int×Int)):l.mergeSort (fun x y=> !Ft y x)=Mh l:=uE EL Ix FL l
theorem SU(l:List Int):l.mergeSort (fun x y=>decide (x<=y))=Vp l:=by
 rw[show(fun x y:Int=>decide (x<=y))=fun x y=> !(fun a b=>decide (a<b)) y x by funext x y;rw[<- decide_not];congr 1;apply propext;omega];exact uE (fun a b c h1 h2=>by simp at *;omega) (fun a b h=>by simp at *;omega) (fun a b h1 h2=>by simp at *;omega) l
theorem vE(l:List (Int×Int)):(Mh l).length=l.length:=(Lh _ l).length_eq
theorem tE(l:List Int):(Vp l).length=l.length:=(Lh _ l).length_eq
theorem ZF{Kl:List Int->List Int}{args:List AV}{H H':AH}{r:AV}(h:Tn Kl args H=some (r,H')):Kc H H':=by
 unfold Tn at h;split at h
 ·simp at h;obtain⟨_,rfl⟩:=h;exact Kc.refl _
 ·simp at h;obtain⟨_,rfl⟩:=h;exact Kc.refl _
 ·split at h
  case h_2=>simp at h
  split at h
  case isFalse=>simp at h
  rename_i hc;simp only[ia]at h;obtain⟨l,_,h⟩:=h;simp at h;obtain⟨_,rfl⟩:=h;exact Kc.set hc.1 _
 ·simp at h
theorem XF{F:FuncId}{Kl:List (Int×Int)->List (Int×Int)}{args:List AV}{H H':AH}{r:AV}(h:Bm F Kl args H=some (r,H')):Kc H H':=by
 unfold Bm at h;split at h
 ·split at h
  case isFalse=>simp at h
  simp at h;obtain⟨_,rfl⟩:=h;exact Kc.refl _
 ·split at h
  case isFalse=>simp at h
  simp at h;obtain⟨_,rfl⟩:=h;exact Kc.refl _
 ·split at h
  case isFalse=>simp at h
  split at h
  case h_2=>simp at h
  split at h
  case isFalse=>simp at h
  rename_i hc;simp only[ia]at h;obtain⟨l,_,h⟩:=h;simp at h;obtain⟨_,rfl⟩:=h;exact Kc.set hc.1 _
 ·simp at h
theorem wK{args:List AV}{H H':AH}{r:AV}(h:Aw args H=some (r,H')):Kc H H':=by
 unfold Aw at h;split at h
 ·split at h
  case isFalse=>simp at h
  simp at h;obtain⟨_,rfl⟩:=h;exact Kc.refl _
 ·split at h
  case isFalse=>simp at h
  simp at h;obtain⟨_,rfl⟩:=h;exact Kc.refl _
 ·split at h
  case h_2=>simp at h
  split at h
  case isFalse=>simp at h
  rename_i hc;simp only[ia]at h;obtain⟨l,_,h⟩:=h;simp at h;obtain⟨_,rfl⟩:=h;exact Kc.set hc.1 _
 ·simp at h
end Go.V
