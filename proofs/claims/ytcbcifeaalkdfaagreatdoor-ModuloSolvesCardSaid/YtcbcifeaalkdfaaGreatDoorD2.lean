/- What these Lean functions compute: plain arithmetic of congruences, the checks of a graph, the values of its registers. -/
import Derived.Test.YtcbcifeaalkdfaaGreatDoorB4
import Derived.Test.YtcbcifeaalkdfaaGreatDoorProg
import Derived.WalkKit
import Derived.ProofKit
import Derived.Deep.MidRow
import Derived.KernelRfl
import Derived.Deep.RegionHeld3
import Derived.Deep.DrawnRows
set_option linter.unusedVariables false
set_option linter.unusedSimpArgs false
set_option linter.unusedSectionVars false
open Array renaming getElem?_modify→vF
open Bool renaming and_eq_true→Ab
open Classical renaming axiomOfChoice→Bs
open Int renaming natCast_nonneg→Vl
open List renaming length_append→oe,getElem?_take→Jb,getElem?_append_left→Ja,getElem?_drop→Lc,getElem?_append_right→Oa,getD_eq_getElem?_getD→Fb,getElem?_eq_getElem→Da,length_eq_zero_iff→Gb,range→mb,mem_range→jg,mem_of_getElem?→Eb,getElem_mem→JF
open Nat renaming lt_or_ge→dc,le_refl→ya,lt_of_lt_of_le→Sa,le_trans→Db,add_assoc→Zf,zero_le→Ac,add_zero→ug,le_of_lt→js
namespace Go.U
open Go
def OI:CT->Bool
 | .bool=>true
 | .pair a _=>OI a
 |_=>false
def nbC:CT->Bool
 | .slice c=> !OI c&&nbC c
 | .pair a b=>nbC a&&nbC b
 |_=>true
def TQ:CT->Nat
 | .slice c=>TQ c+1
 | .pair a b=>max (TQ a) (TQ b)
 |_=>0
def noB:Nat->V.AV->Prop
 |0,_=>False
 |d+1,.lit _ rows=>¬V.kb rows/\∀(i:Nat)(row:List V.AV),rows[i]?=some row->∀(c:Nat)(x:V.AV),row[c]?=some x->noB d x
 |_+1,.bool _=>True
 |_+1,.int _ _=>True
 |_+1,.str _=>True
 |_+1,.Xa=>True
 |_+1,.Ef=>True
 |d+1,.ee row=>∀(c:Nat)(x:V.AV),row[c]?=some x->noB d x
 |_+1,_=>False
theorem oR{g0:@V.Gx V.nb0}{w:World}{x:V.AV}{v:Value}(h:@V.Cb V.nb0 g0 w x v):∀d,noB d x->∀(i:Inhabited V.Rn)(g:@V.Gx i),(∀R,@V.Gx.Z V.nb0 g0 R->@V.Gx.Z i g R)->@V.Cb i g w x v:=by
 induction h with
 |bool b=>exact λ_ _ i g _=> .bool b
 |int k n=>exact λ_ _ i g _=> .int k n
 |str s=>exact λ_ _ i g _=> .str s
 |Xa=>exact λ_ _ i g _=> .Xa
 |Ef a=>exact λ_ _ i g _=> .Ef a
 |lits sz a=>exact λ_ _ i g _=> .lits sz a
 |ee row a vs hs hz hc h1 _ ih=>
  intro d hd i g hZ;cases d with
  |zero=>exact hd.elim
  |succ d=>exact .ee row a vs hs (hZ _ hz) hc h1 λc x hx=>ih c x hx d (hd c x hx) _ g hZ
 |lit rows a cap sz vs hs hc hz hl hw h1 _ ih=>
  intro d hd i g hZ;cases d with
  |zero=>exact hd.elim
  |succ d=>
   obtain⟨hk,hd⟩:=hd;exact .lit rows a cap sz vs hs hc (λtd=>⟨hZ _ (hz td).1,λh=>absurd h hk⟩) hl hw h1 λi row c x hr hx=>ih i row c x hr hx d (hd i row hr c x hx) _ g hZ
 |_=>intro d hd;cases d<;>exact hd.elim
variable [TB:Uv]
theorem Zm:∀(c:CT)(x:Ib c),(enc c x).length=width c
 | .bool,_=>rfl
 | .int _,_=>rfl
 | .str,_=>rfl
 | .slice _,_=>rfl
 | .pair a b,(x,y)=>by simp[enc,width,Zm a x,Zm b y]
theorem RL.split{m:Mp}{xs ys:List UV}{ar:List V.AV}(h:RL m (xs++ys) ar):RL m xs (ar.take xs.length)/\RL m ys (ar.drop xs.length):=by
 obtain⟨h1,h2⟩:=h;simp only[oe]at h1;refine⟨⟨by simp;omega,λi x a hx ha=> ?_⟩,⟨by simp;omega,λi x a hx ha=> ?_⟩⟩
 ·rw[Jb]at ha;split at ha
  ·exact h2 i x a (by rw[Ja (by assumption)];exact hx) ha
  ·simp at ha
 ·rw[Lc]at ha;exact h2 _ x a (by rw[Oa (by omega)];simpa using hx) ha
theorem rC{c:CT}{l:List (Ib c)}{i:Nat}{x:Ib c}(h:l[i]?=some x):vw c l i=enc c x:=by simp[vw,Fb,h]
theorem qK{m:Mp}{ar:List V.AV}:∀(c:CT)(x:Ib c),RL m (enc c x) ar->(OI c=true↔∃b,ar[0]?=some (.bool b))
 | .bool,x,h=>by
  obtain⟨h1,h2⟩:=h;rcases ar with _|⟨a,_|⟨a2,rest⟩⟩<;>simp[enc]at h1
  have:=h2 0 _ a rfl rfl;cases this;exact⟨λ_=>⟨_,rfl⟩,λ_=>rfl⟩
 | .int k,x,h=>by
  obtain⟨h1,h2⟩:=h;rcases ar with _|⟨a,_|⟨a2,rest⟩⟩<;>simp[enc]at h1
  have:=h2 0 _ a rfl rfl;cases this;simp[OI]
 | .str,x,h=>by
  obtain⟨h1,h2⟩:=h;rcases ar with _|⟨a,_|⟨a2,rest⟩⟩<;>simp[enc]at h1
  have:=h2 0 _ a rfl rfl;cases this;simp[OI]
 | .slice c,x,h=>by
  obtain⟨h1,h2⟩:=h;rcases ar with _|⟨a,_|⟨a2,rest⟩⟩<;>simp[enc]at h1
  have:=h2 0 _ a rfl rfl;cases this
  ·simp[OI]
  ·rename_i h;rcases h with rfl|rfl<;>simp[OI]
 | .pair a b,(x,y),h=>by
  have h':RL m (enc a x++enc b y) ar:=h;have hl:=qK a x h'.split.1;rw[Jb,if_pos (by rw[Zm];exact Wn a)]at hl;exact hl
theorem MB{m:Mp}:∀(c:CT)(x:Ib c)(ar:List V.AV),nbC c=true->RL m (enc c x) ar->∀d,TQ c<=d->∀(k:Nat)(a:V.AV),ar[k]?=some a->noB (d+1) a
 | .bool,x,ar,_,⟨h1,h2⟩,d,_,k,a,ha=>by
  rcases ar with _|⟨a',_|⟨a2,rest⟩⟩<;>simp[enc]at h1
  have:=h2 0 _ a' rfl rfl;cases this;cases k<;>simp at ha;subst ha;trivial
 | .int _,x,ar,_,⟨h1,h2⟩,d,_,k,a,ha=>by
  rcases ar with _|⟨a',_|⟨a2,rest⟩⟩<;>simp[enc]at h1
  have:=h2 0 _ a' rfl rfl;cases this;cases k<;>simp at ha;subst ha;trivial
 | .str,x,ar,_,⟨h1,h2⟩,d,_,k,a,ha=>by
  rcases ar with _|⟨a',_|⟨a2,rest⟩⟩<;>simp[enc]at h1
  have:=h2 0 _ a' rfl rfl;cases this;cases k<;>simp at ha;subst ha;trivial
 | .slice c,l,ar,hn,⟨h1,h2⟩,d,hd,k,a,ha=>by
  simp only[nbC,Ab,Bool.not_eq_true']at hn;rcases ar with _|⟨a',_|⟨a2,rest⟩⟩<;>simp[enc]at h1
  have:=h2 0 _ a' rfl rfl;cases k<;>simp at ha
  subst ha;cases this with
  |bh _ _ h=>rcases h with rfl|rfl<;>trivial
  |lit _ _ rows hl hw hr=>
   have aD:∀(i:Nat)(row:List V.AV),rows[i]?=some row->∃x,(show List (Ib c)from l)[i]?=some x/\RL m (enc c x) row:=λi row hi=>by
    have Mc:i<(show List (Ib c)from l).length:=by have:=Za hi;exact Nat.lt_of_lt_of_eq this hl
    have hx:=Da Mc;refine⟨_,hx,by rw[Zm];exact hw i row hi,λk u a hu ha=>hr i row k u a hi (by rw[rC hx];exact hu) ha⟩
   cases d with
   |zero=>simp[TQ]at hd
   |succ d=>
    refine⟨λ⟨i,row,b,hi,hb⟩=> ?_,λi row hi k a ha=> ?_⟩
    ·obtain⟨x,_,hx⟩:=aD i row hi;have:=(qK c x hx).2 ⟨b,hb⟩;rw[hn.1]at this;simp at this
    ·obtain⟨x,_,hx⟩:=aD i row hi;exact MB c x row hn.2 hx d (by simp[TQ]at hd;omega) k a ha
 | .pair p q,(x,y),ar,hn,h,d,hd,k,a,ha=>by
  simp only[nbC,Ab]at hn;have h':RL m (enc p x++enc q y) ar:=h;obtain⟨s1,s2⟩:=h'.split;simp only[TQ]at hd;rcases dc k (enc p x).length with hk|hk
  ·exact MB p x _ hn.1 s1 d (by omega) k a (by rw[Jb,if_pos hk];exact ha)
  ·exact MB q y _ hn.2 s2 d (by omega) (k-(enc p x).length) a (by rw[Lc,Nat.add_sub_cancel' hk];exact ha)
theorem RL.any{m:Mp}:∀(c:CT)(x:Ib c)(ar:List V.AV),RL m (enc c x) ar->∀m',RL m' (enc c x) ar
 | .bool,x,ar,⟨h1,h2⟩,m'=>⟨h1,λi u a hu ha=>by
  have:=h2 i u a hu ha;cases i<;>simp[enc]at hu;subst hu;cases this;exact .bool _⟩
 | .int _,x,ar,⟨h1,h2⟩,m'=>⟨h1,λi u a hu ha=>by
  have:=h2 i u a hu ha;cases i<;>simp[enc]at hu;subst hu;cases this;exact .int _ _⟩
 | .str,x,ar,⟨h1,h2⟩,m'=>⟨h1,λi u a hu ha=>by
  have:=h2 i u a hu ha;cases i<;>simp[enc]at hu;subst hu;cases this;exact .str _⟩
 | .slice c,l,ar,⟨h1,h2⟩,m'=>⟨h1,λi u a hu ha=>by
  have:=h2 i u a hu ha;cases i<;>simp[enc]at hu
  subst hu;cases this with
  |bh _ _ h=>exact .bh c a h
  |lit _ _ rows hl hw hr=>
   refine .lit c l rows hl hw λi row k u a hi hu ha=> ?_
   have Mc:i<(show List (Ib c)from l).length:=by have:=Za hi;exact Nat.lt_of_lt_of_eq this hl
   have hx:=Da Mc;rw[rC hx]at hu;exact(RL.any c _ row ⟨by rw[Zm];exact hw i row hi,λk u a hu ha=>hr i row k u a hi (by rw[rC hx];exact hu) ha⟩ m').2 k u a hu ha⟩
 | .pair p q,(x,y),ar,h,m'=>by
  have h':RL m (enc p x++enc q y) ar:=h;obtain⟨s1,s2⟩:=h'.split;have t1:=RL.any p x _ s1 m';have t2:=RL.any q y _ s2 m';have:=t1.append t2;rw[List.take_append_drop]at this;exact this
section
variable [Inhabited V.Rn]{g g':V.Gx}{w w':World}
theorem sd.mono{c:CT}{x:Ib c}{cs:List Value}(h:sd g w c x cs)(hle:g.Le w g' w'):sd g' w' c x cs:=
 ⟨h.1,h.2.1,let⟨ar,h1,h2,h3⟩:=h.2.2;⟨ar,h1,h2,λi a v ha hv=>(h3 i a v ha hv).mono hle⟩⟩
theorem sd.Tae{a b:CT}{x:Ib a}{y:Ib b}{cs:List Value}(h:sd g w (.pair a b) (x,y) cs):sd g w a x (cs.take (width a))/\sd g w b y (cs.drop (width a)):=by
 obtain⟨h1,h2,ar,h3,h4,h5⟩:=h;have hw:width (.pair a b)=width a+width b:=rfl;refine⟨⟨by simp;omega,λv hv=>h2 v (List.mem_of_mem_take hv),ar.take (width a),λm=> ?_,by simp;omega,λi p v hp hv=> ?_⟩,⟨by simp;omega,λv hv=>h2 v (List.mem_of_mem_drop hv),ar.drop (width a),λm=> ?_,by simp;omega,λi p v hp hv=> ?_⟩⟩
 ·have:RL m (enc a x++enc b y) ar:=h3 m;have:=this.split.1
  rwa [Zm]at this
 ·rw[Jb]at hp hv;split at hp
  ·rename_i hi;rw[if_pos hi]at hv;exact h5 i p v hp hv
  ·simp at hp
 ·have:RL m (enc a x++enc b y) ar:=h3 m;have:=this.split.2
  rwa [Zm]at this
 ·rw[Lc]at hp hv;exact h5 _ p v hp hv
structure Sab(g:V.Gx)(w:World)(c:CT)(l:List (Ib c))(a:Addr)(cap:Nat):Prop where
 spot:a.spot=none
 cap:l.length<=cap
 Z:g.Z a.block
 N:OI c=true->¬V.nN a.block
 row:∀(i:Nat)(x:Ib c),l[i]?=some x->∃cs,sd g w c x cs/\∀(k:Nat)(v:Value),cs[k]?=some v->w.cell? ⟨a.block,a.off+i * width c+k,none⟩=some v
def bap(v:Value):Prop:=v= .slice none 0 0\/(∃a,v= .slice (some a) 0 0)\/∃a cap,a.spot=none/\v= .slice (some a) 0 cap
theorem sd.slice{c:CT}{l:List (Ib c)}{cs:List Value}(h:sd g w (.slice c) l cs):∃p cap,cs=[.slice p l.length cap]/\(l=[]->bap (.slice p 0 cap))/\(l≠[]->∃a,p=some a/\Sab g w c l a cap):=by
 obtain⟨h1,h2,ar,h3,h4,h5⟩:=h;rcases cs with _|⟨v,_|⟨v2,rest⟩⟩
 ·simp[width]at h1
 ·rcases ar with _|⟨a,_|⟨a2,rest⟩⟩<;>simp at h4
  have hv:=h5 0 a v rfl rfl;have hr:=(h3 ⟨λ_ _=>none,λ_ _=>0,0⟩).2 0 _ a rfl rfl;cases hr with
  |bh _ _ h=>
   rcases h with rfl|rfl<;>cases hv
   ·exact⟨_,_,rfl,λ_=> .inl rfl,λh=>absurd rfl h⟩
   ·exact⟨_,_,rfl,λ_=> .inr (.inl ⟨_,rfl⟩),λh=>absurd rfl h⟩
  |lit _ _ rows hl hw Gl=>
   cases hv with
   |lits _ ad=>
    have:l=[]:=Gb.1 hl.symm;subst this;exact⟨_,_,rfl,λ_=> .inr (.inl ⟨_,rfl⟩),λh=>absurd rfl h⟩
   |lit _ ad cap _ vs hs hc hz hlen ei cz hrel=>
    refine⟨some ad,cap,by rw[hl],λ_=> .inr (.inr ⟨ad,cap,hs,rfl⟩),λtd=>⟨ad,rfl,?_⟩⟩;have Sam:rows≠[]:=by rintro rfl;exact td (Gb.1 (by simpa using hl.symm))
    have aD:∀(i:Nat)(x:Ib c),l[i]?=some x->∃row,rows[i]?=some row/\∀m,RL m (enc c x) row:=λi x hx=>by
     have Mc:i<rows.length:=by have:=Za hx;omega
     have hi:=Da Mc;refine⟨_,hi,RL.any (m:=⟨λ_ _=>none,λ_ _=>0,0⟩) c x _ ⟨by rw[Zm];exact hw i _ hi,λk u a hu ha=>Gl i _ k u a hi (by rw[rC hx];exact hu) ha⟩⟩
    refine⟨hs,by omega,(hz Sam).1,λhf hN=>(hz Sam).2 ?_ hN,λi x hx=> ?_⟩
    ·cases l with
     |nil=>exact absurd rfl td
     |cons x l=>
      obtain⟨row,hr,h⟩:=aD 0 x rfl;obtain⟨b,hb⟩:=(qK c x (h ⟨λ_ _=>none,λ_ _=>0,0⟩)).1 hf;exact⟨0,row,b,hr,hb⟩
    ·obtain⟨row,hr,h⟩:=aD i x hx;have hi:i<rows.length:=Za hr;have S8:row.length=width c:=hw i row hr;refine⟨(mb (width c)).map (vs i),⟨by simp,λv hv=> ?_,row,h,by simp[S8],λk a v ha hv=> ?_⟩,λk v hv=> ?_⟩
     ·obtain⟨k,hk,rfl⟩:=List.mem_map.1 hv;exact cz i k hi (jg.1 hk)
     ·have hk:k<width c:=by have:=Za ha;omega
      simp[List.getElem?_range hk]at hv;subst hv;exact hrel i row k a hr ha
     ·have hk:k<width c:=by have:=Za hv;simpa using this
      simp[List.getElem?_range hk]at hv;subst hv;exact ei i k hi hk
 ·simp[width]at h1
end
theorem sd.nb{g0:@V.Gx V.nb0}{w:World}{c:CT}{x:Ib c}{cs:List Value}(h:@sd V.nb0 g0 w c x cs)(hn:nbC c=true)(i:Inhabited V.Rn)(g:@V.Gx i)(hZ:∀R,@V.Gx.Z V.nb0 g0 R->@V.Gx.Z i g R):@sd i g w c x cs:=
 ⟨h.1,h.2.1,let⟨ar,h1,h2,h3⟩:=h.2.2;⟨ar,h1,h2,λk a v ha hv=>oR (h3 k a v ha hv) _ (MB c x ar hn (h1 ⟨λ_ _=>none,λ_ _=>0,0⟩) _ (ya _) k a ha) i g hZ⟩⟩
end Go.U
namespace Go.U
open Go
@[reducible] def Aw (w:World):Inhabited V.Rn:=⟨⟨λR=>R<w.heap.size,λR=>R<w.heap.size⟩⟩
def M0(w:World):@V.Gx (Aw w):=@V.Gx.mk (Aw w) (λ_=>False) (λ_=>⟨0,0,0,0⟩) (λR=>R<w.heap.size) λ_ h=>h
section
variable {A:V.Oi}
theorem sY{w:World}(hg:∀i row,A.Na i=some row->V.tg (ji w) w i row)(ha:∀i row,A.Na i=some row->∀(c:Nat)(x:V.AV),row[c]?=some x->noB 1 x):
  @V.Jc (Aw w) A.Na (M0 w) w ⟨[],0⟩:=
 @V.Jc.mk (Aw w) _ _ _ _ (λi row h=>@V.tg.mk (Aw w) _ _ _ _ (oR (hg i row h).v 2 (ha i row h) (Aw w) (M0 w) λ_ h=>h) (hg i row h).n) (λb h=>h.elim) (λb x h=>h.elim) (λb b' h=>h.1.elim) (λR h=>⟨h,λhn=>absurd h hn⟩)
theorem LX[Inhabited V.Rn](FB:V.vy A)(hE:V.BN A)(MK:V.Wo A)(hD:V.Km A){k:Nat}{f:FuncId}{fn:Func}(hf:A.fns f=some fn)(hb:fn.body.isSome=true){av:List V.AV}{vs:List Value}{W:World}{H':V.AH}{r:V.AV}{g:V.Gx}
  (Hg:V.call A k (.fn f []) av ⟨[],0⟩=some (r,H')) (hW:V.Jc A.Na g W ⟨[],0⟩) (hl:av.length=vs.length) (hv:∀(i:Nat)(x:V.AV)(v:Value),av[i]?=some x->vs[i]?=some v->V.Cb g W x v):
  Calls A.P f vs.toArray W λe W'=>∃v,e= .returned v/\∃g',V.Cb g' W' r v/\V.Jc A.Na g' W' H'/\V.Ext g W ⟨[],0⟩ g' W' H':=by
 have h:=V.Im FB hE MK hD k (.fn f []) av ⟨[],0⟩ r H' Hg g W (.func (.func f) #[] #[]) vs hW (.fn f [] [] rfl λi x v h=>by simp at h) hl hv Fence.wide 0
  { dst:=some 0,op:= .move (.tmp 0),type:=0,pos:= "",after:= #[],guard:=none } ⟨#[undef],[]⟩
  (λa W'=>∃v,a.tmps= #[v]/\∃g',V.Cb g' W' r v/\V.Jc A.Na g' W' H'/\V.Ext g W ⟨[],0⟩ g' W' H') (λ_ _ _=>False)
  ⟨λ_=>trivial,rfl,rfl⟩ (λg' w' rv h1 h2 h3=>⟨rv,rfl,g',h1,h2,h3⟩)
 rw[V.Ls FB hf hb]at h;rw[Oper.uponIn_enter]at h;have h2:=callsIn_wide.1 h.2;simp only[Array.append_empty]at h2;refine Calls.mono h2 λe W' he=> ?_
 cases e with
 |returned v=>
  obtain⟨v',h1,h2⟩:=he;have:v'=v:=by simpa[Act.put]using h1.symm
  subst this;exact⟨v',rfl,h2⟩
 |panicked c=>exact he.elim
 |outgrown=>exact he.elim λ_ h=>h.elim λ_ h=>h.elim
end
end Go.U
namespace Go.U
open Go Go.Proofs Go.RowKit
def Wr(lo hi:Nat)(w:World)(p:Option Addr)(n:Nat):Prop:=n≠0->∃b o,p=some ⟨b,o,none⟩/\lo<=b/\b<hi/\w.there b o (n * 3)
def Out(X:Nat->Nat->Prop)(p:Option Addr)(n:Nat):Prop:=∀b o,p=some ⟨b,o,none⟩->∀j,j<n * 3->¬X b (o+j)
structure JB(lo hi:Nat)(X:Nat->Nat->Prop)(w w':World):Prop where
 keep:∀b o,b<w.heap.size->X b o->w'.cell? ⟨b,o,none⟩=w.cell? ⟨b,o,none⟩
 size:w.heap.size<=w'.heap.size
 Mk:∀R,R<w.heap.size->R<lo\/hi<=R->w'.heap[R]?=w.heap[R]?
 th:∀b o n,b<w.heap.size->w.there b o n->w'.there b o n
 io:w'.os=w.os/\w'.output=w.output
theorem NN{w w':World}{b o n:Nat}(h:w'.heap[b]?=w.heap[b]?)(ht:w.there b o n):w'.there b o n:=λj hj=>by
 have:=ht j hj;simp only[World.cell?,World.frozen?,h]at this ⊢;exact this
theorem JB.refl(lo hi:Nat)(X:Nat->Nat->Prop)(w:World):JB lo hi X w w:=⟨λ_ _ _ _=>rfl,ya _,λ_ _ _=>rfl,λ_ _ _ _ h=>h,⟨rfl,rfl⟩⟩
theorem JB.trans{lo hi:Nat}{X:Nat->Nat->Prop}{w w1 w2:World}(h:JB lo hi X w w1)(h':JB lo hi X w1 w2):JB lo hi X w w2:=
 ⟨λb o hb hX=>(h'.keep b o (Sa hb h.size) hX).trans (h.keep b o hb hX),Db h.size h'.size,λR hR hl=>(h'.Mk R (Sa hR h.size) hl).trans (h.Mk R hR hl),λb o n hb ht=>h'.th b o n (Sa hb h.size) (h.th b o n hb ht),⟨h'.io.1.trans h.io.1,h'.io.2.trans h.io.2⟩⟩
theorem lu(b:Nat):∀(vs:List Value)(o:Nat)(w:World),(w.setCells b o vs).heap.size=w.heap.size
 |[],_,_=>rfl
 |v::vs,o,w=>by rw[World.setCells,lu b vs];simp[World.setCell]
theorem Nq(b:Nat){R:Nat}(hR:R≠b):∀(vs:List Value)(o:Nat)(w:World),(w.setCells b o vs).heap[R]?=w.heap[R]?
 |[],_,_=>rfl
 |v::vs,o,w=>by rw[World.setCells,Nq b hR vs];simp[World.setCell,vF,Ne.symm hR]
theorem mA(b:Nat):∀(vs:List Value)(o:Nat)(w:World),(w.setCells b o vs).os=w.os/\(w.setCells b o vs).output=w.output
 |[],_,_=>⟨rfl,rfl⟩
 |v::vs,o,w=>by rw[World.setCells];exact mA b vs (o+1) _
theorem JB.set{lo hi:Nat}{X:Nat->Nat->Prop}{w:World}{b o:Nat}{vs:List Value}(h1:lo<=b)(h2:b<hi)(hX:∀j,j<vs.length->¬X b (o+j)):JB lo hi X w (w.setCells b o vs):=
 ⟨λb' o' _ hx=>World.cell?_setCells_out b vs o w ⟨b',o',none⟩ (λe _=>by
  simp only at e;subst e;rcases dc o' o with h|h
  ·exact .inl h
  ·refine .inr (Nat.le_of_not_lt λMc=>hX (o'-o) (by simp only at Mc;omega) ?_);rw[Nat.add_sub_cancel' h];exact hx),by rw[lu];exact ya _,λR hR hl=>Nq b (by omega) vs o w,λb' o' n _ ht=>World.there_setCells ht b o vs,mA b vs o w⟩
theorem JB.alloc{lo hi:Nat}{X:Nat->Nat->Prop}(w:World)(ob:Obj):JB lo hi X w (w.alloc ob):=
 ⟨λb o hb _=>by simp only[World.cell?,Below.heap_alloc w ob b hb],by simp,λR hR _=>Below.heap_alloc w ob R hR,λb o n _ ht=>World.there_alloc ht ob,⟨rfl,rfl⟩⟩
theorem Wr.mono{lo hi:Nat}{X:Nat->Nat->Prop}{w w':World}{p:Option Addr}{n:Nat}(h:Wr lo hi w p n)(hs:JB lo hi X w w')(hh:hi<=w.heap.size):Wr lo hi w' p n:=λhn=>by
 obtain⟨b,o,e,h1,h2,h3⟩:=h hn;exact⟨b,o,e,h1,h2,hs.th b o _ (by omega) h3⟩
abbrev sV(w:World)(b o:Nat):World:=((w.setCell ⟨b,o,none⟩ (.bool false)).setCell ⟨b,o+1,none⟩ (.int .i64 0)).setCell ⟨b,o+2,none⟩ (.int .i64 4321)
theorem JB.sV{lo hi:Nat}{X:Nat->Nat->Prop}{w w':World}{b:Nat}{o k n:Nat}(hs:JB lo hi X w w')(h1:lo<=b)(h2:b<hi)(hX:Out X (some ⟨b,o,none⟩) n)(hk:k<n):JB lo hi X w (sV w' b (o+k * 3)):=
 hs.trans (JB.set (o:=o+k * 3) (vs:=[.bool false,.int .i64 0,.int .i64 4321]) h1 h2 λj hj=>by
  have hj:j<3:=hj;rw[Zf];exact hX b o rfl _ (by omega))
theorem Ut{w:World}{b:Nat}(o:Nat){B i:Nat}{v:Value}(hx:B≠b)(h:w.cell? ⟨B,i,none⟩=some v):(sV w b o).cell? ⟨B,i,none⟩=some v:=by
 have:=World.cell?_setCells_out b [.bool false,.int .i64 0,.int .i64 4321] o w ⟨B,i,none⟩ (λe _=>absurd e hx);exact(show(sV w b o).cell? ⟨B,i,none⟩=w.cell? ⟨B,i,none⟩from this).trans h
theorem Yn{w:World}{b o n:Nat}(h:w.there b o n){j:Nat}(hj:j<n):(∃y,w.cell? ⟨b,o+j,none⟩=some y)/\w.frozen? ⟨b,o+j,none⟩=false:=by
 obtain⟨h1,h2⟩:=h j hj;exact⟨Option.isSome_iff_exists.1 h1,h2⟩
set_option maxRecDepth 100000 in
set_option maxHeartbeats 2000000 in
theorem eV{lo hi:Nat}{X:Nat->Nat->Prop}(b:Bool)(p1 p2:Option Addr)(n1 c1 n2 c2:Nat)(w:World)(hh:hi<=w.heap.size)(h1:Wr lo hi w p1 n1)(h2:Wr lo hi w p2 n2)(l1:n1<=64)(l2:n2<=64)(x1:Out X p1 n1)(x2:Out X p2 n2):
  Calls Tryz.prog 18 #[.agg #[.bool b,.slice p1 n1 c1,.slice p2 n2 c2]] w λe w'=>e= .returned (.tuple #[])/\JB lo hi X w w':=by
 have i36:(Tryz.prog.info? 36).map (·.size)=some 3:=by kernel_rfl
 go_enter Tryz.func18,Tryz.ntmps18
 go_wp2
 have hB:(w.alloc (Obj.cells #[Value.bool b,Value.slice p1 n1 c1,Value.slice p2 n2 c2] 31)).heap[w.heap.size]?=some (Obj.cells #[Value.bool b,Value.slice p1 n1 c1,Value.slice p2 n2 c2] 31 (0,0)):=heap_alloc_new w _;obtain⟨W,hW⟩:∃W,w.alloc (Obj.cells #[Value.bool b,Value.slice p1 n1 c1,Value.slice p2 n2 c2] 31)=W:=⟨_,rfl⟩
 go_loopw [2] (λi wr=>∃k:Nat,k<=n1/\i= .int .i64 k/\JB lo hi X w wr/\wr.cell? ⟨w.heap.size,1,none⟩=some (.slice p1 n1 c1)/\wr.cell? ⟨w.heap.size,2,none⟩=some (.slice p2 n2 c2)) (λi _=>n1-(intOf i).toNat)
 case atStart=>exact⟨0,Ac _,rfl,JB.alloc w _,by simp,by simp⟩
 case round=>
  obtain⟨k,hk,rfl,hs,e1,e2⟩:=hrel;by_cases Mc:k<n1
  ·obtain⟨bb,oo,rfl,g1,g2,g3⟩:=h1.mono hs hh (by omega);have dY:(0:Int)<=(k:Int):=Vl _;have b9:(k:Int)<(n1:Int):=by omega
   have g4:wr.there bb (oo+k * 3) 3:=λj hj=>by have:=g3 (k * 3+j) (by omega);rwa [<- Zf]at this
   obtain⟨⟨y0,f0⟩,z0⟩:=Yn g4 (j:=0) (by omega);obtain⟨⟨y1,f1⟩,z1⟩:=Yn g4 (j:=1) (by omega);obtain⟨⟨y2,f2⟩,z2⟩:=Yn g4 (j:=2) (by omega);rw[ug]at f0 z0;clear g3 g4
   go_wp2
   go_roundw
   case rel=>exact⟨k+1,by omega,by go_num,hs.sV g1 g2 x1 Mc,Ut (oo+k * 3) (by omega) e1,Ut (oo+k * 3) (by omega) e2⟩
   case measure=>simp[intOf];omega
  ·have gD:¬(k:Int)<(n1:Int):=by omega
   go_wp2
   go_loopw [3] (λi wr=>∃k:Nat,k<=n2/\i= .int .i64 k/\JB lo hi X w wr/\wr.cell? ⟨w.heap.size,1,none⟩=some (.slice p1 n1 c1)/\wr.cell? ⟨w.heap.size,2,none⟩=some (.slice p2 n2 c2)) (λi _=>n2-(intOf i).toNat)
   case atStart=>exact⟨0,Ac _,rfl,hs,e1,e2⟩
   case round=>
    clear hs e1 e2 hk Mc gD;obtain⟨k,hk,rfl,hs,e1,e2⟩:=hrel;by_cases Mc:k<n2
    ·obtain⟨bb,oo,rfl,g1,g2,g3⟩:=h2.mono hs hh (by omega);have dY:(0:Int)<=(k:Int):=Vl _;have b9:(k:Int)<(n2:Int):=by omega
     have g4:wr.there bb (oo+k * 3) 3:=λj hj=>by have:=g3 (k * 3+j) (by omega);rwa [<- Zf]at this
     obtain⟨⟨y0,f0⟩,z0⟩:=Yn g4 (j:=0) (by omega);obtain⟨⟨y1,f1⟩,z1⟩:=Yn g4 (j:=1) (by omega);obtain⟨⟨y2,f2⟩,z2⟩:=Yn g4 (j:=2) (by omega);rw[ug]at f0 z0;clear g3 g4
     go_wp2
     go_roundw
     case rel=>exact⟨k+1,by omega,by go_num,hs.sV g1 g2 x2 Mc,Ut (oo+k * 3) (by omega) e1,Ut (oo+k * 3) (by omega) e2⟩
     case measure=>simp[intOf];omega
    ·have gD:¬(k:Int)<(n2:Int):=by omega
     go_wp2
     go_end0
     exact⟨rfl,hs⟩
end Go.U
namespace Go.U
open Go
variable [TB:Uv]
def At(lo hi:Nat)(w:World):(c:CT)->Ib c->List Value->Prop
 | .bool=>λ(b:Bool)cs=>cs=[.bool b]
 | .int k=>λ(n:Int)cs=>cs=[.int k n]
 | .str=>λ(s:ByteArray)cs=>cs=[.string s]
 | .slice c=>λ(l:List (Ib c))cs=>∃p cap,cs=[.slice p l.length cap]/\(l=[]->bap (.slice p 0 cap))/\(l≠[]->∃b o,p=some ⟨b,o,none⟩/\l.length<=cap/\lo<=b/\b<hi/\w.there b o (l.length * width c)/\
  ∀(i:Nat)(x:Ib c),l[i]?=some x->∃ds,At lo hi w c x ds/\ds.length=width c/\∀(k:Nat)(v:Value),ds[k]?=some v->w.cell? ⟨b,o+i * width c+k,none⟩=some v)
 | .pair a b=>λ(x:Ib a×Ib b)cs=>At lo hi w a x.1 (cs.take (width a))/\At lo hi w b x.2 (cs.drop (width a))
theorem At.keep{lo hi:Nat}{w w':World}(h:∀R,lo<=R->R<hi->w'.heap[R]?=w.heap[R]?):∀(c:CT)(x:Ib c)(cs:List Value),At lo hi w c x cs->At lo hi w' c x cs
 | .bool,_,_,e=>e
 | .int _,_,_,e=>e
 | .str,_,_,e=>e
 | .slice c,l,cs,⟨p,cap,e,h0,h1⟩=>⟨p,cap,e,h0,λtd=>by
  obtain⟨b,o,e,h2,h3,h4,h5,h6⟩:=h1 td;refine⟨b,o,e,h2,h3,h4,NN (h b h3 h4) h5,λi x hx=> ?_⟩;obtain⟨ds,k1,k2,k3⟩:=h6 i x hx;exact⟨ds,At.keep h c x ds k1,k2,λk v hv=>by rw[<- k3 k v hv];simp only[World.cell?,h b h3 h4]⟩⟩
 | .pair a b,(x,y),cs,⟨h1,h2⟩=>⟨At.keep h a x _ h1,At.keep h b y _ h2⟩
theorem sd.mk{g:V.Gx}{w:World}{c:CT}{l:List (Ib c)}{a:Addr}{cap:Nat}(hs:a.spot=none)(au:l.length<=cap)(hz:g.Z a.block)
  (hr:∀(i:Nat)(x:Ib c),l[i]?=some x->∃cs,sd g w c x cs/\∀(k:Nat)(v:Value),cs[k]?=some v->w.cell? ⟨a.block,a.off+i * width c+k,none⟩=some v):sd g w (.slice c) l [.slice (some a) l.length cap]:=by
 have De:∀i,i<l.length->∃row:List V.AV,∃(x:Ib c)(cs:List Value),l[i]?=some x/\(∀(k:Nat)(v:Value),cs[k]?=some v->w.cell? ⟨a.block,a.off+i * width c+k,none⟩=some v)/\cs.length=width c/\(∀v∈cs,v.oneCell'=true)/\(∀m,RL m (enc c x) row)/\row.length=cs.length/\∀(i:Nat)(a:V.AV)(v:Value),row[i]?=some a->cs[i]?=some v->V.Cb g w a v:=λi hi=>by
  have hx:=Da hi;obtain⟨cs,⟨k1,k2,ar,k3,k4,k5⟩,Kj⟩:=hr i _ hx;exact⟨ar,_,cs,hx,Kj,k1,k2,k3,k4,k5⟩
 obtain⟨rows,q1,q2⟩:=Ns De;have U8:∀i k,i<l.length->k<width c->∃v,w.cell? ⟨a.block,a.off+i * width c+k,none⟩=some v/\v.oneCell'=true/\∀row x,rows[i]?=some row->row[k]?=some x->V.Cb g w x v:=λi k hi hk=>by
  have hx:=Da (l:=rows) (i:=i) (by omega);obtain⟨x,cs,_,Kj,k1,k2,_,k4,k5⟩:=q2 i _ hx;have XX:=Da (l:=cs) (i:=k) (by omega);refine⟨_,Kj k _ XX,k2 _ (Eb XX),λrow y hr hy=> ?_⟩;rw[hx]at hr;injection hr with hr;subst hr;exact k5 k y _ hy XX
 refine sd.one (.lit (width c) rows) rfl (.lit c l) rfl rfl (λm=> .lit c l rows (by omega) (λi row hi=> ?_) (λi row k x b hi h1 h2=> ?_)) ?_
 ·obtain⟨x,cs,_,_,k1,_,_,k4,_⟩:=q2 i row hi;rw[k4,k1]
 ·obtain⟨x',cs,Eg,_,_,_,k3,_,_⟩:=q2 i row hi;rw[rC Eg]at h1;exact(k3 m).2 k x b h1 h2
 ·have hch:∀i k,∃v,i<l.length->k<width c->w.cell? ⟨a.block,a.off+i * width c+k,none⟩=some v/\v.oneCell'=true/\∀row x,rows[i]?=some row->row[k]?=some x->V.Cb g w x v:=λi k=>by
   by_cases h1:i<l.length
   ·by_cases h2:k<width c
    ·obtain⟨v,hv⟩:=U8 i k h1 h2;exact⟨v,λ_ _=>hv⟩
    ·exact⟨undef,λ_ h=>absurd h h2⟩
   ·exact⟨undef,λh _=>absurd h h1⟩
  have pag:=λi=>Bs (hch i)
  obtain⟨F,hF⟩:=Bs pag;have:=V.Cb.lit (g:=g) (w:=w) rows a cap (width c) F hs (by omega) (λ_=>⟨hz,λ_ h=>h⟩) (λi row hi=>by obtain⟨x,cs,_,_,k1,_,_,k4,_⟩:=q2 i row hi;rw[k4,k1])
   (λi k hi hk=>(hF i k (by omega) hk).1) (λi k hi hk=>(hF i k (by omega) hk).2.1) (λi row k x hi hx=>by
    have BA:i<l.length:=by have:=Za hi;omega
    have hk:k<width c:=by obtain⟨x,cs,_,_,k1,_,_,k4,_⟩:=q2 i row hi;have:=Za hx;omega
    exact(hF i k BA hk).2.2 row x hi hx)
  rw[q1]at this;exact this
theorem At.cells{lo hi:Nat}{w:World}(hh:hi<=w.heap.size):∀(c:CT)(x:Ib c)(cs:List Value),At lo hi w c x cs->sd (ji w) w c x cs
 | .bool,b,cs,e=>by
  have e:cs=[.bool b]:=e;subst e;exact sd.one (.bool b) rfl (.bool b) rfl rfl (λm=> .bool b) (.bool b)
 | .int k,n,cs,e=>by
  have e:cs=[.int k n]:=e;subst e;exact sd.one (.int k n) rfl (.int k n) rfl rfl (λm=> .int k n) (.int k n)
 | .str,s,cs,e=>by
  have e:cs=[.string s]:=e;subst e;exact sd.one (.str s) rfl (.str s) rfl rfl (λm=> .str s) (.str s)
 | .slice c,l,cs,⟨p,cap,e,h0,h1⟩=>by
  subst e;by_cases hl:l=[]
  ·rcases h0 hl with h|⟨a,h⟩|⟨a,mG,hs,h⟩<;>subst hl<;>injection h with e1 e2 e3<;>subst e1<;>subst e3
   ·exact sd.one .Xa rfl (.lit c []) rfl rfl (λm=> .bh c _ (.inl rfl)) .Xa
   ·exact sd.one (.Ef) rfl (.lit c []) rfl rfl (λm=> .bh c _ (.inr rfl)) (.Ef a)
   ·exact sd.one (.lit (width c) []) rfl (.lit c []) rfl rfl (λm=> .lit c [] [] rfl (λi row h=>by simp at h) (λi row k x a h=>by simp at h))
     (.lit [] a cap (width c) (λ_ _=>undef) hs (Ac _) (λh=>absurd rfl h) (λi row h=>by simp at h) (λi c h=>by simp at h) (λi c h=>by simp at h) (λi row c x h=>by simp at h))
  ·obtain⟨b,o,e,h2,h3,h4,h5,h6⟩:=h1 hl;subst e;exact sd.mk rfl h2 (show b<w.heap.size by omega) λi x hx=>by
    obtain⟨ds,k1,k2,k3⟩:=h6 i x hx;exact⟨ds,At.cells hh c x ds k1,k3⟩
 | .pair a b,(x,y),cs,⟨h1,h2⟩=>by
  have:=(At.cells hh a x _ h1).pair (At.cells hh b y _ h2)
  rwa [List.take_append_drop]at this
def alB:CT->Bool
 | .slice c=>OI c&&alB c
 | .pair a b=>alB a&&alB b
 |_=>true
theorem qn[Inhabited V.Rn]{lo:Nat}{w:World}{g:V.Gx}(hz:∀R,g.Z R->V.q9 w R)(hn:∀R,¬V.nN R->¬V.nO R/\lo<=R):∀(c:CT)(x:Ib c)(cs:List Value),alB c=true->sd g w c x cs->At lo w.heap.size w c x cs
 | .bool,b,cs,_,h=>by
  obtain⟨h1,h2,ar,h3,h4,h5⟩:=h;rcases cs with _|⟨v,_|⟨v2,rest⟩⟩<;>simp[width]at h1
  rcases ar with _|⟨a,_|⟨a2,rest⟩⟩<;>simp at h4
  have hv:=h5 0 a v rfl rfl;have hr:=(h3 ⟨λ_ _=>none,λ_ _=>0,0⟩).2 0 _ a rfl rfl;cases hr;cases hv;rfl
 | .int k,b,cs,_,h=>by
  obtain⟨h1,h2,ar,h3,h4,h5⟩:=h;rcases cs with _|⟨v,_|⟨v2,rest⟩⟩<;>simp[width]at h1
  rcases ar with _|⟨a,_|⟨a2,rest⟩⟩<;>simp at h4
  have hv:=h5 0 a v rfl rfl;have hr:=(h3 ⟨λ_ _=>none,λ_ _=>0,0⟩).2 0 _ a rfl rfl;cases hr;cases hv;rfl
 | .str,b,cs,_,h=>by
  obtain⟨h1,h2,ar,h3,h4,h5⟩:=h;rcases cs with _|⟨v,_|⟨v2,rest⟩⟩<;>simp[width]at h1
  rcases ar with _|⟨a,_|⟨a2,rest⟩⟩<;>simp at h4
  have hv:=h5 0 a v rfl rfl;have hr:=(h3 ⟨λ_ _=>none,λ_ _=>0,0⟩).2 0 _ a rfl rfl;cases hr;cases hv;rfl
 | .slice c,l,cs,hc,h=>by
  simp only[alB,Ab]at hc;obtain⟨p,cap,e,h0,h1⟩:=h.slice;refine⟨p,cap,e,h0,λtd=> ?_⟩;obtain⟨a,rfl,ha⟩:=h1 td;have hZ:=hz _ ha.Z;obtain⟨hO,hN⟩:=hn _ (ha.N hc.1);obtain⟨Ei,T,fz,hb,Tn⟩:=hZ.2 hO;have qg:=ha.spot;obtain⟨b,o,s⟩:=a;simp only at qg hb hN;subst qg;refine⟨b,o,rfl,ha.cap,hN,hZ.1,λj hj=> ?_,λi x hx=> ?_⟩
  ·have hw:=Wn c;have hi:j/width c<l.length:=Nat.div_lt_of_lt_mul (by rwa [Nat.mul_comm]at hj);obtain⟨ds,k1,k2⟩:=ha.row _ _ (Da hi);have hm:=Nat.mod_lt j hw;have hds:j%width c<ds.length:=by have:=k1.1;omega
   have:=k2 _ _ (Da hds);have e:o+j/width c * width c+j%width c=o+j:=by rw[Zf,Nat.div_add_mod']
   simp only[e]at this;have Mc:o+j<Ei.size:=by
    simp only[World.cell?,hb]at this;exact Za (by simpa using this)
   refine⟨by rw[this];rfl,?_⟩;have:=Tn (o+j) Mc;simp only[World.frozen?,hb]
   simpa using this
  ·obtain⟨ds,k1,k2⟩:=ha.row i x hx;exact⟨ds,qn hz hn c x ds hc.2 k1,k1.1,k2⟩
 | .pair a b,(x,y),cs,hc,h=>by
  simp only[alB,Ab]at hc;obtain⟨h1,h2⟩:=h.Tae;exact⟨qn hz hn a x _ hc.1 h1,qn hz hn b y _ hc.2 h2⟩
end Go.U
namespace Go.U
open Go Go.Proofs Go.RowKit
theorem Stood.refl(w:World):Stood w w:=⟨ya _,λ_ _=>rfl,rfl,rfl⟩
theorem Stood.trans{w w1 w2:World}(h:Stood w w1)(h':Stood w1 w2):Stood w w2:=
 ⟨Db h.1 h'.1,λR hR=>(h'.2.1 R (Sa hR h.1)).trans (h.2.1 R hR),h'.2.2.1.trans h.2.2.1,h'.2.2.2.trans h.2.2.2⟩
theorem Stood.alloc(w:World)(ob:Obj):Stood w (w.alloc ob):=⟨by simp,λR hR=>Below.heap_alloc w ob R hR,rfl,rfl⟩
theorem Stood.drew(w:World):Stood w w.drew:=⟨ya _,λ_ _=>rfl,rfl,rfl⟩
theorem Stood.cell[TB:Uv]{w w':World}(h:Stood w w'){b o:Nat}{v:Value}(hc:w.cell? ⟨b,o,none⟩=some v):w'.cell? ⟨b,o,none⟩=some v:=by
 have hb:=(jq hc).2;simp only[World.cell?,h.2.1 b hb]at hc ⊢;exact hc
def gu(w1:World)(B:Nat)(c0 c1 c2 c3 c4 c5 c6 c7:Value):Prop:=w1.cell? ⟨B,0,none⟩=some c0/\w1.cell? ⟨B,1,none⟩=some c1/\w1.cell? ⟨B,2,none⟩=some c2/\w1.cell? ⟨B,3,none⟩=some c3/\
 w1.cell? ⟨B,4,none⟩=some c4/\w1.cell? ⟨B,5,none⟩=some c5/\w1.cell? ⟨B,6,none⟩=some c6/\w1.cell? ⟨B,7,none⟩=some c7
theorem y8[TB:Uv]{w0 w1:World}{c0 c1 c2 c3 c4 c5 c6 c7:Value}{t:TypeId}(h:Stood (w0.alloc (.cells #[c0,c1,c2,c3,c4,c5,c6,c7] t)) w1):gu w1 w0.heap.size c0 c1 c2 c3 c4 c5 c6 c7:=by
 have hb:=heap_alloc_new w0 (.cells #[c0,c1,c2,c3,c4,c5,c6,c7] t);have hc:∀i v,#[c0,c1,c2,c3,c4,c5,c6,c7][i]?=some v->w1.cell? ⟨w0.heap.size,i,none⟩=some v:=λi v hv=>h.cell (by simp only[World.cell?,hb];exact hv)
 exact⟨hc 0 _ rfl,hc 1 _ rfl,hc 2 _ rfl,hc 3 _ rfl,hc 4 _ rfl,hc 5 _ rfl,hc 6 _ rfl,hc 7 _ rfl⟩
theorem gu.on[TB:Uv]{w1 w2:World}{B:Nat}{c0 c1 c2 c3 c4 c5 c6 c7:Value}(h:gu w1 B c0 c1 c2 c3 c4 c5 c6 c7)(hs:Stood w1 w2):gu w2 B c0 c1 c2 c3 c4 c5 c6 c7:=by
 obtain⟨b0,b1,b2,b3,b4,b5,b6,b7⟩:=h;exact⟨hs.cell b0,hs.cell b1,hs.cell b2,hs.cell b3,hs.cell b4,hs.cell b5,hs.cell b6,hs.cell b7⟩
theorem gu.st[TB:Uv]{w w1 w2:World}{B:Nat}{c0 c1 c2 c3 c4 c5 c6 c7:Value}(hs:Stood w1 w2)(h:gu w1 B c0 c1 c2 c3 c4 c5 c6 c7/\Stood w w1):gu w2 B c0 c1 c2 c3 c4 c5 c6 c7/\Stood w w2:=⟨h.1.on hs,h.2.trans hs⟩
theorem gu.Q9{w w2:World}{B:Nat}{c0 c1 c2 c3 c4 c5 c6 c7:Value}(h:gu w2 B c0 c1 c2 c3 c4 c5 c6 c7/\Stood w w2):Stood w w2:=h.2
def sF(w':World)(b o:Nat)(d0 d1 d2:Value)(b' o':Nat)(e0 e1 e2:Value):Prop:=w'.cell? ⟨b,o,none⟩=some d0/\w'.cell? ⟨b,o+1,none⟩=some d1/\w'.cell? ⟨b,o+2,none⟩=some d2/\w'.cell? ⟨b',o',none⟩=some e0/\w'.cell? ⟨b',o'+1,none⟩=some e1/\w'.cell? ⟨b',o'+2,none⟩=some e2
theorem sF.st[TB:Uv]{w w1 w2:World}{b o b' o':Nat}{d0 d1 d2 e0 e1 e2:Value}(hs:Stood w1 w2)(h:sF w1 b o d0 d1 d2 b' o' e0 e1 e2/\Stood w w1):sF w2 b o d0 d1 d2 b' o' e0 e1 e2/\Stood w w2:=by
 obtain⟨⟨a0,a1,a2,a3,a4,a5⟩,h⟩:=h;exact⟨⟨hs.cell a0,hs.cell a1,hs.cell a2,hs.cell a3,hs.cell a4,hs.cell a5⟩,h.trans hs⟩
theorem sF.Q9{w w2:World}{b o b' o':Nat}{d0 d1 d2 e0 e1 e2:Value}(h:sF w2 b o d0 d1 d2 b' o' e0 e1 e2/\Stood w w2):Stood w w2:=h.2
def TK(b:Bool)(w:World)(e:Ending)(w':World):Prop:=e= .returned (.bool b)/\Stood w w'
variable [TB:Uv]
def New(cM:CT)(P:List (Ib cM))(w:World)(e:Ending)(w':World):Prop:=∃p cap,e= .returned (.slice p P.length cap)/\Stood w w'/\At w.heap.size w'.heap.size w' (.slice cM) P [.slice p P.length cap]
def Inn(lo hi:Nat)(w:World)(p:Option Addr)(n:Nat):Prop:=Wr lo hi w p n/\∀b o,p=some ⟨b,o,none⟩->∀i,i<n->∃x y z,w.cell? ⟨b,o+i * 3,none⟩=some (.bool x)/\w.cell? ⟨b,o+i * 3+1,none⟩=some (.int .i64 y)/\w.cell? ⟨b,o+i * 3+2,none⟩=some (.int .i64 z)
def Uab(p:Option Addr)(n:Nat)(b o:Nat):Prop:=∃o3 i j,p=some ⟨b,o3,none⟩/\i<n/\j<3/\o=o3+i * 3+j
theorem Inn.out{lo hi:Nat}{w:World}{p q:Option Addr}{m n:Nat}(h:Inn lo hi w p m)
  (hr:∀b o i,q=some ⟨b,o,none⟩->i<n->∃x p1 n1 k1 p2 n2 k2,w.cell? ⟨b,o+i * 3,none⟩=some (.bool x)/\w.cell? ⟨b,o+i * 3+1,none⟩=some (.slice p1 n1 k1)/\w.cell? ⟨b,o+i * 3+2,none⟩=some (.slice p2 n2 k2)):Out (Uab q n) p m:=by
 rintro b o e j hj ⟨o3,i,j',e',hi,pS,ej⟩
 obtain⟨x,y,z,h0,h1,h2⟩:=h.2 b o e (j/3) (by omega);obtain⟨x',p1,n1,k1,p2,n2,k2,g0,g1,g2⟩:=hr b o3 i e' hi;have hd:j=j/3 * 3+j%3:=by omega
 have hm:j%3=0\/j%3=1\/j%3=2:=by omega
 have dz:j'=0\/j'=1\/j'=2:=by omega
 generalize hA:o+j/3 * 3=A at h0 h1 h2;generalize hB:o3+i * 3=B at g0 g1 g2;rcases hm with hm|hm|hm<;>rcases dz with rfl|rfl|rfl
 ·have:A=B:=by omega
  subst this;rw[h1]at g1;cases g1
 ·have:A=B+1:=by omega
  subst this;rw[h0]at g1;cases g1
 ·have:A=B+2:=by omega
  subst this;rw[h0]at g2;cases g2
 ·have:A+1=B:=by omega
  subst this;rw[h1]at g0;cases g0
 ·have:A+1=B+1:=by omega
  rw[this,g1]at h1;cases h1
 ·have:A+1=B+2:=by omega
  rw[this,g2]at h1;cases h1
 ·have:A+2=B:=by omega
  subst this;rw[h2]at g0;cases g0
 ·have:A+2=B+1:=by omega
  rw[this,g1]at h2;cases h2
 ·have:A+2=B+2:=by omega
  rw[this,g2]at h2;cases h2
theorem gu.Mk{lo hi:Nat}{X:Nat->Nat->Prop}{w1 w2:World}{B:Nat}{c0 c1 c2 c3 c4 c5 c6 c7:Value}(h:gu w1 B c0 c1 c2 c3 c4 c5 c6 c7)(hs:JB lo hi X w1 w2)(hB:B<lo):gu w2 B c0 c1 c2 c3 c4 c5 c6 c7:=by
 have e:∀o,w2.cell? ⟨B,o,none⟩=w1.cell? ⟨B,o,none⟩:=λo=>by simp only[World.cell?,hs.Mk B (jq h.1).2 (.inl hB)]
 obtain⟨b0,b1,b2,b3,b4,b5,b6,b7⟩:=h;exact⟨(e 0).trans b0,(e 1).trans b1,(e 2).trans b2,(e 3).trans b3,(e 4).trans b4,(e 5).trans b5,(e 6).trans b6,(e 7).trans b7⟩
theorem Stood.spd{lo hi:Nat}{X:Nat->Nat->Prop}{w w1 w2:World}(h:Stood w w1)(hs:JB lo hi X w1 w2)(hl:w.heap.size<=lo):Stood w w2:=
 ⟨Db h.1 hs.size,λR hR=>(hs.Mk R (Sa hR h.1) (.inl (by omega))).trans (h.2.1 R hR),hs.io.1.trans h.2.2.1,hs.io.2.trans h.2.2.2⟩
structure F5(w0:World)(v0 v1:Value)(cM:CT)(P:List (Ib cM)):Prop where
 fit:∀w,Stood w0 w->Calls Tryz.prog 10 #[v0] w (TK true w)
 fits:∀w,Stood w0 w->Calls Tryz.prog 20 #[v0,v1] w (TK true w)
 sol:∀w,Stood w0 w->Calls Tryz.prog 21 #[v0] w (New cM P w)
 tal:∀w,Stood w0 w->Calls Tryz.prog 22 #[v0] w (New cM P w)
 eq:∀w lo hi lo' BA x d0 d1 d2 e0 e1 e2,Stood w0 w->hi<=w.heap.size->BA<=w.heap.size->x∈P->At lo hi w cM x [d0,d1,d2]->At lo' BA w cM x [e0,e1,e2]->Calls Tryz.prog 17 #[.agg #[d0,d1,d2],.agg #[e0,e1,e2]] w (TK true w)
 JU:∀w,Stood w0 w->Calls Tryz.prog 12 #[] w (TK true w)
 len:P.length<=65536
 inn:∀lo hi w x d0 d1 d2,x∈P->At lo hi w cM x [d0,d1,d2]->∃b p1 n1 k1 p2 n2 k2,d0= .bool b/\d1= .slice p1 n1 k1/\d2= .slice p2 n2 k2/\n1<=64/\n2<=64/\Inn lo hi w p1 n1/\Inn lo hi w p2 n2
 ind:∃b,(∀w,Stood w0 w->Calls Tryz.prog 23 #[v0,v1] w (TK b w))/\∀w,Stood w0 w->Calls Tryz.prog 24 #[v0,v1] w (TK b w)
theorem My{cM:CT}{lo hi:Nat}{w:World}{P:List (Ib cM)}{p:Option Addr}{cap k:Nat}(hw:width cM=3)(h:At lo hi w (.slice cM) P [.slice p P.length cap])(hk:k<P.length):
  ∃b o d0 d1 d2,p=some ⟨b,o,none⟩/\P.length<=cap/\w.cell? ⟨b,o+k * 3,none⟩=some d0/\w.cell? ⟨b,o+k * 3+1,none⟩=some d1/\w.cell? ⟨b,o+k * 3+2,none⟩=some d2/\At lo hi w cM P[k] [d0,d1,d2]/\lo<=b/\b<hi:=by
 obtain⟨p',mG,e,_,h1⟩:=h;injection e with e;injection e with e1 e2 e3;subst e1;subst e3
 obtain⟨b,o,rfl,h2,h3,h4,h5,h6⟩:=h1 (by rintro rfl;simp at hk);obtain⟨ds,k1,k2,k3⟩:=h6 k _ (Da hk);rw[hw]at k2 k3
 match ds,k2 with
 |[d0,d1,d2],_=>exact⟨b,o,d0,d1,d2,rfl,h2,k3 0 _ rfl,k3 1 _ rfl,k3 2 _ rfl,k1,h3,h4⟩
set_option maxRecDepth 100000 in
set_option maxHeartbeats 2000000 in
theorem O_{cM:CT}{P:List (Ib cM)}(w0:World)(c0 c1 c2 c3 c4 c5 c6 c7 v1:Value)(hw3:width cM=3)(F:F5 w0 (.agg #[c0,c1,c2,c3,c4,c5,c6,c7]) v1 cM P)
  (o0:c0.oneCell'=true) (o1:c1.oneCell'=true) (o2:c2.oneCell'=true) (o3:c3.oneCell'=true) (o4:c4.oneCell'=true) (o5:c5.oneCell'=true) (o6:c6.oneCell'=true) (o7:c7.oneCell'=true):
  Calls Tryz.prog 5 #[.agg #[c0,c1,c2,c3,c4,c5,c6,c7],v1] w0 λe w'=>e= .returned (.bool true)/\Stood w0 w':=by
 obtain⟨bi,Daq,Caq⟩:=F.ind;have hL:=F.len
 go_enter Tryz.func5,Tryz.ntmps5
 go_wp2_with fail
 refine(F.fit _ (Stood.alloc _ _)).mono ?_
 rintro e w1 ⟨rfl,B_⟩
 have B1:=y8 B_;have T1:=(Stood.alloc w0 _).trans B_;clear B_;have⟨b0,b1,b2,b3,b4,b5,b6,b7⟩:=B1
 go_wp2_with fail
 refine(F.fits _ T1).mono ?_
 rintro e w2 ⟨rfl,hS2⟩
 have B2:=B1.on hS2;have T2:=T1.trans hS2;have hB2:=(jq B2.1).2;clear hS2 b0 b1 b2 b3 b4 b5 b6 b7 B1 T1;have⟨b0,b1,b2,b3,b4,b5,b6,b7⟩:=B2
 go_wp2_with fail
 refine(F.sol _ T2).mono ?_
 rintro e w3 ⟨p3,k3,rfl,hS3,A3⟩
 have B3:=B2.on hS3;have T3:=T2.trans hS3;clear hS3 b0 b1 b2 b3 b4 b5 b6 b7 B2;have⟨b0,b1,b2,b3,b4,b5,b6,b7⟩:=B3
 go_wp2_with fail
 refine(F.tal _ T3).mono ?_
 rintro e w4 ⟨p4,k4,rfl,hS4,A4⟩
 have B4:=B3.on hS4;have T4:=T3.trans hS4;clear b0 b1 b2 b3 b4 b5 b6 b7 B3;have⟨b0,b1,b2,b3,b4,b5,b6,b7⟩:=B4
 go_wp2_with fail
 have H0:gu w4.drew w0.heap.size c0 c1 c2 c3 c4 c5 c6 c7/\Stood w4 w4.drew:=⟨B4,Stood.drew w4⟩
 go_region_held3 (λw'=>(w'.cell? ⟨w0.heap.size,0,none⟩=some c0/\w'.cell? ⟨w0.heap.size,1,none⟩=some c1/\w'.cell? ⟨w0.heap.size,2,none⟩=some c2/\w'.cell? ⟨w0.heap.size,3,none⟩=some c3/\w'.cell? ⟨w0.heap.size,4,none⟩=some c4/\w'.cell? ⟨w0.heap.size,5,none⟩=some c5/\w'.cell? ⟨w0.heap.size,6,none⟩=some c6/\w'.cell? ⟨w0.heap.size,7,none⟩=some c7)/\Stood w4 w')
  (first|exact H0|exact gu.st n9 (by assumption))
  (first
   |(go_at_call 23;refine(Daq _ (T4.trans (And.right (by assumption)))).mono ?_;rintro e w' ⟨rfl,n9⟩)
   |(go_at_call 24;refine(Caq _ (T4.trans (And.right (by assumption)))).mono ?_;rintro e w' ⟨rfl,n9⟩))
 all_goals go_wp2_with fail
 clear H0 b0 b1 b2 b3 b4 b5 b6 b7
 go_loopw [7] (λi wr=>∃k:Nat,k<=P.length/\i= .int .i64 k/\Stood w4 wr) (λi _=>P.length-(intOf i).toNat)
 case atStart=>exact⟨0,Ac _,rfl,gu.Q9 (B:=w0.heap.size) (c0:=c0) (c1:=c1) (c2:=c2) (c3:=c3) (c4:=c4) (c5:=c5) (c6:=c6) (c7:=c7) (by assumption)⟩
 case round=>
  obtain⟨k,hk,rfl,hs⟩:=hrel;by_cases Mc:k<P.length
  ·obtain⟨b3,o3,d0,d1,d2,rfl,r0,r1,r2,r3,r4,r5⟩:=My hw3 (A3.keep (λR h1 h2=>(hS4.trans hs).2.1 R h2)) Mc;obtain⟨b4,o4,e0,e1,e2,rfl,q0,q1,q2,q3,q4,q5⟩:=My hw3 (A4.keep (λR h1 h2=>hs.2.1 R h2)) Mc;have dY:(0:Int)<=(k:Int):=Vl _;have b9:(k:Int)<(P.length:Int):=by omega
   have EQ:∀w',Stood wr w'->Calls Tryz.prog 17 #[.agg #[d0,d1,d2],.agg #[e0,e1,e2]] w' (TK true w'):=λw' h=>
    F.eq w' _ _ _ _ _ _ _ _ _ _ _ (T4.trans (hs.trans h)) (Db (hS4.trans hs).1 h.1) (Db hs.1 h.1) (JF Mc) (r4.keep λR _ h2=>h.2.1 R (Sa h2 (hS4.trans hs).1)) (q4.keep λR _ h2=>h.2.1 R (Sa h2 hs.1))
   go_wp2_with fail
   have H0:sF wr.drew b3 (o3+k * 3) d0 d1 d2 b4 (o4+k * 3) e0 e1 e2/\Stood wr wr.drew:=⟨⟨r1,r2,r3,q1,q2,q3⟩,Stood.drew _⟩
   go_region_held3 (λw'=>(w'.cell? ⟨b3,o3+k * 3,none⟩=some d0/\w'.cell? ⟨b3,o3+k * 3+1,none⟩=some d1/\w'.cell? ⟨b3,o3+k * 3+2,none⟩=some d2/\w'.cell? ⟨b4,o4+k * 3,none⟩=some e0/\w'.cell? ⟨b4,o4+k * 3+1,none⟩=some e1/\w'.cell? ⟨b4,o4+k * 3+2,none⟩=some e2)/\Stood wr w')
    (first|exact H0|exact sF.st n9 (by assumption))
    (first
     |(go_at_call 17;refine(EQ _ (And.right (by assumption))).mono ?_;rintro e w' ⟨rfl,n9⟩))
   go_wp2_with fail
   go_roundw
   case rel=>exact⟨k+1,by omega,by go_num,hs.trans (sF.Q9 (b:=b3) (o:=o3+k * 3) (d0:=d0) (d1:=d1) (d2:=d2) (b':=b4) (o':=o4+k * 3) (e0:=e0) (e1:=e1) (e2:=e2) (by assumption))⟩
   case measure=>simp[intOf];omega
  ·have gD:¬(k:Int)<(P.length:Int):=by omega
   obtain⟨wA,rfl⟩:∃wA:World,wA=wr:=⟨_,rfl⟩;have A3':=A3.keep λR _ h2=>(hS4.trans hs).2.1 R h2
   clear A3;have TA:=T4.trans hs;have h34:=hS4.1;have hA3:=(hS4.trans hs).1;have hA4:=hs.1;clear hk Mc
   go_wp2_with fail
   clear gD
   go_loopw [8] (λi wr=>∃k:Nat,k<=P.length/\i= .int .i64 k/\JB w2.heap.size w3.heap.size (Uab p3 P.length) wA wr) (λi _=>P.length-(intOf i).toNat)
   case atStart=>exact⟨0,Ac _,rfl,JB.refl _ _ _ _⟩
   case round=>
    obtain⟨k,hk,rfl,hp⟩:=hrel;by_cases Mc:k<P.length
    ·have de:∀b o i,p3=some ⟨b,o,none⟩->i<P.length->∃x p1 n1 k1 p2 n2 k2,wA.cell? ⟨b,o+i * 3,none⟩=some (.bool x)/\wA.cell? ⟨b,o+i * 3+1,none⟩=some (.slice p1 n1 k1)/\wA.cell? ⟨b,o+i * 3+2,none⟩=some (.slice p2 n2 k2):=λb o i e hi=>by
      obtain⟨b',o',d0,d1,d2,e',r0,r1,r2,r3,r4,_⟩:=My hw3 A3' hi;obtain⟨x,p1,n1,k1,p2,n2,k2,rfl,rfl,rfl,_⟩:=F.inn _ _ _ _ _ _ _ (JF hi) r4;rw[e]at e';injection e' with e';injection e' with e1 e2;subst e1;subst e2
      exact⟨x,p1,n1,k1,p2,n2,k2,r1,r2,r3⟩
     obtain⟨b3,o3,d0,d1,d2,e3,r0,r1,r2,r3,r4,r5,r6⟩:=My hw3 A3' Mc;obtain⟨xb,p1,n1,k1,p2,n2,k2,rfl,rfl,rfl,l1,l2,i1,i2⟩:=F.inn _ _ _ _ _ _ _ (JF Mc) r4;have q1:=i1.out de;have q2:=i2.out de;clear de;subst e3;have hb3:b3<wA.heap.size:=Sa r6 hA3;have g1:wr.cell? ⟨b3,o3+k * 3,none⟩=some (.bool xb):=(hp.keep b3 (o3+k * 3) hb3 ⟨o3,k,0,rfl,Mc,by omega,rfl⟩).trans r1;have g2:wr.cell? ⟨b3,o3+k * 3+1,none⟩=some (.slice p1 n1 k1):=(hp.keep b3 (o3+k * 3+1) hb3 ⟨o3,k,1,rfl,Mc,by omega,rfl⟩).trans r2;have g3:wr.cell? ⟨b3,o3+k * 3+2,none⟩=some (.slice p2 n2 k2):=(hp.keep b3 (o3+k * 3+2) hb3 ⟨o3,k,2,rfl,Mc,by omega,rfl⟩).trans r3;have SP:∀w',JB w2.heap.size w3.heap.size (Uab (some ⟨b3,o3,none⟩) P.length) wA w'->Calls Tryz.prog 18 #[.agg #[.bool xb,.slice p1 n1 k1,.slice p2 n2 k2]] w' λe w''=>e= .returned (.tuple #[])/\JB w2.heap.size w3.heap.size (Uab (some ⟨b3,o3,none⟩) P.length) w' w'':=λw' h=>
      eV xb p1 p2 n1 k1 n2 k2 w' (Db hA3 h.size) (i1.1.mono h hA3) (i2.1.mono h hA3) l1 l2 q1 q2
     clear r1 r2 r3 r4 i1 i2 q1 q2 l1 l2;have dY:(0:Int)<=(k:Int):=Vl _;have b9:(k:Int)<(P.length:Int):=by omega
     go_wp2_with fail
     refine(SP _ hp).mono ?_
     rintro e w' ⟨rfl,bz⟩
     go_wp2_with fail
     go_roundw
     case rel=>exact⟨k+1,by omega,by go_num,hp.trans bz⟩
     case measure=>simp[intOf];omega
    ·have gD:¬(k:Int)<(P.length:Int):=by omega
     have BR:gu wr w0.heap.size c0 c1 c2 c3 c4 c5 c6 c7:=((B4.on hs).Mk hp hB2);have TR:=Stood.spd TA hp (js hB2);have A4':=(A4.keep λR _ h2=>hs.2.1 R h2).keep λR h1 h2=>hp.Mk R (Sa h2 hA4) (.inr h1)
     have h4R:=Db hA4 hp.size;clear hk Mc;have⟨b0,b1,b2,b3,b4,b5,b6,b7⟩:=BR
     go_wp2_with fail
     refine(F.sol _ TR).mono ?_
     rintro e w5 ⟨p5,k5,rfl,hS5,A5⟩
     have T5:=TR.trans hS5;clear b0 b1 b2 b3 b4 b5 b6 b7 gD
     go_wp2_with fail
     go_loopw [9] (λi wr=>∃k:Nat,k<=P.length/\i= .int .i64 k/\Stood w5 wr) (λi _=>P.length-(intOf i).toNat)
     case atStart=>exact⟨0,Ac _,rfl,Stood.refl _⟩
     case round=>
      clear hs hp;obtain⟨k,hk,rfl,hs⟩:=hrel;by_cases Mc:k<P.length
      ·obtain⟨b3,o3,d0,d1,d2,rfl,r0,r1,r2,r3,r4,r5⟩:=My hw3 (A5.keep (λR h1 h2=>hs.2.1 R h2)) Mc;obtain⟨b4,o4,e0,e1,e2,rfl,q0,q1,q2,q3,q4,q5⟩:=My hw3 (A4'.keep (λR h1 h2=>(hS5.trans hs).2.1 R (Sa h2 h4R))) Mc;have dY:(0:Int)<=(k:Int):=Vl _;have b9:(k:Int)<(P.length:Int):=by omega
       have EQ:∀w',Stood wr w'->Calls Tryz.prog 17 #[.agg #[d0,d1,d2],.agg #[e0,e1,e2]] w' (TK true w'):=λw' h=>
        F.eq w' _ _ _ _ _ _ _ _ _ _ _ (T5.trans (hs.trans h)) (Db hs.1 h.1) (Db h4R (Db (hS5.trans hs).1 h.1)) (JF Mc) (r4.keep λR _ h2=>h.2.1 R (Sa h2 hs.1)) (q4.keep λR _ h2=>h.2.1 R (Sa h2 (Db h4R (hS5.trans hs).1)))
       go_wp2_with fail
       have H0:sF wr.drew b3 (o3+k * 3) d0 d1 d2 b4 (o4+k * 3) e0 e1 e2/\Stood wr wr.drew:=⟨⟨r1,r2,r3,q1,q2,q3⟩,Stood.drew _⟩
       go_region_held3 (λw'=>(w'.cell? ⟨b3,o3+k * 3,none⟩=some d0/\w'.cell? ⟨b3,o3+k * 3+1,none⟩=some d1/\w'.cell? ⟨b3,o3+k * 3+2,none⟩=some d2/\w'.cell? ⟨b4,o4+k * 3,none⟩=some e0/\w'.cell? ⟨b4,o4+k * 3+1,none⟩=some e1/\w'.cell? ⟨b4,o4+k * 3+2,none⟩=some e2)/\Stood wr w')
        (first|exact H0|exact sF.st n9 (by assumption))
        (first
         |(go_at_call 17;refine(EQ _ (And.right (by assumption))).mono ?_;rintro e w' ⟨rfl,n9⟩))
       go_wp2_with fail
       go_roundw
       case rel=>exact⟨k+1,by omega,by go_num,hs.trans (sF.Q9 (b:=b3) (o:=o3+k * 3) (d0:=d0) (d1:=d1) (d2:=d2) (b':=b4) (o':=o4+k * 3) (e0:=e0) (e1:=e1) (e2:=e2) (by assumption))⟩
       case measure=>simp[intOf];omega
      ·have gD:¬(k:Int)<(P.length:Int):=by omega
       have TF:=T5.trans hs
       go_wp2_with fail
       refine(F.JU _ TF).mono ?_
       rintro e w6 ⟨rfl,hS6⟩
       go_wp2_with fail
       go_ret
       exact⟨rfl,TF.trans hS6⟩
set_option maxRecDepth 100000 in
theorem kT(w0:World)(c0 c1 c2 c3 c4 c5 c6 c7 v1:Value)(b:Bool)(h1:∀w,Stood w0 w->Calls Tryz.prog 10 #[.agg #[c0,c1,c2,c3,c4,c5,c6,c7]] w (TK b w))(h2:b=true->∀w,Stood w0 w->Calls Tryz.prog 20 #[.agg #[c0,c1,c2,c3,c4,c5,c6,c7],v1] w (TK false w))
  (h3:∀w,Stood w0 w->Calls Tryz.prog 12 #[] w (TK true w))
  (o0:c0.oneCell'=true) (o1:c1.oneCell'=true) (o2:c2.oneCell'=true) (o3:c3.oneCell'=true) (o4:c4.oneCell'=true) (o5:c5.oneCell'=true) (o6:c6.oneCell'=true) (o7:c7.oneCell'=true):
  Calls Tryz.prog 5 #[.agg #[c0,c1,c2,c3,c4,c5,c6,c7],v1] w0 λe w'=>e= .returned (.bool true)/\Stood w0 w':=by
 cases b with
 |false=>
  clear h2
  go_enter Tryz.func5,Tryz.ntmps5
  go_wp2_with fail
  refine(h1 _ (Stood.alloc _ _)).mono ?_
  rintro e w1 ⟨rfl,B_⟩
  have T1:=(Stood.alloc w0 _).trans B_
  go_wp2_with fail
  refine(h3 _ T1).mono ?_
  rintro e w2 ⟨rfl,hS2⟩
  go_wp2_with fail
  go_ret
  exact⟨rfl,T1.trans hS2⟩
 |true=>
  have H2:=h2 rfl;clear h2
  go_enter Tryz.func5,Tryz.ntmps5
  go_wp2_with fail
  refine(h1 _ (Stood.alloc _ _)).mono ?_
  rintro e w1 ⟨rfl,B_⟩
  have⟨b0,b1,b2,b3,b4,b5,b6,b7⟩:=y8 B_;have T1:=(Stood.alloc w0 _).trans B_;clear B_
  go_wp2_with fail
  refine(H2 _ T1).mono ?_
  rintro e w2 ⟨rfl,hS2⟩
  go_wp2_with fail
  refine(h3 _ (T1.trans hS2)).mono ?_
  rintro e w3 ⟨rfl,hS3⟩
  go_wp2_with fail
  go_ret
  exact⟨rfl,(T1.trans hS2).trans hS3⟩
end Go.U
