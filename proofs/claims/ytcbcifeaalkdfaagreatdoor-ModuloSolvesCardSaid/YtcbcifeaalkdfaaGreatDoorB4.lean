/- A second evaluator, over rows of Lean values, and that it is right over the first. -/
import Derived.Test.YtcbcifeaalkdfaaGreatDoorB3
import Derived.Test.YtcbcifeaalkdfaaGreatDoorA4
import Derived.Test.YtcbcifeaalkdfaaGreatDoorA5
import Derived.ChangeShapes
import Derived.ChangeReads
import Derived.ChangeOld
import Derived.ChangeStays
import Derived.ChangeSame
import Derived.RowKit3
import Derived.Lib.LaidTab
set_option linter.unusedVariables false
set_option linter.unusedSimpArgs false
set_option linter.unusedSectionVars false
open Array renaming getElem?_eq_none→wF,length_toList→Gf
open Bool renaming and_eq_true→Ab
open ByteArray renaming data_append→Cy
open Classical renaming axiomOfChoice→Bs
open List renaming map_cons→He,mem_append→jh,getElem?_append_left→Ja,getElem?_append_right→Oa,range→mb,mem_cons_self→Dd,take_of_length_le→Rf,mem_cons_of_mem→Rb,getElem?_eq_none→Nb,mem_cons→me,length_map→Qh,mem_append_left→we,mem_of_getElem?→Eb,length_eq_zero_iff→Gb,getElem?_eq_getElem→Da,getD_eq_getElem?_getD→Fb,mem_append_right→Bq,getElem?_cons_succ→Zi,all_eq_true→ec,length_singleton→nc
open Nat renaming lt_or_ge→dc,add_zero→ug,succ_mul→Lj,zero_le→Ac,le_trans→Db,le_refl→ya
open Option renaming bind_eq_some_iff→aa,map_eq_some_iff→ja,map_some→Yd,bind_some→da
open Option.some renaming injEq→Wc
namespace Go.U
open Go
variable [TB:Uv]
def csz:CT->Nat
 | .bool=>1
 | .int _=>8
 | .str=>16
 | .slice _=>24
 | .pair a b=>csz a+csz b
def rI(S:Nat):(c:CT)->Ib c->Prop
 | .bool=>λ_=>True
 | .int k=>λ(n:Int)=>k.min<=n/\n<=k.max
 | .str=>λ(s:ByteArray)=>s.size<=S
 | .slice c=>λ(l:List (Ib c))=>(l.length<=S/\l.length * csz c<=reachBytes)/\∀x∈l,rI S c x
 | .pair a b=>λ(x:Ib a×Ib b)=>rI S a x.1/\rI S b x.2
def Q8:Nat->CT->Option CT
 |0,_=>none
 |1,c=>some c
 |n+2,c=>(Q8 (n+1) c).map (CT.pair c)
def CG(P:Program):Nat->List (Field×Option CT)->Option CT
 |_,[]=>none
 |o,[f]=>f.2.bind λc=>if f.1.offset=o/\P.cellsOf f.1.type=width c then some c else none
 |o,f::f'::fs=>f.2.bind λc=>if f.1.offset=o/\P.cellsOf f.1.type=width c then(CG P (o+width c) (f'::fs)).map (CT.pair c)else none
def Pm(P:Program):Nat->TypeId->Option CT
 |0,_=>none
 |d+1,t=>
  match P.underlying t with
  |some .bool=>some .bool
  |some (.int k)=>some (.int k)
  |some .string=>some .str
  |some (.slice e)=>(Pm P d e).bind λc=>if P.cellsOf e=width c/\csz c<=P.bytesOf e then some (.slice c)else none
  |some (.struct fs)=>(CG P 0 (fs.toList.map λf=>(f,Pm P d f.type))).bind λc=>if P.cellsOf t=width c then some c else none
  |some (.array n e)=>(Pm P d e).bind λc=>if P.cellsOf e=width c then(Q8 n c).bind λc'=>if P.cellsOf t=width c' then some c' else none else none
  |_=>none
def PF(P:Program)(d o:Nat)(fs:List Field):Option CT:=CG P o (fs.map λf=>(f,Pm P d f.type))
theorem WK{P:Program}{d o:Nat}:PF P d o []=none:=by simp only[PF,List.map_nil,He,CG]
theorem bw{P:Program}{d o:Nat}{f:Field}:PF P d o [f]=(Pm P d f.type).bind λc=>if f.offset=o/\P.cellsOf f.type=width c then some c else none:=by simp only[PF,List.map_nil,He,CG]
theorem Gs{P:Program}{d o:Nat}{f f':Field}{fs:List Field}:PF P d o (f::f'::fs)=(Pm P d f.type).bind λc=>if f.offset=o/\P.cellsOf f.type=width c then(PF P d (o+width c) (f'::fs)).map (CT.pair c)else none:=by simp only[PF,List.map_nil,He,CG]
theorem Wn:∀c,0<width c
 | .bool| .int _| .str| .slice _=>Nat.one_pos
 | .pair a b=>by have:=Wn a;simp only[width];omega
theorem Ep{α β:Type}{f:α->Option β}{a:α}{l:List α}{r:List β}(h:(a::l).mapM f=some r):∃b r',f a=some b/\l.mapM f=some r'/\r=b::r':=by
 simp only[List.mapM_cons,Option.bind_eq_bind,aa,Option.pure_def,Wc]at h;obtain⟨b,hb,r',hr,rfl⟩:=h;exact⟨b,r',hb,hr,rfl⟩
theorem Cw{α β:Type}{f:α->Option β}:∀{l:List α}{r:List β},l.mapM f=some r->r.length=l.length/\∀(i:Nat)(a:α),l[i]?=some a->∃b,r[i]?=some b/\f a=some b
 |[],r,h=>by simp at h;subst h;exact⟨rfl,λi a ha=>by simp at ha⟩
 |x::l,r,h=>by
  obtain⟨b,r',hb,hr,rfl⟩:=Ep h;obtain⟨h1,h2⟩:=Cw hr;refine⟨by simp[h1],λi a ha=> ?_⟩;cases i with
  |zero=>simp at ha;subst ha;exact⟨b,rfl,hb⟩
  |succ i=>simp at ha;simpa using h2 i a ha
def sd[Inhabited V.Rn](g:V.Gx)(w:World)(c:CT)(x:Ib c)(cs:List Value):Prop:=
 cs.length=width c/\(∀v∈cs,v.oneCell'=true)/\∃ as:List V.AV,(∀m,RL m (enc c x) as)/\as.length=cs.length/\∀(i:Nat)(a:V.AV)(v:Value),as[i]?=some a->cs[i]?=some v->V.Cb g w a v
theorem sd.pair[Inhabited V.Rn]{g:V.Gx}{w:World}{a b:CT}{x:Ib a}{y:Ib b}{cs ds:List Value}(h:sd g w a x cs)(h':sd g w b y ds):sd g w (.pair a b) (x,y) (cs++ds):=by
 obtain⟨h1,h2,as,h3,h4,h5⟩:=h;obtain⟨k1,k2,bs,k3,k4,k5⟩:=h';refine⟨by simp[width,h1,k1],λv hv=>(jh.1 hv).elim (h2 v) (k2 v),as++bs,λm=>(h3 m).append (k3 m),by simp[h4,k4],λi p v hp hv=> ?_⟩;rcases dc i as.length with hi|hi
 ·rw[Ja hi]at hp;rw[Ja (by omega)]at hv;exact h5 i p v hp hv
 ·rw[Oa hi]at hp;rw[Oa (by omega),<- h4]at hv;exact k5 _ p v hp hv
theorem sd.one[Inhabited V.Rn]{g:V.Gx}{w:World}{c:CT}{x:Ib c}{v:Value}(a:V.AV)(hw:width c=1)(u:UV)(he:enc c x=[u])(hv:v.oneCell'=true)(hu:∀m,RV m u a)(ha:V.Cb g w a v):sd g w c x [v]:=
 ⟨by simp[hw],λv' h=>by simp at h;subst h;exact hv,[a],λm=>by rw[he];exact RL.cons (hu m) RL.nil,rfl,λi p q hp hq=>by
  cases i with
  |zero=>simp at hp hq;subst hp;subst hq;exact ha
  |succ i=>simp at hp⟩
theorem World.fF{w:World}{base:Nat}{a:Addr}{n:Nat}{cs:List Value}(h:w.cells? base a n=some cs):cs.length=n/\∀i,i<n->∃v,cs[i]?=some v/\w.cell? (a.add i)=some v:=by
 unfold World.cells? at h;split at h
 ·obtain⟨h1,h2⟩:=Cw h;refine⟨by simpa using h1,λi hi=> ?_⟩;obtain⟨b,hb,hc⟩:=h2 i i (by simp[hi]);exact⟨b,hb,hc⟩
 ·simp at h
theorem jq{w:World}{a:Addr}{v:Value}(h:w.cell? a=some v):a.spot=none/\a.block<w.heap.size:=by
 unfold World.cell? at h;split at h
 ·rename_i c T fz hb;split at h
  ·simp at h
  ·rename_i hs;refine⟨by simpa using hs,?_⟩;rcases dc a.block w.heap.size with Mc|vu
   ·exact Mc
   ·simp[wF vu]at hb
 ·simp at h
theorem vN{a:Addr}(ha:a.spot=none)(n:Nat):a.add n=⟨a.block,a.off+n,none⟩:=by
 unfold Addr.add;split
 ·rename_i h;subst h;cases a;simp_all
 ·cases a;simp_all
section
variable {H:Type}{Pn:TypeId×Value->H}{P:Program}{w:World}{g:V.Gx}{S:Nat}{Q:DataW H->Prop}
structure Down(S:Nat)(Q:DataW H->Prop):Prop where
 str:∀b:List UInt8,Q (.lit (.string b))->b.length<=maxLen->b.length<=S
 slice:∀es sp,Q (.slice es sp)->(es.length<=maxLen->es.length<=S)/\∀d∈es,Q d
 agg:∀ps,Q (.agg ps)->∀d∈ps,Q d
theorem T7:Down maxLen (λ_:DataW H=>True):=⟨λ_ _ h=>h,λ_ _ _=>⟨id,λ_ _=>trivial⟩,λ_ _ _ _=>trivial⟩
theorem pV{n:Nat}{c c':CT}{e:TypeId}{cs:List Value}{f:List Value->Option (DataW H×List MemPlace)}
  {wt:DataW H->Prop} (hf:∀cs y,f cs=some y->wt y.1->∃x:Ib c,rI S c x/\sd g w c x cs) (DZ:Q8 n c=some c'):∀(k:Nat)(ys:List (DataW H×List MemPlace)),(∀y∈ys,wt y.1)->cs.length=k * width c+width c'->
  ((mb n).mapM λi=>f ((cs.drop ((k+i) * width c)).take (width c)))=some ys->∃x:Ib c',rI S c' x/\sd g w c' x (cs.drop (k * width c)):=by
 induction n generalizing c' with
 |zero=>simp[Q8]at DZ
 |succ n ih=>
  intro k ys Co hl h;rw[List.range_succ_eq_map]at h;obtain⟨y,ys',h1,h2,rfl⟩:=Ep h;obtain⟨x,aj,jr⟩:=hf _ _ h1 (Co y Dd);cases n with
  |zero=>
   simp only[Q8,Wc]at DZ;subst DZ;refine⟨x,aj,?_⟩;have:(cs.drop ((k+0) * width c)).take (width c)=cs.drop (k * width c):=by
    rw[ug];exact Rf (by simp;omega)
   rw[this]at jr;exact jr
  |succ n=>
   simp only[Q8,ja]at DZ;obtain⟨c2,ZZ,rfl⟩:=DZ;have Fg:cs.length=(k+1) * width c+width c2:=by rw[hl,Lj];simp only[width];omega
   obtain⟨y2,hy1,hy2⟩:=ih ZZ (k+1) ys' (λy hy=>Co y (Rb _ hy)) Fg (by
    rw[List.mapM_map]at h2;rw[<- h2];congr 1;funext i;rw[show k+1+i=k+i.succ by omega];rfl)
   refine⟨(x,y2),⟨aj,hy1⟩,?_⟩;have e:cs.drop (k * width c)=(cs.drop ((k+0) * width c)).take (width c)++cs.drop ((k+1) * width c):=by
    rw[ug,Lj,<- List.drop_drop];exact(List.take_append_drop _ _).symm
   rw[e];exact jr.pair hy2
theorem Ns{α:Type}{Q:Nat->α->Prop}:∀{n:Nat},(∀i,i<n->∃x,Q i x)->∃l:List α,l.length=n/\∀(i:Nat)(x:α),l[i]?=some x->Q i x
 |0,_=>⟨[],rfl,λi x h=>by simp at h⟩
 |n+1,h=>by
  obtain⟨l,h1,h2⟩:=Ns (Q:=Q) (n:=n) λi hi=>h i (by omega)
  obtain⟨x,hx⟩:=h n (by omega);refine⟨l++[x],by simp[h1],λi y hy=> ?_⟩;rcases dc i l.length with hi|hi
  ·rw[Ja hi]at hy;exact h2 i y hy
  ·rw[Oa hi]at hy;have:i-l.length=0:=by
    rcases Nat.eq_zero_or_pos (i-l.length)with e|e
    ·exact e
    ·rw[Nb (by simp;omega)]at hy;simp at hy
   rw[this]at hy;simp at hy;subst hy;have:i=n:=by omega
   subst this;exact hx
def Wt(P:Program)(Q:DataW H->Prop)(t:TypeId)(d:DataW H):Prop:=Q d/\∀b∈d.weights P t,b<=reachBytes
theorem XH{e:TypeId}:∀{l:List (DataW H)},(∀d∈l,Q d)->(∀b∈DataW.weightsAll P e l,b<=reachBytes)->∀d∈l,Wt P Q e d
 |[],_,_,d,hd=>by cases hd
 |x::l,hq,h,d,hd=>by
  simp only[DataW.weightsAll,jh]at h;rcases me.1 hd with rfl|hd
  ·exact⟨hq _ Dd,λb hb=>h b (.inl hb)⟩
  ·exact XH (λd hd=>hq d (Rb _ hd)) (λb hb=>h b (.inr hb)) d hd
theorem Gg(hQ:Down S Q)(hZ:∀R,R<w.heap.size->g.Z R){base:Nat}{held:Bool}{c:CT}{e:TypeId}{t:TypeId}(ht:P.underlying t=some (.slice e))(hw:P.cellsOf e=width c)(eg:csz c<=P.bytesOf e){fuel:Nat}
  (ih:∀{cs:List Value}{y:DataW H×List MemPlace},DataW.trod Pn P w base (λ_=>true) held fuel e cs=some y->Wt P Q e y.1->∃x:Ib c,rI S c x/\sd g w c x cs) {cs:List Value} {y:DataW H×List MemPlace}
  (hy:DataW.trod Pn P w base (λ_=>true) held (fuel+1) t cs=some y) (Co:Wt P Q t y.1):∃x:List (Ib c),rI S (.slice c) x/\sd g w (.slice c) x cs:=by
 have fg:=Wn c;rcases cs with _|⟨v,_|⟨v2,rest⟩⟩
 ·simp[DataW.trod,ht]at hy
 ·cases v
  case slice a len cap=>
   cases a with
   |none=>
    cases len<;>cases cap<;>simp[DataW.trod,ht]at hy
    exact⟨[],⟨⟨Ac _,by simp⟩,λx h=>by cases h⟩,sd.one .Xa rfl (.lit c []) rfl rfl (λm=> .bh c _ (.inl rfl)) .Xa⟩
   |some a=>
    simp only[DataW.trod,ht]at hy;split at hy
    case isFalse=>simp at hy
    rename_i hc;simp only[aa,if_true,ja]at hy;obtain⟨elems,he,rest,hr,hyy⟩:=hy;have nam:(elems.length+rest.length) * P.bytesOf e<=reachBytes/\∀b∈DataW.weightsAll P e (elems.map (·.1)),b<=reachBytes:=by
     rw[<- hyy]at Co;have Co:=Co.2;simp only[DataW.weights,ht,Qh]at Co;exact⟨Co _ Dd,λb hb=>Co b (Rb _ (we _ hb))⟩
    have hq:=hQ.slice (elems.map (·.1)) (rest.map (·.1)) (by have:=Co.1;rw[<- hyy]at this;exact this);have Naq:=XH hq.2 nam.2;obtain⟨l1,l2⟩:=Cw he;obtain⟨r1,r2⟩:=Cw hr;simp only[List.length_range]at l1 r1;have v_:∀i,i<len->∃x:Ib c,rI S c x/\∃cs,w.cells? base (a.add (i * P.cellsOf e)) (P.cellsOf e)=some cs/\sd g w c x cs:=λi hi=>by
     obtain⟨z,MV,zO⟩:=l2 i i (by simp[hi]);obtain⟨cs,Kj,hz⟩:=aa.1 zO;obtain⟨x,aj,jr⟩:=ih hz (Naq _ (List.mem_map.2 ⟨z,Eb MV,rfl⟩));exact⟨x,aj,cs,Kj,jr⟩
    obtain⟨l,nS,XL⟩:=Ns v_;have Xi:rI S (.slice c) l:=⟨⟨by have:=hq.1 (by rw[Qh,l1];omega);rw[Qh,l1]at this;rw[nS];exact this,by
     rw[nS];refine Db (Nat.mul_le_mul (Db (Nat.le_of_eq l1.symm) (Nat.le_add_right _ rest.length)) eg) nam.1⟩,λx hx=>by obtain⟨i,hi⟩:=List.mem_iff_getElem?.1 hx;exact(XL i x hi).1⟩
    refine⟨l,Xi,?_⟩;by_cases h0:cap=0
    ·have hlen:len=0:=by omega
     subst h0;subst hlen;have:l=[]:=Gb.1 nS;subst this;exact sd.one (.lit (width c) []) rfl (.lit c []) rfl rfl (λm=> .lit c [] [] rfl (λi row h=>by simp at h) (λi row k x a h=>by simp at h)) (.lits _ _)
    ·have qg:a.spot=none/\a.block<w.heap.size:=by
      have hex:∃cs,w.cells? base (a.add (0 * P.cellsOf e)) (P.cellsOf e)=some cs:=by
       rcases Nat.eq_zero_or_pos len with hz|hp
       ·obtain⟨z,_,zO⟩:=r2 0 0 (List.getElem?_range (by omega));obtain⟨cs,Kj,_⟩:=aa.1 zO;subst hz;exact⟨cs,Kj⟩
       ·obtain⟨x,_,cs,Kj,_⟩:=v_ 0 hp;exact⟨cs,Kj⟩
      obtain⟨cs,Kj⟩:=hex;obtain⟨_,h2⟩:=World.fF Kj;obtain⟨v,_,hv⟩:=h2 0 (by omega);have:=jq hv
      simpa[Addr.add]using this
     have De:∀i,i<len->∃row:List V.AV,∃x cs,l[i]?=some x/\w.cells? base (a.add (i * P.cellsOf e)) (P.cellsOf e)=some cs/\cs.length=width c/\(∀v∈cs,v.oneCell'=true)/\(∀m,RL m (enc c x) row)/\row.length=cs.length/\∀(i:Nat)(a:V.AV)(v:Value),row[i]?=some a->cs[i]?=some v->V.Cb g w a v:=λi hi=>by
      have hx:=Da (l:=l) (i:=i) (by omega);obtain⟨_,cs,Kj,k1,k2,as,k3,k4,k5⟩:=XL i _ hx;exact⟨as,_,cs,hx,Kj,k1,k2,k3,k4,k5⟩
     obtain⟨rows,q1,q2⟩:=Ns De;have U8:∀i k,i<len->k<width c->∃v,w.cell? ⟨a.block,a.off+i * width c+k,none⟩=some v/\v.oneCell'=true/\∀row x,rows[i]?=some row->row[k]?=some x->V.Cb g w x v:=λi k hi hk=>by
      have hx:=Da (l:=rows) (i:=i) (by omega);obtain⟨x,cs,_,Kj,k1,k2,_,k4,k5⟩:=q2 i _ hx;obtain⟨c1,c2⟩:=World.fF Kj;obtain⟨v,XX,WX⟩:=c2 k (by rw[hw];exact hk);refine⟨v,?_,k2 v (Eb XX),λrow y hr hy=> ?_⟩
      ·rw[<- WX,hw,vN qg.1,vN rfl]
      ·rw[hx]at hr;injection hr with hr;subst hr;exact k5 k y v hy XX
     refine sd.one (.lit (width c) rows) rfl (.lit c l) rfl rfl (λm=> .lit c l rows (by omega) (λi row hi=> ?_) (λi row k x b hi h1 h2=> ?_)) ?_
     ·obtain⟨x,cs,_,_,k1,_,_,k4,_⟩:=q2 i row hi;rw[k4,k1]
     ·obtain⟨x',cs,Eg,_,_,_,k3,_,_⟩:=q2 i row hi;have:vw c l i=enc c x':=by simp[vw,Fb,Eg]
      rw[this]at h1;exact(k3 m).2 k x b h1 h2
     ·have hch:∀i k,∃v,i<len->k<width c->w.cell? ⟨a.block,a.off+i * width c+k,none⟩=some v/\v.oneCell'=true/\∀row x,rows[i]?=some row->row[k]?=some x->V.Cb g w x v:=λi k=>by
       by_cases h1:i<len
       ·by_cases h2:k<width c
        ·obtain⟨v,hv⟩:=U8 i k h1 h2;exact⟨v,λ_ _=>hv⟩
        ·exact⟨undef,λ_ h=>absurd h h2⟩
       ·exact⟨undef,λh _=>absurd h h1⟩
      have pag:=λi=>Bs (hch i)
      obtain⟨F,hF⟩:=Bs pag;have:=V.Cb.lit (g:=g) (w:=w) rows a cap (width c) F qg.1 (by omega) (λ_=>⟨hZ _ qg.2,λ_ h=>h⟩) (λi row hi=>by obtain⟨x,cs,_,_,k1,_,_,k4,_⟩:=q2 i row hi;rw[k4,k1])
       (λi k hi hk=>(hF i k (by omega) hk).1) (λi k hi hk=>(hF i k (by omega) hk).2.1) (λi row k x hi hx=>by
        have BA:i<len:=by have:=Za hi;omega
        have hk:k<width c:=by obtain⟨x,cs,_,_,k1,_,_,k4,_⟩:=q2 i row hi;have:=Za hx;omega
        exact(hF i k BA hk).2.2 row x hi hx)
      rw[q1]at this;exact this
  all_goals simp[DataW.trod,ht]at hy
 ·simp[DataW.trod,ht]at hy
theorem MA{d:Nat}{cs:List Value}{f:TypeId->List Value->Option (DataW H×List MemPlace)}(hf:∀{t:TypeId}{c:CT},Pm P d t=some c->∀{cs y},f t cs=some y->Wt P Q t y.1->∃x:Ib c,rI S c x/\sd g w c x cs):
  ∀(fs:List Field)(o:Nat){c:CT}{ys:List (DataW H×List MemPlace)},PF P d o fs=some c->cs.length=o+width c->(fs.mapM λfd=>f fd.type ((cs.drop fd.offset).take (P.cellsOf fd.type)))=some ys->(∀y∈ys,Q y.1)->(∀b∈DataW.weightsEach P (fs.map (·.type)) (ys.map (·.1)),b<=reachBytes)->
   ∃x:Ib c,rI S c x/\sd g w c x (cs.drop o)
 |[],o,c,ys,h,_,_,_,_=>by simp[WK]at h
 |[fd],o,c,ys,h,hl,hm,hq,Co=>by
  simp only[bw,Gs,aa]at h;obtain⟨c1,h1,h⟩:=h;split at h
  case isFalse=>simp at h
  rename_i ho;injection h with h;subst h
  obtain⟨y,_,hy,_,e⟩:=Ep hm;subst e;obtain⟨x,aj,jr⟩:=hf h1 hy ⟨hq _ Dd,λb hb=>Co b (by simp only[He,DataW.weightsEach];exact we _ hb)⟩;refine⟨x,aj,?_⟩;rw[ho.1,ho.2,Rf (by simp;omega)]at jr;exact jr
 |fd::fd'::fs,o,c,ys,h,hl,hm,hq,Co=>by
  simp only[bw,Gs,aa]at h;obtain⟨c1,h1,h⟩:=h;split at h
  case isFalse=>simp at h
  rename_i ho;simp only[ja]at h;obtain⟨c2,h2,rfl⟩:=h;obtain⟨y,ys',hy,dz,e⟩:=Ep hm;subst e;obtain⟨x,aj,jr⟩:=hf h1 hy ⟨hq _ Dd,λb hb=>Co b (by simp only[He,DataW.weightsEach];exact we _ hb)⟩;simp only[width]at hl;obtain⟨x2,hx3,hx4⟩:=MA hf (fd'::fs) (o+width c1) h2 (by omega) dz (λy hy=>hq y (Rb _ hy)) (λb hb=>Co b (by
   have:=Bq (y.1.weights P fd.type) hb
   simpa only[He,DataW.weightsEach]using this))
  refine⟨(x,x2),⟨aj,hx3⟩,?_⟩;rw[ho.1,ho.2]at jr;have e:cs.drop o=(cs.drop o).take (width c1)++cs.drop (o+width c1):=by
   rw[<- List.drop_drop];exact(List.take_append_drop _ _).symm
  rw[e];exact jr.pair hx4
theorem Ap(hQ:Down S Q)(hZ:∀R,R<w.heap.size->g.Z R){base:Nat}{held:Bool}:∀(d:Nat){t:TypeId}{c:CT},Pm P d t=some c->∀{fuel:Nat}{cs:List Value}{y:DataW H×List MemPlace},DataW.trod Pn P w base (λ_=>true) held fuel t cs=some y->Wt P Q t y.1->
  ∃x:Ib c,rI S c x/\sd g w c x cs
 |0,_,_,h,_,_,_,_,_=>by simp[Pm]at h
 |d+1,t,c,h,0,cs,y,hy,_=>by simp[DataW.trod]at hy
 |d+1,t,c,h,fuel+1,cs,y,hy,Co=>by
  simp only[Pm]at h;split at h
  ·rename_i ht;injection h with h;subst h
   rcases cs with _|⟨v,_|⟨v2,rest⟩⟩
   ·simp[DataW.trod,ht]at hy
   ·cases v<;>simp[DataW.trod,ht]at hy
    rename_i b;exact⟨b,trivial,sd.one (.bool b) rfl (.bool b) rfl rfl (λm=> .bool b) (.bool b)⟩
   ·simp[DataW.trod,ht]at hy
  ·rename_i k ht;injection h with h;subst h
   rcases cs with _|⟨v,_|⟨v2,rest⟩⟩
   ·simp[DataW.trod,ht]at hy
   ·cases v<;>simp[DataW.trod,ht]at hy
    rename_i k' n;obtain⟨⟨rfl,hn⟩,_⟩:=hy;simp only[Lit.wf,Ab,decide_eq_true_eq]at hn;exact⟨n,hn,sd.one (.int k' n) rfl (.int k' n) rfl rfl (λm=> .int k' n) (.int k' n)⟩
   ·simp[DataW.trod,ht]at hy
  ·rename_i ht;injection h with h;subst h
   rcases cs with _|⟨v,_|⟨v2,rest⟩⟩
   ·simp[DataW.trod,ht]at hy
   ·cases v<;>simp[DataW.trod,ht]at hy
    rename_i s;exact⟨s,(by have hy2:=hy.2;subst hy2;have:=hQ.str _ Co.1 (Db (Nat.le_of_eq Gf) hy.1);exact Db (Nat.le_of_eq Array.length_toList.symm) this),sd.one (.str s) rfl (.str s) rfl rfl (λm=> .str s) (.str s)⟩
   ·simp[DataW.trod,ht]at hy
  ·rename_i e ht;obtain⟨c1,h1,h⟩:=aa.1 h;split at h
   case isFalse=>simp at h
   rename_i hw;injection h with h;subst h
   exact Gg hQ hZ ht hw.1 hw.2 (λhy Co=>Ap hQ hZ d h1 hy Co) hy Co
  ·rename_i fs ht;have h:(PF P d 0 fs.toList).bind (λc=>if P.cellsOf t=width c then some c else none)=some c:=h;obtain⟨c1,h1,h⟩:=aa.1 h;split at h
   case isFalse=>simp at h
   rename_i hw;injection h with h;subst h
   simp only[DataW.trod,ht]at hy;split at hy
   case isFalse=>simp at hy
   rename_i hl;simp only[ja]at hy;obtain⟨ys,hm,hyy⟩:=hy;rw[<- hyy]at Co;obtain⟨hq,Co⟩:=Co;simp only[DataW.weights,ht]at Co;have hq:=hQ.agg _ hq;have:=MA (g:=g) (w:=w) (Q:=Q) (f:=λt cs=>DataW.trod Pn P w base (λ_=>true) held fuel t cs) (λ{_ _}h1{_ _}hy Co=>Ap hQ hZ d h1 hy Co) fs.toList 0 h1 (by rw[hl,hw];omega) hm (λy hy=>hq _ (List.mem_map.2 ⟨y,hy,rfl⟩)) (by simpa using Co)
   simpa using this
  ·rename_i n e ht;obtain⟨c1,h1,h⟩:=aa.1 h;split at h
   case isFalse=>simp at h
   rename_i hw;obtain⟨c2,h2,h⟩:=aa.1 h;split at h
   case isFalse=>simp at h
   rename_i CO;injection h with h;subst h
   simp only[DataW.trod,ht]at hy;split at hy
   case isFalse=>simp at hy
   rename_i hl;simp only[ja]at hy;obtain⟨ys,hm,hyy⟩:=hy;rw[<- hyy]at Co;obtain⟨hq,Co⟩:=Co;simp only[DataW.weights,ht]at Co;have:=pV (g:=g) (w:=w) (e:=e) (wt:=Wt P Q e) (λcs y hy Co=>Ap hQ hZ d h1 hy Co) h2 0 ys (λy hy=>XH (hQ.agg _ hq) Co _ (List.mem_map.2 ⟨y,hy,rfl⟩)) (by rw[hl,CO];omega) (by simpa[hw]using hm)
   simpa using this
  ·simp at h
end
def ji(w:World):V.Gx:={ D:=λ_=>False,ρ:=λ_=>⟨0,0,0,0⟩,Z:=λR=>R<w.heap.size,sub:=λ_ h=>False.elim h }
theorem Xv{G:Nat->Option (List V.AV)}{w:World}(hg:∀i row,G i=some row->V.tg (ji w) w i row):V.Jc G (ji w) w ⟨[],0⟩:=
 ⟨hg,λb h=>h.elim,λb x h=>h.elim,λb b' h=>h.1.elim,λR h=>⟨h,λhn=>absurd trivial hn⟩⟩
def Stood(w w':World):Prop:=w.heap.size<=w'.heap.size/\(∀R,R<w.heap.size->w'.heap[R]?=w.heap[R]?)/\(w'.os=w.os/\w'.output=w.output)
theorem Stood.kept{w w':World}(h:Stood w w')(may:MemPlace->Prop):w.keptBut w' may:=by
 refine⟨h.2.2.1,h.2.2.2,λi hi=> ?_⟩;rw[h.2.1 i hi];cases h:w.heap[i]? with
 |none=>rfl
 |some o=>cases o<;>simp
section
variable {A:V.Oi}
theorem w8(FB:V.vy A)(hE:V.BN A)(MK:V.Wo A)(hD:V.Km A){k:Nat}{f:FuncId}{fn:Func}(hf:A.fns f=some fn)(hb:fn.body.isSome=true){av:List V.AV}{vs:List Value}{W:World}{H':V.AH}{r:V.AV}
  (Hg:V.call A k (.fn f []) av ⟨[],0⟩=some (r,H')) (hW:V.Jc A.Na (ji W) W ⟨[],0⟩) (hl:av.length=vs.length) (hv:∀(i:Nat)(x:V.AV)(v:Value),av[i]?=some x->vs[i]?=some v->V.Cb (ji W) W x v):
  Calls A.P f vs.toArray W λe W'=>∃v,e= .returned v/\(∃g',V.Cb g' W' r v)/\W.heap.size<=W'.heap.size/\(∀R,R<W.heap.size->W'.heap[R]?=W.heap[R]?)/\(W'.os=W.os/\W'.output=W.output):=by
 have h:=V.Im FB hE MK hD k (.fn f []) av ⟨[],0⟩ r H' Hg (ji W) W (.func (.func f) #[] #[]) vs hW (.fn f [] [] rfl λi x v h=>by simp at h) hl hv Fence.wide 0
  { dst:=some 0,op:= .move (.tmp 0),type:=0,pos:= "",after:= #[],guard:=none } ⟨#[undef],[]⟩
  (λa W'=>∃v,a.tmps= #[v]/\(∃g',V.Cb g' W' r v)/\W.heap.size<=W'.heap.size/\(∀R,R<W.heap.size->W'.heap[R]?=W.heap[R]?)/\(W'.os=W.os/\W'.output=W.output)) (λ_ _ _=>False)
  ⟨λ_=>trivial,rfl,rfl⟩ (λg' w' rv h1 h2 h3=>⟨rv,rfl,⟨g',h1⟩,h3.size,λR hR=>h3.Al R hR (λ⟨b,hb,_⟩=>hb.1.elim),h3.io⟩)
 rw[V.Ls FB hf hb]at h;rw[Oper.uponIn_enter]at h;have h2:=callsIn_wide.1 h.2;simp only[Array.append_empty]at h2;refine Calls.mono h2 λe W' he=> ?_
 cases e with
 |returned v=>
  obtain⟨v',h1,h2⟩:=he;have:v'=v:=by simpa[Act.put]using h1.symm
  subst this;exact⟨v',rfl,h2⟩
 |panicked c=>exact he.elim
 |outgrown=>exact he.elim λ_ h=>h.elim λ_ h=>h.elim
theorem Zs(FB:V.vy A)(hE:V.BN A)(MK:V.Wo A)(hD:V.Km A){k:Nat}{f:FuncId}{fn:Func}(hf:A.fns f=some fn)(hb:fn.body.isSome=true){sp:Spec}(D0:Df (V.call A k) f sp){args:List UV}{av:List V.AV}{vs:List Value}{W:World}
  {b:Bool} (ue:sp UV args ⟨[],0⟩ (λr _=>some r)=some (.bool b)) (hR:∀m,RL m args av) (hW:V.Jc A.Na (ji W) W ⟨[],0⟩) (hl:av.length=vs.length) (hv:∀(i:Nat)(x:V.AV)(v:Value),av[i]?=some x->vs[i]?=some v->V.Cb (ji W) W x v):
  Calls A.P f vs.toArray W λe W'=>e= .returned (.bool b)/\Stood W W':=by
 obtain⟨r,H',h1,_,h2⟩:=D0 UV args ⟨[],0⟩ _ _ ue;injection h1 with h1;subst h1
 obtain⟨r',zd,h3,m',_,h4,_⟩:=h2 ⟨λ_ _=>none,λ_ _=>0,0⟩ ⟨[],0⟩ av [] ⟨λb _ x h=>by simp at h,λb y h=>by simp at h,λb b' _ _ x h=>by obtain⟨_,h,_⟩:=h;simp at h,λb _ x h=>by simp at h,ya _,rfl⟩ (by simpa using hR _);cases h4;refine(w8 FB hE MK hD hf hb h3 hW hl hv).mono ?_
 rintro e W' ⟨v,rfl,⟨g',hv⟩,hs,hu,OB⟩
 cases hv;exact⟨rfl,hs,hu,OB⟩
end
section
variable {P:Program}
def Told(P:Program)(t:TypeId):Prop:=∃d c,Pm P d t=some c
theorem oV{n:Nat}{c c':CT}(h:Q8 n c=some c'):width c'=n * width c:=by
 induction n generalizing c' with
 |zero=>simp[Q8]at h
 |succ n ih=>
  cases n with
  |zero=>simp[Q8]at h;subst h;simp
  |succ n=>
   simp only[Q8,ja]at h;obtain⟨c2,h2,rfl⟩:=h;simp only[width,ih h2];rw[Lj (n+1)];omega
theorem LA{d:Nat}:∀(fs:List Field)(o:Nat){c:CT},PF P d o fs=some c->
  (∀f∈fs,Told P f.type)/\width c=(fs.map λf=>P.cellsOf f.type).sum/\∀(j:Nat)(f:Field),fs[j]?=some f->f.offset=o+((fs.take j).map λf=>P.cellsOf f.type).sum
 |[],o,c,h=>by simp[WK]at h
 |[fd],o,c,h=>by
  simp only[bw,Gs,aa]at h;obtain⟨c1,h1,h⟩:=h;split at h
  case isFalse=>simp at h
  rename_i ho;injection h with h;subst h
  refine⟨λf hf=>by simp at hf;subst hf;exact⟨d,_,h1⟩,by simp[ho.2],λj f hf=> ?_⟩;cases j with
  |zero=>simp at hf;subst hf;simp[ho.1]
  |succ j=>simp at hf
 |fd::fd'::fs,o,c,h=>by
  simp only[bw,Gs,aa]at h;obtain⟨c1,h1,h⟩:=h;split at h
  case isFalse=>simp at h
  rename_i ho;simp only[ja]at h;obtain⟨c2,h2,rfl⟩:=h;obtain⟨k1,k2,k3⟩:=LA (fd'::fs) _ h2;refine⟨λf hf=>by rcases me.1 hf with rfl|hf;exact⟨d,_,h1⟩;exact k1 f hf,?_,λj f hf=> ?_⟩
  ·simp only[width,k2,<- ho.2,He,List.sum_cons]
  ·cases j with
   |zero=>simp at hf;subst hf;simp[ho.1]
   |succ j=>
    simp only[Zi]at hf;rw[k3 j f hf,<- ho.2];simp only[List.take_succ_cons,He,List.sum_cons];omega
theorem XU:Kids P (Told P)where
 pointer:=λ⟨d,c,h⟩ht=>by cases d<;>simp[Pm,ht]at h
 slice:=λ⟨d,c,h⟩ht=>by
  cases d with
  |zero=>simp[Pm]at h
  |succ d=>simp only[Pm,ht,aa]at h;obtain⟨c1,h1,_⟩:=h;exact⟨d,c1,h1⟩
 array:=λ⟨d,c,h⟩ht=>by
  cases d with
  |zero=>simp[Pm]at h
  |succ d=>
   simp only[Pm,ht,aa]at h;obtain⟨c1,h1,h⟩:=h;split at h
   case isFalse=>simp at h
   rename_i hw;obtain⟨c2,h2,h⟩:=aa.1 h;split at h
   case isFalse=>simp at h
   rename_i CO;exact⟨⟨d,c1,h1⟩,by rw[CO,hw,oV h2]⟩
 struct:=λ⟨d,c,h⟩ht=>by
  cases d with
  |zero=>simp[Pm]at h
  |succ d=>
   simp only[Pm,ht,aa]at h;obtain⟨c1,h1,h⟩:=h;split at h
   case isFalse=>simp at h
   rename_i hw;obtain⟨k1,k2,k3⟩:=LA (d:=d) _ 0 h1;exact⟨k1,by rw[hw,k2],λj f hf=>by rw[k3 j f hf];simp⟩
 map:=λ⟨d,c,h⟩ht=>by cases d<;>simp[Pm,ht]at h
theorem MN{t e:TypeId}(h:Told P t)(ht:P.underlying t=some (.slice e)):0<P.cellsOf e:=by
 obtain⟨d,c,h⟩:=h;cases d with
 |zero=>simp[Pm]at h
 |succ d=>
  simp only[Pm,ht,aa]at h;obtain⟨c1,_,h⟩:=h;split at h
  case isFalse=>simp at h
  rename_i hw;rw[hw.1];exact Wn c1
variable {H:Type}{Pn:TypeId×Value->H}{w w':World}
theorem Stood.sameAt(h:Stood w w'){p:MemPlace}(hp:p.block<w.heap.size):w.sameAt w' p:=by
 cases p with
 |cell b off=>
  have:=h.2.1 b hp;show w'.cell? _=w.cell? _;simp only[World.cell?,this]
 |map b=>exact h.2.1 b hp
theorem QH(h:Stood w w'){sp:Nat->Bool}:∀{ts:List TypeId}{vs:List Value}{ds:List (DataW H)}{ps:List MemPlace},(∀t∈ts,Told P t)->(∀p∈ps,sp p.block=true)->DataW.TrodAll Pn P w 0 (λ_=>true) true ts vs ds ps->DataW.TrodAll Pn P w' 0 sp true ts vs ds ps
 |[],[],[],ps,_,_,hp=>hp
 |t::ts,v::vs,d::ds,ps,ht,hs,⟨p,q,⟨n,h1⟩,h2,e⟩=>by
  subst e;have Mc:=DataW.trod_lt n t _ _ h1;exact⟨p,q,⟨n,DataW.trod_stays XU MN (λh=>by cases h) (ht t (Dd ..)) h1 (λp hp=>h.sameAt (Mc p hp)) (λp hp=>hs p (we _ hp))⟩,
   QH h (λt' h'=>ht t' (Rb _ h')) (λp hp=>hs p (Bq _ hp)) h2,rfl⟩
 |[],[],_::_,_,_,_,h'=>h'.elim
 |[],_::_,_,_,_,_,h'=>by cases h'
 |_::_,[],_,_,_,_,h'=>by cases h'
 |_::_,_::_,[],_,_,_,h'=>by cases h'
def qy(agg:Bool)(c:CT)(x:Ib c):UV:=if agg then .agg (enc c x)else(enc c x).headD .Dc
theorem VY{vs:List Value}{ds:List (DataW H)}{p:List MemPlace}(h:DataW.TrodAll Pn P w 0 (λ_=>true) true [] vs ds p):vs=[]/\ds=[]:=by
 cases vs<;>cases ds<;>first|exact⟨rfl,rfl⟩|exact h.elim
theorem LG{t:TypeId}{ts:List TypeId}{vs:List Value}{ds:List (DataW H)}{p:List MemPlace}(h:DataW.TrodAll Pn P w 0 (λ_=>true) true (t::ts) vs ds p):
  ∃v vs' d ds' p0 p1,vs=v::vs'/\ds=d::ds'/\DataW.Trod Pn P w 0 (λ_=>true) true t v d p0/\DataW.TrodAll Pn P w 0 (λ_=>true) true ts vs' ds' p1:=by
 cases vs with
 |nil=>exact h.elim
 |cons v vs=>
  cases ds with
  |nil=>exact h.elim
  |cons d ds=>obtain⟨p0,p1,h1,h2,_⟩:=h;exact⟨v,vs,d,ds,p0,p1,rfl,rfl,h1,h2⟩
theorem VK{Q:DataW H->Prop}{t:TypeId}{ts:List TypeId}{d:DataW H}{ds:List (DataW H)}(h:∀b∈DataW.weightsEach P (t::ts) (d::ds),b<=reachBytes)(hq:∀x∈d::ds,Q x):Wt P Q t d/\(∀b∈DataW.weightsEach P ts ds,b<=reachBytes)/\∀x∈ds,Q x:=by
 simp only[DataW.weightsEach,jh]at h;exact⟨⟨hq _ Dd,λb hb=>h b (.inl hb)⟩,λb hb=>h b (.inr hb),λx hx=>hq x (Rb _ hx)⟩
theorem tV{f:Func}{s:ChangeSpec}{apart fresh handsOn again:Bool}{W W':World}{args:Array Value}{ds:List (DataW H)}{before:List MemPlace}(sac:s.vars=[])(hW:DataW.Whole Pn P f.params.toList s.vars apart W args.toList ds [] before)
  (hS:Stood W W') {tb:TypeId} (htb:P.underlying tb=some .bool) (bD:f.resultTypes= #[tb]) (BB:s.fn H (ds++[])={ results:=[.lit (.bool true)],args:=ds }) (ht:∀t∈f.params.toList,Told P t):
  s.post Pn P f apart fresh handsOn again W args (.bool true) W':=by
 obtain⟨p,q,hA,hV,rfl,hz,hn⟩:=id hW;have hq:q=[]:=by rw[sac]at hV;exact hV
 subst hq;have Mc:∀x∈p,x.block<W.heap.size:=hA.lt;have hr:∀(b:Nat)(sp:Nat->Bool)(hd:Bool),DataW.TrodAll Pn P W' b sp hd f.resultTypes.toList ((Value.bool true).resultList f.resultTypes.size) (s.fn H (ds++[])).results []:=λb sp hd=>by
  rw[bD,BB];exact⟨[],[],RowKit.shut_bool htb true,rfl,rfl⟩
 have ha:∀sp:Nat->Bool,(∀x∈p,sp x.block=true)->DataW.TrodAll Pn P W' 0 sp true f.params.toList args.toList (s.fn H (ds++[])).args p:=λsp hs=>by rw[BB];exact QH hS ht hs hA
 have hv:∀sp:Nat->Bool,DataW.TrodVars Pn P W' sp s.vars (s.fn H (ds++[])).vars []:=λsp=>by rw[sac,BB];rfl
 refine⟨ds,[],p++[],[],p,[],hW,hr _ _ _,ha _ (λx hx=>by simpa using Mc x hx),hv _,hS.kept _,λ_=>⟨λj t r h1 h2=> ?_,_,_,([]++p)++[],⟨[]++p,[],ChangeShapes.trodAll_append (ha _ (λ_ _=>rfl)) (hr _ _ _),hv _,rfl,?_,?_⟩,?_⟩⟩
 ·rw[bD]at h1 h2;rcases j with _|j
  ·simp at h1;subst h1;have:r= .bool true:=by simpa[Value.resultList]using h2.symm
   subst this;exact RowKit.okWide_bool_mk htb true
  ·simp at h1
 ·intro b off hp;have bz:MemPlace.cell b off∈p:=by simpa using hp
  have hb:b<W.heap.size:=Mc _ bz;have:=hz b off (by simpa using hp);unfold World.frozen? at this ⊢;rw[hS.2.1 b hb];exact this
 ·intro hap
  simpa using hn hap
 ·intro x hx _
  simpa using hx
end
end Go.U
namespace Go.U
open Go
section
variable [TB:Uv]{A:V.Oi}
theorem aN{k:Nat}{f:FuncId}{g:List V.AV->V.AH->Option (V.AV×V.AH)}(he:A.ext f=some g)(cs as:List V.AV)(H:V.AH):V.call A (k+1) (.fn f cs) as H=g (as++cs) H:=by
 simp only[V.call,he]
theorem J_{k:Nat}{f:FuncId}(he:A.ext f=some V.L_){sp:Spec}(qg:∀X args H K out,sp X args H K=some out->∃n b:Int,args=[.int .i64 n,.int .i64 b]/\H=⟨[],0⟩/\(-9223372036854775808<=n/\n<=9223372036854775807/\b=10)/\K (.str ⟨(Lib.itoa n).toArray⟩) ⟨[],0⟩=some out):
  Df (V.call A (k+1)) f sp:=by
 intro X args H K out h;obtain⟨n,b,rfl,rfl,hc,h'⟩:=qg X args H K out h;refine⟨_,_,h',rfl,λm Hv as cs hh hl=> ?_⟩;obtain⟨a1,l1,e1,q1,q2⟩:=hl.To;obtain⟨a2,l2,e2,q3,q4⟩:=q2.To;have e3:l2=[]:=Gb.1 q4.1;rw[aN he,e1,e2,e3];cases q1;cases q3;exact⟨.str _,Hv,by simp only[V.L_];rw[if_pos hc],.same hh (.str _)⟩
theorem jA:∀(l:List UInt8),V.tC (l.map λb=>[V.AV.int .u8 (b.toNat:Int)])=some l
 |[]=>rfl
 |b::l=>by
  have hb:=b.toNat_lt;simp only[He,V.tC];rw[if_pos ⟨by omega,by omega⟩,jA l]
  simp
theorem Js(s:ByteArray):s.data.toList.length=s.size:=Gf
theorem Rl(s:ByteArray):(V.Qc s).length=s.size:=by unfold V.Qc;rw[Qh];exact Js s
theorem zY{k:Nat}{f:FuncId}(he:A.ext f=some (V.SF TB.bT TB.uT)){sp:Spec}(qg:∀X args H K out,sp X args H K=some out->∃s:ByteArray,args=[.ptr 0 0]/\H=⟨[.Un (.all 1),.Fq s],0⟩/\K (.str s) ⟨[.Un (.all 1),.dead],0⟩=some out):
  Df (V.call A (k+1)) f sp:=by
 intro X args H K out h;obtain⟨s,rfl,rfl,h'⟩:=qg X args H K out h;refine⟨_,_,h',rfl,λm Hv as cs hh hl=> ?_⟩;obtain⟨a1,l1,e1,q1,q2⟩:=hl.To;have e2:l1=[]:=Gb.1 q2.1;rw[aN he,e1,e2];obtain⟨x,p,q',h1,h2,h3,h4,h5⟩:=hh.Kf 0 _ rfl;obtain⟨k1,k2⟩:=hh.Kf 1 _ rfl;cases q1 with
 |ptr _ _ x' Eg=>
 rw[h1]at Eg;injection Eg with Eg;subst Eg
 have qq:RH m ⟨[.Un (.all 1),.dead],0⟩ Hv:=hh.kill 1;cases h4 with
 |Ug _ _ Mc hz ha=>
  have hq:q'= .Xa:=ha.resolve_right h5;subst hq;have hs:s.size=0:=by rw[<- k1];exact hz
  have ZX:s=⟨#[]⟩:=by
   have:s.data.toList=[]:=Gb.1 (by rw[Js];exact hs);cases s;simp_all
  subst ZX;exact⟨_,Hv,by simp only[V.SF,h2,if_true],.same qq (.str _)⟩
 |all _ y hy=>
  rcases k2 with⟨_,k3⟩|⟨y',k3,k4,k5⟩
  ·rw[hy]at k3;simp at k3
  ·rw[hy]at k3;injection k3 with k3;subst k3
   have Th:=hh.wm 1 y hy (Ac _);have Tv:(V.Qc s).length=s.size:=Rl _;have Ae:=qq.other (x:=y) (λb s' hb e=>by
    match b,hb,e with
    |0,hb,e=>exact absurd (hh.inj 0 1 y ⟨_,rfl,rfl⟩ ⟨_,rfl,rfl⟩ e hy) (by simp)
    |1,hb,_=>obtain⟨z,hz,zO⟩:=hb;simp at hz;subst hz;simp[Me]at zO
    |b+2,hb,_=>obtain⟨z,hz,_⟩:=hb;simp at hz) .dead
   refine⟨.str s,V.Qa Hv y .dead,?_,m,Ae,.str _,.refl m,⟨.refl (ya _),λx' Eg MZ=>by rw[Cd,if_neg (λe=>MZ 1 0 (by rw[<- e];exact hy))],λb' s' x' Wd=> .inl ⟨b',s',Wd⟩,by simp[V.Qa],rfl⟩⟩;simp only[V.SF,h2,if_true,List.append_nil];rw[k4];simp only;rw[if_pos ⟨trivial,ya _,Th,by rw[k1];exact k5,by rw[Tv,k1];exact ya _⟩,k1,Rf (by rw[Tv];exact ya _)];simp only[V.Qc,jA,Yd]
def I8(A:V.Oi)(k:Nat)(f:FuncId)(ts:Array TypeId):Prop:=
 ∀(H:V.AH)(x:Nat)(p q v:V.AV)(t:ByteArray)(H2:V.AH),H.bl[x]?=some (.cells [[p,q]] 2 (some (TB.bT,2)))->(p= .Hf\/p= .ptr x 0 0)->H.wm<=x->
  V.append A (V.Qa H x (.cells [[.ptr x 0 0,q]] 2 (some (TB.bT,2)))) ts q (.str t)=some (v,H2)->H2.bl[x]?=some (.cells [[.ptr x 0 0,q]] 2 (some (TB.bT,2)))->H2.wm=H.wm->v.dS=true->
  V.call A k (.fn f []) [.ptr x 0 0,.str t] H=some (.Re [.int .i64 t.size,.zh],V.Qa H2 x (.cells [[.ptr x 0 0,v]] 2 (some (TB.bT,2))))
structure Pab(A:V.Oi)(ts:Array TypeId):Prop where
 ty:∃t u,ts= #[t,u]/\V.elem? A t=some TB.uT/\A.P.underlying u=some .string/\V.zero A TB.uT=some [.int .u8 0]/\V.bytes A TB.uT=some 1/\V.size A TB.uT=some 1
theorem BK(s t:ByteArray):V.Qc (s++t)=V.Qc s++V.Qc t:=by
 simp[V.Qc,Cy]
theorem CK(s:ByteArray):(V.Qc s).all (λr=>r.length==1)=true:=ec.2 λr hr=>by
 unfold V.Qc at hr;obtain⟨b,_,rfl⟩:=List.mem_map.1 hr;rfl
def bac[TB:Uv](H:V.AH)(q:V.AV)(xs:List (List V.AV))(t:ByteArray):Option (V.AV×V.AH):=
 match q with
 | .Xa| .Ef=>some (.sl H.bl.length 0 t.size,V.push H (.cells (V.Qc t) 1 (some (TB.uT,1))))
 | .sl b r _=>if H.wm<=b/\V.Qk H b=some 1 then some (.sl H.bl.length 0 (xs.length+t.size),V.push (V.Qa H b .dead) (.cells (xs++V.Qc t) 1 (V.mB (V.ZH H b) TB.uT r)))else none
 |_=>none
theorem Hy{ts:Array TypeId}(Lp:Pab A ts){H:V.AH}{q:V.AV}{t:ByteArray}{xs:List (List V.AV)}(jt:V.rowsOf H q=some xs)(hn:xs.length+t.size<=70368744177664):
  V.append A H ts q (.str t)=if t.size=0 then some (q,H)else bac H q xs t:=by
 obtain⟨t0,u,rfl,h1,h2,h3,h4,h5⟩:=Lp.ty;have hl:(V.Qc t).length=t.size:=Rl _;have g0:(#[t0,u]:Array TypeId)[0]?=some t0:=rfl;have g1:(#[t0,u]:Array TypeId)[1]?=some u:=rfl;simp only[V.append,g0,g1,h1,h2,h3,h4,jt,da,hl,nc];rw[if_pos ⟨by omega,by omega,by omega,h5,CK t⟩];rfl
theorem go2{n:Nat}{m m':Mp}{Hv H':V.AH}(e:m.top=n)(h:gm m.top m Hv m' H'):gm n m Hv m' H':=e ▸ h
theorem G9{ts:Array TypeId}(Lp:Pab A ts){m:Mp}{Hv H1:V.AH}{x:Nat}{q':V.AV}{s t:ByteArray}{C:Prop}(hn:s.size+t.size<=70368744177664)
  (h1:m.ι 0 0=some x) (h4:RV m (.all 1) q') (h5:q'≠ .Ef) (k1:m.len 1 0=s.size) (tZ:x<Hv.bl.length) (vB:m.top=2)
  (XG:RH m ⟨[.Un (.all 1),.Fq s],0⟩ H1) (UZ:gm 2 m Hv m H1)
  (nr:H1.bl[x]?=some (.cells [[.ptr x 0 0,q']] 2 (some (TB.bT,2)))) (nS:H1.bl.length=Hv.bl.length) (OV:H1.wm=Hv.wm)
  (fin:∀(v:V.AV)(H2:V.AH)(m2:Mp),V.append A H1 ts q' (.str t)=some (v,H2)->RH m2 ⟨[.Un (.all 1),.dead,.Fq (s++t)],0⟩ H2->RV m2 (.all 2) v->v≠ .Ef->v.dS=true->m2.ι 0 0=some x->H2.bl[x]?=some (.cells [[.ptr x 0 0,q']] 2 (some (TB.bT,2)))->H2.wm=Hv.wm->
   m.Le m2->gm 2 m Hv m2 H2->C):C:=by
 have Ec:(s++t).size=s.size+t.size:=by simp
 obtain⟨_,k2⟩:=XG.Kf 1 _ rfl;have qq:RH m ⟨[.Un (.all 1),.dead],0⟩ H1:=XG.kill 1;have TZ:gm 2 m Hv m H1:=UZ;have Ram:∀{b:Nat},live ⟨[.Un (.all 1),.dead],0⟩ b->b=0:=λ{b}hb=>by
  obtain⟨z,hz,zO⟩:=hb
  match b,hz with
  |0,_=>rfl
  |1,hz=>simp at hz;subst hz;simp[Me]at zO
  |b+2,hz=>simp at hz
 have wag:∀(xo:Option Nat)(n:Nat),(m.add 2 xo n).ι 0 0=some x:=λxo n=>by rw[Mh _ _ _ (by omega)];exact h1
 by_cases ht0:t.size=0
 ·
  have xB:s++t=s:=by
   have:t.data.toList=[]:=Gb.1 (by rw[Js];exact ht0);cases s;cases t;simp_all [ByteArray.ext_iff,Cy]
  have de:∃xs,V.rowsOf H1 q'=some xs/\xs.length=s.size:=by
   cases h4 with
   |Ug _ _ Mc hz ha=>have hq:q'= .Xa:=ha.resolve_right h5;subst hq;exact⟨[],rfl,by rw[<- k1];exact hz.symm⟩
   |all _ y hy=>
    have GV:=k2;rcases GV with⟨_,k3⟩|⟨y',k3,k4,k5⟩
    ·rw[hy]at k3;simp at k3
    ·rw[hy]at k3;injection k3 with k3;subst k3
     have Tv:(V.Qc s).length=s.size:=Rl _;refine⟨V.Qc s,?_,Tv⟩;unfold V.rowsOf;simp only;rw[k4];simp only;rw[if_pos (by rw[k1,Tv];omega),k1,List.drop_zero,Rf (by rw[Tv];exact ya _)]
  obtain⟨xs,jt,qaw⟩:=de;have ha:=Hy Lp (t:=t) jt (by omega);rw[if_pos ht0]at ha;have hp:=qq.push (zd:=H1) (y:= .Fq (s++t)) (x:=m.ι 1 0) (n:=s.size) (λ_ _ _ _ _=>rfl) (ya _) rfl (λxv e=>⟨(XG.Ff 1 xv e).2,XG.wm 1 xv e (Ac _),λb s' hb e'=>by
    have:=Ram hb;subst this;exact absurd (XG.inj 0 1 xv ⟨_,rfl,rfl⟩ ⟨_,rfl,rfl⟩ e' e) (by simp)⟩) (by
   have GV:=k2;refine⟨by rw[xB];exact Xe _ _ _ _,?_⟩;rw[xB];rcases GV with⟨k3,k4⟩|⟨y',k3,k4,k5⟩
   ·exact .inl ⟨k3,by rw[lf];exact k4⟩
   ·exact .inr ⟨y',by rw[lf];exact k3,k4,k5⟩)
  refine fin q' H1 (m.add 2 (m.ι 1 0) s.size) ha hp.1 ?_ h5 (by cases h4 with|Ug _ _ _ _ ha=>(rcases ha with rfl|rfl<;>rfl)|all _ _ _=>rfl) (wag _ _) nr OV hp.2 (TZ.trans ⟨by have:=Gj qq (m.ι 1 0) s.size;rw[vB]at this;exact this,λ_ _ _=>rfl,λb _ xv hb=> ?_,ya _,rfl⟩ (ya _))
  ·cases h4 with
   |Ug _ _ Mc hz ha=>exact .Ug _ _ (by simp[Mp.add,Mp.Fk]) (by rw[Xe,<- k1];exact hz) ha
   |all _ y hy=>
    have:=RV.all (m:=m.add 2 (m.ι 1 0) s.size) 2 y (by rw[lf];exact hy);rw[Xe]at this;rw[k1];exact this
  ·by_cases e:b=2
   ·subst e;obtain⟨_,e⟩:=tn hb;exact .inl ⟨1,_,e⟩
   ·rw[Mh _ _ _ e]at hb;exact .inl ⟨b,_,hb⟩
 ·cases h4 with
  |Ug _ _ Mc hz ha=>
   have hq:q'= .Xa:=ha.resolve_right h5;subst hq;have BZ:s.size=0:=by rw[<- k1];exact hz
   have Sg:s++t=t:=by
    have:s.data.toList=[]:=Gb.1 (by rw[Js];exact BZ);cases s;cases t;simp_all [ByteArray.ext_iff,Cy]
   have EF:=Hy Lp (H:=H1) (q:= .Xa) (t:=t) (xs:=[]) rfl (by simp;omega);rw[if_neg ht0]at EF;have gf:=qq.new (y:= .Fq (s++t)) (yv:= .cells (V.Qc t) 1 (some (TB.uT,1))) (n:=t.size) ⟨by rw[Sg];exact Xe _ _ _ _,.inr ⟨_,lf _ _ _ _,by rw[Sg,uf,if_neg (by omega),if_pos rfl],by rw[Sg];omega,by rw[Sg];omega⟩⟩;refine fin _ _ _ EF gf.1 ?_ (by simp) rfl (wag _ _) (by rw[uf,if_pos (by rw[nS];exact tZ)];exact nr) OV gf.2.1 (TZ.trans gf.2.2 (by rw[vB];exact ya _));have:=RV.all (m:=m.add 2 (some H1.bl.length) t.size) 2 H1.bl.length (lf _ _ _ _);rw[Xe]at this;exact this
  |all _ y hy=>
   have GV:=k2;rcases GV with⟨_,k3⟩|⟨y',k3,k4,k5⟩
   ·rw[hy]at k3;simp at k3
   ·rw[hy]at k3;injection k3 with k3;subst k3
    have Tv:(V.Qc s).length=s.size:=Rl _;have jt:V.rowsOf H1 (.sl y 0 (m.len 1 0))=some (V.Qc s):=by
     unfold V.rowsOf;simp only;rw[k4];simp only;rw[if_pos (by rw[k1,Tv];omega),k1,List.drop_zero,Rf (by rw[Tv];exact ya _)]
    have EF:=Hy Lp (t:=t) jt (by rw[Tv];exact hn);rw[if_neg ht0]at EF;simp only[bac]at EF;have uZ:=XG.wm 1 y hy (Ac _);have JK:y≠x:=λe=>by subst e;exact absurd (XG.inj 0 1 y ⟨_,rfl,rfl⟩ ⟨_,rfl,rfl⟩ h1 hy) (by simp)
    rw[if_pos ⟨uZ,by simp[V.Qk,k4]⟩,Tv]at EF;have V8:V.mB (V.ZH H1 y) TB.uT 0=some (TB.uT,1):=by simp[V.ZH,k4,V.mB]
    rw[V8,<- BK]at EF;have Ae:=qq.other (x:=y) (λb s' hb e=>by
     have:=Ram hb;subst this;exact absurd (XG.inj 0 1 y ⟨_,rfl,rfl⟩ ⟨_,rfl,rfl⟩ e hy) (by simp)) .dead
    have PV:(V.Qa H1 y .dead).bl.length=H1.bl.length:=by simp[V.Qa]
    have gf:=Ae.new (y:= .Fq (s++t)) (yv:= .cells (V.Qc (s++t)) 1 (some (TB.uT,1))) (n:=s.size+t.size) ⟨by rw[Ec];exact Xe _ _ _ _,.inr ⟨_,lf _ _ _ _,by rw[uf,if_neg (by omega),if_pos rfl],by rw[Ec];omega,by rw[Ec];omega⟩⟩;rw[PV]at gf;have g2:gm 2 m H1 m (V.Qa H1 y .dead):=⟨by rw[<- vB];exact .refl (ya _),λx' Eg MZ=>by rw[Cd,if_neg (λe=>MZ 1 0 (by rw[<- e];exact hy))],λb' s' x' Wd=> .inl ⟨b',s',Wd⟩,by simp[V.Qa],rfl⟩;refine fin _ _ _ EF gf.1 ?_ (by simp) rfl (wag _ _) (by rw[uf,if_pos (by rw[PV,nS];exact tZ),Cd,if_neg JK];exact nr) OV gf.2.1 ((TZ.trans g2 (ya _)).trans gf.2.2 (by rw[vB];exact ya _));have:=RV.all (m:=m.add 2 (some H1.bl.length) (s.size+t.size)) 2 H1.bl.length (lf _ _ _ _);rw[Xe]at this;exact this
theorem F9{k:Nat}{f:FuncId}{ts:Array TypeId}(Lp:Pab A ts)(Hg:I8 A (k+1) f ts){sp:Spec} (qg:∀X args H K out,sp X args H K=some out->∃s t:ByteArray,args=[.ptr 0 0,.str t]/\H=⟨[.Un (.all 1),.Fq s],0⟩/\s.size+t.size<=70368744177664/\
   K (.Re [.int .i64 t.size,.zh]) ⟨[.Un (.all 2),.dead,.Fq (s++t)],0⟩=some out) (hf:∀cs as H,V.call A (k+1) (.fn f cs) as H=V.call A (k+1) (.fn f []) (as++cs) H):Df (V.call A (k+1)) f sp:=by
 intro X args H K out h;obtain⟨s,t,rfl,rfl,hn,h'⟩:=qg X args H K out h;refine⟨_,_,h',rfl,λm Hv as cs hh hl=> ?_⟩;obtain⟨a1,l1,e1,q1,q2⟩:=hl.To;obtain⟨a2,l2,e2,q3,q4⟩:=q2.To;have e3:l2=[]:=Gb.1 q4.1;rw[hf,e1,e2,e3];obtain⟨x,p,q',h1,h2,h3,h4,h5⟩:=hh.Kf 0 _ rfl;obtain⟨k1,k2⟩:=hh.Kf 1 _ rfl;cases q1 with
 |ptr _ _ x' Eg=>
 cases q3;rw[h1]at Eg;injection Eg with Eg;subst Eg
 have tZ:=(hh.Ff 0 x h1).2;have e_:=hh.wm 0 x h1 (Ac _);have MO:live ⟨[.Un (.all 1),.Fq s],0⟩ 0:=⟨_,rfl,rfl⟩;have vB:m.top=2:=hh.len;have Ec:(s++t).size=s.size+t.size:=by simp
 have Aam:=hh.set (y:= .Un (.all 1)) (yv:= .cells [[.ptr x 0 0,q']] 2 (some (TB.bT,2))) MO h1 ⟨x,.ptr x 0 0,q',h1,by rw[Cd,if_pos rfl,if_pos tZ],.inr rfl,h4,h5⟩;obtain⟨XG,UZ⟩:=Aam;have XG:RH m ⟨[.Un (.all 1),.Fq s],0⟩ (V.Qa Hv x (.cells [[.ptr x 0 0,q']] 2 (some (TB.bT,2)))):=XG;have nr:(V.Qa Hv x (.cells [[.ptr x 0 0,q']] 2 (some (TB.bT,2)))).bl[x]?=some (.cells [[.ptr x 0 0,q']] 2 (some (TB.bT,2))):=by rw[Cd,if_pos rfl,if_pos tZ]
 refine G9 Lp hn h1 h4 h5 k1 tZ vB XG (go2 vB UZ) nr (by simp[V.Qa]) rfl ?_;have fin:∀(v:V.AV)(H2:V.AH)(m2:Mp),V.append A (V.Qa Hv x (.cells [[.ptr x 0 0,q']] 2 (some (TB.bT,2)))) ts q' (.str t)=some (v,H2)->RH m2 ⟨[.Un (.all 1),.dead,.Fq (s++t)],0⟩ H2->RV m2 (.all 2) v->v≠ .Ef->v.dS=true->m2.ι 0 0=some x->H2.bl[x]?=some (.cells [[.ptr x 0 0,q']] 2 (some (TB.bT,2)))->H2.wm=Hv.wm->
   m.Le m2->gm 2 m Hv m2 H2->∃r' zd,V.call A (k+1) (.fn f []) [.ptr x 0 0,.str t] Hv=some (r',zd)/\Yr m Hv (.Re [.int .i64 t.size,.zh]) ⟨[.Un (.all 2),.dead,.Fq (s++t)],0⟩ r' zd:=λv H2 m2 ha hr hv td cz oq hbx II hle Mw=>by
  have jr:=(hr.Ff 0 x oq).2;obtain⟨r1,r2⟩:=hr.set (b:=0) (y:= .Un (.all 2)) (yv:= .cells [[.ptr x 0 0,v]] 2 (some (TB.bT,2))) ⟨_,rfl,rfl⟩ oq ⟨x,.ptr x 0 0,v,oq,by rw[Cd,if_pos rfl,if_pos jr],.inr rfl,hv,td⟩;refine⟨_,_,Hg Hv x p q' v t H2 h2 h3 e_ ha hbx II cz,m2,r1,.Re _ _ rfl (λi y b hy hb=> ?_),hle,?_⟩
  ·match i,hy,hb with
   |0,hy,hb=>simp at hy hb;subst hy;subst hb;exact .int _ _
   |1,hy,hb=>simp at hy hb;subst hy;subst hb;exact .zh
   |i+2,hy,_=>simp at hy
  ·rw[vB];exact Mw.trans r2 (by have:=hr.len;simp at this;omega)
 exact fin
end
end Go.U
