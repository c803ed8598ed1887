/- A second evaluator, over rows of Lean values, and that it is right over the first. -/
import Derived.Test.YtjenflkegbmkkaaGreatDoorB3
import Derived.Test.YtjenflkegbmkkaaGreatDoorA4
import Derived.Test.YtjenflkegbmkkaaGreatDoorA5
import Derived.ChangeShapes
import Derived.ChangeReads
import Derived.ChangeOld
import Derived.ChangeStays
import Derived.ChangeSame
import Derived.RowKit3
import Derived.Lib.LaidTab
set_option linter.unusedVariables false
set_option linter.unusedSimpArgs false
set_option linter.unusedSectionVars false
open Array renaming length_toList→Se
open Bool renaming and_eq_true→Va
open ByteArray renaming data_append→Nw
open List renaming map_cons→Pd,mem_append→Mw,getElem?_append_left→Ka,getElem?_append_right→Na,range→ua,mem_cons_self→Ad,take_of_length_le→od,mem_cons_of_mem→Wb,getElem?_eq_none→Ab,mem_cons→Yb,length_map→Qc,mem_append_left→Df,mem_map→Ju,mem_of_getElem?→Nb,length_eq_zero_iff→Ja,getElem?_eq_getElem→Ba,getD_eq_getElem?_getD→Ia,getElem?_cons_succ→We,append_nil→Nn,all_eq_true→tc,length_singleton→Tj
open Nat renaming lt_or_ge→Vb,add_zero→Je,succ_mul→Oi,zero_le→je,le_trans→Ib,le_of_eq→Kh,le_refl→va
open Option renaming bind_eq_some_iff→aa,map_eq_some_iff→ia,map_some→Oc,bind_some→ga
open Option.some renaming injEq→Dc
namespace Go.U
open Go
variable [TB:GC]
def csz:CT->Nat
 | .bool=>1
 | .int _=>8
 | .str=>16
 | .slice _=>24
 | .pair a b=>csz a+csz b
def AE(S:Nat):(c:CT)->Gb c->Prop
 | .bool=>fun _=>True
 | .int k=>fun(n:Int)=>k.min<=n/\n<=k.max
 | .str=>fun(s:ByteArray)=>s.size<=S
 | .slice c=>fun(l:List (Gb c))=>(l.length<=S/\l.length * csz c<=reachBytes)/\∀x∈l,AE S c x
 | .pair a b=>fun(x:Gb a×Gb b)=>AE S a x.1/\AE S b x.2
def V1:Nat->CT->Option CT
 |0,_=>none
 |1,c=>some c
 |n+2,c=>(V1 (n+1) c).map (CT.pair c)
def nE(P:Program):Nat->List (Field×Option CT)->Option CT
 |_,[]=>none
 |o,[f]=>f.2.bind fun c=>if f.1.offset=o/\P.cellsOf f.1.type=width c then some c else none
 |o,f::f'::fs=>f.2.bind fun c=>if f.1.offset=o/\P.cellsOf f.1.type=width c then(nE P (o+width c) (f'::fs)).map (CT.pair c)else none
def Uj(P:Program):Nat->TypeId->Option CT
 |0,_=>none
 |d+1,t=>
  match P.underlying t with
  |some .bool=>some .bool
  |some (.int k)=>some (.int k)
  |some .string=>some .str
  |some (.slice e)=>(Uj P d e).bind fun c=>if P.cellsOf e=width c/\csz c<=P.bytesOf e then some (.slice c)else none
  |some (.struct fs)=>(nE P 0 (fs.toList.map fun f=>(f,Uj P d f.type))).bind fun c=>if P.cellsOf t=width c then some c else none
  |some (.array n e)=>(Uj P d e).bind fun c=>if P.cellsOf e=width c then(V1 n c).bind fun c'=>if P.cellsOf t=width c' then some c' else none else none
  |_=>none
def WC(P:Program)(d o:Nat)(fs:List Field):Option CT:=nE P o (fs.map fun f=>(f,Uj P d f.type))
theorem sI{P:Program}{d o:Nat}:WC P d o []=none:=by simp only[WC,List.map_nil,Pd,nE]
theorem Mu{P:Program}{d o:Nat}{f:Field}:WC P d o [f]=(Uj P d f.type).bind fun c=>if f.offset=o/\P.cellsOf f.type=width c then some c else none:=by simp only[WC,List.map_nil,Pd,nE]
theorem ir{P:Program}{d o:Nat}{f f':Field}{fs:List Field}:WC P d o (f::f'::fs)=(Uj P d f.type).bind fun c=>if f.offset=o/\P.cellsOf f.type=width c then(WC P d (o+width c) (f'::fs)).map (CT.pair c)else none:=by simp only[WC,List.map_nil,Pd,nE]
theorem Yw:∀c,0<width c
 | .bool| .int _| .str| .slice _=>Nat.one_pos
 | .pair a b=>by have:=Yw a;simp only[width];omega
theorem ko{α β:Type}{f:α->Option β}{a:α}{l:List α}{r:List β}(h:(a::l).mapM f=some r):∃b r',f a=some b/\l.mapM f=some r'/\r=b::r':=by
 simp only[List.mapM_cons,Option.bind_eq_bind,aa,Option.pure_def,Dc]at h;obtain⟨b,hb,r',hr,rfl⟩:=h;exact⟨b,r',hb,hr,rfl⟩
theorem Zu{α β:Type}{f:α->Option β}:∀{l:List α}{r:List β},l.mapM f=some r->r.length=l.length/\∀(i:Nat)(a:α),l[i]?=some a->∃b,r[i]?=some b/\f a=some b
 |[],r,h=>by simp at h;subst h;exact⟨rfl,fun i a ha=>by simp at ha⟩
 |x::l,r,h=>by
  obtain⟨b,r',hb,hr,rfl⟩:=ko h;obtain⟨h1,h2⟩:=Zu hr;refine⟨by simp[h1],fun i a ha=> ?_⟩;cases i with
  |zero=>simp at ha;subst ha;exact⟨b,rfl,hb⟩
  |succ i=>simp at ha;simpa using h2 i a ha
def Xh(g:V.Gx)(w:World)(c:CT)(x:Gb c)(cs:List Value):Prop:=
 cs.length=width c/\(∀v∈cs,v.oneCell'=true)/\∃ as:List V.AV,(∀m,RL m (enc c x) as)/\as.length=cs.length/\∀(i:Nat)(a:V.AV)(v:Value),as[i]?=some a->cs[i]?=some v->V.mb g w a v
theorem Xh.pair{g:V.Gx}{w:World}{a b:CT}{x:Gb a}{y:Gb b}{cs ds:List Value}(h:Xh g w a x cs)(h':Xh g w b y ds):Xh g w (.pair a b) (x,y) (cs++ds):=by
 obtain⟨h1,h2,as,h3,h4,h5⟩:=h;obtain⟨k1,k2,bs,k3,k4,k5⟩:=h';refine⟨by simp[width,h1,k1],fun v hv=>(Mw.1 hv).elim (h2 v) (k2 v),as++bs,fun m=>(h3 m).append (k3 m),by simp[h4,k4],fun i p v hp hv=> ?_⟩;rcases Vb i as.length with hi|hi
 ·rw[Ka hi]at hp;rw[Ka (by omega)]at hv;exact h5 i p v hp hv
 ·rw[Na hi]at hp;rw[Na (by omega),<- h4]at hv;exact k5 _ p v hp hv
theorem Xh.one{g:V.Gx}{w:World}{c:CT}{x:Gb c}{v:Value}(a:V.AV)(hw:width c=1)(u:UV)(he:enc c x=[u])(hv:v.oneCell'=true)(hu:∀m,RV m u a)(ha:V.mb g w a v):Xh g w c x [v]:=
 ⟨by simp[hw],fun v' h=>by simp at h;subst h;exact hv,[a],fun m=>by rw[he];exact RL.cons (hu m) RL.nil,rfl,fun i p q hp hq=>by
  cases i with
  |zero=>simp at hp hq;subst hp;subst hq;exact ha
  |succ i=>simp at hp⟩
theorem World.vC{w:World}{base:Nat}{a:Addr}{n:Nat}{cs:List Value}(h:w.cells? base a n=some cs):cs.length=n/\∀i,i<n->∃v,cs[i]?=some v/\w.cell? (a.add i)=some v:=by
 unfold World.cells? at h;split at h
 ·obtain⟨h1,h2⟩:=Zu h;refine⟨by simpa using h1,fun i hi=> ?_⟩;obtain⟨b,hb,hc⟩:=h2 i i (by simp[hi]);exact⟨b,hb,hc⟩
 ·simp at h
theorem vN{w:World}{a:Addr}{v:Value}(h:w.cell? a=some v):a.spot=none/\a.block<w.heap.size:=by
 unfold World.cell? at h;split at h
 ·rename_i c T fz hb;split at h
  ·simp at h
  ·rename_i hs;refine⟨by simpa using hs,?_⟩;rcases Vb a.block w.heap.size with Ac|Jt
   ·exact Ac
   ·simp[Array.getElem?_eq_none Jt]at hb
 ·simp at h
theorem HK{a:Addr}(ha:a.spot=none)(n:Nat):a.add n=⟨a.block,a.off+n,none⟩:=by
 unfold Addr.add;split
 ·rename_i h;subst h;cases a;simp_all
 ·cases a;simp_all
section
variable {H:Type}{En:TypeId×Value->H}{P:Program}{w:World}{g:V.Gx}{S:Nat}{Q:DataW H->Prop}
structure Down(S:Nat)(Q:DataW H->Prop):Prop where
 str:∀b:List UInt8,Q (.lit (.string b))->b.length<=maxLen->b.length<=S
 slice:∀es sp,Q (.slice es sp)->(es.length<=maxLen->es.length<=S)/\∀d∈es,Q d
 agg:∀ps,Q (.agg ps)->∀d∈ps,Q d
theorem I0:Down maxLen (fun _:DataW H=>True):=⟨fun _ _ h=>h,fun _ _ _=>⟨id,fun _ _=>trivial⟩,fun _ _ _ _=>trivial⟩
theorem dR{n:Nat}{c c':CT}{e:TypeId}{cs:List Value}{f:List Value->Option (DataW H×List MemPlace)}
  {wt:DataW H->Prop} (hf:∀cs y,f cs=some y->wt y.1->∃x:Gb c,AE S c x/\Xh g w c x cs) (MV:V1 n c=some c'):∀(k:Nat)(ys:List (DataW H×List MemPlace)),(∀y∈ys,wt y.1)->cs.length=k * width c+width c'->
  ((ua n).mapM fun i=>f ((cs.drop ((k+i) * width c)).take (width c)))=some ys->∃x:Gb c',AE S c' x/\Xh g w c' x (cs.drop (k * width c)):=by
 induction n generalizing c' with
 |zero=>simp[V1]at MV
 |succ n ih=>
  intro k ys Gm hl h;rw[List.range_succ_eq_map]at h;obtain⟨y,ys',h1,h2,rfl⟩:=ko h;obtain⟨x,xj,oq⟩:=hf _ _ h1 (Gm y Ad);cases n with
  |zero=>
   simp only[V1,Dc]at MV;subst MV;refine⟨x,xj,?_⟩;have:(cs.drop ((k+0) * width c)).take (width c)=cs.drop (k * width c):=by
    rw[Je];exact od (by simp;omega)
   rw[this]at oq;exact oq
  |succ n=>
   simp only[V1,ia]at MV;obtain⟨c2,hc2,rfl⟩:=MV;have bg:cs.length=(k+1) * width c+width c2:=by rw[hl,Oi];simp only[width];omega
   obtain⟨y2,hy1,hy2⟩:=ih hc2 (k+1) ys' (fun y hy=>Gm y (Wb _ hy)) bg (by
    rw[List.mapM_map]at h2;rw[<- h2];congr 1;funext i;rw[show k+1+i=k+i.succ by omega];rfl)
   refine⟨(x,y2),⟨xj,hy1⟩,?_⟩;have e:cs.drop (k * width c)=(cs.drop ((k+0) * width c)).take (width c)++cs.drop ((k+1) * width c):=by
    rw[Je,Oi,<- List.drop_drop];exact(List.take_append_drop _ _).symm
   rw[e];exact oq.pair hy2
theorem xx{α:Type}{Q:Nat->α->Prop}:∀{n:Nat},(∀i,i<n->∃x,Q i x)->∃l:List α,l.length=n/\∀(i:Nat)(x:α),l[i]?=some x->Q i x
 |0,_=>⟨[],rfl,fun i x h=>by simp at h⟩
 |n+1,h=>by
  obtain⟨l,h1,h2⟩:=xx (Q:=Q) (n:=n) fun i hi=>h i (by omega)
  obtain⟨x,hx⟩:=h n (by omega);refine⟨l++[x],by simp[h1],fun i y hy=> ?_⟩;rcases Vb i l.length with hi|hi
  ·rw[Ka hi]at hy;exact h2 i y hy
  ·rw[Na hi]at hy;have:i-l.length=0:=by
    rcases Nat.eq_zero_or_pos (i-l.length)with e|e
    ·exact e
    ·rw[Ab (by simp;omega)]at hy;simp at hy
   rw[this]at hy;simp at hy;subst hy;have:i=n:=by omega
   subst this;exact hx
def Wt(P:Program)(Q:DataW H->Prop)(t:TypeId)(d:DataW H):Prop:=Q d/\∀b∈d.weights P t,b<=reachBytes
theorem PF{e:TypeId}:∀{l:List (DataW H)},(∀d∈l,Q d)->(∀b∈DataW.weightsAll P e l,b<=reachBytes)->∀d∈l,Wt P Q e d
 |[],_,_,d,hd=>by cases hd
 |x::l,hq,h,d,hd=>by
  simp only[DataW.weightsAll,Mw]at h;rcases Yb.1 hd with rfl|hd
  ·exact⟨hq _ Ad,fun b hb=>h b (.inl hb)⟩
  ·exact PF (fun d hd=>hq d (Wb _ hd)) (fun b hb=>h b (.inr hb)) d hd
theorem cg(hQ:Down S Q)(hZ:∀R,R<w.heap.size->g.Z R){base:Nat}{held:Bool}{c:CT}{e:TypeId}{t:TypeId}(ht:P.underlying t=some (.slice e))(hw:P.cellsOf e=width c)(ue:csz c<=P.bytesOf e){fuel:Nat}
  (ih:∀{cs:List Value}{y:DataW H×List MemPlace},DataW.trod En P w base (fun _=>true) held fuel e cs=some y->Wt P Q e y.1->∃x:Gb c,AE S c x/\Xh g w c x cs) {cs:List Value} {y:DataW H×List MemPlace}
  (hy:DataW.trod En P w base (fun _=>true) held (fuel+1) t cs=some y) (Gm:Wt P Q t y.1):∃x:List (Gb c),AE S (.slice c) x/\Xh g w (.slice c) x cs:=by
 have Lf:=Yw c;rcases cs with _|⟨v,_|⟨v2,rest⟩⟩
 ·simp[DataW.trod,ht]at hy
 ·cases v
  case slice a len cap=>
   cases a with
   |none=>
    cases len<;>cases cap<;>simp[DataW.trod,ht]at hy
    exact⟨[],⟨⟨je _,by simp⟩,fun x h=>by cases h⟩,Xh.one .Xa rfl (.lit c []) rfl rfl (fun m=> .di c _ (.inl rfl)) .Xa⟩
   |some a=>
    simp only[DataW.trod,ht]at hy;split at hy
    case isFalse=>simp at hy
    rename_i hc;simp only[aa,if_true,ia]at hy;obtain⟨elems,he,rest,hr,hyy⟩:=hy;have iaf:(elems.length+rest.length) * P.bytesOf e<=reachBytes/\∀b∈DataW.weightsAll P e (elems.map (·.1)),b<=reachBytes:=by
     rw[<- hyy]at Gm;have Gm:=Gm.2;simp only[DataW.weights,ht,Qc]at Gm;exact⟨Gm _ Ad,fun b hb=>Gm b (Wb _ (Df _ hb))⟩
    have hq:=hQ.slice (elems.map (·.1)) (rest.map (·.1)) (by have:=Gm.1;rw[<- hyy]at this;exact this);have waj:=PF hq.2 iaf.2;obtain⟨l1,l2⟩:=Zu he;obtain⟨r1,r2⟩:=Zu hr;simp only[List.length_range]at l1 r1;have yU:∀i,i<len->∃x:Gb c,AE S c x/\∃cs,w.cells? base (a.add (i * P.cellsOf e)) (P.cellsOf e)=some cs/\Xh g w c x cs:=fun i hi=>by
     obtain⟨z,qU,gJ⟩:=l2 i i (by simp[hi]);obtain⟨cs,aj,hz⟩:=aa.1 gJ;obtain⟨x,xj,oq⟩:=ih hz (waj _ (Ju.2 ⟨z,Nb qU,rfl⟩));exact⟨x,xj,cs,aj,oq⟩
    obtain⟨l,NK,lJ⟩:=xx yU;have Qh:AE S (.slice c) l:=⟨⟨by have:=hq.1 (by rw[Qc,l1];omega);rw[Qc,l1]at this;rw[NK];exact this,by
     rw[NK];refine Ib (Nat.mul_le_mul (Ib (Kh l1.symm) (Nat.le_add_right _ rest.length)) ue) iaf.1⟩,fun x hx=>by obtain⟨i,hi⟩:=List.mem_iff_getElem?.1 hx;exact(lJ i x hi).1⟩
    refine⟨l,Qh,?_⟩;by_cases h0:cap=0
    ·have hlen:len=0:=by omega
     subst h0;subst hlen;have:l=[]:=Ja.1 NK;subst this;exact Xh.one (.lit (width c) []) rfl (.lit c []) rfl rfl (fun m=> .lit c [] [] rfl (fun i row h=>by simp at h) (fun i row k x a h=>by simp at h)) (.lits _ _)
    ·have zf:a.spot=none/\a.block<w.heap.size:=by
      have hex:∃cs,w.cells? base (a.add (0 * P.cellsOf e)) (P.cellsOf e)=some cs:=by
       rcases Nat.eq_zero_or_pos len with hz|hp
       ·obtain⟨z,_,gJ⟩:=r2 0 0 (List.getElem?_range (by omega));obtain⟨cs,aj,_⟩:=aa.1 gJ;subst hz;exact⟨cs,aj⟩
       ·obtain⟨x,_,cs,aj,_⟩:=yU 0 hp;exact⟨cs,aj⟩
      obtain⟨cs,aj⟩:=hex;obtain⟨_,h2⟩:=World.vC aj;obtain⟨v,_,hv⟩:=h2 0 (by omega);have:=vN hv
      simpa[Addr.add]using this
     have sd:∀i,i<len->∃row:List V.AV,∃x cs,l[i]?=some x/\w.cells? base (a.add (i * P.cellsOf e)) (P.cellsOf e)=some cs/\cs.length=width c/\(∀v∈cs,v.oneCell'=true)/\(∀m,RL m (enc c x) row)/\row.length=cs.length/\∀(i:Nat)(a:V.AV)(v:Value),row[i]?=some a->cs[i]?=some v->V.mb g w a v:=fun i hi=>by
      have hx:=Ba (l:=l) (i:=i) (by omega);obtain⟨_,cs,aj,k1,k2,as,k3,k4,k5⟩:=lJ i _ hx;exact⟨as,_,cs,hx,aj,k1,k2,k3,k4,k5⟩
     obtain⟨rows,q1,q2⟩:=xx sd;have T7:∀i k,i<len->k<width c->∃v,w.cell? ⟨a.block,a.off+i * width c+k,none⟩=some v/\v.oneCell'=true/\∀row x,rows[i]?=some row->row[k]?=some x->V.mb g w x v:=fun i k hi hk=>by
      have hx:=Ba (l:=rows) (i:=i) (by omega);obtain⟨x,cs,_,aj,k1,k2,_,k4,k5⟩:=q2 i _ hx;obtain⟨c1,c2⟩:=World.vC aj;obtain⟨v,W7,N4⟩:=c2 k (by rw[hw];exact hk);refine⟨v,?_,k2 v (Nb W7),fun row y hr hy=> ?_⟩
      ·rw[<- N4,hw,HK zf.1,HK rfl]
      ·rw[hx]at hr;injection hr with hr;subst hr;exact k5 k y v hy W7
     refine Xh.one (.lit (width c) rows) rfl (.lit c l) rfl rfl (fun m=> .lit c l rows (by omega) (fun i row hi=> ?_) (fun i row k x b hi h1 h2=> ?_)) ?_
     ·obtain⟨x,cs,_,_,k1,_,_,k4,_⟩:=q2 i row hi;rw[k4,k1]
     ·obtain⟨x',cs,Dk,_,_,_,k3,_,_⟩:=q2 i row hi;have:vw c l i=enc c x':=by simp[vw,Ia,Dk]
      rw[this]at h1;exact(k3 m).2 k x b h1 h2
     ·have hch:∀i k,∃v,i<len->k<width c->w.cell? ⟨a.block,a.off+i * width c+k,none⟩=some v/\v.oneCell'=true/\∀row x,rows[i]?=some row->row[k]?=some x->V.mb g w x v:=fun i k=>by
       by_cases h1:i<len
       ·by_cases h2:k<width c
        ·obtain⟨v,hv⟩:=T7 i k h1 h2;exact⟨v,fun _ _=>hv⟩
        ·exact⟨undef,fun _ h=>absurd h h2⟩
       ·exact⟨undef,fun h _=>absurd h h1⟩
      have Gak:=fun i=>Classical.axiomOfChoice (hch i)
      obtain⟨F,hF⟩:=Classical.axiomOfChoice Gak;have:=V.mb.lit (g:=g) (w:=w) rows a cap (width c) F zf.1 (by omega) (fun _=>hZ _ zf.2) (fun i row hi=>by obtain⟨x,cs,_,_,k1,_,_,k4,_⟩:=q2 i row hi;rw[k4,k1])
       (fun i k hi hk=>(hF i k (by omega) hk).1) (fun i k hi hk=>(hF i k (by omega) hk).2.1) (fun i row k x hi hx=>by
        have PK:i<len:=by have:=Za hi;omega
        have hk:k<width c:=by obtain⟨x,cs,_,_,k1,_,_,k4,_⟩:=q2 i row hi;have:=Za hx;omega
        exact(hF i k PK hk).2.2 row x hi hx)
      rw[q1]at this;exact this
  all_goals simp[DataW.trod,ht]at hy
 ·simp[DataW.trod,ht]at hy
theorem dz{d:Nat}{cs:List Value}{f:TypeId->List Value->Option (DataW H×List MemPlace)}(hf:∀{t:TypeId}{c:CT},Uj P d t=some c->∀{cs y},f t cs=some y->Wt P Q t y.1->∃x:Gb c,AE S c x/\Xh g w c x cs):
  ∀(fs:List Field)(o:Nat){c:CT}{ys:List (DataW H×List MemPlace)},WC P d o fs=some c->cs.length=o+width c->(fs.mapM fun fd=>f fd.type ((cs.drop fd.offset).take (P.cellsOf fd.type)))=some ys->(∀y∈ys,Q y.1)->(∀b∈DataW.weightsEach P (fs.map (·.type)) (ys.map (·.1)),b<=reachBytes)->
   ∃x:Gb c,AE S c x/\Xh g w c x (cs.drop o)
 |[],o,c,ys,h,_,_,_,_=>by simp[sI]at h
 |[fd],o,c,ys,h,hl,hm,hq,Gm=>by
  simp only[Mu,ir,aa]at h;obtain⟨c1,h1,h⟩:=h;split at h
  case isFalse=>simp at h
  rename_i ho;injection h with h;subst h
  obtain⟨y,_,hy,_,e⟩:=ko hm;subst e;obtain⟨x,xj,oq⟩:=hf h1 hy ⟨hq _ Ad,fun b hb=>Gm b (by simp only[Pd,DataW.weightsEach];exact Df _ hb)⟩;refine⟨x,xj,?_⟩;rw[ho.1,ho.2,od (by simp;omega)]at oq;exact oq
 |fd::fd'::fs,o,c,ys,h,hl,hm,hq,Gm=>by
  simp only[Mu,ir,aa]at h;obtain⟨c1,h1,h⟩:=h;split at h
  case isFalse=>simp at h
  rename_i ho;simp only[ia]at h;obtain⟨c2,h2,rfl⟩:=h;obtain⟨y,ys',hy,hm',e⟩:=ko hm;subst e;obtain⟨x,xj,oq⟩:=hf h1 hy ⟨hq _ Ad,fun b hb=>Gm b (by simp only[Pd,DataW.weightsEach];exact Df _ hb)⟩;simp only[width]at hl;obtain⟨x2,hx3,hx4⟩:=dz hf (fd'::fs) (o+width c1) h2 (by omega) hm' (fun y hy=>hq y (Wb _ hy)) (fun b hb=>Gm b (by
   have:=List.mem_append_right (y.1.weights P fd.type) hb
   simpa only[Pd,DataW.weightsEach]using this))
  refine⟨(x,x2),⟨xj,hx3⟩,?_⟩;rw[ho.1,ho.2]at oq;have e:cs.drop o=(cs.drop o).take (width c1)++cs.drop (o+width c1):=by
   rw[<- List.drop_drop];exact(List.take_append_drop _ _).symm
  rw[e];exact oq.pair hx4
theorem Zn(hQ:Down S Q)(hZ:∀R,R<w.heap.size->g.Z R){base:Nat}{held:Bool}:∀(d:Nat){t:TypeId}{c:CT},Uj P d t=some c->∀{fuel:Nat}{cs:List Value}{y:DataW H×List MemPlace},DataW.trod En P w base (fun _=>true) held fuel t cs=some y->Wt P Q t y.1->
  ∃x:Gb c,AE S c x/\Xh g w c x cs
 |0,_,_,h,_,_,_,_,_=>by simp[Uj]at h
 |d+1,t,c,h,0,cs,y,hy,_=>by simp[DataW.trod]at hy
 |d+1,t,c,h,fuel+1,cs,y,hy,Gm=>by
  simp only[Uj]at h;split at h
  ·rename_i ht;injection h with h;subst h
   rcases cs with _|⟨v,_|⟨v2,rest⟩⟩
   ·simp[DataW.trod,ht]at hy
   ·cases v<;>simp[DataW.trod,ht]at hy
    rename_i b;exact⟨b,trivial,Xh.one (.bool b) rfl (.bool b) rfl rfl (fun m=> .bool b) (.bool b)⟩
   ·simp[DataW.trod,ht]at hy
  ·rename_i k ht;injection h with h;subst h
   rcases cs with _|⟨v,_|⟨v2,rest⟩⟩
   ·simp[DataW.trod,ht]at hy
   ·cases v<;>simp[DataW.trod,ht]at hy
    rename_i k' n;obtain⟨⟨rfl,hn⟩,_⟩:=hy;simp only[Lit.wf,Va,decide_eq_true_eq]at hn;exact⟨n,hn,Xh.one (.int k' n) rfl (.int k' n) rfl rfl (fun m=> .int k' n) (.int k' n)⟩
   ·simp[DataW.trod,ht]at hy
  ·rename_i ht;injection h with h;subst h
   rcases cs with _|⟨v,_|⟨v2,rest⟩⟩
   ·simp[DataW.trod,ht]at hy
   ·cases v<;>simp[DataW.trod,ht]at hy
    rename_i s;exact⟨s,(by have hy2:=hy.2;subst hy2;have:=hQ.str _ Gm.1 (Ib (Kh Se) hy.1);exact Ib (Kh Array.length_toList.symm) this),Xh.one (.str s) rfl (.str s) rfl rfl (fun m=> .str s) (.str s)⟩
   ·simp[DataW.trod,ht]at hy
  ·rename_i e ht;obtain⟨c1,h1,h⟩:=aa.1 h;split at h
   case isFalse=>simp at h
   rename_i hw;injection h with h;subst h
   exact cg hQ hZ ht hw.1 hw.2 (fun hy Gm=>Zn hQ hZ d h1 hy Gm) hy Gm
  ·rename_i fs ht;have h:(WC P d 0 fs.toList).bind (fun c=>if P.cellsOf t=width c then some c else none)=some c:=h;obtain⟨c1,h1,h⟩:=aa.1 h;split at h
   case isFalse=>simp at h
   rename_i hw;injection h with h;subst h
   simp only[DataW.trod,ht]at hy;split at hy
   case isFalse=>simp at hy
   rename_i hl;simp only[ia]at hy;obtain⟨ys,hm,hyy⟩:=hy;rw[<- hyy]at Gm;obtain⟨hq,Gm⟩:=Gm;simp only[DataW.weights,ht]at Gm;have hq:=hQ.agg _ hq;have:=dz (g:=g) (w:=w) (Q:=Q) (f:=fun t cs=>DataW.trod En P w base (fun _=>true) held fuel t cs) (fun{_ _}h1{_ _}hy Gm=>Zn hQ hZ d h1 hy Gm) fs.toList 0 h1 (by rw[hl,hw];omega) hm (fun y hy=>hq _ (Ju.2 ⟨y,hy,rfl⟩)) (by simpa using Gm)
   simpa using this
  ·rename_i n e ht;obtain⟨c1,h1,h⟩:=aa.1 h;split at h
   case isFalse=>simp at h
   rename_i hw;obtain⟨c2,h2,h⟩:=aa.1 h;split at h
   case isFalse=>simp at h
   rename_i M4;injection h with h;subst h
   simp only[DataW.trod,ht]at hy;split at hy
   case isFalse=>simp at hy
   rename_i hl;simp only[ia]at hy;obtain⟨ys,hm,hyy⟩:=hy;rw[<- hyy]at Gm;obtain⟨hq,Gm⟩:=Gm;simp only[DataW.weights,ht]at Gm;have:=dR (g:=g) (w:=w) (e:=e) (wt:=Wt P Q e) (fun cs y hy Gm=>Zn hQ hZ d h1 hy Gm) h2 0 ys (fun y hy=>PF (hQ.agg _ hq) Gm _ (Ju.2 ⟨y,hy,rfl⟩)) (by rw[hl,M4];omega) (by simpa[hw]using hm)
   simpa using this
  ·simp at h
end
def Px(w:World):V.Gx:={ D:=fun _=>False,ρ:=fun _=>⟨0,0,0,0⟩,Z:=fun R=>R<w.heap.size }
theorem HU{G:Nat->Option (List V.AV)}{w:World}(hg:∀i row,G i=some row->V.Ro (Px w) w i row):V.dc G (Px w) w ⟨[],0⟩:=
 ⟨hg,fun b h=>h.elim,fun b x h=>h.elim,fun b b' h=>h.1.elim,fun R h=>h⟩
def Stood(w w':World):Prop:=w.heap.size<=w'.heap.size/\(∀R,R<w.heap.size->w'.heap[R]?=w.heap[R]?)/\(w'.os=w.os/\w'.output=w.output)
theorem Stood.kept{w w':World}(h:Stood w w')(may:MemPlace->Prop):w.keptBut w' may:=by
 refine⟨h.2.2.1,h.2.2.2,fun i hi=> ?_⟩;rw[h.2.1 i hi];cases h:w.heap[i]? with
 |none=>rfl
 |some o=>cases o<;>simp
section
variable {A:V.yh}
theorem X0(RC:V.rz A)(hE:V.yQ A)(O2:V.br A)(hD:V.Jn A){k:Nat}{f:FuncId}{fn:Func}(hf:A.fns f=some fn)(hb:fn.body.isSome=true){av:List V.AV}{vs:List Value}{W:World}{H':V.AH}{r:V.AV}
  (Qf:V.call A k (.fn f []) av ⟨[],0⟩=some (r,H')) (hW:V.dc A.Pa (Px W) W ⟨[],0⟩) (hl:av.length=vs.length) (hv:∀(i:Nat)(x:V.AV)(v:Value),av[i]?=some x->vs[i]?=some v->V.mb (Px W) W x v):
  Calls A.P f vs.toArray W fun e W'=>∃v,e= .returned v/\(∃g',V.mb g' W' r v)/\W.heap.size<=W'.heap.size/\(∀R,R<W.heap.size->W'.heap[R]?=W.heap[R]?)/\(W'.os=W.os/\W'.output=W.output):=by
 have h:=V.Oo RC hE O2 hD k (.fn f []) av ⟨[],0⟩ r H' Qf (Px W) W (.func (.func f) #[] #[]) vs hW (.fn f [] [] rfl fun i x v h=>by simp at h) hl hv Fence.wide 0
  { dst:=some 0,op:= .move (.tmp 0),type:=0,pos:= "",after:= #[],guard:=none } ⟨#[undef],[]⟩
  (fun a W'=>∃v,a.tmps= #[v]/\(∃g',V.mb g' W' r v)/\W.heap.size<=W'.heap.size/\(∀R,R<W.heap.size->W'.heap[R]?=W.heap[R]?)/\(W'.os=W.os/\W'.output=W.output)) (fun _ _ _=>False)
  ⟨fun _=>trivial,rfl,rfl⟩ (fun g' w' rv h1 h2 h3=>⟨rv,rfl,⟨g',h1⟩,h3.size,fun R hR=>h3.Fk R hR (fun⟨b,hb,_⟩=>hb.1.elim),h3.io⟩)
 rw[V.sx RC hf hb]at h;rw[Oper.uponIn_enter]at h;have h2:=callsIn_wide.1 h.2;simp only[Array.append_empty]at h2;refine Calls.mono h2 fun e W' he=> ?_
 cases e with
 |returned v=>
  obtain⟨v',h1,h2⟩:=he;have:v'=v:=by simpa[Act.put]using h1.symm
  subst this;exact⟨v',rfl,h2⟩
 |panicked c=>exact he.elim
 |outgrown=>exact he.elim fun _ h=>h.elim fun _ h=>h.elim
theorem sR(RC:V.rz A)(hE:V.yQ A)(O2:V.br A)(hD:V.Jn A){k:Nat}{f:FuncId}{fn:Func}(hf:A.fns f=some fn)(hb:fn.body.isSome=true){sp:Spec}(hOK:Xe (V.call A k) f sp){args:List UV}{av:List V.AV}{vs:List Value}{W:World}
  (ee:sp UV args ⟨[],0⟩ (fun r _=>some r)=some (.bool true)) (hR:∀m,RL m args av) (hW:V.dc A.Pa (Px W) W ⟨[],0⟩) (hl:av.length=vs.length) (hv:∀(i:Nat)(x:V.AV)(v:Value),av[i]?=some x->vs[i]?=some v->V.mb (Px W) W x v):
  Calls A.P f vs.toArray W fun e W'=>e= .returned (.bool true)/\Stood W W':=by
 obtain⟨r,H',h1,_,h2⟩:=hOK UV args ⟨[],0⟩ _ _ ee;injection h1 with h1;subst h1
 obtain⟨r',Nc,h3,m',_,h4,_⟩:=h2 ⟨fun _ _=>none,fun _ _=>0,0⟩ ⟨[],0⟩ av [] ⟨fun b _ x h=>by simp at h,fun b y h=>by simp at h,fun b b' _ _ x h=>by obtain⟨_,h,_⟩:=h;simp at h,fun b _ x h=>by simp at h,va _,rfl⟩ (by simpa using hR _);cases h4;refine(X0 RC hE O2 hD hf hb h3 hW hl hv).mono ?_
 rintro e W' ⟨v,rfl,⟨g',hv⟩,hs,hu,Qw⟩
 cases hv;exact⟨rfl,hs,hu,Qw⟩
end
section
variable {P:Program}
def Told(P:Program)(t:TypeId):Prop:=∃d c,Uj P d t=some c
theorem cR{n:Nat}{c c':CT}(h:V1 n c=some c'):width c'=n * width c:=by
 induction n generalizing c' with
 |zero=>simp[V1]at h
 |succ n ih=>
  cases n with
  |zero=>simp[V1]at h;subst h;simp
  |succ n=>
   simp only[V1,ia]at h;obtain⟨c2,h2,rfl⟩:=h;simp only[width,ih h2];rw[Oi (n+1)];omega
theorem cz{d:Nat}:∀(fs:List Field)(o:Nat){c:CT},WC P d o fs=some c->
  (∀f∈fs,Told P f.type)/\width c=(fs.map fun f=>P.cellsOf f.type).sum/\∀(j:Nat)(f:Field),fs[j]?=some f->f.offset=o+((fs.take j).map fun f=>P.cellsOf f.type).sum
 |[],o,c,h=>by simp[sI]at h
 |[fd],o,c,h=>by
  simp only[Mu,ir,aa]at h;obtain⟨c1,h1,h⟩:=h;split at h
  case isFalse=>simp at h
  rename_i ho;injection h with h;subst h
  refine⟨fun f hf=>by simp at hf;subst hf;exact⟨d,_,h1⟩,by simp[ho.2],fun j f hf=> ?_⟩;cases j with
  |zero=>simp at hf;subst hf;simp[ho.1]
  |succ j=>simp at hf
 |fd::fd'::fs,o,c,h=>by
  simp only[Mu,ir,aa]at h;obtain⟨c1,h1,h⟩:=h;split at h
  case isFalse=>simp at h
  rename_i ho;simp only[ia]at h;obtain⟨c2,h2,rfl⟩:=h;obtain⟨k1,k2,k3⟩:=cz (fd'::fs) _ h2;refine⟨fun f hf=>by rcases Yb.1 hf with rfl|hf;exact⟨d,_,h1⟩;exact k1 f hf,?_,fun j f hf=> ?_⟩
  ·simp only[width,k2,<- ho.2,Pd,List.sum_cons]
  ·cases j with
   |zero=>simp at hf;subst hf;simp[ho.1]
   |succ j=>
    simp only[We]at hf;rw[k3 j f hf,<- ho.2];simp only[List.take_succ_cons,Pd,List.sum_cons];omega
theorem OQ:Kids P (Told P)where
 pointer:=fun⟨d,c,h⟩ht=>by cases d<;>simp[Uj,ht]at h
 slice:=fun⟨d,c,h⟩ht=>by
  cases d with
  |zero=>simp[Uj]at h
  |succ d=>simp only[Uj,ht,aa]at h;obtain⟨c1,h1,_⟩:=h;exact⟨d,c1,h1⟩
 array:=fun⟨d,c,h⟩ht=>by
  cases d with
  |zero=>simp[Uj]at h
  |succ d=>
   simp only[Uj,ht,aa]at h;obtain⟨c1,h1,h⟩:=h;split at h
   case isFalse=>simp at h
   rename_i hw;obtain⟨c2,h2,h⟩:=aa.1 h;split at h
   case isFalse=>simp at h
   rename_i M4;exact⟨⟨d,c1,h1⟩,by rw[M4,hw,cR h2]⟩
 struct:=fun⟨d,c,h⟩ht=>by
  cases d with
  |zero=>simp[Uj]at h
  |succ d=>
   simp only[Uj,ht,aa]at h;obtain⟨c1,h1,h⟩:=h;split at h
   case isFalse=>simp at h
   rename_i hw;obtain⟨k1,k2,k3⟩:=cz (d:=d) _ 0 h1;exact⟨k1,by rw[hw,k2],fun j f hf=>by rw[k3 j f hf];simp⟩
 map:=fun⟨d,c,h⟩ht=>by cases d<;>simp[Uj,ht]at h
theorem dL{t e:TypeId}(h:Told P t)(ht:P.underlying t=some (.slice e)):0<P.cellsOf e:=by
 obtain⟨d,c,h⟩:=h;cases d with
 |zero=>simp[Uj]at h
 |succ d=>
  simp only[Uj,ht,aa]at h;obtain⟨c1,_,h⟩:=h;split at h
  case isFalse=>simp at h
  rename_i hw;rw[hw.1];exact Yw c1
variable {H:Type}{En:TypeId×Value->H}{w w':World}
theorem Stood.sameAt(h:Stood w w'){p:MemPlace}(hp:p.block<w.heap.size):w.sameAt w' p:=by
 cases p with
 |cell b off=>
  have:=h.2.1 b hp;show w'.cell? _=w.cell? _;simp only[World.cell?,this]
 |map b=>exact h.2.1 b hp
theorem KF(h:Stood w w'){sp:Nat->Bool}:∀{ts:List TypeId}{vs:List Value}{ds:List (DataW H)}{ps:List MemPlace},(∀t∈ts,Told P t)->(∀p∈ps,sp p.block=true)->DataW.TrodAll En P w 0 (fun _=>true) true ts vs ds ps->DataW.TrodAll En P w' 0 sp true ts vs ds ps
 |[],[],[],ps,_,_,hp=>hp
 |t::ts,v::vs,d::ds,ps,ht,hs,⟨p,q,⟨n,h1⟩,h2,e⟩=>by
  subst e;have Ac:=DataW.trod_lt n t _ _ h1;exact⟨p,q,⟨n,DataW.trod_stays OQ dL (fun h=>by cases h) (ht t (Ad ..)) h1 (fun p hp=>h.sameAt (Ac p hp)) (fun p hp=>hs p (Df _ hp))⟩,
   KF h (fun t' h'=>ht t' (Wb _ h')) (fun p hp=>hs p (List.mem_append_right _ hp)) h2,rfl⟩
 |[],[],_::_,_,_,_,h'=>h'.elim
 |[],_::_,_,_,_,_,h'=>by cases h'
 |_::_,[],_,_,_,_,h'=>by cases h'
 |_::_,_::_,[],_,_,_,h'=>by cases h'
def Wq(P:Program)(t:TypeId):Bool:=match P.underlying t with|some (.struct _)|some (.array _ _)=>true|_=>false
def EC(agg:Bool)(c:CT)(x:Gb c):UV:=if agg then .agg (enc c x)else(enc c x).headD .Sb
theorem lB{S:Nat}{Q:DataW H->Prop}(hQ:Down S Q){d:Nat}{t:TypeId}{c:CT}(h:Uj P d t=some c){r:Reach}{b:Nat}{v:Value}(pq:Value.okWide P w r b t v){dd:DataW H}{p:List MemPlace}(ht:DataW.Trod En P w 0 (fun _=>true) true t v dd p)(Gm:Wt P Q t dd):
  ∃x:Gb c,AE S c x/\∃a,(∀m,RV m (EC (Wq P t) c x) a)/\V.mb (Px w) w a v:=by
 obtain⟨fuel,hf⟩:=ht;obtain⟨x,hx,hl,h1,as,h2,h3,h4⟩:=Zn hQ (g:=Px w) (fun _ h=>h) d h hf Gm;refine⟨x,hx,?_⟩;have Iz:Wq P t=false->(∀cs,v≠ .agg cs)->width c=1->∃a,(∀m,RV m (EC (Wq P t) c x) a)/\V.mb (Px w) w a v:=fun hb hv hw=>by
  have aj:v.cells.toList=[v]:=by cases v<;>first|rfl|exact absurd rfl (hv _)
  rw[aj]at hl h3 h4;have yU:=Ih c x;rw[hw]at yU;obtain⟨u,hu⟩:=List.length_eq_one_iff.1 yU;obtain⟨a,ha⟩:=List.length_eq_one_iff.1 (h3.trans rfl);subst ha;refine⟨a,fun m=> ?_,h4 0 a v rfl rfl⟩;have:=(h2 m).2 0 u a (by rw[hu];rfl) rfl
  simpa[EC,hb,hu]using this
 have nag:(∃cs,v= .agg cs)->Wq P t=true->∃a,(∀m,RV m (EC (Wq P t) c x) a)/\V.mb (Px w) w a v:=fun⟨cs,hv⟩hb=>by
  subst hv;refine⟨.agg as,fun m=> ?_,?_⟩
  ·simp only[EC,hb,if_true];exact .agg _ _ (h2 m).1 (h2 m).2
  ·have:=V.mb.agg (g:=Px w) (w:=w) as cs.toList h3.symm h1 h4
   simpa using this
 cases d with
 |zero=>simp[Uj]at h
 |succ d=>
 simp only[Uj]at h;split at h
 ·rename_i hu;injection h with h;subst h
  exact Iz (by simp[Wq,hu]) (fun cs e=>by subst e;simp[Value.okWide,hu,Cell.okWide,Cell.ok]at pq) rfl
 ·rename_i k hu;injection h with h;subst h
  exact Iz (by simp[Wq,hu]) (fun cs e=>by subst e;simp[Value.okWide,hu,Cell.okWide,Cell.ok]at pq) rfl
 ·rename_i hu;injection h with h;subst h
  exact Iz (by simp[Wq,hu]) (fun cs e=>by subst e;simp[Value.okWide,hu,Cell.okWide,Cell.ok]at pq) rfl
 ·rename_i e hu;obtain⟨c1,_,h⟩:=aa.1 h;split at h
  case isFalse=>simp at h
  injection h with h;subst h
  exact Iz (by simp[Wq,hu]) (fun cs e=>by subst e;simp[Value.okWide,hu,Cell.okWide,Cell.ok]at pq) rfl
 ·rename_i fs hu;exact nag (by simp only[Value.okWide,hu]at pq;obtain⟨cs,e,_⟩:=pq;exact⟨cs,e⟩) (by simp[Wq,hu])
 ·rename_i n e hu;exact nag (by simp only[Value.okWide,hu]at pq;obtain⟨cs,e,_⟩:=pq;exact⟨cs,e⟩) (by simp[Wq,hu])
 ·simp at h
theorem mV{vs:List Value}{ds:List (DataW H)}{p:List MemPlace}(h:DataW.TrodAll En P w 0 (fun _=>true) true [] vs ds p):vs=[]/\ds=[]:=by
 cases vs<;>cases ds<;>first|exact⟨rfl,rfl⟩|exact h.elim
theorem Ax{t:TypeId}{ts:List TypeId}{vs:List Value}{ds:List (DataW H)}{p:List MemPlace}(h:DataW.TrodAll En P w 0 (fun _=>true) true (t::ts) vs ds p):
  ∃v vs' d ds' p0 p1,vs=v::vs'/\ds=d::ds'/\DataW.Trod En P w 0 (fun _=>true) true t v d p0/\DataW.TrodAll En P w 0 (fun _=>true) true ts vs' ds' p1:=by
 cases vs with
 |nil=>exact h.elim
 |cons v vs=>
  cases ds with
  |nil=>exact h.elim
  |cons d ds=>obtain⟨p0,p1,h1,h2,_⟩:=h;exact⟨v,vs,d,ds,p0,p1,rfl,rfl,h1,h2⟩
theorem MA{Q:DataW H->Prop}{t:TypeId}{ts:List TypeId}{d:DataW H}{ds:List (DataW H)}(h:∀b∈DataW.weightsEach P (t::ts) (d::ds),b<=reachBytes)(hq:∀x∈d::ds,Q x):Wt P Q t d/\(∀b∈DataW.weightsEach P ts ds,b<=reachBytes)/\∀x∈ds,Q x:=by
 simp only[DataW.weightsEach,Mw]at h;exact⟨⟨hq _ Ad,fun b hb=>h b (.inl hb)⟩,fun b hb=>h b (.inr hb),fun x hx=>hq x (Wb _ hx)⟩
theorem fR{f:Func}{s:ChangeSpec}{apart fresh handsOn again:Bool}{W W':World}{args:Array Value}{ds:List (DataW H)}{before:List MemPlace}(V7:s.vars=[])(hW:DataW.Whole En P f.params.toList s.vars apart W args.toList ds [] before)
  (hS:Stood W W') {tb:TypeId} (htb:P.underlying tb=some .bool) (R4:f.resultTypes= #[tb]) (Ln:s.fn H (ds++[])={ results:=[.lit (.bool true)],args:=ds }) (ht:∀t∈f.params.toList,Told P t):
  s.post En P f apart fresh handsOn again W args (.bool true) W':=by
 obtain⟨p,q,hA,hV,rfl,hz,hn⟩:=id hW;have hq:q=[]:=by rw[V7]at hV;exact hV
 subst hq;have Ac:∀x∈p,x.block<W.heap.size:=hA.lt;have hr:∀(b:Nat)(sp:Nat->Bool)(hd:Bool),DataW.TrodAll En P W' b sp hd f.resultTypes.toList ((Value.bool true).resultList f.resultTypes.size) (s.fn H (ds++[])).results []:=fun b sp hd=>by
  rw[R4,Ln];exact⟨[],[],RowKit.shut_bool htb true,rfl,rfl⟩
 have ha:∀sp:Nat->Bool,(∀x∈p,sp x.block=true)->DataW.TrodAll En P W' 0 sp true f.params.toList args.toList (s.fn H (ds++[])).args p:=fun sp hs=>by rw[Ln];exact KF hS ht hs hA
 have hv:∀sp:Nat->Bool,DataW.TrodVars En P W' sp s.vars (s.fn H (ds++[])).vars []:=fun sp=>by rw[V7,Ln];rfl
 refine⟨ds,[],p++[],[],p,[],hW,hr _ _ _,ha _ (fun x hx=>by simpa using Ac x hx),hv _,hS.kept _,fun _=>⟨fun j t r h1 h2=> ?_,_,_,([]++p)++[],⟨[]++p,[],ChangeShapes.trodAll_append (ha _ (fun _ _=>rfl)) (hr _ _ _),hv _,rfl,?_,?_⟩,?_⟩⟩
 ·rw[R4]at h1 h2;rcases j with _|j
  ·simp at h1;subst h1;have:r= .bool true:=by simpa[Value.resultList]using h2.symm
   subst this;exact RowKit.okWide_bool_mk htb true
  ·simp at h1
 ·intro b off hp;have QL:MemPlace.cell b off∈p:=by simpa using hp
  have hb:b<W.heap.size:=Ac _ QL;have:=hz b off (by simpa using hp);unfold World.frozen? at this ⊢;rw[hS.2.1 b hb];exact this
 ·intro hap
  simpa using hn hap
 ·intro x hx _
  simpa using hx
end
end Go.U
namespace Go.U
open Go
section
variable [TB:GC]{A:V.yh}
theorem Oq{k:Nat}{f:FuncId}{g:List V.AV->V.AH->Option (V.AV×V.AH)}(he:A.ext f=some g)(cs as:List V.AV)(H:V.AH):V.call A (k+1) (.fn f cs) as H=g (as++cs) H:=by
 simp only[V.call,he]
theorem D5{k:Nat}{f:FuncId}(he:A.ext f=some V.F5){sp:Spec}(zf:∀X args H K out,sp X args H K=some out->∃n b:Int,args=[.int .i64 n,.int .i64 b]/\H=⟨[],0⟩/\(-9223372036854775808<=n/\n<=9223372036854775807/\b=10)/\K (.str ⟨(Lib.itoa n).toArray⟩) ⟨[],0⟩=some out):
  Xe (V.call A (k+1)) f sp:=by
 intro X args H K out h;obtain⟨n,b,rfl,rfl,hc,h'⟩:=zf X args H K out h;refine⟨_,_,h',rfl,fun m Hv as cs hh hl=> ?_⟩;obtain⟨a1,l1,e1,q1,q2⟩:=hl.Wh;obtain⟨a2,l2,e2,q3,q4⟩:=q2.Wh;have e3:l2=[]:=Ja.1 q4.1;rw[Oq he,e1,e2,e3];cases q1;cases q3;exact⟨.str _,Hv,by simp only[V.F5];rw[if_pos hc],.same hh (.str _)⟩
theorem Ey:∀(l:List UInt8),V.RA (l.map fun b=>[V.AV.int .u8 (b.toNat:Int)])=some l
 |[]=>rfl
 |b::l=>by
  have hb:=b.toNat_lt;simp only[Pd,V.RA];rw[if_pos ⟨by omega,by omega⟩,Ey l]
  simp
theorem sr(s:ByteArray):s.data.toList.length=s.size:=Se
theorem uk(s:ByteArray):(V.uc s).length=s.size:=by unfold V.uc;rw[Qc];exact sr s
theorem OU{k:Nat}{f:FuncId}(he:A.ext f=some (V.YC TB.bT TB.uT)){sp:Spec}(zf:∀X args H K out,sp X args H K=some out->∃s:ByteArray,args=[.ptr 0 0]/\H=⟨[.um (.all 1),.yp s],0⟩/\K (.str s) ⟨[.um (.all 1),.dead],0⟩=some out):
  Xe (V.call A (k+1)) f sp:=by
 intro X args H K out h;obtain⟨s,rfl,rfl,h'⟩:=zf X args H K out h;refine⟨_,_,h',rfl,fun m Hv as cs hh hl=> ?_⟩;obtain⟨a1,l1,e1,q1,q2⟩:=hl.Wh;have e2:l1=[]:=Ja.1 q2.1;rw[Oq he,e1,e2];obtain⟨x,p,q',h1,h2,h3,h4,h5⟩:=hh.Vc 0 _ rfl;obtain⟨k1,k2⟩:=hh.Vc 1 _ rfl;cases q1 with
 |ptr _ _ x' Dk=>
 rw[h1]at Dk;injection Dk with Dk;subst Dk
 have Si:RH m ⟨[.um (.all 1),.dead],0⟩ Hv:=hh.kill 1;cases h4 with
 |Yf _ _ Ac hz ha=>
  have hq:q'= .Xa:=ha.resolve_right h5;subst hq;have hs:s.size=0:=by rw[<- k1];exact hz
  have tU:s=⟨#[]⟩:=by
   have:s.data.toList=[]:=Ja.1 (by rw[sr];exact hs);cases s;simp_all
  subst tU;exact⟨_,Hv,by simp only[V.YC,h2,if_true],.same Si (.str _)⟩
 |all _ y hy=>
  rcases k2 with⟨_,k3⟩|⟨y',k3,k4,k5⟩
  ·rw[hy]at k3;simp at k3
  ·rw[hy]at k3;injection k3 with k3;subst k3
   have ag:=hh.wm 1 y hy (je _);have Hu:(V.uc s).length=s.size:=uk _;have Nd:=Si.other (x:=y) (fun b s' hb e=>by
    match b,hb,e with
    |0,hb,e=>exact absurd (hh.inj 0 1 y ⟨_,rfl,rfl⟩ ⟨_,rfl,rfl⟩ e hy) (by simp)
    |1,hb,_=>obtain⟨z,hz,gJ⟩:=hb;simp at hz;subst hz;simp[Zd]at gJ
    |b+2,hb,_=>obtain⟨z,hz,_⟩:=hb;simp at hz) .dead
   refine⟨.str s,V.Ra Hv y .dead,?_,m,Nd,.str _,.refl m,⟨.refl (va _),fun x' Dk JR=>by rw[Ec,if_neg (fun e=>JR 1 0 (by rw[<- e];exact hy))],fun b' s' x' Ld=> .inl ⟨b',s',Ld⟩,by simp[V.Ra],rfl⟩⟩;simp only[V.YC,h2,if_true,Nn];rw[k4];simp only;rw[if_pos ⟨trivial,va _,ag,by rw[k1];exact k5,by rw[Hu,k1];exact va _⟩,k1,od (by rw[Hu];exact va _)];simp only[V.uc,Ey,Oc]
def M1(A:V.yh)(k:Nat)(f:FuncId)(ts:Array TypeId):Prop:=
 ∀(H:V.AH)(x:Nat)(p q v:V.AV)(t:ByteArray)(H2:V.AH),H.bl[x]?=some (.cells [[p,q]] 2 (some (TB.bT,2)))->(p= .Oe\/p= .ptr x 0 0)->H.wm<=x->
  V.append A (V.Ra H x (.cells [[.ptr x 0 0,q]] 2 (some (TB.bT,2)))) ts q (.str t)=some (v,H2)->H2.bl[x]?=some (.cells [[.ptr x 0 0,q]] 2 (some (TB.bT,2)))->H2.wm=H.wm->v.iO=true->
  V.call A k (.fn f []) [.ptr x 0 0,.str t] H=some (.Sc [.int .i64 t.size,.Rg],V.Ra H2 x (.cells [[.ptr x 0 0,v]] 2 (some (TB.bT,2))))
structure s7(A:V.yh)(ts:Array TypeId):Prop where
 ty:∃t u,ts= #[t,u]/\V.elem? A t=some TB.uT/\A.P.underlying u=some .string/\V.zero A TB.uT=some [.int .u8 0]/\V.bytes A TB.uT=some 1/\V.size A TB.uT=some 1
theorem WH(s t:ByteArray):V.uc (s++t)=V.uc s++V.uc t:=by
 simp[V.uc,Nw]
theorem XH(s:ByteArray):(V.uc s).all (fun r=>r.length==1)=true:=tc.2 fun r hr=>by
 unfold V.uc at hr;obtain⟨b,_,rfl⟩:=Ju.1 hr;rfl
def D7[TB:GC](H:V.AH)(q:V.AV)(xs:List (List V.AV))(t:ByteArray):Option (V.AV×V.AH):=
 match q with
 | .Xa| .Ud=>some (.sl H.bl.length 0 t.size,V.push H (.cells (V.uc t) 1 (some (TB.uT,1))))
 | .sl b r _=>if H.wm<=b/\V.Jj H b=some 1 then some (.sl H.bl.length 0 (xs.length+t.size),V.push (V.Ra H b .dead) (.cells (xs++V.uc t) 1 (V.vz (V.TF H b) TB.uT r)))else none
 |_=>none
theorem Xw{ts:Array TypeId}(uo:s7 A ts){H:V.AH}{q:V.AV}{t:ByteArray}{xs:List (List V.AV)}(Lr:V.rowsOf H q=some xs)(hn:xs.length+t.size<=70368744177664):
  V.append A H ts q (.str t)=if t.size=0 then some (q,H)else D7 H q xs t:=by
 obtain⟨t0,u,rfl,h1,h2,h3,h4,h5⟩:=uo.ty;have hl:(V.uc t).length=t.size:=uk _;have g0:(#[t0,u]:Array TypeId)[0]?=some t0:=rfl;have g1:(#[t0,u]:Array TypeId)[1]?=some u:=rfl;simp only[V.append,g0,g1,h1,h2,h3,h4,Lr,ga,hl,Tj];rw[if_pos ⟨by omega,by omega,by omega,h5,XH t⟩];rfl
theorem go2{n:Nat}{m m':Mp}{Hv H':V.AH}(e:m.top=n)(h:Oj m.top m Hv m' H'):Oj n m Hv m' H':=e ▸ h
theorem J3{ts:Array TypeId}(uo:s7 A ts){m:Mp}{Hv H1:V.AH}{x:Nat}{q':V.AV}{s t:ByteArray}{C:Prop}(hn:s.size+t.size<=70368744177664)
  (h1:m.ι 0 0=some x) (h4:RV m (.all 1) q') (h5:q'≠ .Ud) (k1:m.len 1 0=s.size) (jI:x<Hv.bl.length) (Ez:m.top=2)
  (PE:RH m ⟨[.um (.all 1),.yp s],0⟩ H1) (cW:Oj 2 m Hv m H1)
  (ep:H1.bl[x]?=some (.cells [[.ptr x 0 0,q']] 2 (some (TB.bT,2)))) (NK:H1.bl.length=Hv.bl.length) (ML:H1.wm=Hv.wm)
  (fin:∀(v:V.AV)(H2:V.AH)(m2:Mp),V.append A H1 ts q' (.str t)=some (v,H2)->RH m2 ⟨[.um (.all 1),.dead,.yp (s++t)],0⟩ H2->RV m2 (.all 2) v->v≠ .Ud->v.iO=true->m2.ι 0 0=some x->H2.bl[x]?=some (.cells [[.ptr x 0 0,q']] 2 (some (TB.bT,2)))->H2.wm=Hv.wm->
   m.Le m2->Oj 2 m Hv m2 H2->C):C:=by
 have jc:(s++t).size=s.size+t.size:=by simp
 obtain⟨_,k2⟩:=PE.Vc 1 _ rfl;have Si:RH m ⟨[.um (.all 1),.dead],0⟩ H1:=PE.kill 1;have bW:Oj 2 m Hv m H1:=cW;have Iaf:∀{b:Nat},live ⟨[.um (.all 1),.dead],0⟩ b->b=0:=fun{b}hb=>by
  obtain⟨z,hz,gJ⟩:=hb
  match b,hz with
  |0,_=>rfl
  |1,hz=>simp at hz;subst hz;simp[Zd]at gJ
  |b+2,hz=>simp at hz
 have Xaa:∀(xo:Option Nat)(n:Nat),(m.add 2 xo n).ι 0 0=some x:=fun xo n=>by rw[Gf _ _ _ (by omega)];exact h1
 by_cases ht0:t.size=0
 ·
  have Hz:s++t=s:=by
   have:t.data.toList=[]:=Ja.1 (by rw[sr];exact ht0);cases s;cases t;simp_all [ByteArray.ext_iff,Nw]
  have Pc:∃xs,V.rowsOf H1 q'=some xs/\xs.length=s.size:=by
   cases h4 with
   |Yf _ _ Ac hz ha=>have hq:q'= .Xa:=ha.resolve_right h5;subst hq;exact⟨[],rfl,by rw[<- k1];exact hz.symm⟩
   |all _ y hy=>
    have vR:=k2;rcases vR with⟨_,k3⟩|⟨y',k3,k4,k5⟩
    ·rw[hy]at k3;simp at k3
    ·rw[hy]at k3;injection k3 with k3;subst k3
     have Hu:(V.uc s).length=s.size:=uk _;refine⟨V.uc s,?_,Hu⟩;unfold V.rowsOf;simp only;rw[k4];simp only;rw[if_pos (by rw[k1,Hu];omega),k1,List.drop_zero,od (by rw[Hu];exact va _)]
  obtain⟨xs,Lr,Xan⟩:=Pc;have ha:=Xw uo (t:=t) Lr (by omega);rw[if_pos ht0]at ha;have hp:=Si.push (Nc:=H1) (y:= .yp (s++t)) (x:=m.ι 1 0) (n:=s.size) (fun _ _ _ _ _=>rfl) (va _) rfl (fun xv e=>⟨(PE.Ie 1 xv e).2,PE.wm 1 xv e (je _),fun b s' hb e'=>by
    have:=Iaf hb;subst this;exact absurd (PE.inj 0 1 xv ⟨_,rfl,rfl⟩ ⟨_,rfl,rfl⟩ e' e) (by simp)⟩) (by
   have vR:=k2;refine⟨by rw[Hz];exact zd _ _ _ _,?_⟩;rw[Hz];rcases vR with⟨k3,k4⟩|⟨y',k3,k4,k5⟩
   ·exact .inl ⟨k3,by rw[be];exact k4⟩
   ·exact .inr ⟨y',by rw[be];exact k3,k4,k5⟩)
  refine fin q' H1 (m.add 2 (m.ι 1 0) s.size) ha hp.1 ?_ h5 (by cases h4 with|Yf _ _ _ _ ha=>(rcases ha with rfl|rfl<;>rfl)|all _ _ _=>rfl) (Xaa _ _) ep ML hp.2 (bW.trans ⟨by have:=Mg Si (m.ι 1 0) s.size;rw[Ez]at this;exact this,fun _ _ _=>rfl,fun b _ xv hb=> ?_,va _,rfl⟩ (va _))
  ·cases h4 with
   |Yf _ _ Ac hz ha=>exact .Yf _ _ (by simp[Mp.add,Mp.Ni]) (by rw[zd,<- k1];exact hz) ha
   |all _ y hy=>
    have:=RV.all (m:=m.add 2 (m.ι 1 0) s.size) 2 y (by rw[be];exact hy);rw[zd]at this;rw[k1];exact this
  ·by_cases e:b=2
   ·subst e;obtain⟨_,e⟩:=Ki hb;exact .inl ⟨1,_,e⟩
   ·rw[Gf _ _ _ e]at hb;exact .inl ⟨b,_,hb⟩
 ·cases h4 with
  |Yf _ _ Ac hz ha=>
   have hq:q'= .Xa:=ha.resolve_right h5;subst hq;have G2:s.size=0:=by rw[<- k1];exact hz
   have tg:s++t=t:=by
    have:s.data.toList=[]:=Ja.1 (by rw[sr];exact G2);cases s;cases t;simp_all [ByteArray.ext_iff,Nw]
   have gW:=Xw uo (H:=H1) (q:= .Xa) (t:=t) (xs:=[]) rfl (by simp;omega);rw[if_neg ht0]at gW;have ze:=Si.new (y:= .yp (s++t)) (yv:= .cells (V.uc t) 1 (some (TB.uT,1))) (n:=t.size) ⟨by rw[tg];exact zd _ _ _ _,.inr ⟨_,be _ _ _ _,by rw[tg,Ke,if_neg (by omega),if_pos rfl],by rw[tg];omega,by rw[tg];omega⟩⟩;refine fin _ _ _ gW ze.1 ?_ (by simp) rfl (Xaa _ _) (by rw[Ke,if_pos (by rw[NK];exact jI)];exact ep) ML ze.2.1 (bW.trans ze.2.2 (by rw[Ez];exact va _));have:=RV.all (m:=m.add 2 (some H1.bl.length) t.size) 2 H1.bl.length (be _ _ _ _);rw[zd]at this;exact this
  |all _ y hy=>
   have vR:=k2;rcases vR with⟨_,k3⟩|⟨y',k3,k4,k5⟩
   ·rw[hy]at k3;simp at k3
   ·rw[hy]at k3;injection k3 with k3;subst k3
    have Hu:(V.uc s).length=s.size:=uk _;have Lr:V.rowsOf H1 (.sl y 0 (m.len 1 0))=some (V.uc s):=by
     unfold V.rowsOf;simp only;rw[k4];simp only;rw[if_pos (by rw[k1,Hu];omega),k1,List.drop_zero,od (by rw[Hu];exact va _)]
    have gW:=Xw uo (t:=t) Lr (by rw[Hu];exact hn);rw[if_neg ht0]at gW;simp only[D7]at gW;have hwy:=PE.wm 1 y hy (je _);have hxy:y≠x:=fun e=>by subst e;exact absurd (PE.inj 0 1 y ⟨_,rfl,rfl⟩ ⟨_,rfl,rfl⟩ h1 hy) (by simp)
    rw[if_pos ⟨hwy,by simp[V.Jj,k4]⟩,Hu]at gW;have gD:V.vz (V.TF H1 y) TB.uT 0=some (TB.uT,1):=by simp[V.TF,k4,V.vz]
    rw[gD,<- WH]at gW;have Nd:=Si.other (x:=y) (fun b s' hb e=>by
     have:=Iaf hb;subst this;exact absurd (PE.inj 0 1 y ⟨_,rfl,rfl⟩ ⟨_,rfl,rfl⟩ e hy) (by simp)) .dead
    have DR:(V.Ra H1 y .dead).bl.length=H1.bl.length:=by simp[V.Ra]
    have ze:=Nd.new (y:= .yp (s++t)) (yv:= .cells (V.uc (s++t)) 1 (some (TB.uT,1))) (n:=s.size+t.size) ⟨by rw[jc];exact zd _ _ _ _,.inr ⟨_,be _ _ _ _,by rw[Ke,if_neg (by omega),if_pos rfl],by rw[jc];omega,by rw[jc];omega⟩⟩;rw[DR]at ze;have g2:Oj 2 m H1 m (V.Ra H1 y .dead):=⟨by rw[<- Ez];exact .refl (va _),fun x' Dk JR=>by rw[Ec,if_neg (fun e=>JR 1 0 (by rw[<- e];exact hy))],fun b' s' x' Ld=> .inl ⟨b',s',Ld⟩,by simp[V.Ra],rfl⟩;refine fin _ _ _ gW ze.1 ?_ (by simp) rfl (Xaa _ _) (by rw[Ke,if_pos (by rw[DR,NK];exact jI),Ec,if_neg hxy];exact ep) ML ze.2.1 ((bW.trans g2 (va _)).trans ze.2.2 (by rw[Ez];exact va _));have:=RV.all (m:=m.add 2 (some H1.bl.length) (s.size+t.size)) 2 H1.bl.length (be _ _ _ _);rw[zd]at this;exact this
theorem I3{k:Nat}{f:FuncId}{ts:Array TypeId}(uo:s7 A ts)(Qf:M1 A (k+1) f ts){sp:Spec} (zf:∀X args H K out,sp X args H K=some out->∃s t:ByteArray,args=[.ptr 0 0,.str t]/\H=⟨[.um (.all 1),.yp s],0⟩/\s.size+t.size<=70368744177664/\
   K (.Sc [.int .i64 t.size,.Rg]) ⟨[.um (.all 2),.dead,.yp (s++t)],0⟩=some out) (hf:∀cs as H,V.call A (k+1) (.fn f cs) as H=V.call A (k+1) (.fn f []) (as++cs) H):Xe (V.call A (k+1)) f sp:=by
 intro X args H K out h;obtain⟨s,t,rfl,rfl,hn,h'⟩:=zf X args H K out h;refine⟨_,_,h',rfl,fun m Hv as cs hh hl=> ?_⟩;obtain⟨a1,l1,e1,q1,q2⟩:=hl.Wh;obtain⟨a2,l2,e2,q3,q4⟩:=q2.Wh;have e3:l2=[]:=Ja.1 q4.1;rw[hf,e1,e2,e3];obtain⟨x,p,q',h1,h2,h3,h4,h5⟩:=hh.Vc 0 _ rfl;obtain⟨k1,k2⟩:=hh.Vc 1 _ rfl;cases q1 with
 |ptr _ _ x' Dk=>
 cases q3;rw[h1]at Dk;injection Dk with Dk;subst Dk
 have jI:=(hh.Ie 0 x h1).2;have L4:=hh.wm 0 x h1 (je _);have YL:live ⟨[.um (.all 1),.yp s],0⟩ 0:=⟨_,rfl,rfl⟩;have Ez:m.top=2:=hh.len;have jc:(s++t).size=s.size+t.size:=by simp
 have uaf:=hh.set (y:= .um (.all 1)) (yv:= .cells [[.ptr x 0 0,q']] 2 (some (TB.bT,2))) YL h1 ⟨x,.ptr x 0 0,q',h1,by rw[Ec,if_pos rfl,if_pos jI],.inr rfl,h4,h5⟩;obtain⟨PE,cW⟩:=uaf;have PE:RH m ⟨[.um (.all 1),.yp s],0⟩ (V.Ra Hv x (.cells [[.ptr x 0 0,q']] 2 (some (TB.bT,2)))):=PE;have ep:(V.Ra Hv x (.cells [[.ptr x 0 0,q']] 2 (some (TB.bT,2)))).bl[x]?=some (.cells [[.ptr x 0 0,q']] 2 (some (TB.bT,2))):=by rw[Ec,if_pos rfl,if_pos jI]
 refine J3 uo hn h1 h4 h5 k1 jI Ez PE (go2 Ez cW) ep (by simp[V.Ra]) rfl ?_;have fin:∀(v:V.AV)(H2:V.AH)(m2:Mp),V.append A (V.Ra Hv x (.cells [[.ptr x 0 0,q']] 2 (some (TB.bT,2)))) ts q' (.str t)=some (v,H2)->RH m2 ⟨[.um (.all 1),.dead,.yp (s++t)],0⟩ H2->RV m2 (.all 2) v->v≠ .Ud->v.iO=true->m2.ι 0 0=some x->H2.bl[x]?=some (.cells [[.ptr x 0 0,q']] 2 (some (TB.bT,2)))->H2.wm=Hv.wm->
   m.Le m2->Oj 2 m Hv m2 H2->∃r' Nc,V.call A (k+1) (.fn f []) [.ptr x 0 0,.str t] Hv=some (r',Nc)/\Jp m Hv (.Sc [.int .i64 t.size,.Rg]) ⟨[.um (.all 2),.dead,.yp (s++t)],0⟩ r' Nc:=fun v H2 m2 ha hr hv Uc Iz cp hbx uG hle Ip=>by
  have oq:=(hr.Ie 0 x cp).2;obtain⟨r1,r2⟩:=hr.set (b:=0) (y:= .um (.all 2)) (yv:= .cells [[.ptr x 0 0,v]] 2 (some (TB.bT,2))) ⟨_,rfl,rfl⟩ cp ⟨x,.ptr x 0 0,v,cp,by rw[Ec,if_pos rfl,if_pos oq],.inr rfl,hv,Uc⟩;refine⟨_,_,Qf Hv x p q' v t H2 h2 h3 L4 ha hbx uG Iz,m2,r1,.Sc _ _ rfl (fun i y b hy hb=> ?_),hle,?_⟩
  ·match i,hy,hb with
   |0,hy,hb=>simp at hy hb;subst hy;subst hb;exact .int _ _
   |1,hy,hb=>simp at hy hb;subst hy;subst hb;exact .Rg
   |i+2,hy,_=>simp at hy
  ·rw[Ez];exact Ip.trans r2 (by have:=hr.len;simp at this;omega)
 exact fin
end
end Go.U
