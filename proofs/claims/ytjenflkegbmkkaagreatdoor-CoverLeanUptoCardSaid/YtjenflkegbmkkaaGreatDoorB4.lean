/- A second evaluator, over rows of Lean values, and that it is right over the first. -/
import Derived.Test.YtjenflkegbmkkaaGreatDoorB3
import Derived.Test.YtjenflkegbmkkaaGreatDoorA4
import Derived.Test.YtjenflkegbmkkaaGreatDoorA5
import Derived.ChangeShapes
import Derived.ChangeReads
import Derived.ChangeOld
import Derived.ChangeStays
import Derived.ChangeSame
import Derived.RowKit3
import Derived.Lib.LaidTab
set_option linter.unusedVariables false
set_option linter.unusedSimpArgs false
set_option linter.unusedSectionVars false
open Array renaming length_toList→Re
open Bool renaming and_eq_true→Na
open ByteArray renaming data_append→Zw
open List renaming map_cons→Ld,mem_append→Kk,getElem?_append_left→La,getElem?_append_right→Qa,range→ua,mem_cons_self→Fc,take_of_length_le→Zc,mem_cons_of_mem→Ib,getElem?_eq_none→Ab,mem_cons→Vb,length_map→Oc,mem_append_left→If,mem_map→bj,mem_of_getElem?→Db,length_eq_zero_iff→Ja,getElem?_eq_getElem→Aa,getD_eq_getElem?_getD→Ka,getElem?_cons_succ→We,append_nil→zi,all_eq_true→ic,length_singleton→Ve
open Nat renaming lt_or_ge→Ub,add_zero→ve,succ_mul→aj,zero_le→fe,le_trans→Gb,le_of_eq→Ph,le_refl→va
open Option renaming bind_eq_some_iff→aa,map_eq_some_iff→ia,map_some→Mc,bind_some→ga
open Option.some renaming injEq→zc
namespace Go.U
open Go
variable [TB:ZC]
def csz:CT->Nat
 | .bool=>1
 | .int _=>8
 | .str=>16
 | .slice _=>24
 | .pair a b=>csz a+csz b
def XE(S:Nat):(c:CT)->Fb c->Prop
 | .bool=>fun _=>True
 | .int k=>fun(n:Int)=>k.min<=n/\n<=k.max
 | .str=>fun(s:ByteArray)=>s.size<=S
 | .slice c=>fun(l:List (Fb c))=>(l.length<=S/\l.length * csz c<=reachBytes)/\∀x∈l,XE S c x
 | .pair a b=>fun(x:Fb a×Fb b)=>XE S a x.1/\XE S b x.2
def x4:Nat->CT->Option CT
 |0,_=>none
 |1,c=>some c
 |n+2,c=>(x4 (n+1) c).map (CT.pair c)
def JE(P:Program):Nat->List (Field×Option CT)->Option CT
 |_,[]=>none
 |o,[f]=>f.2.bind fun c=>if f.1.offset=o/\P.cellsOf f.1.type=width c then some c else none
 |o,f::f'::fs=>f.2.bind fun c=>if f.1.offset=o/\P.cellsOf f.1.type=width c then(JE P (o+width c) (f'::fs)).map (CT.pair c)else none
def gk(P:Program):Nat->TypeId->Option CT
 |0,_=>none
 |d+1,t=>
  match P.underlying t with
  |some .bool=>some .bool
  |some (.int k)=>some (.int k)
  |some .string=>some .str
  |some (.slice e)=>(gk P d e).bind fun c=>if P.cellsOf e=width c/\csz c<=P.bytesOf e then some (.slice c)else none
  |some (.struct fs)=>(JE P 0 (fs.toList.map fun f=>(f,gk P d f.type))).bind fun c=>if P.cellsOf t=width c then some c else none
  |some (.array n e)=>(gk P d e).bind fun c=>if P.cellsOf e=width c then(x4 n c).bind fun c'=>if P.cellsOf t=width c' then some c' else none else none
  |_=>none
def sD(P:Program)(d o:Nat)(fs:List Field):Option CT:=JE P o (fs.map fun f=>(f,gk P d f.type))
theorem ZI{P:Program}{d o:Nat}:sD P d o []=none:=by simp only[sD,List.map_nil,Ld,JE]
theorem Wu{P:Program}{d o:Nat}{f:Field}:sD P d o [f]=(gk P d f.type).bind fun c=>if f.offset=o/\P.cellsOf f.type=width c then some c else none:=by simp only[sD,List.map_nil,Ld,JE]
theorem Nr{P:Program}{d o:Nat}{f f':Field}{fs:List Field}:sD P d o (f::f'::fs)=(gk P d f.type).bind fun c=>if f.offset=o/\P.cellsOf f.type=width c then(sD P d (o+width c) (f'::fs)).map (CT.pair c)else none:=by simp only[sD,List.map_nil,Ld,JE]
theorem zx:∀c,0<width c
 | .bool| .int _| .str| .slice _=>Nat.one_pos
 | .pair a b=>by have:=zx a;simp only[width];omega
theorem Lo{α β:Type}{f:α->Option β}{a:α}{l:List α}{r:List β}(h:(a::l).mapM f=some r):∃b r',f a=some b/\l.mapM f=some r'/\r=b::r':=by
 simp only[List.mapM_cons,Option.bind_eq_bind,aa,Option.pure_def,zc]at h;obtain⟨b,hb,r',hr,rfl⟩:=h;exact⟨b,r',hb,hr,rfl⟩
theorem Cv{α β:Type}{f:α->Option β}:∀{l:List α}{r:List β},l.mapM f=some r->r.length=l.length/\∀(i:Nat)(a:α),l[i]?=some a->∃b,r[i]?=some b/\f a=some b
 |[],r,h=>by simp at h;subst h;exact⟨rfl,fun i a ha=>by simp at ha⟩
 |x::l,r,h=>by
  obtain⟨b,r',hb,hr,rfl⟩:=Lo h;obtain⟨h1,h2⟩:=Cv hr;refine⟨by simp[h1],fun i a ha=> ?_⟩;cases i with
  |zero=>simp at ha;subst ha;exact⟨b,rfl,hb⟩
  |succ i=>simp at ha;simpa using h2 i a ha
def ni(g:V.Gx)(w:World)(c:CT)(x:Fb c)(cs:List Value):Prop:=
 cs.length=width c/\(∀v∈cs,v.oneCell'=true)/\∃ as:List V.AV,(∀m,RL m (enc c x) as)/\as.length=cs.length/\∀(i:Nat)(a:V.AV)(v:Value),as[i]?=some a->cs[i]?=some v->V.jb g w a v
theorem ni.pair{g:V.Gx}{w:World}{a b:CT}{x:Fb a}{y:Fb b}{cs ds:List Value}(h:ni g w a x cs)(h':ni g w b y ds):ni g w (.pair a b) (x,y) (cs++ds):=by
 obtain⟨h1,h2,as,h3,h4,h5⟩:=h;obtain⟨k1,k2,bs,k3,k4,k5⟩:=h';refine⟨by simp[width,h1,k1],fun v hv=>(Kk.1 hv).elim (h2 v) (k2 v),as++bs,fun m=>(h3 m).append (k3 m),by simp[h4,k4],fun i p v hp hv=> ?_⟩;rcases Ub i as.length with hi|hi
 ·rw[La hi]at hp;rw[La (by omega)]at hv;exact h5 i p v hp hv
 ·rw[Qa hi]at hp;rw[Qa (by omega),<- h4]at hv;exact k5 _ p v hp hv
theorem ni.one{g:V.Gx}{w:World}{c:CT}{x:Fb c}{v:Value}(a:V.AV)(hw:width c=1)(u:UV)(he:enc c x=[u])(hv:v.oneCell'=true)(hu:∀m,RV m u a)(ha:V.jb g w a v):ni g w c x [v]:=
 ⟨by simp[hw],fun v' h=>by simp at h;subst h;exact hv,[a],fun m=>by rw[he];exact RL.cons (hu m) RL.nil,rfl,fun i p q hp hq=>by
  cases i with
  |zero=>simp at hp hq;subst hp;subst hq;exact ha
  |succ i=>simp at hp⟩
theorem World.OC{w:World}{base:Nat}{a:Addr}{n:Nat}{cs:List Value}(h:w.cells? base a n=some cs):cs.length=n/\∀i,i<n->∃v,cs[i]?=some v/\w.cell? (a.add i)=some v:=by
 unfold World.cells? at h;split at h
 ·obtain⟨h1,h2⟩:=Cv h;refine⟨by simpa using h1,fun i hi=> ?_⟩;obtain⟨b,hb,hc⟩:=h2 i i (by simp[hi]);exact⟨b,hb,hc⟩
 ·simp at h
theorem iO{w:World}{a:Addr}{v:Value}(h:w.cell? a=some v):a.spot=none/\a.block<w.heap.size:=by
 unfold World.cell? at h;split at h
 ·rename_i c T fz hb;split at h
  ·simp at h
  ·rename_i hs;refine⟨by simpa using hs,?_⟩;rcases Ub a.block w.heap.size with tc|eu
   ·exact tc
   ·simp[Array.getElem?_eq_none eu]at hb
 ·simp at h
theorem xL{a:Addr}(ha:a.spot=none)(n:Nat):a.add n=⟨a.block,a.off+n,none⟩:=by
 unfold Addr.add;split
 ·rename_i h;subst h;cases a;simp_all
 ·cases a;simp_all
section
variable {H:Type}{eo:TypeId×Value->H}{P:Program}{w:World}{g:V.Gx}{S:Nat}{Q:DataW H->Prop}
structure Down(S:Nat)(Q:DataW H->Prop):Prop where
 str:∀b:List UInt8,Q (.lit (.string b))->b.length<=maxLen->b.length<=S
 slice:∀es sp,Q (.slice es sp)->(es.length<=maxLen->es.length<=S)/\∀d∈es,Q d
 agg:∀ps,Q (.agg ps)->∀d∈ps,Q d
theorem NR{n:Nat}{c c':CT}{e:TypeId}{cs:List Value}{f:List Value->Option (DataW H×List MemPlace)}
  {wt:DataW H->Prop} (hf:∀cs y,f cs=some y->wt y.1->∃x:Fb c,XE S c x/\ni g w c x cs) (IW:x4 n c=some c'):∀(k:Nat)(ys:List (DataW H×List MemPlace)),(∀y∈ys,wt y.1)->cs.length=k * width c+width c'->
  ((ua n).mapM fun i=>f ((cs.drop ((k+i) * width c)).take (width c)))=some ys->∃x:Fb c',XE S c' x/\ni g w c' x (cs.drop (k * width c)):=by
 induction n generalizing c' with
 |zero=>simp[x4]at IW
 |succ n ih=>
  intro k ys Xm hl h;rw[List.range_succ_eq_map]at h;obtain⟨y,ys',h1,h2,rfl⟩:=Lo h;obtain⟨x,Ej,Dq⟩:=hf _ _ h1 (Xm y Fc);cases n with
  |zero=>
   simp only[x4,zc]at IW;subst IW;refine⟨x,Ej,?_⟩;have:(cs.drop ((k+0) * width c)).take (width c)=cs.drop (k * width c):=by
    rw[ve];exact Zc (by simp;omega)
   rw[this]at Dq;exact Dq
  |succ n=>
   simp only[x4,ia]at IW;obtain⟨c2,hc2,rfl⟩:=IW;have Zf:cs.length=(k+1) * width c+width c2:=by rw[hl,aj];simp only[width];omega
   obtain⟨y2,hy1,hy2⟩:=ih hc2 (k+1) ys' (fun y hy=>Xm y (Ib _ hy)) Zf (by
    rw[List.mapM_map]at h2;rw[<- h2];congr 1;funext i;rw[show k+1+i=k+i.succ by omega];rfl)
   refine⟨(x,y2),⟨Ej,hy1⟩,?_⟩;have e:cs.drop (k * width c)=(cs.drop ((k+0) * width c)).take (width c)++cs.drop ((k+1) * width c):=by
    rw[ve,aj,<- List.drop_drop];exact(List.take_append_drop _ _).symm
   rw[e];exact Dq.pair hy2
theorem Mx{α:Type}{Q:Nat->α->Prop}:∀{n:Nat},(∀i,i<n->∃x,Q i x)->∃l:List α,l.length=n/\∀(i:Nat)(x:α),l[i]?=some x->Q i x
 |0,_=>⟨[],rfl,fun i x h=>by simp at h⟩
 |n+1,h=>by
  obtain⟨l,h1,h2⟩:=Mx (Q:=Q) (n:=n) fun i hi=>h i (by omega)
  obtain⟨x,hx⟩:=h n (by omega);refine⟨l++[x],by simp[h1],fun i y hy=> ?_⟩;rcases Ub i l.length with hi|hi
  ·rw[La hi]at hy;exact h2 i y hy
  ·rw[Qa hi]at hy;have:i-l.length=0:=by
    rcases Nat.eq_zero_or_pos (i-l.length)with e|e
    ·exact e
    ·rw[Ab (by simp;omega)]at hy;simp at hy
   rw[this]at hy;simp at hy;subst hy;have:i=n:=by omega
   subst this;exact hx
def Wt(P:Program)(Q:DataW H->Prop)(t:TypeId)(d:DataW H):Prop:=Q d/\∀b∈d.weights P t,b<=reachBytes
theorem tG{e:TypeId}:∀{l:List (DataW H)},(∀d∈l,Q d)->(∀b∈DataW.weightsAll P e l,b<=reachBytes)->∀d∈l,Wt P Q e d
 |[],_,_,d,hd=>by cases hd
 |x::l,hq,h,d,hd=>by
  simp only[DataW.weightsAll,Kk]at h;rcases Vb.1 hd with rfl|hd
  ·exact⟨hq _ Fc,fun b hb=>h b (.inl hb)⟩
  ·exact tG (fun d hd=>hq d (Ib _ hd)) (fun b hb=>h b (.inr hb)) d hd
theorem bg(hQ:Down S Q)(hZ:∀R,R<w.heap.size->g.Z R){base:Nat}{held:Bool}{c:CT}{e:TypeId}{t:TypeId}(ht:P.underlying t=some (.slice e))(hw:P.cellsOf e=width c)(se:csz c<=P.bytesOf e){fuel:Nat}
  (ih:∀{cs:List Value}{y:DataW H×List MemPlace},DataW.trod eo P w base (fun _=>true) held fuel e cs=some y->Wt P Q e y.1->∃x:Fb c,XE S c x/\ni g w c x cs) {cs:List Value} {y:DataW H×List MemPlace}
  (hy:DataW.trod eo P w base (fun _=>true) held (fuel+1) t cs=some y) (Xm:Wt P Q t y.1):∃x:List (Fb c),XE S (.slice c) x/\ni g w (.slice c) x cs:=by
 have Ff:=zx c;rcases cs with _|⟨v,_|⟨v2,rest⟩⟩
 ·simp[DataW.trod,ht]at hy
 ·cases v
  case slice a len cap=>
   cases a with
   |none=>
    cases len<;>cases cap<;>simp[DataW.trod,ht]at hy
    exact⟨[],⟨⟨fe _,by simp⟩,fun x h=>by cases h⟩,ni.one .Ya rfl (.lit c []) rfl rfl (fun m=> .ri c _ (.inl rfl)) .Ya⟩
   |some a=>
    simp only[DataW.trod,ht]at hy;split at hy
    case isFalse=>simp at hy
    rename_i hc;simp only[aa,if_true,ia]at hy;obtain⟨elems,he,rest,hr,hyy⟩:=hy;have aag:(elems.length+rest.length) * P.bytesOf e<=reachBytes/\∀b∈DataW.weightsAll P e (elems.map (·.1)),b<=reachBytes:=by
     rw[<- hyy]at Xm;have Xm:=Xm.2;simp only[DataW.weights,ht,Oc]at Xm;exact⟨Xm _ Fc,fun b hb=>Xm b (Ib _ (If _ hb))⟩
    have hq:=hQ.slice (elems.map (·.1)) (rest.map (·.1)) (by have:=Xm.1;rw[<- hyy]at this;exact this);have mak:=tG hq.2 aag.2;obtain⟨l1,l2⟩:=Cv he;obtain⟨r1,r2⟩:=Cv hr;simp only[List.length_range]at l1 r1;have nV:∀i,i<len->∃x:Fb c,XE S c x/\∃cs,w.cells? base (a.add (i * P.cellsOf e)) (P.cellsOf e)=some cs/\ni g w c x cs:=fun i hi=>by
     obtain⟨z,dV,OJ⟩:=l2 i i (by simp[hi]);obtain⟨cs,mj,hz⟩:=aa.1 OJ;obtain⟨x,Ej,Dq⟩:=ih hz (mak _ (bj.2 ⟨z,Db dV,rfl⟩));exact⟨x,Ej,cs,mj,Dq⟩
    obtain⟨l,EL,TJ⟩:=Mx nV;have Wh:XE S (.slice c) l:=⟨⟨by have:=hq.1 (by rw[Oc,l1];omega);rw[Oc,l1]at this;rw[EL];exact this,by
     rw[EL];refine Gb (Nat.mul_le_mul (Gb (Ph l1.symm) (Nat.le_add_right _ rest.length)) se) aag.1⟩,fun x hx=>by obtain⟨i,hi⟩:=List.mem_iff_getElem?.1 hx;exact(TJ i x hi).1⟩
    refine⟨l,Wh,?_⟩;by_cases h0:cap=0
    ·have hlen:len=0:=by omega
     subst h0;subst hlen;have:l=[]:=Ja.1 EL;subst this;exact ni.one (.lit (width c) []) rfl (.lit c []) rfl rfl (fun m=> .lit c [] [] rfl (fun i row h=>by simp at h) (fun i row k x a h=>by simp at h)) (.lits _ _)
    ·have uf:a.spot=none/\a.block<w.heap.size:=by
      have hex:∃cs,w.cells? base (a.add (0 * P.cellsOf e)) (P.cellsOf e)=some cs:=by
       rcases Nat.eq_zero_or_pos len with hz|hp
       ·obtain⟨z,_,OJ⟩:=r2 0 0 (List.getElem?_range (by omega));obtain⟨cs,mj,_⟩:=aa.1 OJ;subst hz;exact⟨cs,mj⟩
       ·obtain⟨x,_,cs,mj,_⟩:=nV 0 hp;exact⟨cs,mj⟩
      obtain⟨cs,mj⟩:=hex;obtain⟨_,h2⟩:=World.OC mj;obtain⟨v,_,hv⟩:=h2 0 (by omega);have:=iO hv
      simpa[Addr.add]using this
     have jd:∀i,i<len->∃row:List V.AV,∃x cs,l[i]?=some x/\w.cells? base (a.add (i * P.cellsOf e)) (P.cellsOf e)=some cs/\cs.length=width c/\(∀v∈cs,v.oneCell'=true)/\(∀m,RL m (enc c x) row)/\row.length=cs.length/\∀(i:Nat)(a:V.AV)(v:Value),row[i]?=some a->cs[i]?=some v->V.jb g w a v:=fun i hi=>by
      have hx:=Aa (l:=l) (i:=i) (by omega);obtain⟨_,cs,mj,k1,k2,as,k3,k4,k5⟩:=TJ i _ hx;exact⟨as,_,cs,hx,mj,k1,k2,k3,k4,k5⟩
     obtain⟨rows,q1,q2⟩:=Mx jd;have l9:∀i k,i<len->k<width c->∃v,w.cell? ⟨a.block,a.off+i * width c+k,none⟩=some v/\v.oneCell'=true/\∀row x,rows[i]?=some row->row[k]?=some x->V.jb g w x v:=fun i k hi hk=>by
      have hx:=Aa (l:=rows) (i:=i) (by omega);obtain⟨x,cs,_,mj,k1,k2,_,k4,k5⟩:=q2 i _ hx;obtain⟨c1,c2⟩:=World.OC mj;obtain⟨v,p9,p6⟩:=c2 k (by rw[hw];exact hk);refine⟨v,?_,k2 v (Db p9),fun row y hr hy=> ?_⟩
      ·rw[<- p6,hw,xL uf.1,xL rfl]
      ·rw[hx]at hr;injection hr with hr;subst hr;exact k5 k y v hy p9
     refine ni.one (.lit (width c) rows) rfl (.lit c l) rfl rfl (fun m=> .lit c l rows (by omega) (fun i row hi=> ?_) (fun i row k x b hi h1 h2=> ?_)) ?_
     ·obtain⟨x,cs,_,_,k1,_,_,k4,_⟩:=q2 i row hi;rw[k4,k1]
     ·obtain⟨x',cs,Rk,_,_,_,k3,_,_⟩:=q2 i row hi;have:vw c l i=enc c x':=by simp[vw,Ka,Rk]
      rw[this]at h1;exact(k3 m).2 k x b h1 h2
     ·have BS:∀i k,∃v,i<len->k<width c->w.cell? ⟨a.block,a.off+i * width c+k,none⟩=some v/\v.oneCell'=true/\∀row x,rows[i]?=some row->row[k]?=some x->V.jb g w x v:=fun i k=>by
       by_cases h1:i<len
       ·by_cases h2:k<width c
        ·obtain⟨v,hv⟩:=l9 i k h1 h2;exact⟨v,fun _ _=>hv⟩
        ·exact⟨undef,fun _ h=>absurd h h2⟩
       ·exact⟨undef,fun h _=>absurd h h1⟩
      have Cal:=fun i=>Classical.axiomOfChoice (BS i)
      obtain⟨F,hF⟩:=Classical.axiomOfChoice Cal;have:=V.jb.lit (g:=g) (w:=w) rows a cap (width c) F uf.1 (by omega) (fun _=>hZ _ uf.2) (fun i row hi=>by obtain⟨x,cs,_,_,k1,_,_,k4,_⟩:=q2 i row hi;rw[k4,k1])
       (fun i k hi hk=>(hF i k (by omega) hk).1) (fun i k hi hk=>(hF i k (by omega) hk).2.1) (fun i row k x hi hx=>by
        have FL:i<len:=by have:=Xa hi;omega
        have hk:k<width c:=by obtain⟨x,cs,_,_,k1,_,_,k4,_⟩:=q2 i row hi;have:=Xa hx;omega
        exact(hF i k FL hk).2.2 row x hi hx)
      rw[q1]at this;exact this
  all_goals simp[DataW.trod,ht]at hy
 ·simp[DataW.trod,ht]at hy
theorem qz{d:Nat}{cs:List Value}{f:TypeId->List Value->Option (DataW H×List MemPlace)}(hf:∀{t:TypeId}{c:CT},gk P d t=some c->∀{cs y},f t cs=some y->Wt P Q t y.1->∃x:Fb c,XE S c x/\ni g w c x cs):
  ∀(fs:List Field)(o:Nat){c:CT}{ys:List (DataW H×List MemPlace)},sD P d o fs=some c->cs.length=o+width c->(fs.mapM fun fd=>f fd.type ((cs.drop fd.offset).take (P.cellsOf fd.type)))=some ys->(∀y∈ys,Q y.1)->(∀b∈DataW.weightsEach P (fs.map (·.type)) (ys.map (·.1)),b<=reachBytes)->
   ∃x:Fb c,XE S c x/\ni g w c x (cs.drop o)
 |[],o,c,ys,h,_,_,_,_=>by simp[ZI]at h
 |[fd],o,c,ys,h,hl,hm,hq,Xm=>by
  simp only[Wu,Nr,aa]at h;obtain⟨c1,h1,h⟩:=h;split at h
  case isFalse=>simp at h
  rename_i ho;injection h with h;subst h
  obtain⟨y,_,hy,_,e⟩:=Lo hm;subst e;obtain⟨x,Ej,Dq⟩:=hf h1 hy ⟨hq _ Fc,fun b hb=>Xm b (by simp only[Ld,DataW.weightsEach];exact If _ hb)⟩;refine⟨x,Ej,?_⟩;rw[ho.1,ho.2,Zc (by simp;omega)]at Dq;exact Dq
 |fd::fd'::fs,o,c,ys,h,hl,hm,hq,Xm=>by
  simp only[Wu,Nr,aa]at h;obtain⟨c1,h1,h⟩:=h;split at h
  case isFalse=>simp at h
  rename_i ho;simp only[ia]at h;obtain⟨c2,h2,rfl⟩:=h;obtain⟨y,ys',hy,hm',e⟩:=Lo hm;subst e;obtain⟨x,Ej,Dq⟩:=hf h1 hy ⟨hq _ Fc,fun b hb=>Xm b (by simp only[Ld,DataW.weightsEach];exact If _ hb)⟩;simp only[width]at hl;obtain⟨x2,hx3,hx4⟩:=qz hf (fd'::fs) (o+width c1) h2 (by omega) hm' (fun y hy=>hq y (Ib _ hy)) (fun b hb=>Xm b (by
   have:=List.mem_append_right (y.1.weights P fd.type) hb
   simpa only[Ld,DataW.weightsEach]using this))
  refine⟨(x,x2),⟨Ej,hx3⟩,?_⟩;rw[ho.1,ho.2]at Dq;have e:cs.drop o=(cs.drop o).take (width c1)++cs.drop (o+width c1):=by
   rw[<- List.drop_drop];exact(List.take_append_drop _ _).symm
  rw[e];exact Dq.pair hx4
theorem Ho(hQ:Down S Q)(hZ:∀R,R<w.heap.size->g.Z R){base:Nat}{held:Bool}:∀(d:Nat){t:TypeId}{c:CT},gk P d t=some c->∀{fuel:Nat}{cs:List Value}{y:DataW H×List MemPlace},DataW.trod eo P w base (fun _=>true) held fuel t cs=some y->Wt P Q t y.1->
  ∃x:Fb c,XE S c x/\ni g w c x cs
 |0,_,_,h,_,_,_,_,_=>by simp[gk]at h
 |d+1,t,c,h,0,cs,y,hy,_=>by simp[DataW.trod]at hy
 |d+1,t,c,h,fuel+1,cs,y,hy,Xm=>by
  simp only[gk]at h;split at h
  ·rename_i ht;injection h with h;subst h
   rcases cs with _|⟨v,_|⟨v2,rest⟩⟩
   ·simp[DataW.trod,ht]at hy
   ·cases v<;>simp[DataW.trod,ht]at hy
    rename_i b;exact⟨b,trivial,ni.one (.bool b) rfl (.bool b) rfl rfl (fun m=> .bool b) (.bool b)⟩
   ·simp[DataW.trod,ht]at hy
  ·rename_i k ht;injection h with h;subst h
   rcases cs with _|⟨v,_|⟨v2,rest⟩⟩
   ·simp[DataW.trod,ht]at hy
   ·cases v<;>simp[DataW.trod,ht]at hy
    rename_i k' n;obtain⟨⟨rfl,hn⟩,_⟩:=hy;simp only[Lit.wf,Na,decide_eq_true_eq]at hn;exact⟨n,hn,ni.one (.int k' n) rfl (.int k' n) rfl rfl (fun m=> .int k' n) (.int k' n)⟩
   ·simp[DataW.trod,ht]at hy
  ·rename_i ht;injection h with h;subst h
   rcases cs with _|⟨v,_|⟨v2,rest⟩⟩
   ·simp[DataW.trod,ht]at hy
   ·cases v<;>simp[DataW.trod,ht]at hy
    rename_i s;exact⟨s,(by have hy2:=hy.2;subst hy2;have:=hQ.str _ Xm.1 (Gb (Ph Re) hy.1);exact Gb (Ph Array.length_toList.symm) this),ni.one (.str s) rfl (.str s) rfl rfl (fun m=> .str s) (.str s)⟩
   ·simp[DataW.trod,ht]at hy
  ·rename_i e ht;obtain⟨c1,h1,h⟩:=aa.1 h;split at h
   case isFalse=>simp at h
   rename_i hw;injection h with h;subst h
   exact bg hQ hZ ht hw.1 hw.2 (fun hy Xm=>Ho hQ hZ d h1 hy Xm) hy Xm
  ·rename_i fs ht;have h:(sD P d 0 fs.toList).bind (fun c=>if P.cellsOf t=width c then some c else none)=some c:=h;obtain⟨c1,h1,h⟩:=aa.1 h;split at h
   case isFalse=>simp at h
   rename_i hw;injection h with h;subst h
   simp only[DataW.trod,ht]at hy;split at hy
   case isFalse=>simp at hy
   rename_i hl;simp only[ia]at hy;obtain⟨ys,hm,hyy⟩:=hy;rw[<- hyy]at Xm;obtain⟨hq,Xm⟩:=Xm;simp only[DataW.weights,ht]at Xm;have hq:=hQ.agg _ hq;have:=qz (g:=g) (w:=w) (Q:=Q) (f:=fun t cs=>DataW.trod eo P w base (fun _=>true) held fuel t cs) (fun{_ _}h1{_ _}hy Xm=>Ho hQ hZ d h1 hy Xm) fs.toList 0 h1 (by rw[hl,hw];omega) hm (fun y hy=>hq _ (bj.2 ⟨y,hy,rfl⟩)) (by simpa using Xm)
   simpa using this
  ·rename_i n e ht;obtain⟨c1,h1,h⟩:=aa.1 h;split at h
   case isFalse=>simp at h
   rename_i hw;obtain⟨c2,h2,h⟩:=aa.1 h;split at h
   case isFalse=>simp at h
   rename_i o6;injection h with h;subst h
   simp only[DataW.trod,ht]at hy;split at hy
   case isFalse=>simp at hy
   rename_i hl;simp only[ia]at hy;obtain⟨ys,hm,hyy⟩:=hy;rw[<- hyy]at Xm;obtain⟨hq,Xm⟩:=Xm;simp only[DataW.weights,ht]at Xm;have:=NR (g:=g) (w:=w) (e:=e) (wt:=Wt P Q e) (fun cs y hy Xm=>Ho hQ hZ d h1 hy Xm) h2 0 ys (fun y hy=>tG (hQ.agg _ hq) Xm _ (bj.2 ⟨y,hy,rfl⟩)) (by rw[hl,o6];omega) (by simpa[hw]using hm)
   simpa using this
  ·simp at h
end
def ay(w:World):V.Gx:={ D:=fun _=>False,ρ:=fun _=>⟨0,0,0,0⟩,Z:=fun R=>R<w.heap.size }
theorem xV{G:Nat->Option (List V.AV)}{w:World}(hg:∀i row,G i=some row->V.yp (ay w) w i row):V.Yb G (ay w) w ⟨[],0⟩:=
 ⟨hg,fun b h=>h.elim,fun b x h=>h.elim,fun b b' h=>h.1.elim,fun R h=>h⟩
def Stood(w w':World):Prop:=w.heap.size<=w'.heap.size/\(∀R,R<w.heap.size->w'.heap[R]?=w.heap[R]?)/\(w'.os=w.os/\w'.output=w.output)
theorem Stood.kept{w w':World}(h:Stood w w')(may:MemPlace->Prop):w.keptBut w' may:=by
 refine⟨h.2.2.1,h.2.2.2,fun i hi=> ?_⟩;rw[h.2.1 i hi];cases h:w.heap[i]? with
 |none=>rfl
 |some o=>cases o<;>simp
section
variable {A:V.Eh}
theorem G3(lD:V.Gz A)(hE:V.lR A)(O4:V.Jr A)(hD:V.jo A){k:Nat}{f:FuncId}{fn:Func}(hf:A.fns f=some fn)(hb:fn.body.isSome=true){av:List V.AV}{vs:List Value}{W:World}{H':V.AH}{r:V.AV}
  (Nf:V.call A k (.fn f []) av ⟨[],0⟩=some (r,H')) (hW:V.Yb A.Ra (ay W) W ⟨[],0⟩) (hl:av.length=vs.length) (hv:∀(i:Nat)(x:V.AV)(v:Value),av[i]?=some x->vs[i]?=some v->V.jb (ay W) W x v):
  Calls A.P f vs.toArray W fun e W'=>∃v,e= .returned v/\(∃g',V.jb g' W' r v)/\W.heap.size<=W'.heap.size/\(∀R,R<W.heap.size->W'.heap[R]?=W.heap[R]?)/\(W'.os=W.os/\W'.output=W.output):=by
 have h:=V.vp lD hE O4 hD k (.fn f []) av ⟨[],0⟩ r H' Nf (ay W) W (.func (.func f) #[] #[]) vs hW (.fn f [] [] rfl fun i x v h=>by simp at h) hl hv Fence.wide 0
  { dst:=some 0,op:= .move (.tmp 0),type:=0,pos:= "",after:= #[],guard:=none } ⟨#[undef],[]⟩
  (fun a W'=>∃v,a.tmps= #[v]/\(∃g',V.jb g' W' r v)/\W.heap.size<=W'.heap.size/\(∀R,R<W.heap.size->W'.heap[R]?=W.heap[R]?)/\(W'.os=W.os/\W'.output=W.output)) (fun _ _ _=>False)
  ⟨fun _=>trivial,rfl,rfl⟩ (fun g' w' rv h1 h2 h3=>⟨rv,rfl,⟨g',h1⟩,h3.size,fun R hR=>h3.Tk R hR (fun⟨b,hb,_⟩=>hb.1.elim),h3.io⟩)
 rw[V.Jx lD hf hb]at h;rw[Oper.uponIn_enter]at h;have h2:=callsIn_wide.1 h.2;simp only[Array.append_empty]at h2;refine Calls.mono h2 fun e W' he=> ?_
 cases e with
 |returned v=>
  obtain⟨v',h1,h2⟩:=he;have:v'=v:=by simpa[Act.put]using h1.symm
  subst this;exact⟨v',rfl,h2⟩
 |panicked c=>exact he.elim
 |outgrown=>exact he.elim fun _ h=>h.elim fun _ h=>h.elim
theorem eS(lD:V.Gz A)(hE:V.lR A)(O4:V.Jr A)(hD:V.jo A){k:Nat}{f:FuncId}{fn:Func}(hf:A.fns f=some fn)(hb:fn.body.isSome=true){sp:Spec}(hOK:Xe (V.call A k) f sp){args:List UV}{av:List V.AV}{vs:List Value}{W:World}
  (de:sp UV args ⟨[],0⟩ (fun r _=>some r)=some (.bool true)) (hR:∀m,RL m args av) (hW:V.Yb A.Ra (ay W) W ⟨[],0⟩) (hl:av.length=vs.length) (hv:∀(i:Nat)(x:V.AV)(v:Value),av[i]?=some x->vs[i]?=some v->V.jb (ay W) W x v):
  Calls A.P f vs.toArray W fun e W'=>e= .returned (.bool true)/\Stood W W':=by
 obtain⟨r,H',h1,_,h2⟩:=hOK UV args ⟨[],0⟩ _ _ de;injection h1 with h1;subst h1
 obtain⟨r',Lc,h3,m',_,h4,_⟩:=h2 ⟨fun _ _=>none,fun _ _=>0,0⟩ ⟨[],0⟩ av [] ⟨fun b _ x h=>by simp at h,fun b y h=>by simp at h,fun b b' _ _ x h=>by obtain⟨_,h,_⟩:=h;simp at h,fun b _ x h=>by simp at h,va _,rfl⟩ (by simpa using hR _);cases h4;refine(G3 lD hE O4 hD hf hb h3 hW hl hv).mono ?_
 rintro e W' ⟨v,rfl,⟨g',hv⟩,hs,hu,dx⟩
 cases hv;exact⟨rfl,hs,hu,dx⟩
end
section
variable {P:Program}
def Told(P:Program)(t:TypeId):Prop:=∃d c,gk P d t=some c
theorem LR{n:Nat}{c c':CT}(h:x4 n c=some c'):width c'=n * width c:=by
 induction n generalizing c' with
 |zero=>simp[x4]at h
 |succ n ih=>
  cases n with
  |zero=>simp[x4]at h;subst h;simp
  |succ n=>
   simp only[x4,ia]at h;obtain⟨c2,h2,rfl⟩:=h;simp only[width,ih h2];rw[aj (n+1)];omega
theorem pz{d:Nat}:∀(fs:List Field)(o:Nat){c:CT},sD P d o fs=some c->
  (∀f∈fs,Told P f.type)/\width c=(fs.map fun f=>P.cellsOf f.type).sum/\∀(j:Nat)(f:Field),fs[j]?=some f->f.offset=o+((fs.take j).map fun f=>P.cellsOf f.type).sum
 |[],o,c,h=>by simp[ZI]at h
 |[fd],o,c,h=>by
  simp only[Wu,Nr,aa]at h;obtain⟨c1,h1,h⟩:=h;split at h
  case isFalse=>simp at h
  rename_i ho;injection h with h;subst h
  refine⟨fun f hf=>by simp at hf;subst hf;exact⟨d,_,h1⟩,by simp[ho.2],fun j f hf=> ?_⟩;cases j with
  |zero=>simp at hf;subst hf;simp[ho.1]
  |succ j=>simp at hf
 |fd::fd'::fs,o,c,h=>by
  simp only[Wu,Nr,aa]at h;obtain⟨c1,h1,h⟩:=h;split at h
  case isFalse=>simp at h
  rename_i ho;simp only[ia]at h;obtain⟨c2,h2,rfl⟩:=h;obtain⟨k1,k2,k3⟩:=pz (fd'::fs) _ h2;refine⟨fun f hf=>by rcases Vb.1 hf with rfl|hf;exact⟨d,_,h1⟩;exact k1 f hf,?_,fun j f hf=> ?_⟩
  ·simp only[width,k2,<- ho.2,Ld,List.sum_cons]
  ·cases j with
   |zero=>simp at hf;subst hf;simp[ho.1]
   |succ j=>
    simp only[We]at hf;rw[k3 j f hf,<- ho.2];simp only[List.take_succ_cons,Ld,List.sum_cons];omega
theorem AR:Kids P (Told P)where
 pointer:=fun⟨d,c,h⟩ht=>by cases d<;>simp[gk,ht]at h
 slice:=fun⟨d,c,h⟩ht=>by
  cases d with
  |zero=>simp[gk]at h
  |succ d=>simp only[gk,ht,aa]at h;obtain⟨c1,h1,_⟩:=h;exact⟨d,c1,h1⟩
 array:=fun⟨d,c,h⟩ht=>by
  cases d with
  |zero=>simp[gk]at h
  |succ d=>
   simp only[gk,ht,aa]at h;obtain⟨c1,h1,h⟩:=h;split at h
   case isFalse=>simp at h
   rename_i hw;obtain⟨c2,h2,h⟩:=aa.1 h;split at h
   case isFalse=>simp at h
   rename_i o6;exact⟨⟨d,c1,h1⟩,by rw[o6,hw,LR h2]⟩
 struct:=fun⟨d,c,h⟩ht=>by
  cases d with
  |zero=>simp[gk]at h
  |succ d=>
   simp only[gk,ht,aa]at h;obtain⟨c1,h1,h⟩:=h;split at h
   case isFalse=>simp at h
   rename_i hw;obtain⟨k1,k2,k3⟩:=pz (d:=d) _ 0 h1;exact⟨k1,by rw[hw,k2],fun j f hf=>by rw[k3 j f hf];simp⟩
 map:=fun⟨d,c,h⟩ht=>by cases d<;>simp[gk,ht]at h
theorem UL{t e:TypeId}(h:Told P t)(ht:P.underlying t=some (.slice e)):0<P.cellsOf e:=by
 obtain⟨d,c,h⟩:=h;cases d with
 |zero=>simp[gk]at h
 |succ d=>
  simp only[gk,ht,aa]at h;obtain⟨c1,_,h⟩:=h;split at h
  case isFalse=>simp at h
  rename_i hw;rw[hw.1];exact zx c1
variable {H:Type}{eo:TypeId×Value->H}{w w':World}
theorem Stood.sameAt(h:Stood w w'){p:MemPlace}(hp:p.block<w.heap.size):w.sameAt w' p:=by
 cases p with
 |cell b off=>
  have:=h.2.1 b hp;show w'.cell? _=w.cell? _;simp only[World.cell?,this]
 |map b=>exact h.2.1 b hp
theorem nG(h:Stood w w'){sp:Nat->Bool}:∀{ts:List TypeId}{vs:List Value}{ds:List (DataW H)}{ps:List MemPlace},(∀t∈ts,Told P t)->(∀p∈ps,sp p.block=true)->DataW.TrodAll eo P w 0 (fun _=>true) true ts vs ds ps->DataW.TrodAll eo P w' 0 sp true ts vs ds ps
 |[],[],[],ps,_,_,hp=>hp
 |t::ts,v::vs,d::ds,ps,ht,hs,⟨p,q,⟨n,h1⟩,h2,e⟩=>by
  subst e;have tc:=DataW.trod_lt n t _ _ h1;exact⟨p,q,⟨n,DataW.trod_stays AR UL (fun h=>by cases h) (ht t (Fc ..)) h1 (fun p hp=>h.sameAt (tc p hp)) (fun p hp=>hs p (If _ hp))⟩,
   nG h (fun t' h'=>ht t' (Ib _ h')) (fun p hp=>hs p (List.mem_append_right _ hp)) h2,rfl⟩
 |[],[],_::_,_,_,_,h'=>h'.elim
 |[],_::_,_,_,_,_,h'=>by cases h'
 |_::_,[],_,_,_,_,h'=>by cases h'
 |_::_,_::_,[],_,_,_,h'=>by cases h'
def Er(P:Program)(t:TypeId):Bool:=match P.underlying t with|some (.struct _)|some (.array _ _)=>true|_=>false
def XC(agg:Bool)(c:CT)(x:Fb c):UV:=if agg then .agg (enc c x)else(enc c x).headD .Sb
theorem vB{S:Nat}{Q:DataW H->Prop}(hQ:Down S Q){d:Nat}{t:TypeId}{c:CT}(h:gk P d t=some c){r:Reach}{b:Nat}{v:Value}(Fq:Value.okWide P w r b t v){dd:DataW H}{p:List MemPlace}(ht:DataW.Trod eo P w 0 (fun _=>true) true t v dd p)(Xm:Wt P Q t dd):
  ∃x:Fb c,XE S c x/\∃a,(∀m,RV m (XC (Er P t) c x) a)/\V.jb (ay w) w a v:=by
 obtain⟨fuel,hf⟩:=ht;obtain⟨x,hx,hl,h1,as,h2,h3,h4⟩:=Ho hQ (g:=ay w) (fun _ h=>h) d h hf Xm;refine⟨x,hx,?_⟩;have Uz:Er P t=false->(∀cs,v≠ .agg cs)->width c=1->∃a,(∀m,RV m (XC (Er P t) c x) a)/\V.jb (ay w) w a v:=fun hb hv hw=>by
  have mj:v.cells.toList=[v]:=by cases v<;>first|rfl|exact absurd rfl (hv _)
  rw[mj]at hl h3 h4;have nV:=Nh c x;rw[hw]at nV;obtain⟨u,hu⟩:=List.length_eq_one_iff.1 nV;obtain⟨a,ha⟩:=List.length_eq_one_iff.1 (h3.trans rfl);subst ha;refine⟨a,fun m=> ?_,h4 0 a v rfl rfl⟩;have:=(h2 m).2 0 u a (by rw[hu];rfl) rfl
  simpa[XC,hb,hu]using this
 have gah:(∃cs,v= .agg cs)->Er P t=true->∃a,(∀m,RV m (XC (Er P t) c x) a)/\V.jb (ay w) w a v:=fun⟨cs,hv⟩hb=>by
  subst hv;refine⟨.agg as,fun m=> ?_,?_⟩
  ·simp only[XC,hb,if_true];exact .agg _ _ (h2 m).1 (h2 m).2
  ·have:=V.jb.agg (g:=ay w) (w:=w) as cs.toList h3.symm h1 h4
   simpa using this
 cases d with
 |zero=>simp[gk]at h
 |succ d=>
 simp only[gk]at h;split at h
 ·rename_i hu;injection h with h;subst h
  exact Uz (by simp[Er,hu]) (fun cs e=>by subst e;simp[Value.okWide,hu,Cell.okWide,Cell.ok]at Fq) rfl
 ·rename_i k hu;injection h with h;subst h
  exact Uz (by simp[Er,hu]) (fun cs e=>by subst e;simp[Value.okWide,hu,Cell.okWide,Cell.ok]at Fq) rfl
 ·rename_i hu;injection h with h;subst h
  exact Uz (by simp[Er,hu]) (fun cs e=>by subst e;simp[Value.okWide,hu,Cell.okWide,Cell.ok]at Fq) rfl
 ·rename_i e hu;obtain⟨c1,_,h⟩:=aa.1 h;split at h
  case isFalse=>simp at h
  injection h with h;subst h
  exact Uz (by simp[Er,hu]) (fun cs e=>by subst e;simp[Value.okWide,hu,Cell.okWide,Cell.ok]at Fq) rfl
 ·rename_i fs hu;exact gah (by simp only[Value.okWide,hu]at Fq;obtain⟨cs,e,_⟩:=Fq;exact⟨cs,e⟩) (by simp[Er,hu])
 ·rename_i n e hu;exact gah (by simp only[Value.okWide,hu]at Fq;obtain⟨cs,e,_⟩:=Fq;exact⟨cs,e⟩) (by simp[Er,hu])
 ·simp at h
theorem eW{vs:List Value}{ds:List (DataW H)}{p:List MemPlace}(h:DataW.TrodAll eo P w 0 (fun _=>true) true [] vs ds p):vs=[]/\ds=[]:=by
 cases vs<;>cases ds<;>first|exact⟨rfl,rfl⟩|exact h.elim
theorem Px{t:TypeId}{ts:List TypeId}{vs:List Value}{ds:List (DataW H)}{p:List MemPlace}(h:DataW.TrodAll eo P w 0 (fun _=>true) true (t::ts) vs ds p):
  ∃v vs' d ds' p0 p1,vs=v::vs'/\ds=d::ds'/\DataW.Trod eo P w 0 (fun _=>true) true t v d p0/\DataW.TrodAll eo P w 0 (fun _=>true) true ts vs' ds' p1:=by
 cases vs with
 |nil=>exact h.elim
 |cons v vs=>
  cases ds with
  |nil=>exact h.elim
  |cons d ds=>obtain⟨p0,p1,h1,h2,_⟩:=h;exact⟨v,vs,d,ds,p0,p1,rfl,rfl,h1,h2⟩
theorem WA{Q:DataW H->Prop}{t:TypeId}{ts:List TypeId}{d:DataW H}{ds:List (DataW H)}(h:∀b∈DataW.weightsEach P (t::ts) (d::ds),b<=reachBytes)(hq:∀x∈d::ds,Q x):Wt P Q t d/\(∀b∈DataW.weightsEach P ts ds,b<=reachBytes)/\∀x∈ds,Q x:=by
 simp only[DataW.weightsEach,Kk]at h;exact⟨⟨hq _ Fc,fun b hb=>h b (.inl hb)⟩,fun b hb=>h b (.inr hb),fun x hx=>hq x (Ib _ hx)⟩
theorem PR{f:Func}{s:ChangeSpec}{apart fresh handsOn again:Bool}{W W':World}{args:Array Value}{ds:List (DataW H)}{before:List MemPlace}(o9:s.vars=[])(hW:DataW.Whole eo P f.params.toList s.vars apart W args.toList ds [] before)
  (hS:Stood W W') {tb:TypeId} (htb:P.underlying tb=some .bool) (x6:f.resultTypes= #[tb]) (mo:s.fn H (ds++[])={ results:=[.lit (.bool true)],args:=ds }) (ht:∀t∈f.params.toList,Told P t):
  s.post eo P f apart fresh handsOn again W args (.bool true) W':=by
 obtain⟨p,q,hA,hV,rfl,hz,hn⟩:=id hW;have hq:q=[]:=by rw[o9]at hV;exact hV
 subst hq;have tc:∀x∈p,x.block<W.heap.size:=hA.lt;have hr:∀(b:Nat)(sp:Nat->Bool)(hd:Bool),DataW.TrodAll eo P W' b sp hd f.resultTypes.toList ((Value.bool true).resultList f.resultTypes.size) (s.fn H (ds++[])).results []:=fun b sp hd=>by
  rw[x6,mo];exact⟨[],[],RowKit.shut_bool htb true,rfl,rfl⟩
 have ha:∀sp:Nat->Bool,(∀x∈p,sp x.block=true)->DataW.TrodAll eo P W' 0 sp true f.params.toList args.toList (s.fn H (ds++[])).args p:=fun sp hs=>by rw[mo];exact nG hS ht hs hA
 have hv:∀sp:Nat->Bool,DataW.TrodVars eo P W' sp s.vars (s.fn H (ds++[])).vars []:=fun sp=>by rw[o9,mo];rfl
 refine⟨ds,[],p++[],[],p,[],hW,hr _ _ _,ha _ (fun x hx=>by simpa using tc x hx),hv _,hS.kept _,fun _=>⟨fun j t r h1 h2=> ?_,_,_,([]++p)++[],⟨[]++p,[],ChangeShapes.trodAll_append (ha _ (fun _ _=>rfl)) (hr _ _ _),hv _,rfl,?_,?_⟩,?_⟩⟩
 ·rw[x6]at h1 h2;rcases j with _|j
  ·simp at h1;subst h1;have:r= .bool true:=by simpa[Value.resultList]using h2.symm
   subst this;exact RowKit.okWide_bool_mk htb true
  ·simp at h1
 ·intro b off hp;have DL:MemPlace.cell b off∈p:=by simpa using hp
  have hb:b<W.heap.size:=tc _ DL;have:=hz b off (by simpa using hp);unfold World.frozen? at this ⊢;rw[hS.2.1 b hb];exact this
 ·intro hap
  simpa using hn hap
 ·intro x hx _
  simpa using hx
end
end Go.U
namespace Go.U
open Go
section
variable [TB:ZC]{A:V.Eh}
theorem jr{k:Nat}{f:FuncId}{g:List V.AV->V.AH->Option (V.AV×V.AH)}(he:A.ext f=some g)(cs as:List V.AV)(H:V.AH):V.call A (k+1) (.fn f cs) as H=g (as++cs) H:=by
 simp only[V.call,he]
theorem R6{k:Nat}{f:FuncId}(he:A.ext f=some V.T6){sp:Spec}(uf:∀X args H K out,sp X args H K=some out->∃n b:Int,args=[.int .i64 n,.int .i64 b]/\H=⟨[],0⟩/\(-9223372036854775808<=n/\n<=9223372036854775807/\b=10)/\K (.str ⟨(Lib.itoa n).toArray⟩) ⟨[],0⟩=some out):
  Xe (V.call A (k+1)) f sp:=by
 intro X args H K out h;obtain⟨n,b,rfl,rfl,hc,h'⟩:=uf X args H K out h;refine⟨_,_,h',rfl,fun m Hv as cs hh hl=> ?_⟩;obtain⟨a1,l1,e1,q1,q2⟩:=hl.ji;obtain⟨a2,l2,e2,q3,q4⟩:=q2.ji;have e3:l2=[]:=Ja.1 q4.1;rw[jr he,e1,e2,e3];cases q1;cases q3;exact⟨.str _,Hv,by simp only[V.T6];rw[if_pos hc],.same hh (.str _)⟩
theorem Qy:∀(l:List UInt8),V.aB (l.map fun b=>[V.AV.int .u8 (b.toNat:Int)])=some l
 |[]=>rfl
 |b::l=>by
  have hb:=b.toNat_lt;simp only[Ld,V.aB];rw[if_pos ⟨by omega,by omega⟩,Qy l]
  simp
theorem Tr(s:ByteArray):s.data.toList.length=s.size:=Re
theorem Gk(s:ByteArray):(V.jc s).length=s.size:=by unfold V.jc;rw[Oc];exact Tr s
theorem EV{k:Nat}{f:FuncId}(he:A.ext f=some (V.uD TB.bT TB.uT)){sp:Spec}(uf:∀X args H K out,sp X args H K=some out->∃s:ByteArray,args=[.ptr 0 0]/\H=⟨[.Mm (.all 1),.Rp s],0⟩/\K (.str s) ⟨[.Mm (.all 1),.dead],0⟩=some out):
  Xe (V.call A (k+1)) f sp:=by
 intro X args H K out h;obtain⟨s,rfl,rfl,h'⟩:=uf X args H K out h;refine⟨_,_,h',rfl,fun m Hv as cs hh hl=> ?_⟩;obtain⟨a1,l1,e1,q1,q2⟩:=hl.ji;have e2:l1=[]:=Ja.1 q2.1;rw[jr he,e1,e2];obtain⟨x,p,q',h1,h2,h3,h4,h5⟩:=hh.Tc 0 _ rfl;obtain⟨k1,k2⟩:=hh.Tc 1 _ rfl;cases q1 with
 |ptr _ _ x' Rk=>
 rw[h1]at Rk;injection Rk with Rk;subst Rk
 have dj:RH m ⟨[.Mm (.all 1),.dead],0⟩ Hv:=hh.kill 1;cases h4 with
 |Wf _ _ tc hz ha=>
  have hq:q'= .Ya:=ha.resolve_right h5;subst hq;have hs:s.size=0:=by rw[<- k1];exact hz
  have iV:s=⟨#[]⟩:=by
   have:s.data.toList=[]:=Ja.1 (by rw[Tr];exact hs);cases s;simp_all
  subst iV;exact⟨_,Hv,by simp only[V.uD,h2,if_true],.same dj (.str _)⟩
 |all _ y hy=>
  rcases k2 with⟨_,k3⟩|⟨y',k3,k4,k5⟩
  ·rw[hy]at k3;simp at k3
  ·rw[hy]at k3;injection k3 with k3;subst k3
   have Yf:=hh.wm 1 y hy (fe _);have Su:(V.jc s).length=s.size:=Gk _;have Ed:=dj.other (x:=y) (fun b s' hb e=>by
    match b,hb,e with
    |0,hb,e=>exact absurd (hh.inj 0 1 y ⟨_,rfl,rfl⟩ ⟨_,rfl,rfl⟩ e hy) (by simp)
    |1,hb,_=>obtain⟨z,hz,OJ⟩:=hb;simp at hz;subst hz;simp[Xd]at OJ
    |b+2,hb,_=>obtain⟨z,hz,_⟩:=hb;simp at hz) .dead
   refine⟨.str s,V.Sa Hv y .dead,?_,m,Ed,.str _,.refl m,⟨.refl (va _),fun x' Rk wS=>by rw[Ac,if_neg (fun e=>wS 1 0 (by rw[<- e];exact hy))],fun b' s' x' ud=> .inl ⟨b',s',ud⟩,by simp[V.Sa],rfl⟩⟩;simp only[V.uD,h2,if_true,zi];rw[k4];simp only;rw[if_pos ⟨trivial,va _,Yf,by rw[k1];exact k5,by rw[Su,k1];exact va _⟩,k1,Zc (by rw[Su];exact va _)];simp only[V.jc,Qy,Mc]
def R3(A:V.Eh)(k:Nat)(f:FuncId)(ts:Array TypeId):Prop:=
 ∀(H:V.AH)(x:Nat)(p q v:V.AV)(t:ByteArray)(H2:V.AH),H.bl[x]?=some (.cells [[p,q]] 2 (some (TB.bT,2)))->(p= .Me\/p= .ptr x 0 0)->H.wm<=x->
  V.append A (V.Sa H x (.cells [[.ptr x 0 0,q]] 2 (some (TB.bT,2)))) ts q (.str t)=some (v,H2)->H2.bl[x]?=some (.cells [[.ptr x 0 0,q]] 2 (some (TB.bT,2)))->H2.wm=H.wm->v.XO=true->
  V.call A k (.fn f []) [.ptr x 0 0,.str t] H=some (.Qc [.int .i64 t.size,.Sg],V.Sa H2 x (.cells [[.ptr x 0 0,v]] 2 (some (TB.bT,2))))
structure F8(A:V.Eh)(ts:Array TypeId):Prop where
 ty:∃t u,ts= #[t,u]/\V.elem? A t=some TB.uT/\A.P.underlying u=some .string/\V.zero A TB.uT=some [.int .u8 0]/\V.bytes A TB.uT=some 1/\V.size A TB.uT=some 1
theorem FI(s t:ByteArray):V.jc (s++t)=V.jc s++V.jc t:=by
 simp[V.jc,Zw]
theorem GI(s:ByteArray):(V.jc s).all (fun r=>r.length==1)=true:=ic.2 fun r hr=>by
 unfold V.jc at hr;obtain⟨b,_,rfl⟩:=bj.1 hr;rfl
def N8[TB:ZC](H:V.AH)(q:V.AV)(xs:List (List V.AV))(t:ByteArray):Option (V.AV×V.AH):=
 match q with
 | .Ya| .Pd=>some (.sl H.bl.length 0 t.size,V.push H (.cells (V.jc t) 1 (some (TB.uT,1))))
 | .sl b r _=>if H.wm<=b/\V.Uj H b=some 1 then some (.sl H.bl.length 0 (xs.length+t.size),V.push (V.Sa H b .dead) (.cells (xs++V.jc t) 1 (V.Iz (V.wG H b) TB.uT r)))else none
 |_=>none
theorem yx{ts:Array TypeId}(Qo:F8 A ts){H:V.AH}{q:V.AV}{t:ByteArray}{xs:List (List V.AV)}(Hs:V.rowsOf H q=some xs)(hn:xs.length+t.size<=70368744177664):
  V.append A H ts q (.str t)=if t.size=0 then some (q,H)else N8 H q xs t:=by
 obtain⟨t0,u,rfl,h1,h2,h3,h4,h5⟩:=Qo.ty;have hl:(V.jc t).length=t.size:=Gk _;have g0:(#[t0,u]:Array TypeId)[0]?=some t0:=rfl;have g1:(#[t0,u]:Array TypeId)[1]?=some u:=rfl;simp only[V.append,g0,g1,h1,h2,h3,h4,Hs,ga,hl,Ve];rw[if_pos ⟨by omega,by omega,by omega,h5,GI t⟩];rfl
theorem go2{n:Nat}{m m':Mp}{Hv H':V.AH}(e:m.top=n)(h:Yj m.top m Hv m' H'):Yj n m Hv m' H':=e ▸ h
theorem y5{ts:Array TypeId}(Qo:F8 A ts){m:Mp}{Hv H1:V.AH}{x:Nat}{q':V.AV}{s t:ByteArray}{C:Prop}(hn:s.size+t.size<=70368744177664)
  (h1:m.ι 0 0=some x) (h4:RV m (.all 1) q') (h5:q'≠ .Pd) (k1:m.len 1 0=s.size) (QI:x<Hv.bl.length) (Rz:m.top=2)
  (oF:RH m ⟨[.Mm (.all 1),.Rp s],0⟩ H1) (VW:Yj 2 m Hv m H1)
  (Np:H1.bl[x]?=some (.cells [[.ptr x 0 0,q']] 2 (some (TB.bT,2)))) (EL:H1.bl.length=Hv.bl.length) (DM:H1.wm=Hv.wm)
  (fin:∀(v:V.AV)(H2:V.AH)(m2:Mp),V.append A H1 ts q' (.str t)=some (v,H2)->RH m2 ⟨[.Mm (.all 1),.dead,.Rp (s++t)],0⟩ H2->RV m2 (.all 2) v->v≠ .Pd->v.XO=true->m2.ι 0 0=some x->H2.bl[x]?=some (.cells [[.ptr x 0 0,q']] 2 (some (TB.bT,2)))->H2.wm=Hv.wm->
   m.Le m2->Yj 2 m Hv m2 H2->C):C:=by
 have dc:(s++t).size=s.size+t.size:=by simp
 obtain⟨_,k2⟩:=oF.Tc 1 _ rfl;have dj:RH m ⟨[.Mm (.all 1),.dead],0⟩ H1:=oF.kill 1;have UW:Yj 2 m Hv m H1:=VW;have Dag:∀{b:Nat},live ⟨[.Mm (.all 1),.dead],0⟩ b->b=0:=fun{b}hb=>by
  obtain⟨z,hz,OJ⟩:=hb
  match b,hz with
  |0,_=>rfl
  |1,hz=>simp at hz;subst hz;simp[Xd]at OJ
  |b+2,hz=>simp at hz
 have Sab:∀(xo:Option Nat)(n:Nat),(m.add 2 xo n).ι 0 0=some x:=fun xo n=>by rw[Cf _ _ _ (by omega)];exact h1
 by_cases ht0:t.size=0
 ·
  have Tz:s++t=s:=by
   have:t.data.toList=[]:=Ja.1 (by rw[Tr];exact ht0);cases s;cases t;simp_all [ByteArray.ext_iff,Zw]
  have Nc:∃xs,V.rowsOf H1 q'=some xs/\xs.length=s.size:=by
   cases h4 with
   |Wf _ _ tc hz ha=>have hq:q'= .Ya:=ha.resolve_right h5;subst hq;exact⟨[],rfl,by rw[<- k1];exact hz.symm⟩
   |all _ y hy=>
    have jS:=k2;rcases jS with⟨_,k3⟩|⟨y',k3,k4,k5⟩
    ·rw[hy]at k3;simp at k3
    ·rw[hy]at k3;injection k3 with k3;subst k3
     have Su:(V.jc s).length=s.size:=Gk _;refine⟨V.jc s,?_,Su⟩;unfold V.rowsOf;simp only;rw[k4];simp only;rw[if_pos (by rw[k1,Su];omega),k1,List.drop_zero,Zc (by rw[Su];exact va _)]
  obtain⟨xs,Hs,Tao⟩:=Nc;have ha:=yx Qo (t:=t) Hs (by omega);rw[if_pos ht0]at ha;have hp:=dj.push (Lc:=H1) (y:= .Rp (s++t)) (x:=m.ι 1 0) (n:=s.size) (fun _ _ _ _ _=>rfl) (va _) rfl (fun xv e=>⟨(oF.He 1 xv e).2,oF.wm 1 xv e (fe _),fun b s' hb e'=>by
    have:=Dag hb;subst this;exact absurd (oF.inj 0 1 xv ⟨_,rfl,rfl⟩ ⟨_,rfl,rfl⟩ e' e) (by simp)⟩) (by
   have jS:=k2;refine⟨by rw[Tz];exact yd _ _ _ _,?_⟩;rw[Tz];rcases jS with⟨k3,k4⟩|⟨y',k3,k4,k5⟩
   ·exact .inl ⟨k3,by rw[ae];exact k4⟩
   ·exact .inr ⟨y',by rw[ae];exact k3,k4,k5⟩)
  refine fin q' H1 (m.add 2 (m.ι 1 0) s.size) ha hp.1 ?_ h5 (by cases h4 with|Wf _ _ _ _ ha=>(rcases ha with rfl|rfl<;>rfl)|all _ _ _=>rfl) (Sab _ _) Np DM hp.2 (UW.trans ⟨by have:=Kg dj (m.ι 1 0) s.size;rw[Rz]at this;exact this,fun _ _ _=>rfl,fun b _ xv hb=> ?_,va _,rfl⟩ (va _))
  ·cases h4 with
   |Wf _ _ tc hz ha=>exact .Wf _ _ (by simp[Mp.add,Mp.Zi]) (by rw[yd,<- k1];exact hz) ha
   |all _ y hy=>
    have:=RV.all (m:=m.add 2 (m.ι 1 0) s.size) 2 y (by rw[ae];exact hy);rw[yd]at this;rw[k1];exact this
  ·by_cases e:b=2
   ·subst e;obtain⟨_,e⟩:=Ti hb;exact .inl ⟨1,_,e⟩
   ·rw[Cf _ _ _ e]at hb;exact .inl ⟨b,_,hb⟩
 ·cases h4 with
  |Wf _ _ tc hz ha=>
   have hq:q'= .Ya:=ha.resolve_right h5;subst hq;have I4:s.size=0:=by rw[<- k1];exact hz
   have sg:s++t=t:=by
    have:s.data.toList=[]:=Ja.1 (by rw[Tr];exact I4);cases s;cases t;simp_all [ByteArray.ext_iff,Zw]
   have ZW:=yx Qo (H:=H1) (q:= .Ya) (t:=t) (xs:=[]) rfl (by simp;omega);rw[if_neg ht0]at ZW;have ze:=dj.new (y:= .Rp (s++t)) (yv:= .cells (V.jc t) 1 (some (TB.uT,1))) (n:=t.size) ⟨by rw[sg];exact yd _ _ _ _,.inr ⟨_,ae _ _ _ _,by rw[sg,Ie,if_neg (by omega),if_pos rfl],by rw[sg];omega,by rw[sg];omega⟩⟩;refine fin _ _ _ ZW ze.1 ?_ (by simp) rfl (Sab _ _) (by rw[Ie,if_pos (by rw[EL];exact QI)];exact Np) DM ze.2.1 (UW.trans ze.2.2 (by rw[Rz];exact va _));have:=RV.all (m:=m.add 2 (some H1.bl.length) t.size) 2 H1.bl.length (ae _ _ _ _);rw[yd]at this;exact this
  |all _ y hy=>
   have jS:=k2;rcases jS with⟨_,k3⟩|⟨y',k3,k4,k5⟩
   ·rw[hy]at k3;simp at k3
   ·rw[hy]at k3;injection k3 with k3;subst k3
    have Su:(V.jc s).length=s.size:=Gk _;have Hs:V.rowsOf H1 (.sl y 0 (m.len 1 0))=some (V.jc s):=by
     unfold V.rowsOf;simp only;rw[k4];simp only;rw[if_pos (by rw[k1,Su];omega),k1,List.drop_zero,Zc (by rw[Su];exact va _)]
    have ZW:=yx Qo (t:=t) Hs (by rw[Su];exact hn);rw[if_neg ht0]at ZW;simp only[N8]at ZW;have hwy:=oF.wm 1 y hy (fe _);have hxy:y≠x:=fun e=>by subst e;exact absurd (oF.inj 0 1 y ⟨_,rfl,rfl⟩ ⟨_,rfl,rfl⟩ h1 hy) (by simp)
    rw[if_pos ⟨hwy,by simp[V.Uj,k4]⟩,Su]at ZW;have BD:V.Iz (V.wG H1 y) TB.uT 0=some (TB.uT,1):=by simp[V.wG,k4,V.Iz]
    rw[BD,<- FI]at ZW;have Ed:=dj.other (x:=y) (fun b s' hb e=>by
     have:=Dag hb;subst this;exact absurd (oF.inj 0 1 y ⟨_,rfl,rfl⟩ ⟨_,rfl,rfl⟩ e hy) (by simp)) .dead
    have rS:(V.Sa H1 y .dead).bl.length=H1.bl.length:=by simp[V.Sa]
    have ze:=Ed.new (y:= .Rp (s++t)) (yv:= .cells (V.jc (s++t)) 1 (some (TB.uT,1))) (n:=s.size+t.size) ⟨by rw[dc];exact yd _ _ _ _,.inr ⟨_,ae _ _ _ _,by rw[Ie,if_neg (by omega),if_pos rfl],by rw[dc];omega,by rw[dc];omega⟩⟩;rw[rS]at ze;have g2:Yj 2 m H1 m (V.Sa H1 y .dead):=⟨by rw[<- Rz];exact .refl (va _),fun x' Rk wS=>by rw[Ac,if_neg (fun e=>wS 1 0 (by rw[<- e];exact hy))],fun b' s' x' ud=> .inl ⟨b',s',ud⟩,by simp[V.Sa],rfl⟩;refine fin _ _ _ ZW ze.1 ?_ (by simp) rfl (Sab _ _) (by rw[Ie,if_pos (by rw[rS,EL];exact QI),Ac,if_neg hxy];exact Np) DM ze.2.1 ((UW.trans g2 (va _)).trans ze.2.2 (by rw[Rz];exact va _));have:=RV.all (m:=m.add 2 (some H1.bl.length) (s.size+t.size)) 2 H1.bl.length (ae _ _ _ _);rw[yd]at this;exact this
theorem x5{k:Nat}{f:FuncId}{ts:Array TypeId}(Qo:F8 A ts)(Nf:R3 A (k+1) f ts){sp:Spec} (uf:∀X args H K out,sp X args H K=some out->∃s t:ByteArray,args=[.ptr 0 0,.str t]/\H=⟨[.Mm (.all 1),.Rp s],0⟩/\s.size+t.size<=70368744177664/\
   K (.Qc [.int .i64 t.size,.Sg]) ⟨[.Mm (.all 2),.dead,.Rp (s++t)],0⟩=some out) (hf:∀cs as H,V.call A (k+1) (.fn f cs) as H=V.call A (k+1) (.fn f []) (as++cs) H):Xe (V.call A (k+1)) f sp:=by
 intro X args H K out h;obtain⟨s,t,rfl,rfl,hn,h'⟩:=uf X args H K out h;refine⟨_,_,h',rfl,fun m Hv as cs hh hl=> ?_⟩;obtain⟨a1,l1,e1,q1,q2⟩:=hl.ji;obtain⟨a2,l2,e2,q3,q4⟩:=q2.ji;have e3:l2=[]:=Ja.1 q4.1;rw[hf,e1,e2,e3];obtain⟨x,p,q',h1,h2,h3,h4,h5⟩:=hh.Tc 0 _ rfl;obtain⟨k1,k2⟩:=hh.Tc 1 _ rfl;cases q1 with
 |ptr _ _ x' Rk=>
 cases q3;rw[h1]at Rk;injection Rk with Rk;subst Rk
 have QI:=(hh.He 0 x h1).2;have l6:=hh.wm 0 x h1 (fe _);have LM:live ⟨[.Mm (.all 1),.Rp s],0⟩ 0:=⟨_,rfl,rfl⟩;have Rz:m.top=2:=hh.len;have dc:(s++t).size=s.size+t.size:=by simp
 have oag:=hh.set (y:= .Mm (.all 1)) (yv:= .cells [[.ptr x 0 0,q']] 2 (some (TB.bT,2))) LM h1 ⟨x,.ptr x 0 0,q',h1,by rw[Ac,if_pos rfl,if_pos QI],.inr rfl,h4,h5⟩;obtain⟨oF,VW⟩:=oag;have oF:RH m ⟨[.Mm (.all 1),.Rp s],0⟩ (V.Sa Hv x (.cells [[.ptr x 0 0,q']] 2 (some (TB.bT,2)))):=oF;have Np:(V.Sa Hv x (.cells [[.ptr x 0 0,q']] 2 (some (TB.bT,2)))).bl[x]?=some (.cells [[.ptr x 0 0,q']] 2 (some (TB.bT,2))):=by rw[Ac,if_pos rfl,if_pos QI]
 refine y5 Qo hn h1 h4 h5 k1 QI Rz oF (go2 Rz VW) Np (by simp[V.Sa]) rfl ?_;have fin:∀(v:V.AV)(H2:V.AH)(m2:Mp),V.append A (V.Sa Hv x (.cells [[.ptr x 0 0,q']] 2 (some (TB.bT,2)))) ts q' (.str t)=some (v,H2)->RH m2 ⟨[.Mm (.all 1),.dead,.Rp (s++t)],0⟩ H2->RV m2 (.all 2) v->v≠ .Pd->v.XO=true->m2.ι 0 0=some x->H2.bl[x]?=some (.cells [[.ptr x 0 0,q']] 2 (some (TB.bT,2)))->H2.wm=Hv.wm->
   m.Le m2->Yj 2 m Hv m2 H2->∃r' Lc,V.call A (k+1) (.fn f []) [.ptr x 0 0,.str t] Hv=some (r',Lc)/\gq m Hv (.Qc [.int .i64 t.size,.Sg]) ⟨[.Mm (.all 2),.dead,.Rp (s++t)],0⟩ r' Lc:=fun v H2 m2 ha hr hv Sc Uz Lp hbx WG hle fq=>by
  have Dq:=(hr.He 0 x Lp).2;obtain⟨r1,r2⟩:=hr.set (b:=0) (y:= .Mm (.all 2)) (yv:= .cells [[.ptr x 0 0,v]] 2 (some (TB.bT,2))) ⟨_,rfl,rfl⟩ Lp ⟨x,.ptr x 0 0,v,Lp,by rw[Ac,if_pos rfl,if_pos Dq],.inr rfl,hv,Sc⟩;refine⟨_,_,Nf Hv x p q' v t H2 h2 h3 l6 ha hbx WG Uz,m2,r1,.Qc _ _ rfl (fun i y b hy hb=> ?_),hle,?_⟩
  ·match i,hy,hb with
   |0,hy,hb=>simp at hy hb;subst hy;subst hb;exact .int _ _
   |1,hy,hb=>simp at hy hb;subst hy;subst hb;exact .Sg
   |i+2,hy,_=>simp at hy
  ·rw[Rz];exact fq.trans r2 (by have:=hr.len;simp at this;omega)
 exact fin
end
end Go.U
