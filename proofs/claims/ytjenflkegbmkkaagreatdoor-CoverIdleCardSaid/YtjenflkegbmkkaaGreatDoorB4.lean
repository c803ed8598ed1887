/- A second evaluator, over rows of Lean values, and that it is right over the first. -/
import Derived.Test.YtjenflkegbmkkaaGreatDoorB3
import Derived.Test.YtjenflkegbmkkaaGreatDoorA4
import Derived.Test.YtjenflkegbmkkaaGreatDoorA5
import Derived.ChangeShapes
import Derived.ChangeReads
import Derived.ChangeOld
import Derived.ChangeStays
import Derived.ChangeSame
import Derived.RowKit3
import Derived.Lib.LaidTab
set_option linter.unusedVariables false
set_option linter.unusedSimpArgs false
set_option linter.unusedSectionVars false
open Array renaming length_toList→Ge
open Bool renaming and_eq_true→Ia
open ByteArray renaming data_append→iv
open List renaming map_cons→Dd,mem_append→Tn,getElem?_append_left→Fa,getElem?_append_right→Ka,range→ua,mem_cons_self→zc,take_of_length_le→Ue,mem_cons_of_mem→Gb,getElem?_eq_none→mb,mem_cons→oc,length_map→Ec,mem_append_left→qf,mem_map→ye,mem_of_getElem?→jb,mem_iff_getElem?→GB,length_eq_zero_iff→Da,getElem?_eq_getElem→ya,getD_eq_getElem?_getD→Ea,getElem?_cons_succ→Ke,append_nil→Qm,all_eq_true→Yb,length_singleton→Ar
open Nat renaming lt_or_ge→Rb,add_zero→td,succ_mul→Gi,zero_le→Nd,le_trans→Ib,le_of_eq→Ch,le_refl→oa
open Option renaming bind_eq_some_iff→aa,map_eq_some_iff→ia,map_some→Jc,bind_some→da
open Option.some renaming injEq→yc
namespace Go.U
open Go
variable [TB:sB]
def csz:CT->Nat
 | .bool=>1
 | .int _=>8
 | .str=>16
 | .slice _=>24
 | .pair a b=>csz a+csz b
def KC (S:Nat):(c:CT)->Eb c->Prop
 | .bool=>fun _=>True
 | .int k=>fun (n:Int)=>k.min<=n/\n<=k.max
 | .str=>fun (s:ByteArray)=>s.size<=S
 | .slice c=>fun (l:List (Eb c))=>(l.length<=S/\l.length * csz c<=reachBytes)/\∀ x∈l,KC S c x
 | .pair a b=>fun (x:Eb a×Eb b)=>KC S a x.1/\KC S b x.2
def dZ:Nat->CT->Option CT
 |0,_=>none
 |1,c=>some c
 |n+2,c=>(dZ (n+1) c).map (CT.pair c)
def xC (P:Program):Nat->List (Field×Option CT)->Option CT
 |_,[]=>none
 |o,[f]=>f.2.bind fun c=>if f.1.offset=o/\P.cellsOf f.1.type=width c then some c else none
 |o,f::f'::fs=>f.2.bind fun c=>if f.1.offset=o/\P.cellsOf f.1.type=width c then (xC P (o+width c) (f'::fs)).map (CT.pair c) else none
def Ij (P:Program):Nat->TypeId->Option CT
 |0,_=>none
 |d+1,t=>
  match P.underlying t with
  |some .bool=>some .bool
  |some (.int k)=>some (.int k)
  |some .string=>some .str
  |some (.slice e)=>(Ij P d e).bind fun c=>if P.cellsOf e=width c/\csz c<=P.bytesOf e then some (.slice c) else none
  |some (.struct fs)=>(xC P 0 (fs.toList.map fun f=>(f,Ij P d f.type))).bind fun c=>if P.cellsOf t=width c then some c else none
  |some (.array n e)=>(Ij P d e).bind fun c=>if P.cellsOf e=width c then (dZ n c).bind fun c'=>if P.cellsOf t=width c' then some c' else none else none
  |_=>none
def IB (P:Program) (d o:Nat) (fs:List Field):Option CT:=xC P o (fs.map fun f=>(f,Ij P d f.type))
theorem LG {P:Program} {d o:Nat}:IB P d o []=none:=by simp only [IB,List.map_nil,Dd,xC]
theorem Gt {P:Program} {d o:Nat} {f:Field}:IB P d o [f]=(Ij P d f.type).bind fun c=>if f.offset=o/\P.cellsOf f.type=width c then some c else none:=by simp only [IB,List.map_nil,Dd,xC]
theorem mq {P:Program} {d o:Nat} {f f':Field} {fs:List Field}:IB P d o (f::f'::fs)=(Ij P d f.type).bind fun c=>if f.offset=o/\P.cellsOf f.type=width c then (IB P d (o+width c) (f'::fs)).map (CT.pair c) else none:=by simp only [IB,List.map_nil,Dd,xC]
theorem Cv:∀ c,0<width c
 | .bool| .int _| .str| .slice _=>Nat.one_pos
 | .pair a b=>by have:=Cv a;simp only [width];omega
theorem tn {α β:Type} {f:α->Option β} {a:α} {l:List α} {r:List β} (h:(a::l).mapM f=some r):∃ b r',f a=some b/\l.mapM f=some r'/\r=b::r':=by
 simp only [List.mapM_cons,Option.bind_eq_bind,aa,Option.pure_def,yc] at h;obtain ⟨b,hb,r',hr,rfl⟩:=h;exact ⟨b,r',hb,hr,rfl⟩
theorem Rt {α β:Type} {f:α->Option β}:∀ {l:List α} {r:List β},l.mapM f=some r->r.length=l.length/\∀ (i:Nat) (a:α),l[i]?=some a->∃ b,r[i]?=some b/\f a=some b
 |[],r,h=>by simp at h;subst h;exact ⟨rfl,fun i a ha=>by simp at ha⟩
 |x::l,r,h=>by
  obtain ⟨b,r',hb,hr,rfl⟩:=tn h;obtain ⟨h1,h2⟩:=Rt hr;refine ⟨by simp [h1],fun i a ha=> ?_⟩;cases i with
  |zero=>simp at ha;subst ha;exact ⟨b,rfl,hb⟩
  |succ i=>simp at ha;simpa using h2 i a ha
def Ph (g:V.Gx) (w:World) (c:CT) (x:Eb c) (cs:List Value):Prop:=
 cs.length=width c/\(∀ v∈cs,v.oneCell'=true)/\∃ as:List V.AV,(∀ m,RL m (enc c x) as)/\as.length=cs.length/\∀ (i:Nat) (a:V.AV) (v:Value),as[i]?=some a->cs[i]?=some v->V.Ya g w a v
theorem Ph.pair {g:V.Gx} {w:World} {a b:CT} {x:Eb a} {y:Eb b} {cs ds:List Value} (h:Ph g w a x cs) (h':Ph g w b y ds):Ph g w (.pair a b) (x,y) (cs++ds):=by
 obtain ⟨h1,h2,as,h3,h4,h5⟩:=h;obtain ⟨k1,k2,bs,k3,k4,k5⟩:=h';refine ⟨by simp [width,h1,k1],fun v hv=>(Tn.1 hv).elim (h2 v) (k2 v),as++bs,fun m=>(h3 m).append (k3 m),by simp [h4,k4],fun i p v hp hv=> ?_⟩;rcases Rb i as.length with hi|hi
 · rw [Fa hi] at hp;rw [Fa (by omega)] at hv;exact h5 i p v hp hv
 · rw [Ka hi] at hp;rw [Ka (by omega),<- h4] at hv;exact k5 _ p v hp hv
theorem Ph.one {g:V.Gx} {w:World} {c:CT} {x:Eb c} {v:Value} (a:V.AV) (hw:width c=1) (u:UV) (he:enc c x=[u]) (hv:v.oneCell'=true) (hu:∀ m,RV m u a) (ha:V.Ya g w a v):Ph g w c x [v]:=
 ⟨by simp [hw],fun v' h=>by simp at h;subst h;exact hv,[a],fun m=>by rw [he];exact RL.cons (hu m) RL.nil,rfl,fun i p q hp hq=>by
  cases i with
  |zero=>simp at hp hq;subst hp;subst hq;exact ha
  |succ i=>simp at hp⟩
theorem World.gB {w:World} {base:Nat} {a:Addr} {n:Nat} {cs:List Value} (h:w.cells? base a n=some cs):cs.length=n/\∀ i,i<n->∃ v,cs[i]?=some v/\w.cell? (a.add i)=some v:=by
 unfold World.cells? at h;split at h
 · obtain ⟨h1,h2⟩:=Rt h;refine ⟨by simpa using h1,fun i hi=> ?_⟩;obtain ⟨b,hb,hc⟩:=h2 i i (by simp [hi]);exact ⟨b,hb,hc⟩
 · simp at h
theorem UL {w:World} {a:Addr} {v:Value} (h:w.cell? a=some v):a.spot=none/\a.block<w.heap.size:=by
 unfold World.cell? at h;split at h
 · rename_i c T fz hb;split at h
   · simp at h
   · rename_i hs;refine ⟨by simpa using hs,?_⟩;rcases Rb a.block w.heap.size with nc|Qr
     · exact nc
     · simp [Array.getElem?_eq_none Qr] at hb
 · simp at h
theorem cJ {a:Addr} (ha:a.spot=none) (n:Nat):a.add n=⟨a.block,a.off+n,none⟩:=by
 unfold Addr.add;split
 · rename_i h;subst h;cases a;simp_all
 · cases a;simp_all
section
variable {H:Type} {Im:TypeId×Value->H} {P:Program} {w:World} {g:V.Gx} {S:Nat} {Q:DataW H->Prop}
structure Down (S:Nat) (Q:DataW H->Prop):Prop where
 str:∀ b:List UInt8,Q (.lit (.string b))->b.length<=maxLen->b.length<=S
 slice:∀ es sp,Q (.slice es sp)->(es.length<=maxLen->es.length<=S)/\∀ d∈es,Q d
 agg:∀ ps,Q (.agg ps)->∀ d∈ps,Q d
theorem vY:Down maxLen (fun _:DataW H=>True):=⟨fun _ _ h=>h,fun _ _ _=>⟨id,fun _ _=>trivial⟩,fun _ _ _ _=>trivial⟩
theorem eP {n:Nat} {c c':CT} {e:TypeId} {cs:List Value} {f:List Value->Option (DataW H×List MemPlace)}
  {wt:DataW H->Prop} (hf:∀ cs y,f cs=some y->wt y.1->∃ x:Eb c,KC S c x/\Ph g w c x cs) (ET:dZ n c=some c'):∀ (k:Nat) (ys:List (DataW H×List MemPlace)),(∀ y∈ys,wt y.1)->cs.length=k * width c+width c'->
  ((ua n).mapM fun i=>f ((cs.drop ((k+i) * width c)).take (width c)))=some ys->∃ x:Eb c',KC S c' x/\Ph g w c' x (cs.drop (k * width c)):=by
 induction n generalizing c' with
 |zero=>simp [dZ] at ET
 |succ n ih=>
  intro k ys Ql hl h;rw [List.range_succ_eq_map] at h;obtain ⟨y,ys',h1,h2,rfl⟩:=tn h;obtain ⟨x,dj,cp⟩:=hf _ _ h1 (Ql y zc);cases n with
  |zero=>
   simp only [dZ,yc] at ET;subst ET;refine ⟨x,dj,?_⟩;have:(cs.drop ((k+0) * width c)).take (width c)=cs.drop (k * width c):=by
    rw [td];exact Ue (by simp;omega)
   rw [this] at cp;exact cp
  |succ n=>
   simp only [dZ,ia] at ET;obtain ⟨c2,hc2,rfl⟩:=ET;have Pf:cs.length=(k+1) * width c+width c2:=by rw [hl,Gi];simp only [width];omega
   obtain ⟨y2,hy1,hy2⟩:=ih hc2 (k+1) ys' (fun y hy=>Ql y (Gb _ hy)) Pf (by
    rw [List.mapM_map] at h2;rw [<- h2];congr 1;funext i;rw [show k+1+i=k+i.succ by omega];rfl)
   refine ⟨(x,y2),⟨dj,hy1⟩,?_⟩;have e:cs.drop (k * width c)=(cs.drop ((k+0) * width c)).take (width c)++cs.drop ((k+1) * width c):=by
    rw [td,Gi,<- List.drop_drop];exact (List.take_append_drop _ _).symm
   rw [e];exact cp.pair hy2
theorem Pv {α:Type} {Q:Nat->α->Prop}:∀ {n:Nat},(∀ i,i<n->∃ x,Q i x)->∃ l:List α,l.length=n/\∀ (i:Nat) (x:α),l[i]?=some x->Q i x
 |0,_=>⟨[],rfl,fun i x h=>by simp at h⟩
 |n+1,h=>by
  obtain ⟨l,h1,h2⟩:=Pv (Q:=Q) (n:=n) fun i hi=>h i (by omega)
  obtain ⟨x,hx⟩:=h n (by omega);refine ⟨l++[x],by simp [h1],fun i y hy=> ?_⟩;rcases Rb i l.length with hi|hi
  · rw [Fa hi] at hy;exact h2 i y hy
  · rw [Ka hi] at hy;have:i-l.length=0:=by
     rcases Nat.eq_zero_or_pos (i-l.length) with e|e
     · exact e
     · rw [mb (by simp;omega)] at hy;simp at hy
    rw [this] at hy;simp at hy;subst hy;have:i=n:=by omega
    subst this;exact hx
def Wt (P:Program) (Q:DataW H->Prop) (t:TypeId) (d:DataW H):Prop:=Q d/\∀ b∈d.weights P t,b<=reachBytes
theorem gE {e:TypeId}:∀ {l:List (DataW H)},(∀ d∈l,Q d)->(∀ b∈DataW.weightsAll P e l,b<=reachBytes)->∀ d∈l,Wt P Q e d
 |[],_,_,d,hd=>by cases hd
 |x::l,hq,h,d,hd=>by
  simp only [DataW.weightsAll,Tn] at h;rcases oc.1 hd with rfl|hd
  · exact ⟨hq _ zc,fun b hb=>h b (.inl hb)⟩
  · exact gE (fun d hd=>hq d (Gb _ hd)) (fun b hb=>h b (.inr hb)) d hd
theorem Qf (hQ:Down S Q) (hZ:∀ R,R<w.heap.size->g.Z R) {base:Nat} {held:Bool} {c:CT} {e:TypeId} {t:TypeId} (ht:P.underlying t=some (.slice e)) (hw:P.cellsOf e=width c) (ae:csz c<=P.bytesOf e) {fuel:Nat}
   (ih:∀ {cs:List Value} {y:DataW H×List MemPlace},DataW.trod Im P w base (fun _=>true) held fuel e cs=some y->Wt P Q e y.1->∃ x:Eb c,KC S c x/\Ph g w c x cs) {cs:List Value} {y:DataW H×List MemPlace}
   (hy:DataW.trod Im P w base (fun _=>true) held (fuel+1) t cs=some y) (Ql:Wt P Q t y.1):∃ x:List (Eb c),KC S (.slice c) x/\Ph g w (.slice c) x cs:=by
 have zf:=Cv c;rcases cs with _|⟨v,_|⟨v2,rest⟩⟩
 · simp [DataW.trod,ht] at hy
 · cases v
   case slice a len cap=>
    cases a with
    |none=>
     cases len<;>cases cap<;>simp [DataW.trod,ht] at hy
     exact ⟨[],⟨⟨Nd _,by simp⟩,fun x h=>by cases h⟩,Ph.one .Wa rfl (.lit c []) rfl rfl (fun m=> .Qh c _ (.inl rfl)) .Wa⟩
    |some a=>
     simp only [DataW.trod,ht] at hy;split at hy
     case isFalse=>simp at hy
     rename_i hc;simp only [aa,if_true,ia] at hy;obtain ⟨elems,he,rest,hr,hyy⟩:=hy;have yac:(elems.length+rest.length) * P.bytesOf e<=reachBytes/\∀ b∈DataW.weightsAll P e (elems.map (·.1)),b<=reachBytes:=by
       rw [<- hyy] at Ql;have Ql:=Ql.2;simp only [DataW.weights,ht,Ec] at Ql;exact ⟨Ql _ zc,fun b hb=>Ql b (Gb _ (qf _ hb))⟩
     have hq:=hQ.slice (elems.map (·.1)) (rest.map (·.1)) (by have:=Ql.1;rw [<- hyy] at this;exact this);have wag:=gE hq.2 yac.2;obtain ⟨l1,l2⟩:=Rt he;obtain ⟨r1,r2⟩:=Rt hr;simp only [List.length_range] at l1 r1;have fS:∀ i,i<len->∃ x:Eb c,KC S c x/\∃ cs,w.cells? base (a.add (i * P.cellsOf e)) (P.cellsOf e)=some cs/\Ph g w c x cs:=fun i hi=>by
       obtain ⟨z,YR,vH⟩:=l2 i i (by simp [hi]);obtain ⟨cs,Si,hz⟩:=aa.1 vH;obtain ⟨x,dj,cp⟩:=ih hz (wag _ (ye.2 ⟨z,jb YR,rfl⟩));exact ⟨x,dj,cs,Si,cp⟩
     obtain ⟨l,kJ,BH⟩:=Pv fS;have Ih:KC S (.slice c) l:=⟨⟨by have:=hq.1 (by rw [Ec,l1];omega);rw [Ec,l1] at this;rw [kJ];exact this,by
       rw [kJ];refine Ib (Nat.mul_le_mul (Ib (Ch l1.symm) (Nat.le_add_right _ rest.length)) ae) yac.1⟩,fun x hx=>by obtain ⟨i,hi⟩:=GB.1 hx;exact (BH i x hi).1⟩
     refine ⟨l,Ih,?_⟩;by_cases h0:cap=0
     · have hlen:len=0:=by omega
       subst h0;subst hlen;have:l=[]:=Da.1 kJ;subst this;exact Ph.one (.lit (width c) []) rfl (.lit c []) rfl rfl (fun m=> .lit c [] [] rfl (fun i row h=>by simp at h) (fun i row k x a h=>by simp at h)) (.lits _ _)
     · have jf:a.spot=none/\a.block<w.heap.size:=by
         have hex:∃ cs,w.cells? base (a.add (0 * P.cellsOf e)) (P.cellsOf e)=some cs:=by
           rcases Nat.eq_zero_or_pos len with hz|hp
           · obtain ⟨z,_,vH⟩:=r2 0 0 (List.getElem?_range (by omega));obtain ⟨cs,Si,_⟩:=aa.1 vH;subst hz;exact ⟨cs,Si⟩
           · obtain ⟨x,_,cs,Si,_⟩:=fS 0 hp;exact ⟨cs,Si⟩
         obtain ⟨cs,Si⟩:=hex;obtain ⟨_,h2⟩:=World.gB Si;obtain ⟨v,_,hv⟩:=h2 0 (by omega);have:=UL hv
         simpa [Addr.add] using this
       have Zc:∀ i,i<len->∃ row:List V.AV,∃ x cs,l[i]?=some x/\w.cells? base (a.add (i * P.cellsOf e)) (P.cellsOf e)=some cs/\cs.length=width c/\(∀ v∈cs,v.oneCell'=true)/\(∀ m,RL m (enc c x) row)/\row.length=cs.length/\∀ (i:Nat) (a:V.AV) (v:Value),row[i]?=some a->cs[i]?=some v->V.Ya g w a v:=fun i hi=>by
         have hx:=ya (l:=l) (i:=i) (by omega);obtain ⟨_,cs,Si,k1,k2,as,k3,k4,k5⟩:=BH i _ hx;exact ⟨as,_,cs,hx,Si,k1,k2,k3,k4,k5⟩
       obtain ⟨rows,q1,q2⟩:=Pv Zc;have p5:∀ i k,i<len->k<width c->∃ v,w.cell? ⟨a.block,a.off+i * width c+k,none⟩=some v/\v.oneCell'=true/\∀ row x,rows[i]?=some row->row[k]?=some x->V.Ya g w x v:=fun i k hi hk=>by
         have hx:=ya (l:=rows) (i:=i) (by omega);obtain ⟨x,cs,_,Si,k1,k2,_,k4,k5⟩:=q2 i _ hx;obtain ⟨c1,c2⟩:=World.gB Si;obtain ⟨v,x5,J0⟩:=c2 k (by rw [hw];exact hk);refine ⟨v,?_,k2 v (jb x5),fun row y hr hy=> ?_⟩
         · rw [<- J0,hw,cJ jf.1,cJ rfl]
         · rw [hx] at hr;injection hr with hr;subst hr;exact k5 k y v hy x5
       refine Ph.one (.lit (width c) rows) rfl (.lit c l) rfl rfl (fun m=> .lit c l rows (by omega) (fun i row hi=> ?_) (fun i row k x b hi h1 h2=> ?_)) ?_
       · obtain ⟨x,cs,_,_,k1,_,_,k4,_⟩:=q2 i row hi;rw [k4,k1]
       · obtain ⟨x',cs,jk,_,_,_,k3,_,_⟩:=q2 i row hi;have:vw c l i=enc c x':=by simp [vw,Ea,jk]
         rw [this] at h1;exact (k3 m).2 k x b h1 h2
       · have K5:∀ i k,∃ v,i<len->k<width c->w.cell? ⟨a.block,a.off+i * width c+k,none⟩=some v/\v.oneCell'=true/\∀ row x,rows[i]?=some row->row[k]?=some x->V.Ya g w x v:=fun i k=>by
           by_cases h1:i<len
           · by_cases h2:k<width c
             · obtain ⟨v,hv⟩:=p5 i k h1 h2;exact ⟨v,fun _ _=>hv⟩
             · exact ⟨undef,fun _ h=>absurd h h2⟩
           · exact ⟨undef,fun h _=>absurd h h1⟩
         have Lah:=fun i=>Classical.axiomOfChoice (K5 i)
         obtain ⟨F,hF⟩:=Classical.axiomOfChoice Lah;have:=V.Ya.lit (g:=g) (w:=w) rows a cap (width c) F jf.1 (by omega) (fun _=>hZ _ jf.2) (fun i row hi=>by obtain ⟨x,cs,_,_,k1,_,_,k4,_⟩:=q2 i row hi;rw [k4,k1])
           (fun i k hi hk=>(hF i k (by omega) hk).1) (fun i k hi hk=>(hF i k (by omega) hk).2.1) (fun i row k x hi hx=>by
             have VT:i<len:=by have:=Ua hi;omega
             have hk:k<width c:=by obtain ⟨x,cs,_,_,k1,_,_,k4,_⟩:=q2 i row hi;have:=Ua hx;omega
             exact (hF i k VT hk).2.2 row x hi hx)
         rw [q1] at this;exact this
   all_goals simp [DataW.trod,ht] at hy
 · simp [DataW.trod,ht] at hy
theorem Dx {d:Nat} {cs:List Value} {f:TypeId->List Value->Option (DataW H×List MemPlace)} (hf:∀ {t:TypeId} {c:CT},Ij P d t=some c->∀ {cs y},f t cs=some y->Wt P Q t y.1->∃ x:Eb c,KC S c x/\Ph g w c x cs):
  ∀ (fs:List Field) (o:Nat) {c:CT} {ys:List (DataW H×List MemPlace)},IB P d o fs=some c->cs.length=o+width c->(fs.mapM fun fd=>f fd.type ((cs.drop fd.offset).take (P.cellsOf fd.type)))=some ys->(∀ y∈ys,Q y.1)->(∀ b∈DataW.weightsEach P (fs.map (·.type)) (ys.map (·.1)),b<=reachBytes)->
   ∃ x:Eb c,KC S c x/\Ph g w c x (cs.drop o)
 |[],o,c,ys,h,_,_,_,_=>by simp [LG] at h
 |[fd],o,c,ys,h,hl,hm,hq,Ql=>by
  simp only [Gt,mq,aa] at h;obtain ⟨c1,h1,h⟩:=h;split at h
  case isFalse=>simp at h
  rename_i ho;injection h with h;subst h
  obtain ⟨y,_,hy,_,e⟩:=tn hm;subst e;obtain ⟨x,dj,cp⟩:=hf h1 hy ⟨hq _ zc,fun b hb=>Ql b (by simp only [Dd,DataW.weightsEach];exact qf _ hb)⟩;refine ⟨x,dj,?_⟩;rw [ho.1,ho.2,Ue (by simp;omega)] at cp;exact cp
 |fd::fd'::fs,o,c,ys,h,hl,hm,hq,Ql=>by
  simp only [Gt,mq,aa] at h;obtain ⟨c1,h1,h⟩:=h;split at h
  case isFalse=>simp at h
  rename_i ho;simp only [ia] at h;obtain ⟨c2,h2,rfl⟩:=h;obtain ⟨y,ys',hy,x9,e⟩:=tn hm;subst e;obtain ⟨x,dj,cp⟩:=hf h1 hy ⟨hq _ zc,fun b hb=>Ql b (by simp only [Dd,DataW.weightsEach];exact qf _ hb)⟩;simp only [width] at hl;obtain ⟨x2,hx3,hx4⟩:=Dx hf (fd'::fs) (o+width c1) h2 (by omega) x9 (fun y hy=>hq y (Gb _ hy)) (fun b hb=>Ql b (by
   have:=List.mem_append_right (y.1.weights P fd.type) hb
   simpa only [Dd,DataW.weightsEach] using this))
  refine ⟨(x,x2),⟨dj,hx3⟩,?_⟩;rw [ho.1,ho.2] at cp;have e:cs.drop o=(cs.drop o).take (width c1)++cs.drop (o+width c1):=by
   rw [<- List.drop_drop];exact (List.take_append_drop _ _).symm
  rw [e];exact cp.pair hx4
theorem kn (hQ:Down S Q) (hZ:∀ R,R<w.heap.size->g.Z R) {base:Nat} {held:Bool}:∀ (d:Nat) {t:TypeId} {c:CT},Ij P d t=some c->∀ {fuel:Nat} {cs:List Value} {y:DataW H×List MemPlace},DataW.trod Im P w base (fun _=>true) held fuel t cs=some y->Wt P Q t y.1->
  ∃ x:Eb c,KC S c x/\Ph g w c x cs
 |0,_,_,h,_,_,_,_,_=>by simp [Ij] at h
 |d+1,t,c,h,0,cs,y,hy,_=>by simp [DataW.trod] at hy
 |d+1,t,c,h,fuel+1,cs,y,hy,Ql=>by
  simp only [Ij] at h;split at h
  · rename_i ht;injection h with h;subst h
    rcases cs with _|⟨v,_|⟨v2,rest⟩⟩
    · simp [DataW.trod,ht] at hy
    · cases v<;>simp [DataW.trod,ht] at hy
      rename_i b;exact ⟨b,trivial,Ph.one (.bool b) rfl (.bool b) rfl rfl (fun m=> .bool b) (.bool b)⟩
    · simp [DataW.trod,ht] at hy
  · rename_i k ht;injection h with h;subst h
    rcases cs with _|⟨v,_|⟨v2,rest⟩⟩
    · simp [DataW.trod,ht] at hy
    · cases v<;>simp [DataW.trod,ht] at hy
      rename_i k' n;obtain ⟨⟨rfl,hn⟩,_⟩:=hy;simp only [Lit.wf,Ia,decide_eq_true_eq] at hn;exact ⟨n,hn,Ph.one (.int k' n) rfl (.int k' n) rfl rfl (fun m=> .int k' n) (.int k' n)⟩
    · simp [DataW.trod,ht] at hy
  · rename_i ht;injection h with h;subst h
    rcases cs with _|⟨v,_|⟨v2,rest⟩⟩
    · simp [DataW.trod,ht] at hy
    · cases v<;>simp [DataW.trod,ht] at hy
      rename_i s;exact ⟨s,(by have hy2:=hy.2;subst hy2;have:=hQ.str _ Ql.1 (Ib (Ch Ge) hy.1);exact Ib (Ch Array.length_toList.symm) this),Ph.one (.str s) rfl (.str s) rfl rfl (fun m=> .str s) (.str s)⟩
    · simp [DataW.trod,ht] at hy
  · rename_i e ht;obtain ⟨c1,h1,h⟩:=aa.1 h;split at h
    case isFalse=>simp at h
    rename_i hw;injection h with h;subst h
    exact Qf hQ hZ ht hw.1 hw.2 (fun hy Ql=>kn hQ hZ d h1 hy Ql) hy Ql
  · rename_i fs ht;have h:(IB P d 0 fs.toList).bind (fun c=>if P.cellsOf t=width c then some c else none)=some c:=h;obtain ⟨c1,h1,h⟩:=aa.1 h;split at h
    case isFalse=>simp at h
    rename_i hw;injection h with h;subst h
    simp only [DataW.trod,ht] at hy;split at hy
    case isFalse=>simp at hy
    rename_i hl;simp only [ia] at hy;obtain ⟨ys,hm,hyy⟩:=hy;rw [<- hyy] at Ql;obtain ⟨hq,Ql⟩:=Ql;simp only [DataW.weights,ht] at Ql;have hq:=hQ.agg _ hq;have:=Dx (g:=g) (w:=w) (Q:=Q) (f:=fun t cs=>DataW.trod Im P w base (fun _=>true) held fuel t cs) (fun {_ _} h1 {_ _} hy Ql=>kn hQ hZ d h1 hy Ql) fs.toList 0 h1 (by rw [hl,hw];omega) hm (fun y hy=>hq _ (ye.2 ⟨y,hy,rfl⟩)) (by simpa using Ql)
    simpa using this
  · rename_i n e ht;obtain ⟨c1,h1,h⟩:=aa.1 h;split at h
    case isFalse=>simp at h
    rename_i hw;obtain ⟨c2,h2,h⟩:=aa.1 h;split at h
    case isFalse=>simp at h
    rename_i I0;injection h with h;subst h
    simp only [DataW.trod,ht] at hy;split at hy
    case isFalse=>simp at hy
    rename_i hl;simp only [ia] at hy;obtain ⟨ys,hm,hyy⟩:=hy;rw [<- hyy] at Ql;obtain ⟨hq,Ql⟩:=Ql;simp only [DataW.weights,ht] at Ql;have:=eP (g:=g) (w:=w) (e:=e) (wt:=Wt P Q e) (fun cs y hy Ql=>kn hQ hZ d h1 hy Ql) h2 0 ys (fun y hy=>gE (hQ.agg _ hq) Ql _ (ye.2 ⟨y,hy,rfl⟩)) (by rw [hl,I0];omega) (by simpa [hw] using hm)
    simpa using this
  · simp at h
end
def jw (w:World):V.Gx:={ D:=fun _=>False,ρ:=fun _=>⟨0,0,0,0⟩,Z:=fun R=>R<w.heap.size }
theorem rS {G:Nat->Option (List V.AV)} {w:World} (hg:∀ i row,G i=some row->V.Rn (jw w) w i row):V.Ub G (jw w) w ⟨[],0⟩:=
 ⟨hg,fun b h=>h.elim,fun b x h=>h.elim,fun b b' h=>h.1.elim,fun R h=>h⟩
def Stood (w w':World):Prop:=w.heap.size<=w'.heap.size/\(∀ R,R<w.heap.size->w'.heap[R]?=w.heap[R]?)/\(w'.os=w.os/\w'.output=w.output)
theorem Stood.kept {w w':World} (h:Stood w w') (may:MemPlace->Prop):w.keptBut w' may:=by
 refine ⟨h.2.2.1,h.2.2.2,fun i hi=> ?_⟩;rw [h.2.1 i hi];cases h:w.heap[i]? with
 |none=>rfl
 |some o=>cases o<;>simp
section
variable {A:V.oh}
theorem KY (DB:V.Ux A) (hE:V.CO A) (sZ:V.iq A) (hD:V.Km A) {k:Nat} {f:FuncId} {fn:Func} (hf:A.fns f=some fn) (hb:fn.body.isSome=true) {av:List V.AV} {vs:List Value} {W:World} {H':V.AH} {r:V.AV}
  (Sf:V.call A k (.fn f []) av ⟨[],0⟩=some (r,H')) (hW:V.Ub A.La (jw W) W ⟨[],0⟩) (hl:av.length=vs.length) (hv:∀ (i:Nat) (x:V.AV) (v:Value),av[i]?=some x->vs[i]?=some v->V.Ya (jw W) W x v):
  Calls A.P f vs.toArray W fun e W'=>∃ v,e= .returned v/\(∃ g',V.Ya g' W' r v)/\W.heap.size<=W'.heap.size/\(∀ R,R<W.heap.size->W'.heap[R]?=W.heap[R]?)/\(W'.os=W.os/\W'.output=W.output):=by
 have h:=V.Qn DB hE sZ hD k (.fn f []) av ⟨[],0⟩ r H' Sf (jw W) W (.func (.func f) #[] #[]) vs hW (.fn f [] [] rfl fun i x v h=>by simp at h) hl hv Fence.wide 0
  { dst:=some 0,op:= .move (.tmp 0),type:=0,pos:= "",after:= #[],guard:=none } ⟨#[undef],[]⟩
  (fun a W'=>∃ v,a.tmps= #[v]/\(∃ g',V.Ya g' W' r v)/\W.heap.size<=W'.heap.size/\(∀ R,R<W.heap.size->W'.heap[R]?=W.heap[R]?)/\(W'.os=W.os/\W'.output=W.output)) (fun _ _ _=>False)
  ⟨fun _=>trivial,rfl,rfl⟩ (fun g' w' rv h1 h2 h3=>⟨rv,rfl,⟨g',h1⟩,h3.size,fun R hR=>h3.qk R hR (fun ⟨b,hb,_⟩=>hb.1.elim),h3.io⟩)
 rw [V.Mv DB hf hb] at h;rw [Oper.uponIn_enter] at h;have h2:=callsIn_wide.1 h.2;simp only [Array.append_empty] at h2;refine Calls.mono h2 fun e W' he=> ?_
 cases e with
 |returned v=>
  obtain ⟨v',h1,h2⟩:=he;have:v'=v:=by simpa [Act.put] using h1.symm
  subst this;exact ⟨v',rfl,h2⟩
 |panicked c=>exact he.elim
 |outgrown=>exact he.elim fun _ h=>h.elim fun _ h=>h.elim
theorem sP (DB:V.Ux A) (hE:V.CO A) (sZ:V.iq A) (hD:V.Km A) {k:Nat} {f:FuncId} {fn:Func} (hf:A.fns f=some fn) (hb:fn.body.isSome=true) {sp:Spec} (hOK:Me (V.call A k) f sp) {args:List UV} {av:List V.AV} {vs:List Value} {W:World}
  (Wd:sp UV args ⟨[],0⟩ (fun r _=>some r)=some (.bool true)) (hR:∀ m,RL m args av) (hW:V.Ub A.La (jw W) W ⟨[],0⟩) (hl:av.length=vs.length) (hv:∀ (i:Nat) (x:V.AV) (v:Value),av[i]?=some x->vs[i]?=some v->V.Ya (jw W) W x v):
  Calls A.P f vs.toArray W fun e W'=>e= .returned (.bool true)/\Stood W W':=by
 obtain ⟨r,H',h1,_,h2⟩:=hOK UV args ⟨[],0⟩ _ _ Wd;injection h1 with h1;subst h1
 obtain ⟨r',Ic,h3,m',_,h4,_⟩:=h2 ⟨fun _ _=>none,fun _ _=>0,0⟩ ⟨[],0⟩ av [] ⟨fun b _ x h=>by simp at h,fun b y h=>by simp at h,fun b b' _ _ x h=>by obtain ⟨_,h,_⟩:=h;simp at h,fun b _ x h=>by simp at h,oa _,rfl⟩ (by simpa using hR _);cases h4;refine (KY DB hE sZ hD hf hb h3 hW hl hv).mono ?_
 rintro e W' ⟨v,rfl,⟨g',hv⟩,hs,hu,ov⟩
 cases hv;exact ⟨rfl,hs,hu,ov⟩
end
section
variable {P:Program}
def Told (P:Program) (t:TypeId):Prop:=∃ d c,Ij P d t=some c
theorem dP {n:Nat} {c c':CT} (h:dZ n c=some c'):width c'=n * width c:=by
 induction n generalizing c' with
 |zero=>simp [dZ] at h
 |succ n ih=>
  cases n with
  |zero=>simp [dZ] at h;subst h;simp
  |succ n=>
   simp only [dZ,ia] at h;obtain ⟨c2,h2,rfl⟩:=h;simp only [width,ih h2];rw [Gi (n+1)];omega
theorem Cx {d:Nat}:∀ (fs:List Field) (o:Nat) {c:CT},IB P d o fs=some c->
  (∀ f∈fs,Told P f.type)/\width c=(fs.map fun f=>P.cellsOf f.type).sum/\∀ (j:Nat) (f:Field),fs[j]?=some f->f.offset=o+((fs.take j).map fun f=>P.cellsOf f.type).sum
 |[],o,c,h=>by simp [LG] at h
 |[fd],o,c,h=>by
  simp only [Gt,mq,aa] at h;obtain ⟨c1,h1,h⟩:=h;split at h
  case isFalse=>simp at h
  rename_i ho;injection h with h;subst h
  refine ⟨fun f hf=>by simp at hf;subst hf;exact ⟨d,_,h1⟩,by simp [ho.2],fun j f hf=> ?_⟩;cases j with
  |zero=>simp at hf;subst hf;simp [ho.1]
  |succ j=>simp at hf
 |fd::fd'::fs,o,c,h=>by
  simp only [Gt,mq,aa] at h;obtain ⟨c1,h1,h⟩:=h;split at h
  case isFalse=>simp at h
  rename_i ho;simp only [ia] at h;obtain ⟨c2,h2,rfl⟩:=h;obtain ⟨k1,k2,k3⟩:=Cx (fd'::fs) _ h2;refine ⟨fun f hf=>by rcases oc.1 hf with rfl|hf;exact ⟨d,_,h1⟩;exact k1 f hf,?_,fun j f hf=> ?_⟩
  · simp only [width,k2,<- ho.2,Dd,List.sum_cons]
  · cases j with
    |zero=>simp at hf;subst hf;simp [ho.1]
    |succ j=>
     simp only [Ke] at hf;rw [k3 j f hf,<- ho.2];simp only [List.take_succ_cons,Dd,List.sum_cons];omega
theorem SO:Kids P (Told P) where
 pointer:=fun ⟨d,c,h⟩ ht=>by cases d<;>simp [Ij,ht] at h
 slice:=fun ⟨d,c,h⟩ ht=>by
  cases d with
  |zero=>simp [Ij] at h
  |succ d=>simp only [Ij,ht,aa] at h;obtain ⟨c1,h1,_⟩:=h;exact ⟨d,c1,h1⟩
 array:=fun ⟨d,c,h⟩ ht=>by
  cases d with
  |zero=>simp [Ij] at h
  |succ d=>
   simp only [Ij,ht,aa] at h;obtain ⟨c1,h1,h⟩:=h;split at h
   case isFalse=>simp at h
   rename_i hw;obtain ⟨c2,h2,h⟩:=aa.1 h;split at h
   case isFalse=>simp at h
   rename_i I0;exact ⟨⟨d,c1,h1⟩,by rw [I0,hw,dP h2]⟩
 struct:=fun ⟨d,c,h⟩ ht=>by
  cases d with
  |zero=>simp [Ij] at h
  |succ d=>
   simp only [Ij,ht,aa] at h;obtain ⟨c1,h1,h⟩:=h;split at h
   case isFalse=>simp at h
   rename_i hw;obtain ⟨k1,k2,k3⟩:=Cx (d:=d) _ 0 h1;exact ⟨k1,by rw [hw,k2],fun j f hf=>by rw [k3 j f hf];simp⟩
 map:=fun ⟨d,c,h⟩ ht=>by cases d<;>simp [Ij,ht] at h
theorem wJ {t e:TypeId} (h:Told P t) (ht:P.underlying t=some (.slice e)):0<P.cellsOf e:=by
 obtain ⟨d,c,h⟩:=h;cases d with
 |zero=>simp [Ij] at h
 |succ d=>
  simp only [Ij,ht,aa] at h;obtain ⟨c1,_,h⟩:=h;split at h
  case isFalse=>simp at h
  rename_i hw;rw [hw.1];exact Cv c1
variable {H:Type} {Im:TypeId×Value->H} {w w':World}
theorem Stood.sameAt (h:Stood w w') {p:MemPlace} (hp:p.block<w.heap.size):w.sameAt w' p:=by
 cases p with
 |cell b off=>
  have:=h.2.1 b hp;show w'.cell? _=w.cell? _;simp only [World.cell?,this]
 |map b=>exact h.2.1 b hp
theorem WD (h:Stood w w') {sp:Nat->Bool}:∀ {ts:List TypeId} {vs:List Value} {ds:List (DataW H)} {ps:List MemPlace},(∀ t∈ts,Told P t)->(∀ p∈ps,sp p.block=true)->DataW.TrodAll Im P w 0 (fun _=>true) true ts vs ds ps->DataW.TrodAll Im P w' 0 sp true ts vs ds ps
 |[],[],[],ps,_,_,hp=>hp
 |t::ts,v::vs,d::ds,ps,ht,hs,⟨p,q,⟨n,h1⟩,h2,e⟩=>by
  subst e;have nc:=DataW.trod_lt n t _ _ h1;exact ⟨p,q,⟨n,DataW.trod_stays SO wJ (fun h=>by cases h) (ht t (zc ..)) h1 (fun p hp=>h.sameAt (nc p hp)) (fun p hp=>hs p (qf _ hp))⟩,
   WD h (fun t' h'=>ht t' (Gb _ h')) (fun p hp=>hs p (List.mem_append_right _ hp)) h2,rfl⟩
 |[],[],_::_,_,_,_,h'=>h'.elim
 |[],_::_,_,_,_,_,h'=>by cases h'
 |_::_,[],_,_,_,_,h'=>by cases h'
 |_::_,_::_,[],_,_,_,h'=>by cases h'
def cq (P:Program) (t:TypeId):Bool:=match P.underlying t with|some (.struct _)|some (.array _ _)=>true|_=>false
def qB (agg:Bool) (c:CT) (x:Eb c):UV:=if agg then .agg (enc c x) else (enc c x).headD .Qb
theorem Xz {S:Nat} {Q:DataW H->Prop} (hQ:Down S Q) {d:Nat} {t:TypeId} {c:CT} (h:Ij P d t=some c) {r:Reach} {b:Nat} {v:Value} (ep:Value.okWide P w r b t v) {dd:DataW H} {p:List MemPlace} (ht:DataW.Trod Im P w 0 (fun _=>true) true t v dd p) (Ql:Wt P Q t dd):
   ∃ x:Eb c,KC S c x/\∃ a,(∀ m,RV m (qB (cq P t) c x) a)/\V.Ya (jw w) w a v:=by
 obtain ⟨fuel,hf⟩:=ht;obtain ⟨x,hx,hl,h1,as,h2,h3,h4⟩:=kn hQ (g:=jw w) (fun _ h=>h) d h hf Ql;refine ⟨x,hx,?_⟩;have qy:cq P t=false->(∀ cs,v≠ .agg cs)->width c=1->∃ a,(∀ m,RV m (qB (cq P t) c x) a)/\V.Ya (jw w) w a v:=fun hb hv hw=>by
   have Si:v.cells.toList=[v]:=by cases v<;>first|rfl|exact absurd rfl (hv _)
   rw [Si] at hl h3 h4;have fS:=Ah c x;rw [hw] at fS;obtain ⟨u,hu⟩:=List.length_eq_one_iff.1 fS;obtain ⟨a,ha⟩:=List.length_eq_one_iff.1 (h3.trans rfl);subst ha;refine ⟨a,fun m=> ?_,h4 0 a v rfl rfl⟩;have:=(h2 m).2 0 u a (by rw [hu];rfl) rfl
   simpa [qB,hb,hu] using this
 have Bad:(∃ cs,v= .agg cs)->cq P t=true->∃ a,(∀ m,RV m (qB (cq P t) c x) a)/\V.Ya (jw w) w a v:=fun ⟨cs,hv⟩ hb=>by
   subst hv;refine ⟨.agg as,fun m=> ?_,?_⟩
   · simp only [qB,hb,if_true];exact .agg _ _ (h2 m).1 (h2 m).2
   · have:=V.Ya.agg (g:=jw w) (w:=w) as cs.toList h3.symm h1 h4
     simpa using this
 cases d with
 |zero=>simp [Ij] at h
 |succ d=>
 simp only [Ij] at h;split at h
 · rename_i hu;injection h with h;subst h
   exact qy (by simp [cq,hu]) (fun cs e=>by subst e;simp [Value.okWide,hu,Cell.okWide,Cell.ok] at ep) rfl
 · rename_i k hu;injection h with h;subst h
   exact qy (by simp [cq,hu]) (fun cs e=>by subst e;simp [Value.okWide,hu,Cell.okWide,Cell.ok] at ep) rfl
 · rename_i hu;injection h with h;subst h
   exact qy (by simp [cq,hu]) (fun cs e=>by subst e;simp [Value.okWide,hu,Cell.okWide,Cell.ok] at ep) rfl
 · rename_i e hu;obtain ⟨c1,_,h⟩:=aa.1 h;split at h
   case isFalse=>simp at h
   injection h with h;subst h
   exact qy (by simp [cq,hu]) (fun cs e=>by subst e;simp [Value.okWide,hu,Cell.okWide,Cell.ok] at ep) rfl
 · rename_i fs hu;exact Bad (by simp only [Value.okWide,hu] at ep;obtain ⟨cs,e,_⟩:=ep;exact ⟨cs,e⟩) (by simp [cq,hu])
 · rename_i n e hu;exact Bad (by simp only [Value.okWide,hu] at ep;obtain ⟨cs,e,_⟩:=ep;exact ⟨cs,e⟩) (by simp [cq,hu])
 · simp at h
theorem WS {vs:List Value} {ds:List (DataW H)} {p:List MemPlace} (h:DataW.TrodAll Im P w 0 (fun _=>true) true [] vs ds p):vs=[]/\ds=[]:=by
 cases vs<;>cases ds<;>first|exact ⟨rfl,rfl⟩|exact h.elim
theorem Tv {t:TypeId} {ts:List TypeId} {vs:List Value} {ds:List (DataW H)} {p:List MemPlace} (h:DataW.TrodAll Im P w 0 (fun _=>true) true (t::ts) vs ds p):
  ∃ v vs' d ds' p0 p1,vs=v::vs'/\ds=d::ds'/\DataW.Trod Im P w 0 (fun _=>true) true t v d p0/\DataW.TrodAll Im P w 0 (fun _=>true) true ts vs' ds' p1:=by
 cases vs with
 |nil=>exact h.elim
 |cons v vs=>
  cases ds with
  |nil=>exact h.elim
  |cons d ds=>obtain ⟨p0,p1,h1,h2,_⟩:=h;exact ⟨v,vs,d,ds,p0,p1,rfl,rfl,h1,h2⟩
theorem Az {Q:DataW H->Prop} {t:TypeId} {ts:List TypeId} {d:DataW H} {ds:List (DataW H)} (h:∀ b∈DataW.weightsEach P (t::ts) (d::ds),b<=reachBytes) (hq:∀ x∈d::ds,Q x):Wt P Q t d/\(∀ b∈DataW.weightsEach P ts ds,b<=reachBytes)/\∀ x∈ds,Q x:=by
 simp only [DataW.weightsEach,Tn] at h;exact ⟨⟨hq _ zc,fun b hb=>h b (.inl hb)⟩,fun b hb=>h b (.inr hb),fun x hx=>hq x (Gb _ hx)⟩
theorem gP {f:Func} {s:ChangeSpec} {apart fresh handsOn again:Bool} {W W':World} {args:Array Value} {ds:List (DataW H)} {before:List MemPlace} (w5:s.vars=[]) (hW:DataW.Whole Im P f.params.toList s.vars apart W args.toList ds [] before)
   (hS:Stood W W') {tb:TypeId} (htb:P.underlying tb=some .bool) (N0:f.resultTypes= #[tb]) (Lm:s.fn H (ds++[])={ results:=[.lit (.bool true)],args:=ds }) (ht:∀ t∈f.params.toList,Told P t):
   s.post Im P f apart fresh handsOn again W args (.bool true) W':=by
 obtain ⟨p,q,hA,hV,rfl,hz,hn⟩:=id hW;have hq:q=[]:=by rw [w5] at hV;exact hV
 subst hq;have nc:∀ x∈p,x.block<W.heap.size:=hA.lt;have hr:∀ (b:Nat) (sp:Nat->Bool) (hd:Bool),DataW.TrodAll Im P W' b sp hd f.resultTypes.toList ((Value.bool true).resultList f.resultTypes.size) (s.fn H (ds++[])).results []:=fun b sp hd=>by
   rw [N0,Lm];exact ⟨[],[],RowKit.shut_bool htb true,rfl,rfl⟩
 have ha:∀ sp:Nat->Bool,(∀ x∈p,sp x.block=true)->DataW.TrodAll Im P W' 0 sp true f.params.toList args.toList (s.fn H (ds++[])).args p:=fun sp hs=>by rw [Lm];exact WD hS ht hs hA
 have hv:∀ sp:Nat->Bool,DataW.TrodVars Im P W' sp s.vars (s.fn H (ds++[])).vars []:=fun sp=>by rw [w5,Lm];rfl
 refine ⟨ds,[],p++[],[],p,[],hW,hr _ _ _,ha _ (fun x hx=>by simpa using nc x hx),hv _,hS.kept _,fun _=>⟨fun j t r h1 h2=> ?_,_,_,([]++p)++[],⟨[]++p,[],ChangeShapes.trodAll_append (ha _ (fun _ _=>rfl)) (hr _ _ _),hv _,rfl,?_,?_⟩,?_⟩⟩
 · rw [N0] at h1 h2;rcases j with _|j
   · simp at h1;subst h1;have:r= .bool true:=by simpa [Value.resultList] using h2.symm
     subst this;exact RowKit.okWide_bool_mk htb true
   · simp at h1
 · intro b off hp;have jJ:MemPlace.cell b off∈p:=by simpa using hp
   have hb:b<W.heap.size:=nc _ jJ;have:=hz b off (by simpa using hp);unfold World.frozen? at this ⊢;rw [hS.2.1 b hb];exact this
 · intro hap
   simpa using hn hap
 · intro x hx _
   simpa using hx
end
end Go.U
namespace Go.U
open Go
section
variable [TB:sB] {A:V.oh}
theorem Up {k:Nat} {f:FuncId} {g:List V.AV->V.AH->Option (V.AV×V.AH)} (he:A.ext f=some g) (cs as:List V.AV) (H:V.AH):V.call A (k+1) (.fn f cs) as H=g (as++cs) H:=by
 simp only [V.call,he]
theorem M1 {k:Nat} {f:FuncId} (he:A.ext f=some V.Q1) {sp:Spec} (jf:∀ X args H K out,sp X args H K=some out->∃ n b:Int,args=[.int .i64 n,.int .i64 b]/\H=⟨[],0⟩/\(-9223372036854775808<=n/\n<=9223372036854775807/\b=10)/\K (.str ⟨(Lib.itoa n).toArray⟩) ⟨[],0⟩=some out):
  Me (V.call A (k+1)) f sp:=by
 intro X args H K out h;obtain ⟨n,b,rfl,rfl,hc,h'⟩:=jf X args H K out h;refine ⟨_,_,h',rfl,fun m Hv as cs hh hl=> ?_⟩;obtain ⟨a1,l1,e1,q1,q2⟩:=hl.Oh;obtain ⟨a2,l2,e2,q3,q4⟩:=q2.Oh;have e3:l2=[]:=Da.1 q4.1;rw [Up he,e1,e2,e3];cases q1;cases q3;exact ⟨.str _,Hv,by simp only [V.Q1];rw [if_pos hc],.same hh (.str _)⟩
theorem Qw:∀ (l:List UInt8),V.Gz (l.map fun b=>[V.AV.int .u8 (b.toNat:Int)])=some l
 |[]=>rfl
 |b::l=>by
  have hb:=b.toNat_lt;simp only [Dd,V.Gz];rw [if_pos ⟨by omega,by omega⟩,Qw l]
  simp
theorem rq (s:ByteArray):s.data.toList.length=s.size:=Ge
theorem bk (s:ByteArray):(V.ic s).length=s.size:=by unfold V.ic;rw [Ec];exact rq s
theorem yS {k:Nat} {f:FuncId} (he:A.ext f=some (V.KB TB.bT TB.uT)) {sp:Spec} (jf:∀ X args H K out,sp X args H K=some out->∃ s:ByteArray,args=[.ptr 0 0]/\H=⟨[.Fl (.all 1),.ko s],0⟩/\K (.str s) ⟨[.Fl (.all 1),.dead],0⟩=some out):
  Me (V.call A (k+1)) f sp:=by
 intro X args H K out h;obtain ⟨s,rfl,rfl,h'⟩:=jf X args H K out h;refine ⟨_,_,h',rfl,fun m Hv as cs hh hl=> ?_⟩;obtain ⟨a1,l1,e1,q1,q2⟩:=hl.Oh;have e2:l1=[]:=Da.1 q2.1;rw [Up he,e1,e2];obtain ⟨x,p,q',h1,h2,h3,h4,h5⟩:=hh.Oc 0 _ rfl;obtain ⟨k1,k2⟩:=hh.Oc 1 _ rfl;cases q1 with
 |ptr _ _ x' jk=>
 rw [h1] at jk;injection jk with jk;subst jk
 have Ii:RH m ⟨[.Fl (.all 1),.dead],0⟩ Hv:=hh.kill 1;cases h4 with
 |Nf _ _ nc hz ha=>
  have hq:q'= .Wa:=ha.resolve_right h5;subst hq;have hs:s.size=0:=by rw [<- k1];exact hz
  have aS:s=⟨#[]⟩:=by
    have:s.data.toList=[]:=Da.1 (by rw [rq];exact hs);cases s;simp_all
  subst aS;exact ⟨_,Hv,by simp only [V.KB,h2,if_true],.same Ii (.str _)⟩
 |all _ y hy=>
  rcases k2 with ⟨_,k3⟩|⟨y',k3,k4,k5⟩
  · rw [hy] at k3;simp at k3
  · rw [hy] at k3;injection k3 with k3;subst k3
    have Of:=hh.wm 1 y hy (Nd _);have Ct:(V.ic s).length=s.size:=bk _;have Cd:=Ii.other (x:=y) (fun b s' hb e=>by
     match b,hb,e with
     |0,hb,e=>exact absurd (hh.inj 0 1 y ⟨_,rfl,rfl⟩ ⟨_,rfl,rfl⟩ e hy) (by simp)
     |1,hb,_=>obtain ⟨z,hz,vH⟩:=hb;simp at hz;subst hz;simp [Sd] at vH
     |b+2,hb,_=>obtain ⟨z,hz,_⟩:=hb;simp at hz) .dead
    refine ⟨.str s,V.Ma Hv y .dead,?_,m,Cd,.str _,.refl m,⟨.refl (oa _),fun x' jk oZ=>by rw [Ac,if_neg (fun e=>oZ 1 0 (by rw [<- e];exact hy))],fun b' s' x' zd=> .inl ⟨b',s',zd⟩,by simp [V.Ma],rfl⟩⟩;simp only [V.KB,h2,if_true,Qm];rw [k4];simp only;rw [if_pos ⟨trivial,oa _,Of,by rw [k1];exact k5,by rw [Ct,k1];exact oa _⟩,k1,Ue (by rw [Ct];exact oa _)];simp only [V.ic,Qw,Jc]
def VY (A:V.oh) (k:Nat) (f:FuncId) (ts:Array TypeId):Prop:=
 ∀ (H:V.AH) (x:Nat) (p q v:V.AV) (t:ByteArray) (H2:V.AH),H.bl[x]?=some (.cells [[p,q]] 2 (some (TB.bT,2)))->(p= .De\/p= .ptr x 0 0)->H.wm<=x->
  V.append A (V.Ma H x (.cells [[.ptr x 0 0,q]] 2 (some (TB.bT,2)))) ts q (.str t)=some (v,H2)->H2.bl[x]?=some (.cells [[.ptr x 0 0,q]] 2 (some (TB.bT,2)))->H2.wm=H.wm->v.DM=true->
  V.call A k (.fn f []) [.ptr x 0 0,.str t] H=some (.Rc [.int .i64 t.size,.Cg],V.Ma H2 x (.cells [[.ptr x 0 0,v]] 2 (some (TB.bT,2))))
structure B4 (A:V.oh) (ts:Array TypeId):Prop where
 ty:∃ t u,ts= #[t,u]/\V.elem? A t=some TB.uT/\A.P.underlying u=some .string/\V.zero A TB.uT=some [.int .u8 0]/\V.bytes A TB.uT=some 1/\V.size A TB.uT=some 1
theorem tG (s t:ByteArray):V.ic (s++t)=V.ic s++V.ic t:=by
 simp [V.ic,iv]
theorem uG (s:ByteArray):(V.ic s).all (fun r=>r.length==1)=true:=Yb.2 fun r hr=>by
 unfold V.ic at hr;obtain ⟨b,_,rfl⟩:=ye.1 hr;rfl
def J4 [TB:sB] (H:V.AH) (q:V.AV) (xs:List (List V.AV)) (t:ByteArray):Option (V.AV×V.AH):=
 match q with
 | .Wa| .Kd=>some (.sl H.bl.length 0 t.size,V.push H (.cells (V.ic t) 1 (some (TB.uT,1))))
 | .sl b r _=>if H.wm<=b/\V.Aj H b=some 1 then some (.sl H.bl.length 0 (xs.length+t.size),V.push (V.Ma H b .dead) (.cells (xs++V.ic t) 1 (V.Wx (V.kE H b) TB.uT r))) else none
 |_=>none
theorem Bv {ts:Array TypeId} (zn:B4 A ts) {H:V.AH} {q:V.AV} {t:ByteArray} {xs:List (List V.AV)} (Fq:V.rowsOf H q=some xs) (hn:xs.length+t.size<=70368744177664):
  V.append A H ts q (.str t)=if t.size=0 then some (q,H) else J4 H q xs t:=by
 obtain ⟨t0,u,rfl,h1,h2,h3,h4,h5⟩:=zn.ty;have hl:(V.ic t).length=t.size:=bk _;have g0:(#[t0,u]:Array TypeId)[0]?=some t0:=rfl;have g1:(#[t0,u]:Array TypeId)[1]?=some u:=rfl;simp only [V.append,g0,g1,h1,h2,h3,h4,Fq,da,hl,Ar];rw [if_pos ⟨by omega,by omega,by omega,h5,uG t⟩];rfl
theorem go2 {n:Nat} {m m':Mp} {Hv H':V.AH} (e:m.top=n) (h:Ej m.top m Hv m' H'):Ej n m Hv m' H':=e ▸ h
theorem HZ {ts:Array TypeId} (zn:B4 A ts) {m:Mp} {Hv H1:V.AH} {x:Nat} {q':V.AV} {s t:ByteArray} {C:Prop} (hn:s.size+t.size<=70368744177664)
   (h1:m.ι 0 0=some x) (h4:RV m (.all 1) q') (h5:q'≠ .Kd) (k1:m.len 1 0=s.size) (EG:x<Hv.bl.length) (jy:m.top=2)
   (ZC:RH m ⟨[.Fl (.all 1),.ko s],0⟩ H1) (XT:Ej 2 m Hv m H1)
   (Om:H1.bl[x]?=some (.cells [[.ptr x 0 0,q']] 2 (some (TB.bT,2)))) (kJ:H1.bl.length=Hv.bl.length) (cK:H1.wm=Hv.wm)
   (fin:∀ (v:V.AV) (H2:V.AH) (m2:Mp),V.append A H1 ts q' (.str t)=some (v,H2)->RH m2 ⟨[.Fl (.all 1),.dead,.ko (s++t)],0⟩ H2->RV m2 (.all 2) v->v≠ .Kd->v.DM=true->m2.ι 0 0=some x->H2.bl[x]?=some (.cells [[.ptr x 0 0,q']] 2 (some (TB.bT,2)))->H2.wm=Hv.wm->
     m.Le m2->Ej 2 m Hv m2 H2->C):C:=by
 have Wb:(s++t).size=s.size+t.size:=by simp
 obtain ⟨_,k2⟩:=ZC.Oc 1 _ rfl;have Ii:RH m ⟨[.Fl (.all 1),.dead],0⟩ H1:=ZC.kill 1;have WT:Ej 2 m Hv m H1:=XT;have Yac:∀ {b:Nat},live ⟨[.Fl (.all 1),.dead],0⟩ b->b=0:=fun {b} hb=>by
   obtain ⟨z,hz,vH⟩:=hb
   match b,hz with
   |0,_=>rfl
   |1,hz=>simp at hz;subst hz;simp [Sd] at vH
   |b+2,hz=>simp at hz
 have Z9:∀ (xo:Option Nat) (n:Nat),(m.add 2 xo n).ι 0 0=some x:=fun xo n=>by rw [vf _ _ _ (by omega)];exact h1
 by_cases ht0:t.size=0
 ·
   have ny:s++t=s:=by
     have:t.data.toList=[]:=Da.1 (by rw [rq];exact ht0);cases s;cases t;simp_all [ByteArray.ext_iff,iv]
   have Kc:∃ xs,V.rowsOf H1 q'=some xs/\xs.length=s.size:=by
     cases h4 with
     |Nf _ _ nc hz ha=>have hq:q'= .Wa:=ha.resolve_right h5;subst hq;exact ⟨[],rfl,by rw [<- k1];exact hz.symm⟩
     |all _ y hy=>
       have uP:=k2;rcases uP with ⟨_,k3⟩|⟨y',k3,k4,k5⟩
       · rw [hy] at k3;simp at k3
       · rw [hy] at k3;injection k3 with k3;subst k3
         have Ct:(V.ic s).length=s.size:=bk _;refine ⟨V.ic s,?_,Ct⟩;unfold V.rowsOf;simp only;rw [k4];simp only;rw [if_pos (by rw [k1,Ct];omega),k1,List.drop_zero,Ue (by rw [Ct];exact oa _)]
   obtain ⟨xs,Fq,Lak⟩:=Kc;have ha:=Bv zn (t:=t) Fq (by omega);rw [if_pos ht0] at ha;have hp:=Ii.push (Ic:=H1) (y:= .ko (s++t)) (x:=m.ι 1 0) (n:=s.size) (fun _ _ _ _ _=>rfl) (oa _) rfl (fun xv e=>⟨(ZC.Ae 1 xv e).2,ZC.wm 1 xv e (Nd _),fun b s' hb e'=>by
       have:=Yac hb;subst this;exact absurd (ZC.inj 0 1 xv ⟨_,rfl,rfl⟩ ⟨_,rfl,rfl⟩ e' e) (by simp)⟩) (by
     have uP:=k2;refine ⟨by rw [ny];exact xd _ _ _ _,?_⟩;rw [ny];rcases uP with ⟨k3,k4⟩|⟨y',k3,k4,k5⟩
     · exact .inl ⟨k3,by rw [Vd];exact k4⟩
     · exact .inr ⟨y',by rw [Vd];exact k3,k4,k5⟩)
   refine fin q' H1 (m.add 2 (m.ι 1 0) s.size) ha hp.1 ?_ h5 (by cases h4 with|Nf _ _ _ _ ha=>(rcases ha with rfl|rfl<;>rfl)|all _ _ _=>rfl) (Z9 _ _) Om cK hp.2 (WT.trans ⟨by have:=tg Ii (m.ι 1 0) s.size;rw [jy] at this;exact this,fun _ _ _=>rfl,fun b _ xv hb=> ?_,oa _,rfl⟩ (oa _))
   · cases h4 with
     |Nf _ _ nc hz ha=>exact .Nf _ _ (by simp [Mp.add,Mp.Fi]) (by rw [xd,<- k1];exact hz) ha
     |all _ y hy=>
       have:=RV.all (m:=m.add 2 (m.ι 1 0) s.size) 2 y (by rw [Vd];exact hy);rw [xd] at this;rw [k1];exact this
   · by_cases e:b=2
     · subst e;obtain ⟨_,e⟩:=zi hb;exact .inl ⟨1,_,e⟩
     · rw [vf _ _ _ e] at hb;exact .inl ⟨b,_,hb⟩
 · cases h4 with
   |Nf _ _ nc hz ha=>
     have hq:q'= .Wa:=ha.resolve_right h5;subst hq;have lZ:s.size=0:=by rw [<- k1];exact hz
     have bg:s++t=t:=by
       have:s.data.toList=[]:=Da.1 (by rw [rq];exact lZ);cases s;cases t;simp_all [ByteArray.ext_iff,iv]
     have cU:=Bv zn (H:=H1) (q:= .Wa) (t:=t) (xs:=[]) rfl (by simp;omega);rw [if_neg ht0] at cU;have oe:=Ii.new (y:= .ko (s++t)) (yv:= .cells (V.ic t) 1 (some (TB.uT,1))) (n:=t.size) ⟨by rw [bg];exact xd _ _ _ _,.inr ⟨_,Vd _ _ _ _,by rw [bg,Be,if_neg (by omega),if_pos rfl],by rw [bg];omega,by rw [bg];omega⟩⟩;refine fin _ _ _ cU oe.1 ?_ (by simp) rfl (Z9 _ _) (by rw [Be,if_pos (by rw [kJ];exact EG)];exact Om) cK oe.2.1 (WT.trans oe.2.2 (by rw [jy];exact oa _));have:=RV.all (m:=m.add 2 (some H1.bl.length) t.size) 2 H1.bl.length (Vd _ _ _ _);rw [xd] at this;exact this
   |all _ y hy=>
     have uP:=k2;rcases uP with ⟨_,k3⟩|⟨y',k3,k4,k5⟩
     · rw [hy] at k3;simp at k3
     · rw [hy] at k3;injection k3 with k3;subst k3
       have Ct:(V.ic s).length=s.size:=bk _;have Fq:V.rowsOf H1 (.sl y 0 (m.len 1 0))=some (V.ic s):=by
         unfold V.rowsOf;simp only;rw [k4];simp only;rw [if_pos (by rw [k1,Ct];omega),k1,List.drop_zero,Ue (by rw [Ct];exact oa _)]
       have cU:=Bv zn (t:=t) Fq (by rw [Ct];exact hn);rw [if_neg ht0] at cU;simp only [J4] at cU;have hwy:=ZC.wm 1 y hy (Nd _);have hxy:y≠x:=fun e=>by subst e;exact absurd (ZC.inj 0 1 y ⟨_,rfl,rfl⟩ ⟨_,rfl,rfl⟩ h1 hy) (by simp)
       rw [if_pos ⟨hwy,by simp [V.Aj,k4]⟩,Ct] at cU;have UE:V.Wx (V.kE H1 y) TB.uT 0=some (TB.uT,1):=by simp [V.kE,k4,V.Wx]
       rw [UE,<- tG] at cU;have Cd:=Ii.other (x:=y) (fun b s' hb e=>by
         have:=Yac hb;subst this;exact absurd (ZC.inj 0 1 y ⟨_,rfl,rfl⟩ ⟨_,rfl,rfl⟩ e hy) (by simp)) .dead
       have CP:(V.Ma H1 y .dead).bl.length=H1.bl.length:=by simp [V.Ma]
       have oe:=Cd.new (y:= .ko (s++t)) (yv:= .cells (V.ic (s++t)) 1 (some (TB.uT,1))) (n:=s.size+t.size) ⟨by rw [Wb];exact xd _ _ _ _,.inr ⟨_,Vd _ _ _ _,by rw [Be,if_neg (by omega),if_pos rfl],by rw [Wb];omega,by rw [Wb];omega⟩⟩;rw [CP] at oe;have g2:Ej 2 m H1 m (V.Ma H1 y .dead):=⟨by rw [<- jy];exact .refl (oa _),fun x' jk oZ=>by rw [Ac,if_neg (fun e=>oZ 1 0 (by rw [<- e];exact hy))],fun b' s' x' zd=> .inl ⟨b',s',zd⟩,by simp [V.Ma],rfl⟩;refine fin _ _ _ cU oe.1 ?_ (by simp) rfl (Z9 _ _) (by rw [Be,if_pos (by rw [CP,kJ];exact EG),Ac,if_neg hxy];exact Om) cK oe.2.1 ((WT.trans g2 (oa _)).trans oe.2.2 (by rw [jy];exact oa _));have:=RV.all (m:=m.add 2 (some H1.bl.length) (s.size+t.size)) 2 H1.bl.length (Vd _ _ _ _);rw [xd] at this;exact this
theorem GZ {k:Nat} {f:FuncId} {ts:Array TypeId} (zn:B4 A ts) (Sf:VY A (k+1) f ts) {sp:Spec} (jf:∀ X args H K out,sp X args H K=some out->∃ s t:ByteArray,args=[.ptr 0 0,.str t]/\H=⟨[.Fl (.all 1),.ko s],0⟩/\s.size+t.size<=70368744177664/\
    K (.Rc [.int .i64 t.size,.Cg]) ⟨[.Fl (.all 2),.dead,.ko (s++t)],0⟩=some out) (hf:∀ cs as H,V.call A (k+1) (.fn f cs) as H=V.call A (k+1) (.fn f []) (as++cs) H):Me (V.call A (k+1)) f sp:=by
 intro X args H K out h;obtain ⟨s,t,rfl,rfl,hn,h'⟩:=jf X args H K out h;refine ⟨_,_,h',rfl,fun m Hv as cs hh hl=> ?_⟩;obtain ⟨a1,l1,e1,q1,q2⟩:=hl.Oh;obtain ⟨a2,l2,e2,q3,q4⟩:=q2.Oh;have e3:l2=[]:=Da.1 q4.1;rw [hf,e1,e2,e3];obtain ⟨x,p,q',h1,h2,h3,h4,h5⟩:=hh.Oc 0 _ rfl;obtain ⟨k1,k2⟩:=hh.Oc 1 _ rfl;cases q1 with
 |ptr _ _ x' jk=>
 cases q3;rw [h1] at jk;injection jk with jk;subst jk
 have EG:=(hh.Ae 0 x h1).2;have G0:=hh.wm 0 x h1 (Nd _);have mK:live ⟨[.Fl (.all 1),.ko s],0⟩ 0:=⟨_,rfl,rfl⟩;have jy:m.top=2:=hh.len;have Wb:(s++t).size=s.size+t.size:=by simp
 have Jac:=hh.set (y:= .Fl (.all 1)) (yv:= .cells [[.ptr x 0 0,q']] 2 (some (TB.bT,2))) mK h1 ⟨x,.ptr x 0 0,q',h1,by rw [Ac,if_pos rfl,if_pos EG],.inr rfl,h4,h5⟩;obtain ⟨ZC,XT⟩:=Jac;have ZC:RH m ⟨[.Fl (.all 1),.ko s],0⟩ (V.Ma Hv x (.cells [[.ptr x 0 0,q']] 2 (some (TB.bT,2)))):=ZC;have Om:(V.Ma Hv x (.cells [[.ptr x 0 0,q']] 2 (some (TB.bT,2)))).bl[x]?=some (.cells [[.ptr x 0 0,q']] 2 (some (TB.bT,2))):=by rw [Ac,if_pos rfl,if_pos EG]
 refine HZ zn hn h1 h4 h5 k1 EG jy ZC (go2 jy XT) Om (by simp [V.Ma]) rfl ?_;have fin:∀ (v:V.AV) (H2:V.AH) (m2:Mp),V.append A (V.Ma Hv x (.cells [[.ptr x 0 0,q']] 2 (some (TB.bT,2)))) ts q' (.str t)=some (v,H2)->RH m2 ⟨[.Fl (.all 1),.dead,.ko (s++t)],0⟩ H2->RV m2 (.all 2) v->v≠ .Kd->v.DM=true->m2.ι 0 0=some x->H2.bl[x]?=some (.cells [[.ptr x 0 0,q']] 2 (some (TB.bT,2)))->H2.wm=Hv.wm->
    m.Le m2->Ej 2 m Hv m2 H2->∃ r' Ic,V.call A (k+1) (.fn f []) [.ptr x 0 0,.str t] Hv=some (r',Ic)/\Co m Hv (.Rc [.int .i64 t.size,.Cg]) ⟨[.Fl (.all 2),.dead,.ko (s++t)],0⟩ r' Ic:=fun v H2 m2 ha hr hv Nc qy eo hbx TE hle Bo=>by
  have cp:=(hr.Ae 0 x eo).2;obtain ⟨r1,r2⟩:=hr.set (b:=0) (y:= .Fl (.all 2)) (yv:= .cells [[.ptr x 0 0,v]] 2 (some (TB.bT,2))) ⟨_,rfl,rfl⟩ eo ⟨x,.ptr x 0 0,v,eo,by rw [Ac,if_pos rfl,if_pos cp],.inr rfl,hv,Nc⟩;refine ⟨_,_,Sf Hv x p q' v t H2 h2 h3 G0 ha hbx TE qy,m2,r1,.Rc _ _ rfl (fun i y b hy hb=> ?_),hle,?_⟩
  · match i,hy,hb with
    |0,hy,hb=>simp at hy hb;subst hy;subst hb;exact .int _ _
    |1,hy,hb=>simp at hy hb;subst hy;subst hb;exact .Cg
    |i+2,hy,_=>simp at hy
  · rw [jy];exact Bo.trans r2 (by have:=hr.len;simp at this;omega)
 exact fin
end
end Go.U
