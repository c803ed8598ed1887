/- A second evaluator, over rows of Lean values, and that it is right over the first. -/
import Derived.Test.YtjenflkegbmkkaaGreatDoorB3
import Derived.Test.YtjenflkegbmkkaaGreatDoorA4
import Derived.Test.YtjenflkegbmkkaaGreatDoorA5
import Derived.ChangeShapes
import Derived.ChangeReads
import Derived.ChangeOld
import Derived.ChangeStays
import Derived.ChangeSame
import Derived.RowKit3
import Derived.Lib.LaidTab
set_option linter.unusedVariables false
set_option linter.unusedSimpArgs false
set_option linter.unusedSectionVars false
namespace Go.U
open Go
variable [TB:Tbl]
def csz:CT->Nat
 | .bool=>1
 | .int _=>8
 | .str=>16
 | .slice _=>24
 | .pair a b=>csz a+csz b
def okC (S:Nat):(c:CT)->CellT c->Prop
 | .bool=>fun _=>True
 | .int k=>fun (n:Int)=>k.min<=n/\n<=k.max
 | .str=>fun (s:ByteArray)=>s.size<=S
 | .slice c=>fun (l:List (CellT c))=>(l.length<=S/\l.length * csz c<=reachBytes)/\∀ x∈l,okC S c x
 | .pair a b=>fun (x:CellT a×CellT b)=>okC S a x.1/\okC S b x.2
def rep:Nat->CT->Option CT
 |0,_=>none
 |1,c=>some c
 |n+2,c=>(rep (n+1) c).map (CT.pair c)
def tyRow (P:Program):Nat->List (Field×Option CT)->Option CT
 |_,[]=>none
 |o,[f]=>f.2.bind fun c=>if f.1.offset=o/\P.cellsOf f.1.type=width c then some c else none
 |o,f::f'::fs=>f.2.bind fun c=>if f.1.offset=o/\P.cellsOf f.1.type=width c then (tyRow P (o+width c) (f'::fs)).map (CT.pair c) else none
def tyck (P:Program):Nat->TypeId->Option CT
 |0,_=>none
 |d+1,t=>
  match P.underlying t with
  |some .bool=>some .bool
  |some (.int k)=>some (.int k)
  |some .string=>some .str
  |some (.slice e)=>(tyck P d e).bind fun c=>if P.cellsOf e=width c/\csz c<=P.bytesOf e then some (.slice c) else none
  |some (.struct fs)=>(tyRow P 0 (fs.toList.map fun f=>(f,tyck P d f.type))).bind fun c=>if P.cellsOf t=width c then some c else none
  |some (.array n e)=>(tyck P d e).bind fun c=>if P.cellsOf e=width c then (rep n c).bind fun c'=>if P.cellsOf t=width c' then some c' else none else none
  |_=>none
def tyFs (P:Program) (d o:Nat) (fs:List Field):Option CT:=tyRow P o (fs.map fun f=>(f,tyck P d f.type))
theorem tyFs_nil {P:Program} {d o:Nat}:tyFs P d o []=none:=by simp only [tyFs,List.map_nil,List.map_cons,tyRow]
theorem tyFs_one {P:Program} {d o:Nat} {f:Field}:tyFs P d o [f]=(tyck P d f.type).bind fun c=>if f.offset=o/\P.cellsOf f.type=width c then some c else none:=by simp only [tyFs,List.map_nil,List.map_cons,tyRow]
theorem tyFs_cons {P:Program} {d o:Nat} {f f':Field} {fs:List Field}:tyFs P d o (f::f'::fs)=(tyck P d f.type).bind fun c=>if f.offset=o/\P.cellsOf f.type=width c then (tyFs P d (o+width c) (f'::fs)).map (CT.pair c) else none:=by simp only [tyFs,List.map_nil,List.map_cons,tyRow]
theorem width_pos:∀ c,0<width c
 | .bool| .int _| .str| .slice _=>Nat.one_pos
 | .pair a b=>by have:=width_pos a;simp only [width];omega
theorem mapM_cons' {α β:Type} {f:α->Option β} {a:α} {l:List α} {r:List β} (h:(a::l).mapM f=some r):∃ b r',f a=some b/\l.mapM f=some r'/\r=b::r':=by
 simp only [List.mapM_cons,Option.bind_eq_bind,Option.bind_eq_some_iff,Option.pure_def,Option.some.injEq] at h;obtain ⟨b,hb,r',hr,rfl⟩:=h;exact ⟨b,r',hb,hr,rfl⟩
theorem mapM_get {α β:Type} {f:α->Option β}:∀ {l:List α} {r:List β},l.mapM f=some r->r.length=l.length/\∀ (i:Nat) (a:α),l[i]?=some a->∃ b,r[i]?=some b/\f a=some b
 |[],r,h=>by simp at h;subst h;exact ⟨rfl,fun i a ha=>by simp at ha⟩
 |x::l,r,h=>by
  obtain ⟨b,r',hb,hr,rfl⟩:=mapM_cons' h;obtain ⟨h1,h2⟩:=mapM_get hr;refine ⟨by simp [h1],fun i a ha=> ?_⟩;cases i with
  |zero=>simp at ha;subst ha;exact ⟨b,rfl,hb⟩
  |succ i=>simp at ha;simpa using h2 i a ha
def Cells (g:V.Gx) (w:World) (c:CT) (x:CellT c) (cs:List Value):Prop:=
 cs.length=width c/\(∀ v∈cs,v.oneCell'=true)/\∃ as:List V.AV,(∀ m,RL m (enc c x) as)/\as.length=cs.length/\∀ (i:Nat) (a:V.AV) (v:Value),as[i]?=some a->cs[i]?=some v->V.VRel g w a v
theorem Cells.pair {g:V.Gx} {w:World} {a b:CT} {x:CellT a} {y:CellT b} {cs ds:List Value} (h:Cells g w a x cs) (h':Cells g w b y ds):Cells g w (.pair a b) (x,y) (cs++ds):=by
 obtain ⟨h1,h2,as,h3,h4,h5⟩:=h;obtain ⟨k1,k2,bs,k3,k4,k5⟩:=h';refine ⟨by simp [width,h1,k1],fun v hv=>(List.mem_append.1 hv).elim (h2 v) (k2 v),as++bs,fun m=>(h3 m).append (k3 m),by simp [h4,k4],fun i p v hp hv=> ?_⟩;rcases Nat.lt_or_ge i as.length with hi|hi
 · rw [List.getElem?_append_left hi] at hp;rw [List.getElem?_append_left (by omega)] at hv;exact h5 i p v hp hv
 · rw [List.getElem?_append_right hi] at hp;rw [List.getElem?_append_right (by omega),<- h4] at hv;exact k5 _ p v hp hv
theorem Cells.one {g:V.Gx} {w:World} {c:CT} {x:CellT c} {v:Value} (a:V.AV) (hw:width c=1) (u:UV) (he:enc c x=[u]) (hv:v.oneCell'=true) (hu:∀ m,RV m u a) (ha:V.VRel g w a v):Cells g w c x [v]:=
 ⟨by simp [hw],fun v' h=>by simp at h;subst h;exact hv,[a],fun m=>by rw [he];exact RL.cons (hu m) RL.nil,rfl,fun i p q hp hq=>by
  cases i with
  |zero=>simp at hp hq;subst hp;subst hq;exact ha
  |succ i=>simp at hp⟩
theorem World.cells?_get {w:World} {base:Nat} {a:Addr} {n:Nat} {cs:List Value} (h:w.cells? base a n=some cs):cs.length=n/\∀ i,i<n->∃ v,cs[i]?=some v/\w.cell? (a.add i)=some v:=by
 unfold World.cells? at h;split at h
 · obtain ⟨h1,h2⟩:=mapM_get h;refine ⟨by simpa using h1,fun i hi=> ?_⟩;obtain ⟨b,hb,hc⟩:=h2 i i (by simp [hi]);exact ⟨b,hb,hc⟩
 · simp at h
theorem cell_block {w:World} {a:Addr} {v:Value} (h:w.cell? a=some v):a.spot=none/\a.block<w.heap.size:=by
 unfold World.cell? at h;split at h
 · rename_i c T fz hb;split at h
   · simp at h
   · rename_i hs;refine ⟨by simpa using hs,?_⟩;rcases Nat.lt_or_ge a.block w.heap.size with hlt|hge
     · exact hlt
     · simp [Array.getElem?_eq_none hge] at hb
 · simp at h
theorem add_spot {a:Addr} (ha:a.spot=none) (n:Nat):a.add n=⟨a.block,a.off+n,none⟩:=by
 unfold Addr.add;split
 · rename_i h;subst h;cases a;simp_all
 · cases a;simp_all
section
variable {H:Type} {enc':TypeId×Value->H} {P:Program} {w:World} {g:V.Gx} {S:Nat} {Q:DataW H->Prop}
structure Down (S:Nat) (Q:DataW H->Prop):Prop where
 str:∀ b:List UInt8,Q (.lit (.string b))->b.length<=maxLen->b.length<=S
 slice:∀ es sp,Q (.slice es sp)->(es.length<=maxLen->es.length<=S)/\∀ d∈es,Q d
 agg:∀ ps,Q (.agg ps)->∀ d∈ps,Q d
theorem rep_cells {n:Nat} {c c':CT} {e:TypeId} {cs:List Value} {f:List Value->Option (DataW H×List MemPlace)}
  {wt:DataW H->Prop} (hf:∀ cs y,f cs=some y->wt y.1->∃ x:CellT c,okC S c x/\Cells g w c x cs) (hrep:rep n c=some c'):∀ (k:Nat) (ys:List (DataW H×List MemPlace)),(∀ y∈ys,wt y.1)->cs.length=k * width c+width c'->
  ((List.range n).mapM fun i=>f ((cs.drop ((k+i) * width c)).take (width c)))=some ys->∃ x:CellT c',okC S c' x/\Cells g w c' x (cs.drop (k * width c)):=by
 induction n generalizing c' with
 |zero=>simp [rep] at hrep
 |succ n ih=>
  intro k ys hwt hl h;rw [List.range_succ_eq_map] at h;obtain ⟨y,ys',h1,h2,rfl⟩:=mapM_cons' h;obtain ⟨x,hx1,hx2⟩:=hf _ _ h1 (hwt y List.mem_cons_self);cases n with
  |zero=>
   simp only [rep,Option.some.injEq] at hrep;subst hrep;refine ⟨x,hx1,?_⟩;have:(cs.drop ((k+0) * width c)).take (width c)=cs.drop (k * width c):=by
    rw [Nat.add_zero];exact List.take_of_length_le (by simp;omega)
   rw [this] at hx2;exact hx2
  |succ n=>
   simp only [rep,Option.map_eq_some_iff] at hrep;obtain ⟨c2,hc2,rfl⟩:=hrep;have hl':cs.length=(k+1) * width c+width c2:=by rw [hl,Nat.succ_mul];simp only [width];omega
   obtain ⟨y2,hy1,hy2⟩:=ih hc2 (k+1) ys' (fun y hy=>hwt y (List.mem_cons_of_mem _ hy)) hl' (by
    rw [List.mapM_map] at h2;rw [<- h2];congr 1;funext i;rw [show k+1+i=k+i.succ by omega];rfl)
   refine ⟨(x,y2),⟨hx1,hy1⟩,?_⟩;have e:cs.drop (k * width c)=(cs.drop ((k+0) * width c)).take (width c)++cs.drop ((k+1) * width c):=by
    rw [Nat.add_zero,Nat.succ_mul,<- List.drop_drop];exact (List.take_append_drop _ _).symm
   rw [e];exact hx2.pair hy2
theorem pick_list {α:Type} {Q:Nat->α->Prop}:∀ {n:Nat},(∀ i,i<n->∃ x,Q i x)->∃ l:List α,l.length=n/\∀ (i:Nat) (x:α),l[i]?=some x->Q i x
 |0,_=>⟨[],rfl,fun i x h=>by simp at h⟩
 |n+1,h=>by
  obtain ⟨l,h1,h2⟩:=pick_list (Q:=Q) (n:=n) fun i hi=>h i (by omega)
  obtain ⟨x,hx⟩:=h n (by omega);refine ⟨l++[x],by simp [h1],fun i y hy=> ?_⟩;rcases Nat.lt_or_ge i l.length with hi|hi
  · rw [List.getElem?_append_left hi] at hy;exact h2 i y hy
  · rw [List.getElem?_append_right hi] at hy;have:i-l.length=0:=by
     rcases Nat.eq_zero_or_pos (i-l.length) with e|e
     · exact e
     · rw [List.getElem?_eq_none (by simp;omega)] at hy;simp at hy
    rw [this] at hy;simp at hy;subst hy;have:i=n:=by omega
    subst this;exact hx
def Wt (P:Program) (Q:DataW H->Prop) (t:TypeId) (d:DataW H):Prop:=Q d/\∀ b∈d.weights P t,b<=reachBytes
theorem wts_all {e:TypeId}:∀ {l:List (DataW H)},(∀ d∈l,Q d)->(∀ b∈DataW.weightsAll P e l,b<=reachBytes)->∀ d∈l,Wt P Q e d
 |[],_,_,d,hd=>by cases hd
 |x::l,hq,h,d,hd=>by
  simp only [DataW.weightsAll,List.mem_append] at h;rcases List.mem_cons.1 hd with rfl|hd
  · exact ⟨hq _ List.mem_cons_self,fun b hb=>h b (.inl hb)⟩
  · exact wts_all (fun d hd=>hq d (List.mem_cons_of_mem _ hd)) (fun b hb=>h b (.inr hb)) d hd
theorem slice_cells (hQ:Down S Q) (hZ:∀ R,R<w.heap.size->g.Z R) {base:Nat} {held:Bool} {c:CT} {e:TypeId} {t:TypeId} (ht:P.underlying t=some (.slice e)) (hw:P.cellsOf e=width c) (hsz:csz c<=P.bytesOf e) {fuel:Nat}
   (ih:∀ {cs:List Value} {y:DataW H×List MemPlace},DataW.trod enc' P w base (fun _=>true) held fuel e cs=some y->Wt P Q e y.1->∃ x:CellT c,okC S c x/\Cells g w c x cs) {cs:List Value} {y:DataW H×List MemPlace}
   (hy:DataW.trod enc' P w base (fun _=>true) held (fuel+1) t cs=some y) (hwt:Wt P Q t y.1):∃ x:List (CellT c),okC S (.slice c) x/\Cells g w (.slice c) x cs:=by
 have hpos:=width_pos c;rcases cs with _|⟨v,_|⟨v2,rest⟩⟩
 · simp [DataW.trod,ht] at hy
 · cases v
   case slice a len cap=>
    cases a with
    |none=>
     cases len<;>cases cap<;>simp [DataW.trod,ht] at hy
     exact ⟨[],⟨⟨Nat.zero_le _,by simp⟩,fun x h=>by cases h⟩,Cells.one .nils rfl (.lit c []) rfl rfl (fun m=> .lit0 c _ (.inl rfl)) .nils⟩
    |some a=>
     simp only [DataW.trod,ht] at hy;split at hy
     case isFalse=>simp at hy
     rename_i hc;simp only [Option.bind_eq_some_iff,if_true,Option.map_eq_some_iff] at hy;obtain ⟨elems,he,rest,hr,hyy⟩:=hy;have hwt2:(elems.length+rest.length) * P.bytesOf e<=reachBytes/\∀ b∈DataW.weightsAll P e (elems.map (·.1)),b<=reachBytes:=by
       rw [<- hyy] at hwt;have hwt:=hwt.2;simp only [DataW.weights,ht,List.length_map] at hwt;exact ⟨hwt _ List.mem_cons_self,fun b hb=>hwt b (List.mem_cons_of_mem _ (List.mem_append_left _ hb))⟩
     have hq:=hQ.slice (elems.map (·.1)) (rest.map (·.1)) (by have:=hwt.1;rw [<- hyy] at this;exact this);have hwt3:=wts_all hq.2 hwt2.2;obtain ⟨l1,l2⟩:=mapM_get he;obtain ⟨r1,r2⟩:=mapM_get hr;simp only [List.length_range] at l1 r1;have hel:∀ i,i<len->∃ x:CellT c,okC S c x/\∃ cs,w.cells? base (a.add (i * P.cellsOf e)) (P.cellsOf e)=some cs/\Cells g w c x cs:=fun i hi=>by
       obtain ⟨z,hz1,hz2⟩:=l2 i i (by simp [hi]);obtain ⟨cs,hcs,hz⟩:=Option.bind_eq_some_iff.1 hz2;obtain ⟨x,hx1,hx2⟩:=ih hz (hwt3 _ (List.mem_map.2 ⟨z,List.mem_of_getElem? hz1,rfl⟩));exact ⟨x,hx1,cs,hcs,hx2⟩
     obtain ⟨l,hl1,hl2⟩:=pick_list hel;have hok:okC S (.slice c) l:=⟨⟨by have:=hq.1 (by rw [List.length_map,l1];omega);rw [List.length_map,l1] at this;rw [hl1];exact this,by
       rw [hl1];refine Nat.le_trans (Nat.mul_le_mul (Nat.le_trans (Nat.le_of_eq l1.symm) (Nat.le_add_right _ rest.length)) hsz) hwt2.1⟩,fun x hx=>by obtain ⟨i,hi⟩:=List.mem_iff_getElem?.1 hx;exact (hl2 i x hi).1⟩
     refine ⟨l,hok,?_⟩;by_cases h0:cap=0
     · have hlen:len=0:=by omega
       subst h0;subst hlen;have:l=[]:=List.length_eq_zero_iff.1 hl1;subst this;exact Cells.one (.lit (width c) []) rfl (.lit c []) rfl rfl (fun m=> .lit c [] [] rfl (fun i row h=>by simp at h) (fun i row k x a h=>by simp at h)) (.lits _ _)
     · have hsp:a.spot=none/\a.block<w.heap.size:=by
         have hex:∃ cs,w.cells? base (a.add (0 * P.cellsOf e)) (P.cellsOf e)=some cs:=by
           rcases Nat.eq_zero_or_pos len with hz|hp
           · obtain ⟨z,_,hz2⟩:=r2 0 0 (List.getElem?_range (by omega));obtain ⟨cs,hcs,_⟩:=Option.bind_eq_some_iff.1 hz2;subst hz;exact ⟨cs,hcs⟩
           · obtain ⟨x,_,cs,hcs,_⟩:=hel 0 hp;exact ⟨cs,hcs⟩
         obtain ⟨cs,hcs⟩:=hex;obtain ⟨_,h2⟩:=World.cells?_get hcs;obtain ⟨v,_,hv⟩:=h2 0 (by omega);have:=cell_block hv
         simpa [Addr.add] using this
       have hrow:∀ i,i<len->∃ row:List V.AV,∃ x cs,l[i]?=some x/\w.cells? base (a.add (i * P.cellsOf e)) (P.cellsOf e)=some cs/\cs.length=width c/\(∀ v∈cs,v.oneCell'=true)/\(∀ m,RL m (enc c x) row)/\row.length=cs.length/\∀ (i:Nat) (a:V.AV) (v:Value),row[i]?=some a->cs[i]?=some v->V.VRel g w a v:=fun i hi=>by
         have hx:=List.getElem?_eq_getElem (l:=l) (i:=i) (by omega);obtain ⟨_,cs,hcs,k1,k2,as,k3,k4,k5⟩:=hl2 i _ hx;exact ⟨as,_,cs,hx,hcs,k1,k2,k3,k4,k5⟩
       obtain ⟨rows,q1,q2⟩:=pick_list hrow;have hvs:∀ i k,i<len->k<width c->∃ v,w.cell? ⟨a.block,a.off+i * width c+k,none⟩=some v/\v.oneCell'=true/\∀ row x,rows[i]?=some row->row[k]?=some x->V.VRel g w x v:=fun i k hi hk=>by
         have hx:=List.getElem?_eq_getElem (l:=rows) (i:=i) (by omega);obtain ⟨x,cs,_,hcs,k1,k2,_,k4,k5⟩:=q2 i _ hx;obtain ⟨c1,c2⟩:=World.cells?_get hcs;obtain ⟨v,hv1,hv2⟩:=c2 k (by rw [hw];exact hk);refine ⟨v,?_,k2 v (List.mem_of_getElem? hv1),fun row y hr hy=> ?_⟩
         · rw [<- hv2,hw,add_spot hsp.1,add_spot rfl]
         · rw [hx] at hr;injection hr with hr;subst hr;exact k5 k y v hy hv1
       refine Cells.one (.lit (width c) rows) rfl (.lit c l) rfl rfl (fun m=> .lit c l rows (by omega) (fun i row hi=> ?_) (fun i row k x b hi h1 h2=> ?_)) ?_
       · obtain ⟨x,cs,_,_,k1,_,_,k4,_⟩:=q2 i row hi;rw [k4,k1]
       · obtain ⟨x',cs,hx',_,_,_,k3,_,_⟩:=q2 i row hi;have:vw c l i=enc c x':=by simp [vw,List.getD_eq_getElem?_getD,hx']
         rw [this] at h1;exact (k3 m).2 k x b h1 h2
       · have hch:∀ i k,∃ v,i<len->k<width c->w.cell? ⟨a.block,a.off+i * width c+k,none⟩=some v/\v.oneCell'=true/\∀ row x,rows[i]?=some row->row[k]?=some x->V.VRel g w x v:=fun i k=>by
           by_cases h1:i<len
           · by_cases h2:k<width c
             · obtain ⟨v,hv⟩:=hvs i k h1 h2;exact ⟨v,fun _ _=>hv⟩
             · exact ⟨undef,fun _ h=>absurd h h2⟩
           · exact ⟨undef,fun h _=>absurd h h1⟩
         have hch2:=fun i=>Classical.axiomOfChoice (hch i)
         obtain ⟨F,hF⟩:=Classical.axiomOfChoice hch2;have:=V.VRel.lit (g:=g) (w:=w) rows a cap (width c) F hsp.1 (by omega) (fun _=>hZ _ hsp.2) (fun i row hi=>by obtain ⟨x,cs,_,_,k1,_,_,k4,_⟩:=q2 i row hi;rw [k4,k1])
           (fun i k hi hk=>(hF i k (by omega) hk).1) (fun i k hi hk=>(hF i k (by omega) hk).2.1) (fun i row k x hi hx=>by
             have hi':i<len:=by have:=getElem?_lt hi;omega
             have hk:k<width c:=by obtain ⟨x,cs,_,_,k1,_,_,k4,_⟩:=q2 i row hi;have:=getElem?_lt hx;omega
             exact (hF i k hi' hk).2.2 row x hi hx)
         rw [q1] at this;exact this
   all_goals simp [DataW.trod,ht] at hy
 · simp [DataW.trod,ht] at hy
theorem field_cells {d:Nat} {cs:List Value} {f:TypeId->List Value->Option (DataW H×List MemPlace)} (hf:∀ {t:TypeId} {c:CT},tyck P d t=some c->∀ {cs y},f t cs=some y->Wt P Q t y.1->∃ x:CellT c,okC S c x/\Cells g w c x cs):
  ∀ (fs:List Field) (o:Nat) {c:CT} {ys:List (DataW H×List MemPlace)},tyFs P d o fs=some c->cs.length=o+width c->(fs.mapM fun fd=>f fd.type ((cs.drop fd.offset).take (P.cellsOf fd.type)))=some ys->(∀ y∈ys,Q y.1)->(∀ b∈DataW.weightsEach P (fs.map (·.type)) (ys.map (·.1)),b<=reachBytes)->
   ∃ x:CellT c,okC S c x/\Cells g w c x (cs.drop o)
 |[],o,c,ys,h,_,_,_,_=>by simp [tyFs_nil] at h
 |[fd],o,c,ys,h,hl,hm,hq,hwt=>by
  simp only [tyFs_one,tyFs_cons,Option.bind_eq_some_iff] at h;obtain ⟨c1,h1,h⟩:=h;split at h
  case isFalse=>simp at h
  rename_i ho;injection h with h;subst h
  obtain ⟨y,_,hy,_,e⟩:=mapM_cons' hm;subst e;obtain ⟨x,hx1,hx2⟩:=hf h1 hy ⟨hq _ List.mem_cons_self,fun b hb=>hwt b (by simp only [List.map_cons,DataW.weightsEach];exact List.mem_append_left _ hb)⟩;refine ⟨x,hx1,?_⟩;rw [ho.1,ho.2,List.take_of_length_le (by simp;omega)] at hx2;exact hx2
 |fd::fd'::fs,o,c,ys,h,hl,hm,hq,hwt=>by
  simp only [tyFs_one,tyFs_cons,Option.bind_eq_some_iff] at h;obtain ⟨c1,h1,h⟩:=h;split at h
  case isFalse=>simp at h
  rename_i ho;simp only [Option.map_eq_some_iff] at h;obtain ⟨c2,h2,rfl⟩:=h;obtain ⟨y,ys',hy,hm',e⟩:=mapM_cons' hm;subst e;obtain ⟨x,hx1,hx2⟩:=hf h1 hy ⟨hq _ List.mem_cons_self,fun b hb=>hwt b (by simp only [List.map_cons,DataW.weightsEach];exact List.mem_append_left _ hb)⟩;simp only [width] at hl;obtain ⟨x2,hx3,hx4⟩:=field_cells hf (fd'::fs) (o+width c1) h2 (by omega) hm' (fun y hy=>hq y (List.mem_cons_of_mem _ hy)) (fun b hb=>hwt b (by
   have:=List.mem_append_right (y.1.weights P fd.type) hb
   simpa only [List.map_cons,DataW.weightsEach] using this))
  refine ⟨(x,x2),⟨hx1,hx3⟩,?_⟩;rw [ho.1,ho.2] at hx2;have e:cs.drop o=(cs.drop o).take (width c1)++cs.drop (o+width c1):=by
   rw [<- List.drop_drop];exact (List.take_append_drop _ _).symm
  rw [e];exact hx2.pair hx4
theorem open_cells (hQ:Down S Q) (hZ:∀ R,R<w.heap.size->g.Z R) {base:Nat} {held:Bool}:∀ (d:Nat) {t:TypeId} {c:CT},tyck P d t=some c->∀ {fuel:Nat} {cs:List Value} {y:DataW H×List MemPlace},DataW.trod enc' P w base (fun _=>true) held fuel t cs=some y->Wt P Q t y.1->
  ∃ x:CellT c,okC S c x/\Cells g w c x cs
 |0,_,_,h,_,_,_,_,_=>by simp [tyck] at h
 |d+1,t,c,h,0,cs,y,hy,_=>by simp [DataW.trod] at hy
 |d+1,t,c,h,fuel+1,cs,y,hy,hwt=>by
  simp only [tyck] at h;split at h
  · rename_i ht;injection h with h;subst h
    rcases cs with _|⟨v,_|⟨v2,rest⟩⟩
    · simp [DataW.trod,ht] at hy
    · cases v<;>simp [DataW.trod,ht] at hy
      rename_i b;exact ⟨b,trivial,Cells.one (.bool b) rfl (.bool b) rfl rfl (fun m=> .bool b) (.bool b)⟩
    · simp [DataW.trod,ht] at hy
  · rename_i k ht;injection h with h;subst h
    rcases cs with _|⟨v,_|⟨v2,rest⟩⟩
    · simp [DataW.trod,ht] at hy
    · cases v<;>simp [DataW.trod,ht] at hy
      rename_i k' n;obtain ⟨⟨rfl,hn⟩,_⟩:=hy;simp only [Lit.wf,Bool.and_eq_true,decide_eq_true_eq] at hn;exact ⟨n,hn,Cells.one (.int k' n) rfl (.int k' n) rfl rfl (fun m=> .int k' n) (.int k' n)⟩
    · simp [DataW.trod,ht] at hy
  · rename_i ht;injection h with h;subst h
    rcases cs with _|⟨v,_|⟨v2,rest⟩⟩
    · simp [DataW.trod,ht] at hy
    · cases v<;>simp [DataW.trod,ht] at hy
      rename_i s;exact ⟨s,(by have hy2:=hy.2;subst hy2;have:=hQ.str _ hwt.1 (Nat.le_trans (Nat.le_of_eq Array.length_toList) hy.1);exact Nat.le_trans (Nat.le_of_eq Array.length_toList.symm) this),Cells.one (.str s) rfl (.str s) rfl rfl (fun m=> .str s) (.str s)⟩
    · simp [DataW.trod,ht] at hy
  · rename_i e ht;obtain ⟨c1,h1,h⟩:=Option.bind_eq_some_iff.1 h;split at h
    case isFalse=>simp at h
    rename_i hw;injection h with h;subst h
    exact slice_cells hQ hZ ht hw.1 hw.2 (fun hy hwt=>open_cells hQ hZ d h1 hy hwt) hy hwt
  · rename_i fs ht;have h:(tyFs P d 0 fs.toList).bind (fun c=>if P.cellsOf t=width c then some c else none)=some c:=h;obtain ⟨c1,h1,h⟩:=Option.bind_eq_some_iff.1 h;split at h
    case isFalse=>simp at h
    rename_i hw;injection h with h;subst h
    simp only [DataW.trod,ht] at hy;split at hy
    case isFalse=>simp at hy
    rename_i hl;simp only [Option.map_eq_some_iff] at hy;obtain ⟨ys,hm,hyy⟩:=hy;rw [<- hyy] at hwt;obtain ⟨hq,hwt⟩:=hwt;simp only [DataW.weights,ht] at hwt;have hq:=hQ.agg _ hq;have:=field_cells (g:=g) (w:=w) (Q:=Q) (f:=fun t cs=>DataW.trod enc' P w base (fun _=>true) held fuel t cs) (fun {_ _} h1 {_ _} hy hwt=>open_cells hQ hZ d h1 hy hwt) fs.toList 0 h1 (by rw [hl,hw];omega) hm (fun y hy=>hq _ (List.mem_map.2 ⟨y,hy,rfl⟩)) (by simpa using hwt)
    simpa using this
  · rename_i n e ht;obtain ⟨c1,h1,h⟩:=Option.bind_eq_some_iff.1 h;split at h
    case isFalse=>simp at h
    rename_i hw;obtain ⟨c2,h2,h⟩:=Option.bind_eq_some_iff.1 h;split at h
    case isFalse=>simp at h
    rename_i hw2;injection h with h;subst h
    simp only [DataW.trod,ht] at hy;split at hy
    case isFalse=>simp at hy
    rename_i hl;simp only [Option.map_eq_some_iff] at hy;obtain ⟨ys,hm,hyy⟩:=hy;rw [<- hyy] at hwt;obtain ⟨hq,hwt⟩:=hwt;simp only [DataW.weights,ht] at hwt;have:=rep_cells (g:=g) (w:=w) (e:=e) (wt:=Wt P Q e) (fun cs y hy hwt=>open_cells hQ hZ d h1 hy hwt) h2 0 ys (fun y hy=>wts_all (hQ.agg _ hq) hwt _ (List.mem_map.2 ⟨y,hy,rfl⟩)) (by rw [hl,hw2];omega) (by simpa [hw] using hm)
    simpa using this
  · simp at h
end
def gAll (w:World):V.Gx:={ D:=fun _=>False,ρ:=fun _=>⟨0,0,0,0⟩,Z:=fun R=>R<w.heap.size }
theorem wrel_all {G:Nat->Option (List V.AV)} {w:World} (hg:∀ i row,G i=some row->V.GlobRel (gAll w) w i row):V.WRel G (gAll w) w ⟨[],0⟩:=
 ⟨hg,fun b h=>h.elim,fun b x h=>h.elim,fun b b' h=>h.1.elim,fun R h=>h⟩
def Stood (w w':World):Prop:=w.heap.size<=w'.heap.size/\(∀ R,R<w.heap.size->w'.heap[R]?=w.heap[R]?)/\(w'.os=w.os/\w'.output=w.output)
theorem Stood.kept {w w':World} (h:Stood w w') (may:MemPlace->Prop):w.keptBut w' may:=by
 refine ⟨h.2.2.1,h.2.2.2,fun i hi=> ?_⟩;rw [h.2.1 i hi];cases h:w.heap[i]? with
 |none=>rfl
 |some o=>cases o<;>simp
section
variable {A:V.Par}
theorem calls_of (hFn:V.FnsOK A) (hE:V.ExtOK A) (hEq:V.ExtQuiet A) (hD:V.DrawGoes A) {k:Nat} {f:FuncId} {fn:Func} (hf:A.fns f=some fn) (hb:fn.body.isSome=true) {av:List V.AV} {vs:List Value} {W:World} {H':V.AH} {r:V.AV}
  (hcall:V.call A k (.fn f []) av ⟨[],0⟩=some (r,H')) (hW:V.WRel A.glob (gAll W) W ⟨[],0⟩) (hl:av.length=vs.length) (hv:∀ (i:Nat) (x:V.AV) (v:Value),av[i]?=some x->vs[i]?=some v->V.VRel (gAll W) W x v):
  Calls A.P f vs.toArray W fun e W'=>∃ v,e= .returned v/\(∃ g',V.VRel g' W' r v)/\W.heap.size<=W'.heap.size/\(∀ R,R<W.heap.size->W'.heap[R]?=W.heap[R]?)/\(W'.os=W.os/\W'.output=W.output):=by
 have h:=V.call_sound hFn hE hEq hD k (.fn f []) av ⟨[],0⟩ r H' hcall (gAll W) W (.func (.func f) #[] #[]) vs hW (.fn f [] [] rfl fun i x v h=>by simp at h) hl hv Fence.wide 0
  { dst:=some 0,op:= .move (.tmp 0),type:=0,pos:= "",after:= #[],guard:=none } ⟨#[undef],[]⟩
  (fun a W'=>∃ v,a.tmps= #[v]/\(∃ g',V.VRel g' W' r v)/\W.heap.size<=W'.heap.size/\(∀ R,R<W.heap.size->W'.heap[R]?=W.heap[R]?)/\(W'.os=W.os/\W'.output=W.output)) (fun _ _ _=>False)
  ⟨fun _=>trivial,rfl,rfl⟩ (fun g' w' rv h1 h2 h3=>⟨rv,rfl,⟨g',h1⟩,h3.size,fun R hR=>h3.unch R hR (fun ⟨b,hb,_⟩=>hb.1.elim),h3.io⟩)
 rw [V.run_enter hFn hf hb] at h;rw [Oper.uponIn_enter] at h;have h2:=callsIn_wide.1 h.2;simp only [Array.append_empty] at h2;refine Calls.mono h2 fun e W' he=> ?_
 cases e with
 |returned v=>
  obtain ⟨v',h1,h2⟩:=he;have:v'=v:=by simpa [Act.put] using h1.symm
  subst this;exact ⟨v',rfl,h2⟩
 |panicked c=>exact he.elim
 |outgrown=>exact he.elim fun _ h=>h.elim fun _ h=>h.elim
theorem law_calls (hFn:V.FnsOK A) (hE:V.ExtOK A) (hEq:V.ExtQuiet A) (hD:V.DrawGoes A) {k:Nat} {f:FuncId} {fn:Func} (hf:A.fns f=some fn) (hb:fn.body.isSome=true) {sp:Spec} (hOK:SpecOK (V.call A k) f sp) {args:List UV} {av:List V.AV} {vs:List Value} {W:World}
  (hrun:sp UV args ⟨[],0⟩ (fun r _=>some r)=some (.bool true)) (hR:∀ m,RL m args av) (hW:V.WRel A.glob (gAll W) W ⟨[],0⟩) (hl:av.length=vs.length) (hv:∀ (i:Nat) (x:V.AV) (v:Value),av[i]?=some x->vs[i]?=some v->V.VRel (gAll W) W x v):
  Calls A.P f vs.toArray W fun e W'=>e= .returned (.bool true)/\Stood W W':=by
 obtain ⟨r,H',h1,_,h2⟩:=hOK UV args ⟨[],0⟩ _ _ hrun;injection h1 with h1;subst h1
 obtain ⟨r',Hv',h3,m',_,h4,_⟩:=h2 ⟨fun _ _=>none,fun _ _=>0,0⟩ ⟨[],0⟩ av [] ⟨fun b _ x h=>by simp at h,fun b y h=>by simp at h,fun b b' _ _ x h=>by obtain ⟨_,h,_⟩:=h;simp at h,fun b _ x h=>by simp at h,Nat.le_refl _,rfl⟩ (by simpa using hR _);cases h4;refine (calls_of hFn hE hEq hD hf hb h3 hW hl hv).mono ?_
 rintro e W' ⟨v,rfl,⟨g',hv⟩,hs,hu,hio⟩
 cases hv;exact ⟨rfl,hs,hu,hio⟩
end
section
variable {P:Program}
def Told (P:Program) (t:TypeId):Prop:=∃ d c,tyck P d t=some c
theorem rep_width {n:Nat} {c c':CT} (h:rep n c=some c'):width c'=n * width c:=by
 induction n generalizing c' with
 |zero=>simp [rep] at h
 |succ n ih=>
  cases n with
  |zero=>simp [rep] at h;subst h;simp
  |succ n=>
   simp only [rep,Option.map_eq_some_iff] at h;obtain ⟨c2,h2,rfl⟩:=h;simp only [width,ih h2];rw [Nat.succ_mul (n+1)];omega
theorem fields_told {d:Nat}:∀ (fs:List Field) (o:Nat) {c:CT},tyFs P d o fs=some c->
  (∀ f∈fs,Told P f.type)/\width c=(fs.map fun f=>P.cellsOf f.type).sum/\∀ (j:Nat) (f:Field),fs[j]?=some f->f.offset=o+((fs.take j).map fun f=>P.cellsOf f.type).sum
 |[],o,c,h=>by simp [tyFs_nil] at h
 |[fd],o,c,h=>by
  simp only [tyFs_one,tyFs_cons,Option.bind_eq_some_iff] at h;obtain ⟨c1,h1,h⟩:=h;split at h
  case isFalse=>simp at h
  rename_i ho;injection h with h;subst h
  refine ⟨fun f hf=>by simp at hf;subst hf;exact ⟨d,_,h1⟩,by simp [ho.2],fun j f hf=> ?_⟩;cases j with
  |zero=>simp at hf;subst hf;simp [ho.1]
  |succ j=>simp at hf
 |fd::fd'::fs,o,c,h=>by
  simp only [tyFs_one,tyFs_cons,Option.bind_eq_some_iff] at h;obtain ⟨c1,h1,h⟩:=h;split at h
  case isFalse=>simp at h
  rename_i ho;simp only [Option.map_eq_some_iff] at h;obtain ⟨c2,h2,rfl⟩:=h;obtain ⟨k1,k2,k3⟩:=fields_told (fd'::fs) _ h2;refine ⟨fun f hf=>by rcases List.mem_cons.1 hf with rfl|hf;exact ⟨d,_,h1⟩;exact k1 f hf,?_,fun j f hf=> ?_⟩
  · simp only [width,k2,<- ho.2,List.map_cons,List.sum_cons]
  · cases j with
    |zero=>simp at hf;subst hf;simp [ho.1]
    |succ j=>
     simp only [List.getElem?_cons_succ] at hf;rw [k3 j f hf,<- ho.2];simp only [List.take_succ_cons,List.map_cons,List.sum_cons];omega
theorem told_kids:Kids P (Told P) where
 pointer:=fun ⟨d,c,h⟩ ht=>by cases d<;>simp [tyck,ht] at h
 slice:=fun ⟨d,c,h⟩ ht=>by
  cases d with
  |zero=>simp [tyck] at h
  |succ d=>simp only [tyck,ht,Option.bind_eq_some_iff] at h;obtain ⟨c1,h1,_⟩:=h;exact ⟨d,c1,h1⟩
 array:=fun ⟨d,c,h⟩ ht=>by
  cases d with
  |zero=>simp [tyck] at h
  |succ d=>
   simp only [tyck,ht,Option.bind_eq_some_iff] at h;obtain ⟨c1,h1,h⟩:=h;split at h
   case isFalse=>simp at h
   rename_i hw;obtain ⟨c2,h2,h⟩:=Option.bind_eq_some_iff.1 h;split at h
   case isFalse=>simp at h
   rename_i hw2;exact ⟨⟨d,c1,h1⟩,by rw [hw2,hw,rep_width h2]⟩
 struct:=fun ⟨d,c,h⟩ ht=>by
  cases d with
  |zero=>simp [tyck] at h
  |succ d=>
   simp only [tyck,ht,Option.bind_eq_some_iff] at h;obtain ⟨c1,h1,h⟩:=h;split at h
   case isFalse=>simp at h
   rename_i hw;obtain ⟨k1,k2,k3⟩:=fields_told (d:=d) _ 0 h1;exact ⟨k1,by rw [hw,k2],fun j f hf=>by rw [k3 j f hf];simp⟩
 map:=fun ⟨d,c,h⟩ ht=>by cases d<;>simp [tyck,ht] at h
theorem told_sized {t e:TypeId} (h:Told P t) (ht:P.underlying t=some (.slice e)):0<P.cellsOf e:=by
 obtain ⟨d,c,h⟩:=h;cases d with
 |zero=>simp [tyck] at h
 |succ d=>
  simp only [tyck,ht,Option.bind_eq_some_iff] at h;obtain ⟨c1,_,h⟩:=h;split at h
  case isFalse=>simp at h
  rename_i hw;rw [hw.1];exact width_pos c1
variable {H:Type} {enc':TypeId×Value->H} {w w':World}
theorem Stood.sameAt (h:Stood w w') {p:MemPlace} (hp:p.block<w.heap.size):w.sameAt w' p:=by
 cases p with
 |cell b off=>
  have:=h.2.1 b hp;show w'.cell? _=w.cell? _;simp only [World.cell?,this]
 |map b=>exact h.2.1 b hp
theorem args_stay (h:Stood w w') {sp:Nat->Bool}:∀ {ts:List TypeId} {vs:List Value} {ds:List (DataW H)} {ps:List MemPlace},(∀ t∈ts,Told P t)->(∀ p∈ps,sp p.block=true)->DataW.TrodAll enc' P w 0 (fun _=>true) true ts vs ds ps->DataW.TrodAll enc' P w' 0 sp true ts vs ds ps
 |[],[],[],ps,_,_,hp=>hp
 |t::ts,v::vs,d::ds,ps,ht,hs,⟨p,q,⟨n,h1⟩,h2,e⟩=>by
  subst e;have hlt:=DataW.trod_lt n t _ _ h1;exact ⟨p,q,⟨n,DataW.trod_stays told_kids told_sized (fun h=>by cases h) (ht t (List.mem_cons_self ..)) h1 (fun p hp=>h.sameAt (hlt p hp)) (fun p hp=>hs p (List.mem_append_left _ hp))⟩,
   args_stay h (fun t' h'=>ht t' (List.mem_cons_of_mem _ h')) (fun p hp=>hs p (List.mem_append_right _ hp)) h2,rfl⟩
 |[],[],_::_,_,_,_,h'=>h'.elim
 |[],_::_,_,_,_,_,h'=>by cases h'
 |_::_,[],_,_,_,_,h'=>by cases h'
 |_::_,_::_,[],_,_,_,h'=>by cases h'
def aggB (P:Program) (t:TypeId):Bool:=match P.underlying t with|some (.struct _)|some (.array _ _)=>true|_=>false
def argU (agg:Bool) (c:CT) (x:CellT c):UV:=if agg then .agg (enc c x) else (enc c x).headD .junk
theorem open_arg {S:Nat} {Q:DataW H->Prop} (hQ:Down S Q) {d:Nat} {t:TypeId} {c:CT} (h:tyck P d t=some c) {r:Reach} {b:Nat} {v:Value} (hval:Value.okWide P w r b t v) {dd:DataW H} {p:List MemPlace} (ht:DataW.Trod enc' P w 0 (fun _=>true) true t v dd p) (hwt:Wt P Q t dd):
   ∃ x:CellT c,okC S c x/\∃ a,(∀ m,RV m (argU (aggB P t) c x) a)/\V.VRel (gAll w) w a v:=by
 obtain ⟨fuel,hf⟩:=ht;obtain ⟨x,hx,hl,h1,as,h2,h3,h4⟩:=open_cells hQ (g:=gAll w) (fun _ h=>h) d h hf hwt;refine ⟨x,hx,?_⟩;have hone:aggB P t=false->(∀ cs,v≠ .agg cs)->width c=1->∃ a,(∀ m,RV m (argU (aggB P t) c x) a)/\V.VRel (gAll w) w a v:=fun hb hv hw=>by
   have hcs:v.cells.toList=[v]:=by cases v<;>first|rfl|exact absurd rfl (hv _)
   rw [hcs] at hl h3 h4;have hel:=enc_length c x;rw [hw] at hel;obtain ⟨u,hu⟩:=List.length_eq_one_iff.1 hel;obtain ⟨a,ha⟩:=List.length_eq_one_iff.1 (h3.trans rfl);subst ha;refine ⟨a,fun m=> ?_,h4 0 a v rfl rfl⟩;have:=(h2 m).2 0 u a (by rw [hu];rfl) rfl
   simpa [argU,hb,hu] using this
 have hbig:(∃ cs,v= .agg cs)->aggB P t=true->∃ a,(∀ m,RV m (argU (aggB P t) c x) a)/\V.VRel (gAll w) w a v:=fun ⟨cs,hv⟩ hb=>by
   subst hv;refine ⟨.agg as,fun m=> ?_,?_⟩
   · simp only [argU,hb,if_true];exact .agg _ _ (h2 m).1 (h2 m).2
   · have:=V.VRel.agg (g:=gAll w) (w:=w) as cs.toList h3.symm h1 h4
     simpa using this
 cases d with
 |zero=>simp [tyck] at h
 |succ d=>
 simp only [tyck] at h;split at h
 · rename_i hu;injection h with h;subst h
   exact hone (by simp [aggB,hu]) (fun cs e=>by subst e;simp [Value.okWide,hu,Cell.okWide,Cell.ok] at hval) rfl
 · rename_i k hu;injection h with h;subst h
   exact hone (by simp [aggB,hu]) (fun cs e=>by subst e;simp [Value.okWide,hu,Cell.okWide,Cell.ok] at hval) rfl
 · rename_i hu;injection h with h;subst h
   exact hone (by simp [aggB,hu]) (fun cs e=>by subst e;simp [Value.okWide,hu,Cell.okWide,Cell.ok] at hval) rfl
 · rename_i e hu;obtain ⟨c1,_,h⟩:=Option.bind_eq_some_iff.1 h;split at h
   case isFalse=>simp at h
   injection h with h;subst h
   exact hone (by simp [aggB,hu]) (fun cs e=>by subst e;simp [Value.okWide,hu,Cell.okWide,Cell.ok] at hval) rfl
 · rename_i fs hu;exact hbig (by simp only [Value.okWide,hu] at hval;obtain ⟨cs,e,_⟩:=hval;exact ⟨cs,e⟩) (by simp [aggB,hu])
 · rename_i n e hu;exact hbig (by simp only [Value.okWide,hu] at hval;obtain ⟨cs,e,_⟩:=hval;exact ⟨cs,e⟩) (by simp [aggB,hu])
 · simp at h
theorem open_nil {vs:List Value} {ds:List (DataW H)} {p:List MemPlace} (h:DataW.TrodAll enc' P w 0 (fun _=>true) true [] vs ds p):vs=[]/\ds=[]:=by
 cases vs<;>cases ds<;>first|exact ⟨rfl,rfl⟩|exact h.elim
theorem open_cons {t:TypeId} {ts:List TypeId} {vs:List Value} {ds:List (DataW H)} {p:List MemPlace} (h:DataW.TrodAll enc' P w 0 (fun _=>true) true (t::ts) vs ds p):
  ∃ v vs' d ds' p0 p1,vs=v::vs'/\ds=d::ds'/\DataW.Trod enc' P w 0 (fun _=>true) true t v d p0/\DataW.TrodAll enc' P w 0 (fun _=>true) true ts vs' ds' p1:=by
 cases vs with
 |nil=>exact h.elim
 |cons v vs=>
  cases ds with
  |nil=>exact h.elim
  |cons d ds=>obtain ⟨p0,p1,h1,h2,_⟩:=h;exact ⟨v,vs,d,ds,p0,p1,rfl,rfl,h1,h2⟩
theorem wts_cons {Q:DataW H->Prop} {t:TypeId} {ts:List TypeId} {d:DataW H} {ds:List (DataW H)} (h:∀ b∈DataW.weightsEach P (t::ts) (d::ds),b<=reachBytes) (hq:∀ x∈d::ds,Q x):Wt P Q t d/\(∀ b∈DataW.weightsEach P ts ds,b<=reachBytes)/\∀ x∈ds,Q x:=by
 simp only [DataW.weightsEach,List.mem_append] at h;exact ⟨⟨hq _ List.mem_cons_self,fun b hb=>h b (.inl hb)⟩,fun b hb=>h b (.inr hb),fun x hx=>hq x (List.mem_cons_of_mem _ hx)⟩
theorem post_told {f:Func} {s:ChangeSpec} {apart fresh handsOn again:Bool} {W W':World} {args:Array Value} {ds:List (DataW H)} {before:List MemPlace} (hvars:s.vars=[]) (hW:DataW.Whole enc' P f.params.toList s.vars apart W args.toList ds [] before)
   (hS:Stood W W') {tb:TypeId} (htb:P.underlying tb=some .bool) (hres:f.resultTypes= #[tb]) (hfn:s.fn H (ds++[])={ results:=[.lit (.bool true)],args:=ds }) (ht:∀ t∈f.params.toList,Told P t):
   s.post enc' P f apart fresh handsOn again W args (.bool true) W':=by
 obtain ⟨p,q,hA,hV,rfl,hz,hn⟩:=id hW;have hq:q=[]:=by rw [hvars] at hV;exact hV
 subst hq;have hlt:∀ x∈p,x.block<W.heap.size:=hA.lt;have hr:∀ (b:Nat) (sp:Nat->Bool) (hd:Bool),DataW.TrodAll enc' P W' b sp hd f.resultTypes.toList ((Value.bool true).resultList f.resultTypes.size) (s.fn H (ds++[])).results []:=fun b sp hd=>by
   rw [hres,hfn];exact ⟨[],[],RowKit.shut_bool htb true,rfl,rfl⟩
 have ha:∀ sp:Nat->Bool,(∀ x∈p,sp x.block=true)->DataW.TrodAll enc' P W' 0 sp true f.params.toList args.toList (s.fn H (ds++[])).args p:=fun sp hs=>by rw [hfn];exact args_stay hS ht hs hA
 have hv:∀ sp:Nat->Bool,DataW.TrodVars enc' P W' sp s.vars (s.fn H (ds++[])).vars []:=fun sp=>by rw [hvars,hfn];rfl
 refine ⟨ds,[],p++[],[],p,[],hW,hr _ _ _,ha _ (fun x hx=>by simpa using hlt x hx),hv _,hS.kept _,fun _=>⟨fun j t r h1 h2=> ?_,_,_,([]++p)++[],⟨[]++p,[],ChangeShapes.trodAll_append (ha _ (fun _ _=>rfl)) (hr _ _ _),hv _,rfl,?_,?_⟩,?_⟩⟩
 · rw [hres] at h1 h2;rcases j with _|j
   · simp at h1;subst h1;have:r= .bool true:=by simpa [Value.resultList] using h2.symm
     subst this;exact RowKit.okWide_bool_mk htb true
   · simp at h1
 · intro b off hp;have hp':MemPlace.cell b off∈p:=by simpa using hp
   have hb:b<W.heap.size:=hlt _ hp';have:=hz b off (by simpa using hp);unfold World.frozen? at this ⊢;rw [hS.2.1 b hb];exact this
 · intro hap
   simpa using hn hap
 · intro x hx _
   simpa using hx
end
end Go.U
namespace Go.U
open Go
section
variable [TB:Tbl] {A:V.Par}
theorem ext_call {k:Nat} {f:FuncId} {g:List V.AV->V.AH->Option (V.AV×V.AH)} (he:A.ext f=some g) (cs as:List V.AV) (H:V.AH):V.call A (k+1) (.fn f cs) as H=g (as++cs) H:=by
 simp only [V.call,he]
theorem fi_spec {k:Nat} {f:FuncId} (he:A.ext f=some V.fiX) {sp:Spec} (hsp:∀ X args H K out,sp X args H K=some out->∃ n b:Int,args=[.int .i64 n,.int .i64 b]/\H=⟨[],0⟩/\(-9223372036854775808<=n/\n<=9223372036854775807/\b=10)/\K (.str ⟨(Lib.itoa n).toArray⟩) ⟨[],0⟩=some out):
  SpecOK (V.call A (k+1)) f sp:=by
 intro X args H K out h;obtain ⟨n,b,rfl,rfl,hc,h'⟩:=hsp X args H K out h;refine ⟨_,_,h',rfl,fun m Hv as cs hh hl=> ?_⟩;obtain ⟨a1,l1,e1,q1,q2⟩:=hl.cons';obtain ⟨a2,l2,e2,q3,q4⟩:=q2.cons';have e3:l2=[]:=List.length_eq_zero_iff.1 q4.1;rw [ext_call he,e1,e2,e3];cases q1;cases q3;exact ⟨.str _,Hv,by simp only [V.fiX];rw [if_pos hc],.same hh (.str _)⟩
theorem unrow_bytes:∀ (l:List UInt8),V.unrow (l.map fun b=>[V.AV.int .u8 (b.toNat:Int)])=some l
 |[]=>rfl
 |b::l=>by
  have hb:=b.toNat_lt;simp only [List.map_cons,V.unrow];rw [if_pos ⟨by omega,by omega⟩,unrow_bytes l]
  simp
theorem size_list (s:ByteArray):s.data.toList.length=s.size:=Array.length_toList
theorem byteRows_len (s:ByteArray):(V.byteRows s).length=s.size:=by unfold V.byteRows;rw [List.length_map];exact size_list s
theorem str_spec {k:Nat} {f:FuncId} (he:A.ext f=some (V.strX TB.bT TB.uT)) {sp:Spec} (hsp:∀ X args H K out,sp X args H K=some out->∃ s:ByteArray,args=[.ptr 0 0]/\H=⟨[.bld (.all 1),.byt s],0⟩/\K (.str s) ⟨[.bld (.all 1),.dead],0⟩=some out):
  SpecOK (V.call A (k+1)) f sp:=by
 intro X args H K out h;obtain ⟨s,rfl,rfl,h'⟩:=hsp X args H K out h;refine ⟨_,_,h',rfl,fun m Hv as cs hh hl=> ?_⟩;obtain ⟨a1,l1,e1,q1,q2⟩:=hl.cons';have e2:l1=[]:=List.length_eq_zero_iff.1 q2.1;rw [ext_call he,e1,e2];obtain ⟨x,p,q',h1,h2,h3,h4,h5⟩:=hh.blk 0 _ rfl;obtain ⟨k1,k2⟩:=hh.blk 1 _ rfl;cases q1 with
 |ptr _ _ x' hx'=>
 rw [h1] at hx';injection hx' with hx';subst hx'
 have hkill:RH m ⟨[.bld (.all 1),.dead],0⟩ Hv:=hh.kill 1;cases h4 with
 |all0 _ _ hlt hz ha=>
  have hq:q'= .nils:=ha.resolve_right h5;subst hq;have hs:s.size=0:=by rw [<- k1];exact hz
  have hs2:s=⟨#[]⟩:=by
    have:s.data.toList=[]:=List.length_eq_zero_iff.1 (by rw [size_list];exact hs);cases s;simp_all
  subst hs2;exact ⟨_,Hv,by simp only [V.strX,h2,if_true],.same hkill (.str _)⟩
 |all _ y hy=>
  rcases k2 with ⟨_,k3⟩|⟨y',k3,k4,k5⟩
  · rw [hy] at k3;simp at k3
  · rw [hy] at k3;injection k3 with k3;subst k3
    have hwm:=hh.wm 1 y hy (Nat.zero_le _);have hbl:(V.byteRows s).length=s.size:=byteRows_len _;have hoth:=hkill.other (x:=y) (fun b s' hb e=>by
     match b,hb,e with
     |0,hb,e=>exact absurd (hh.inj 0 1 y ⟨_,rfl,rfl⟩ ⟨_,rfl,rfl⟩ e hy) (by simp)
     |1,hb,_=>obtain ⟨z,hz,hz2⟩:=hb;simp at hz;subst hz;simp [liveB] at hz2
     |b+2,hb,_=>obtain ⟨z,hz,_⟩:=hb;simp at hz) .dead
    refine ⟨.str s,V.setBl Hv y .dead,?_,m,hoth,.str _,.refl m,⟨.refl (Nat.le_refl _),fun x' hx' hn'=>by rw [vset_get,if_neg (fun e=>hn' 1 0 (by rw [<- e];exact hy))],fun b' s' x' hb'=> .inl ⟨b',s',hb'⟩,by simp [V.setBl],rfl⟩⟩;simp only [V.strX,h2,if_true,List.append_nil];rw [k4];simp only;rw [if_pos ⟨trivial,Nat.le_refl _,hwm,by rw [k1];exact k5,by rw [hbl,k1];exact Nat.le_refl _⟩,k1,List.take_of_length_le (by rw [hbl];exact Nat.le_refl _)];simp only [V.byteRows,unrow_bytes,Option.map_some]
def WsCall (A:V.Par) (k:Nat) (f:FuncId) (ts:Array TypeId):Prop:=
 ∀ (H:V.AH) (x:Nat) (p q v:V.AV) (t:ByteArray) (H2:V.AH),H.bl[x]?=some (.cells [[p,q]] 2 (some (TB.bT,2)))->(p= .nilp\/p= .ptr x 0 0)->H.wm<=x->
  V.append A (V.setBl H x (.cells [[.ptr x 0 0,q]] 2 (some (TB.bT,2)))) ts q (.str t)=some (v,H2)->H2.bl[x]?=some (.cells [[.ptr x 0 0,q]] 2 (some (TB.bT,2)))->H2.wm=H.wm->v.isOne=true->
  V.call A k (.fn f []) [.ptr x 0 0,.str t] H=some (.tup [.int .i64 t.size,.nili],V.setBl H2 x (.cells [[.ptr x 0 0,v]] 2 (some (TB.bT,2))))
structure WsTy (A:V.Par) (ts:Array TypeId):Prop where
 ty:∃ t u,ts= #[t,u]/\V.elem? A t=some TB.uT/\A.P.underlying u=some .string/\V.zero A TB.uT=some [.int .u8 0]/\V.bytes A TB.uT=some 1/\V.size A TB.uT=some 1
theorem byteRows_app (s t:ByteArray):V.byteRows (s++t)=V.byteRows s++V.byteRows t:=by
 simp [V.byteRows,ByteArray.data_append]
theorem byteRows_all (s:ByteArray):(V.byteRows s).all (fun r=>r.length==1)=true:=List.all_eq_true.2 fun r hr=>by
 unfold V.byteRows at hr;obtain ⟨b,_,rfl⟩:=List.mem_map.1 hr;rfl
def wsRes [TB:Tbl] (H:V.AH) (q:V.AV) (xs:List (List V.AV)) (t:ByteArray):Option (V.AV×V.AH):=
 match q with
 | .nils| .emp=>some (.sl H.bl.length 0 t.size,V.push H (.cells (V.byteRows t) 1 (some (TB.uT,1))))
 | .sl b r _=>if H.wm<=b/\V.szOf H b=some 1 then some (.sl H.bl.length 0 (xs.length+t.size),V.push (V.setBl H b .dead) (.cells (xs++V.byteRows t) 1 (V.tyOn (V.tyOf H b) TB.uT r))) else none
 |_=>none
theorem ws_append {ts:Array TypeId} (hts:WsTy A ts) {H:V.AH} {q:V.AV} {t:ByteArray} {xs:List (List V.AV)} (hxs:V.rowsOf H q=some xs) (hn:xs.length+t.size<=70368744177664):
  V.append A H ts q (.str t)=if t.size=0 then some (q,H) else wsRes H q xs t:=by
 obtain ⟨t0,u,rfl,h1,h2,h3,h4,h5⟩:=hts.ty;have hl:(V.byteRows t).length=t.size:=byteRows_len _;have g0:(#[t0,u]:Array TypeId)[0]?=some t0:=rfl;have g1:(#[t0,u]:Array TypeId)[1]?=some u:=rfl;simp only [V.append,g0,g1,h1,h2,h3,h4,hxs,Option.bind_some,hl,List.length_singleton];rw [if_pos ⟨by omega,by omega,by omega,h5,byteRows_all t⟩];rfl
theorem go2 {n:Nat} {m m':Mp} {Hv H':V.AH} (e:m.top=n) (h:Go' m.top m Hv m' H'):Go' n m Hv m' H':=e ▸ h
theorem ws_core {ts:Array TypeId} (hts:WsTy A ts) {m:Mp} {Hv H1:V.AH} {x:Nat} {q':V.AV} {s t:ByteArray} {C:Prop} (hn:s.size+t.size<=70368744177664)
   (h1:m.ι 0 0=some x) (h4:RV m (.all 1) q') (h5:q'≠ .emp) (k1:m.len 1 0=s.size) (hxl:x<Hv.bl.length) (htop:m.top=2)
   (hh1:RH m ⟨[.bld (.all 1),.byt s],0⟩ H1) (hgo1:Go' 2 m Hv m H1)
   (hb1:H1.bl[x]?=some (.cells [[.ptr x 0 0,q']] 2 (some (TB.bT,2)))) (hl1:H1.bl.length=Hv.bl.length) (hw1:H1.wm=Hv.wm)
   (fin:∀ (v:V.AV) (H2:V.AH) (m2:Mp),V.append A H1 ts q' (.str t)=some (v,H2)->RH m2 ⟨[.bld (.all 1),.dead,.byt (s++t)],0⟩ H2->RV m2 (.all 2) v->v≠ .emp->v.isOne=true->m2.ι 0 0=some x->H2.bl[x]?=some (.cells [[.ptr x 0 0,q']] 2 (some (TB.bT,2)))->H2.wm=Hv.wm->
     m.Le m2->Go' 2 m Hv m2 H2->C):C:=by
 have hst:(s++t).size=s.size+t.size:=by simp
 obtain ⟨_,k2⟩:=hh1.blk 1 _ rfl;have hkill:RH m ⟨[.bld (.all 1),.dead],0⟩ H1:=hh1.kill 1;have hgo1':Go' 2 m Hv m H1:=hgo1;have hne0:∀ {b:Nat},live ⟨[.bld (.all 1),.dead],0⟩ b->b=0:=fun {b} hb=>by
   obtain ⟨z,hz,hz2⟩:=hb
   match b,hz with
   |0,_=>rfl
   |1,hz=>simp at hz;subst hz;simp [liveB] at hz2
   |b+2,hz=>simp at hz
 have hadd:∀ (xo:Option Nat) (n:Nat),(m.add 2 xo n).ι 0 0=some x:=fun xo n=>by rw [add_ι_ne _ _ _ (by omega)];exact h1
 by_cases ht0:t.size=0
 ·
   have hst0:s++t=s:=by
     have:t.data.toList=[]:=List.length_eq_zero_iff.1 (by rw [size_list];exact ht0);cases s;cases t;simp_all [ByteArray.ext_iff,ByteArray.data_append]
   have hrows:∃ xs,V.rowsOf H1 q'=some xs/\xs.length=s.size:=by
     cases h4 with
     |all0 _ _ hlt hz ha=>have hq:q'= .nils:=ha.resolve_right h5;subst hq;exact ⟨[],rfl,by rw [<- k1];exact hz.symm⟩
     |all _ y hy=>
       have k2':=k2;rcases k2' with ⟨_,k3⟩|⟨y',k3,k4,k5⟩
       · rw [hy] at k3;simp at k3
       · rw [hy] at k3;injection k3 with k3;subst k3
         have hbl:(V.byteRows s).length=s.size:=byteRows_len _;refine ⟨V.byteRows s,?_,hbl⟩;unfold V.rowsOf;simp only;rw [k4];simp only;rw [if_pos (by rw [k1,hbl];omega),k1,List.drop_zero,List.take_of_length_le (by rw [hbl];exact Nat.le_refl _)]
   obtain ⟨xs,hxs,hxl2⟩:=hrows;have ha:=ws_append hts (t:=t) hxs (by omega);rw [if_pos ht0] at ha;have hp:=hkill.push (Hv':=H1) (y:= .byt (s++t)) (x:=m.ι 1 0) (n:=s.size) (fun _ _ _ _ _=>rfl) (Nat.le_refl _) rfl (fun xv e=>⟨(hh1.dom 1 xv e).2,hh1.wm 1 xv e (Nat.zero_le _),fun b s' hb e'=>by
       have:=hne0 hb;subst this;exact absurd (hh1.inj 0 1 xv ⟨_,rfl,rfl⟩ ⟨_,rfl,rfl⟩ e' e) (by simp)⟩) (by
     have k2':=k2;refine ⟨by rw [hst0];exact add_len _ _ _ _,?_⟩;rw [hst0];rcases k2' with ⟨k3,k4⟩|⟨y',k3,k4,k5⟩
     · exact .inl ⟨k3,by rw [add_ι];exact k4⟩
     · exact .inr ⟨y',by rw [add_ι];exact k3,k4,k5⟩)
   refine fin q' H1 (m.add 2 (m.ι 1 0) s.size) ha hp.1 ?_ h5 (by cases h4 with|all0 _ _ _ _ ha=>(rcases ha with rfl|rfl<;>rfl)|all _ _ _=>rfl) (hadd _ _) hb1 hw1 hp.2 (hgo1'.trans ⟨by have:=add_old hkill (m.ι 1 0) s.size;rw [htop] at this;exact this,fun _ _ _=>rfl,fun b _ xv hb=> ?_,Nat.le_refl _,rfl⟩ (Nat.le_refl _))
   · cases h4 with
     |all0 _ _ hlt hz ha=>exact .all0 _ _ (by simp [Mp.add,Mp.addF]) (by rw [add_len,<- k1];exact hz) ha
     |all _ y hy=>
       have:=RV.all (m:=m.add 2 (m.ι 1 0) s.size) 2 y (by rw [add_ι];exact hy);rw [add_len] at this;rw [k1];exact this
   · by_cases e:b=2
     · subst e;obtain ⟨_,e⟩:=add_ιs hb;exact .inl ⟨1,_,e⟩
     · rw [add_ι_ne _ _ _ e] at hb;exact .inl ⟨b,_,hb⟩
 · cases h4 with
   |all0 _ _ hlt hz ha=>
     have hq:q'= .nils:=ha.resolve_right h5;subst hq;have hs0:s.size=0:=by rw [<- k1];exact hz
     have hst1:s++t=t:=by
       have:s.data.toList=[]:=List.length_eq_zero_iff.1 (by rw [size_list];exact hs0);cases s;cases t;simp_all [ByteArray.ext_iff,ByteArray.data_append]
     have ha2:=ws_append hts (H:=H1) (q:= .nils) (t:=t) (xs:=[]) rfl (by simp;omega);rw [if_neg ht0] at ha2;have hnew:=hkill.new (y:= .byt (s++t)) (yv:= .cells (V.byteRows t) 1 (some (TB.uT,1))) (n:=t.size) ⟨by rw [hst1];exact add_len _ _ _ _,.inr ⟨_,add_ι _ _ _ _,by rw [hst1,vpush_get,if_neg (by omega),if_pos rfl],by rw [hst1];omega,by rw [hst1];omega⟩⟩;refine fin _ _ _ ha2 hnew.1 ?_ (by simp) rfl (hadd _ _) (by rw [vpush_get,if_pos (by rw [hl1];exact hxl)];exact hb1) hw1 hnew.2.1 (hgo1'.trans hnew.2.2 (by rw [htop];exact Nat.le_refl _));have:=RV.all (m:=m.add 2 (some H1.bl.length) t.size) 2 H1.bl.length (add_ι _ _ _ _);rw [add_len] at this;exact this
   |all _ y hy=>
     have k2':=k2;rcases k2' with ⟨_,k3⟩|⟨y',k3,k4,k5⟩
     · rw [hy] at k3;simp at k3
     · rw [hy] at k3;injection k3 with k3;subst k3
       have hbl:(V.byteRows s).length=s.size:=byteRows_len _;have hxs:V.rowsOf H1 (.sl y 0 (m.len 1 0))=some (V.byteRows s):=by
         unfold V.rowsOf;simp only;rw [k4];simp only;rw [if_pos (by rw [k1,hbl];omega),k1,List.drop_zero,List.take_of_length_le (by rw [hbl];exact Nat.le_refl _)]
       have ha2:=ws_append hts (t:=t) hxs (by rw [hbl];exact hn);rw [if_neg ht0] at ha2;simp only [wsRes] at ha2;have hwy:=hh1.wm 1 y hy (Nat.zero_le _);have hxy:y≠x:=fun e=>by subst e;exact absurd (hh1.inj 0 1 y ⟨_,rfl,rfl⟩ ⟨_,rfl,rfl⟩ h1 hy) (by simp)
       rw [if_pos ⟨hwy,by simp [V.szOf,k4]⟩,hbl] at ha2;have hty:V.tyOn (V.tyOf H1 y) TB.uT 0=some (TB.uT,1):=by simp [V.tyOf,k4,V.tyOn]
       rw [hty,<- byteRows_app] at ha2;have hoth:=hkill.other (x:=y) (fun b s' hb e=>by
         have:=hne0 hb;subst this;exact absurd (hh1.inj 0 1 y ⟨_,rfl,rfl⟩ ⟨_,rfl,rfl⟩ e hy) (by simp)) .dead
       have hvl:(V.setBl H1 y .dead).bl.length=H1.bl.length:=by simp [V.setBl]
       have hnew:=hoth.new (y:= .byt (s++t)) (yv:= .cells (V.byteRows (s++t)) 1 (some (TB.uT,1))) (n:=s.size+t.size) ⟨by rw [hst];exact add_len _ _ _ _,.inr ⟨_,add_ι _ _ _ _,by rw [vpush_get,if_neg (by omega),if_pos rfl],by rw [hst];omega,by rw [hst];omega⟩⟩;rw [hvl] at hnew;have g2:Go' 2 m H1 m (V.setBl H1 y .dead):=⟨by rw [<- htop];exact .refl (Nat.le_refl _),fun x' hx' hn'=>by rw [vset_get,if_neg (fun e=>hn' 1 0 (by rw [<- e];exact hy))],fun b' s' x' hb'=> .inl ⟨b',s',hb'⟩,by simp [V.setBl],rfl⟩;refine fin _ _ _ ha2 hnew.1 ?_ (by simp) rfl (hadd _ _) (by rw [vpush_get,if_pos (by rw [hvl,hl1];exact hxl),vset_get,if_neg hxy];exact hb1) hw1 hnew.2.1 ((hgo1'.trans g2 (Nat.le_refl _)).trans hnew.2.2 (by rw [htop];exact Nat.le_refl _));have:=RV.all (m:=m.add 2 (some H1.bl.length) (s.size+t.size)) 2 H1.bl.length (add_ι _ _ _ _);rw [add_len] at this;exact this
theorem ws_spec {k:Nat} {f:FuncId} {ts:Array TypeId} (hts:WsTy A ts) (hcall:WsCall A (k+1) f ts) {sp:Spec} (hsp:∀ X args H K out,sp X args H K=some out->∃ s t:ByteArray,args=[.ptr 0 0,.str t]/\H=⟨[.bld (.all 1),.byt s],0⟩/\s.size+t.size<=70368744177664/\
    K (.tup [.int .i64 t.size,.nili]) ⟨[.bld (.all 2),.dead,.byt (s++t)],0⟩=some out) (hf:∀ cs as H,V.call A (k+1) (.fn f cs) as H=V.call A (k+1) (.fn f []) (as++cs) H):SpecOK (V.call A (k+1)) f sp:=by
 intro X args H K out h;obtain ⟨s,t,rfl,rfl,hn,h'⟩:=hsp X args H K out h;refine ⟨_,_,h',rfl,fun m Hv as cs hh hl=> ?_⟩;obtain ⟨a1,l1,e1,q1,q2⟩:=hl.cons';obtain ⟨a2,l2,e2,q3,q4⟩:=q2.cons';have e3:l2=[]:=List.length_eq_zero_iff.1 q4.1;rw [hf,e1,e2,e3];obtain ⟨x,p,q',h1,h2,h3,h4,h5⟩:=hh.blk 0 _ rfl;obtain ⟨k1,k2⟩:=hh.blk 1 _ rfl;cases q1 with
 |ptr _ _ x' hx'=>
 cases q3;rw [h1] at hx';injection hx' with hx';subst hx'
 have hxl:=(hh.dom 0 x h1).2;have hwx:=hh.wm 0 x h1 (Nat.zero_le _);have hlive0:live ⟨[.bld (.all 1),.byt s],0⟩ 0:=⟨_,rfl,rfl⟩;have htop:m.top=2:=hh.len;have hst:(s++t).size=s.size+t.size:=by simp
 have hset1:=hh.set (y:= .bld (.all 1)) (yv:= .cells [[.ptr x 0 0,q']] 2 (some (TB.bT,2))) hlive0 h1 ⟨x,.ptr x 0 0,q',h1,by rw [vset_get,if_pos rfl,if_pos hxl],.inr rfl,h4,h5⟩;obtain ⟨hh1,hgo1⟩:=hset1;have hh1:RH m ⟨[.bld (.all 1),.byt s],0⟩ (V.setBl Hv x (.cells [[.ptr x 0 0,q']] 2 (some (TB.bT,2)))):=hh1;have hb1:(V.setBl Hv x (.cells [[.ptr x 0 0,q']] 2 (some (TB.bT,2)))).bl[x]?=some (.cells [[.ptr x 0 0,q']] 2 (some (TB.bT,2))):=by rw [vset_get,if_pos rfl,if_pos hxl]
 refine ws_core hts hn h1 h4 h5 k1 hxl htop hh1 (go2 htop hgo1) hb1 (by simp [V.setBl]) rfl ?_;have fin:∀ (v:V.AV) (H2:V.AH) (m2:Mp),V.append A (V.setBl Hv x (.cells [[.ptr x 0 0,q']] 2 (some (TB.bT,2)))) ts q' (.str t)=some (v,H2)->RH m2 ⟨[.bld (.all 1),.dead,.byt (s++t)],0⟩ H2->RV m2 (.all 2) v->v≠ .emp->v.isOne=true->m2.ι 0 0=some x->H2.bl[x]?=some (.cells [[.ptr x 0 0,q']] 2 (some (TB.bT,2)))->H2.wm=Hv.wm->
    m.Le m2->Go' 2 m Hv m2 H2->∃ r' Hv',V.call A (k+1) (.fn f []) [.ptr x 0 0,.str t] Hv=some (r',Hv')/\HGo m Hv (.tup [.int .i64 t.size,.nili]) ⟨[.bld (.all 2),.dead,.byt (s++t)],0⟩ r' Hv':=fun v H2 m2 ha hr hv hne hone hι hbx hwm2 hle hgo=>by
  have hx2:=(hr.dom 0 x hι).2;obtain ⟨r1,r2⟩:=hr.set (b:=0) (y:= .bld (.all 2)) (yv:= .cells [[.ptr x 0 0,v]] 2 (some (TB.bT,2))) ⟨_,rfl,rfl⟩ hι ⟨x,.ptr x 0 0,v,hι,by rw [vset_get,if_pos rfl,if_pos hx2],.inr rfl,hv,hne⟩;refine ⟨_,_,hcall Hv x p q' v t H2 h2 h3 hwx ha hbx hwm2 hone,m2,r1,.tup _ _ rfl (fun i y b hy hb=> ?_),hle,?_⟩
  · match i,hy,hb with
    |0,hy,hb=>simp at hy hb;subst hy;subst hb;exact .int _ _
    |1,hy,hb=>simp at hy hb;subst hy;subst hb;exact .nili
    |i+2,hy,_=>simp at hy
  · rw [htop];exact hgo.trans r2 (by have:=hr.len;simp at this;omega)
 exact fin
end
end Go.U
