/- What these Lean functions compute: plain arithmetic of congruences, the checks of a graph, the values of its registers. -/
import Derived.Test.YtjenflkegbmkkaaGreatDoorD6
import Derived.Test.YtjenflkegbmkkaaGreatDoorB4
set_option linter.unusedVariables false
set_option linter.unusedSimpArgs false
set_option linter.unusedSectionVars false
section
set_option maxRecDepth 20000
namespace Go.U
open Go
theorem nodup_len {α:Type} [DecidableEq α]:∀ (l L:List α),l.Nodup->(∀ x∈l,x∈L)->l.length<=L.length
 |[],L,_,_=>Nat.zero_le _
 |a::l,L,hn,hs=>by
  obtain ⟨h1,h2⟩:=List.nodup_cons.1 hn;have ha:=hs a List.mem_cons_self;have:=nodup_len l (L.erase a) h2 fun x hx=>(List.mem_erase_of_ne (fun e=>h1 (by rw [<- e];exact hx))).2 (hs x (List.mem_cons_of_mem _ hx))
  have h3:=List.length_erase_of_mem ha;have:0<L.length:=List.length_pos_of_mem ha;rw [List.length_cons];omega
theorem mem_sortA {l:List TAlarm} {e:TAlarm}:e∈sortA l↔e∈l:=(V.sortBy_perm ltA l).mem_iff
theorem nodup_sortA {l:List TAlarm} (h:l.Nodup):(sortA l).Nodup:=(V.sortBy_perm ltA l).nodup_iff.2 h
theorem mem_addE {l:List TAlarm} {e x:TAlarm}:x∈addE l e↔x∈l\/x=e:=by
 unfold addE;split
 · rename_i h;exact ⟨.inl,fun hh=>hh.elim id fun e=>e ▸ h⟩
 · simp
theorem nodup_addE {l:List TAlarm} {e:TAlarm} (h:l.Nodup):(addE l e).Nodup:=by
 unfold addE;split
 · exact h
 · rename_i hn;rw [List.nodup_append];exact ⟨h,by simp,fun a ha b hb=>by simp at hb;subst hb;exact fun e=>hn (e ▸ ha)⟩
theorem mem_foldE {x:TAlarm}:∀ {es l:List TAlarm},x∈es.foldl addE l↔x∈l\/x∈es
 |[],l=>by simp
 |e::es,l=>by rw [List.foldl_cons,mem_foldE,mem_addE,List.mem_cons];exact or_assoc
theorem nodup_foldE:∀ {es l:List TAlarm},l.Nodup->(es.foldl addE l).Nodup
 |[],l,h=>h
 |e::es,l,h=>by rw [List.foldl_cons];exact nodup_foldE (nodup_addE h)
def ErrIn (g:TGraph) (e:TAlarm):Prop:=∃ j,j<g.1.length/\e.1=(at' g j).2.2.2.2.2.1/\1<=e.2/\e.2<=5
structure Cov (g:TGraph) (c:TCover):Prop where
 p:c.1.length=g.1.length
 w:c.2.1.length=g.1.length
 nd:c.2.2.Nodup
 e:∀ x∈c.2.2,ErrIn g x
def errsOf (g:TGraph):List TAlarm:=(List.range g.1.length).flatMap fun j=>[((at' g j).2.2.2.2.2.1,1),((at' g j).2.2.2.2.2.1,2),((at' g j).2.2.2.2.2.1,3),((at' g j).2.2.2.2.2.1,4),((at' g j).2.2.2.2.2.1,5)]
theorem errsOf_len (g:TGraph):(errsOf g).length=g.1.length * 5:=by
 unfold errsOf;rw [List.length_flatMap];generalize g.1.length=n;induction n with
 |zero=>rfl
 |succ n ih=>rw [List.range_succ,List.map_append,List.sum_append,ih];simp;omega
theorem ErrIn.mem {g:TGraph} {e:TAlarm} (h:ErrIn g e):e∈errsOf g:=by
 obtain ⟨j,hj,h1,h2,h3⟩:=h;obtain ⟨a,b⟩:=e;simp only at h1 h2 h3;subst h1;refine List.mem_flatMap.2 ⟨j,List.mem_range.2 hj,?_⟩;obtain rfl|rfl|rfl|rfl|rfl:b=1\/b=2\/b=3\/b=4\/b=5:=by omega
 all_goals simp
theorem Cov.ok {g:TGraph} {D:List Int} (hF:FitG g D) {c:TCover} (h:Cov g c):CovOK g.1.length c:=⟨h.p,h.w,by
 have:=nodup_len _ _ h.nd fun x hx=>(h.e x hx).mem
 have:=errsOf_len g;have:=hF.N;omega⟩
theorem Cov.join {g:TGraph} {a b:TCover} (ha:Cov g a) (hb:Cov g b):Cov g (joinC a b):=⟨by simp [joinC,orB,ha.p,hb.p],by simp [joinC,orW,ha.w,hb.w],nodup_sortA (nodup_foldE ha.nd),fun x hx=>by
 rcases mem_foldE.1 (mem_sortA.1 hx) with h|h
 · exact ha.e x h
 · exact hb.e x h⟩
theorem none0_cov (g:TGraph):Cov g (none0 g):=⟨by simp [none0],by simp [none0],by simp [none0],fun x hx=>by simp [none0] at hx⟩
section
variable {g:TGraph} {D:List Int} {sc:List Int}
theorem run_end (hF:FitG g D) (hs:sc.length<=9223372036854775807) {fu:Int} (hfu:fu<=1000000):(ls g sc fu).en≠0/\Inv g sc (ls g sc fu)/\J1 g (ob1 g sc fu):=by
 obtain ⟨rk,hr,hI,hm⟩:=run_ok (sc:=sc) hF hfu;obtain ⟨_,w2,w3,w4⟩:=walk (S:=f25_l3.m (par1w g [] sc)) enc1 (fun t=>M.of t.2.2.2.2) (fun _ _=>rfl) (obs1 g) (J1 g) hF (fun o m h ha=>h.next ha.2) (fun o m hI hJ=>l3_step hF hs hI hJ []) hr hI (ob0_j hF) hm;exact ⟨w2,w3,w4⟩
theorem cov1_cov (hF:FitG g D) (hs:sc.length<=9223372036854775807) {fu:Int} (hfu:fu<=1000000):Cov g (cov1 g sc fu):=by
 obtain ⟨h1,h2,h3⟩:=run_end hF hs hfu;refine ⟨h3.pl,h3.wl,?_,fun x hx=> ?_⟩
 · unfold cov1;simp only;split<;>simp
 · unfold cov1 at hx;simp only at hx;split at hx
   · rename_i he;simp at hx;subst hx;exact h2.er he
   · simp at hx
def ofC (g:TGraph) (scs:List (List Int)) (fu:Int):TCover:=scs.foldl (fun c s=>joinC c (cov1 g s fu)) (none0 g)
def ShortL (l:List (List Int)):Prop:=l.length<=9223372036854775807/\∀ i,i<l.length->(gx l i []).length<=9223372036854775807
theorem foldC_cov (hF:FitG g D) {fu:Int} (hfu:fu<=1000000):∀ (l:List (List Int)) (c:TCover),(∀ s∈l,s.length<=9223372036854775807)->Cov g c->Cov g (l.foldl (fun c s=>joinC c (cov1 g s fu)) c)
 |[],c,_,h=>h
 |s::l,c,hl,h=>foldC_cov hF hfu l _ (fun x hx=>hl x (List.mem_cons_of_mem _ hx)) (h.join (cov1_cov hF (hl s List.mem_cons_self) hfu))
theorem ShortL.mem {l:List (List Int)} (h:ShortL l) {s:List Int} (hs:s∈l):s.length<=9223372036854775807:=by
 obtain ⟨i,hi⟩:=List.mem_iff_getElem?.1 hs;have:=h.2 i (getElem?_lt hi)
 rwa [gx_of hi] at this
theorem f12_eq (hF:FitG g D) {fu:Int} (hfu:fu<=1000000) {l:List (List Int)} (hl:ShortL l):f12_m (g,l,fu)=some (ofC g l fu):=by
 have hn:=hl.1;unfold f12_m f12_c;simp only;rw [f14_eq hF,Option.bind_some];have hc:∀ i,Cov g ((l.take i).foldl (fun c s=>joinC c (cov1 g s fu)) (none0 g)):=fun i=>foldC_cov hF hfu _ _ (fun s hs=>hl.mem (List.mem_of_mem_take hs)) (none0_cov g)
 have:=loop_run (step:=f12_l3.m (fu,l,nt l.length,g)) (n:=l.length) (fun i=>((i:Int),(l.take i).foldl (fun c s=>joinC c (cov1 g s fu)) (none0 g))) (ofC g l fu) (by omega) (fun t=>l.length-t.1.toNat) (fun i _=>by simp) (fun i hi=>by
  have h':(i:Int)<(l.length:Int):=by omega
  have w:wi64 ((i:Int)+1)=((i+1:Nat):Int):=by rw [wi64_of (by omega) (by omega)];rfl
  have h1:=f37_eq (g:=g) hF (hl.2 i hi) hfu;have h2:=f23_eq hF.N ((hc i).ok hF) ((cov1_cov hF (hl.2 i hi) hfu).ok hF);simp only [LD.m,f12_l3,nt,h',decide_true,cond_true,inR hi,ask_true,Int.toNat_natCast,w];rw [h1,Option.bind_some,h2,Option.bind_some,take_gx [] hi,List.foldl_append,List.foldl_cons,List.foldl_nil]) (by
  simp only [LD.m,f12_l3,nt,Int.lt_irrefl,decide_false,cond_false,List.take_length];rfl)
 have this':loopAll (f12_l3.m (fu,l,nt l.length,g)) (0,(none0 g).1,(none0 g).2.1,(none0 g).2.2)=some (ofC g l fu):=this;rw [this',Option.bind_some]
theorem f10_eq (fu:Int):∃ r,f10_m fu=some r/\r<=250:=by
 unfold f10_m f10_c;by_cases h:200<fu
 · have h1:=Int.tmod_lt_of_pos fu (show (0:Int)<50 by decide);have h2:=Int.tmod_nonneg 50 (show 0<=fu by omega);have d:¬ (50:Int)=0:=by decide
   refine ⟨wi64 (200+Int.tmod fu 50),?_,?_⟩
   · simp [h]
   · rw [wi64_of (by omega) (by omega)];omega
 · exact ⟨fu,by simp [h],by omega⟩
end
theorem zipF (P:List Bool):orB (List.replicate P.length false) P=P:=by
 induction P with
 |nil=>rfl
 |cons a l ih=>unfold orB at ih ⊢;rw [List.length_cons,List.replicate_succ,List.zipWith_cons_cons,ih,Bool.false_or]
theorem zipFW (P:List (Bool×Bool)):orW (List.replicate P.length (false,false)) P=P:=by
 induction P with
 |nil=>rfl
 |cons a l ih=>unfold orW at ih ⊢;rw [List.length_cons,List.replicate_succ,List.zipWith_cons_cons,ih];simp
theorem join_none {g:TGraph} {c:TCover} (h:Cov g c):joinC (none0 g) c=(c.1,c.2.1,sortA (c.2.2.foldl addE [])):=by
 unfold joinC none0;simp only;rw [<- h.p,zipF,h.p,<- h.w,zipFW]
theorem of_one {g:TGraph} {D:List Int} {sc:List Int} (hF:FitG g D) (hs:sc.length<=9223372036854775807) {fu:Int} (hfu:fu<=1000000):ofC g [sc] fu=cov1 g sc fu:=by
 show joinC (none0 g) (cov1 g sc fu)=_;rw [join_none (cov1_cov hF hs hfu)];unfold cov1;simp only;split<;>rfl
end Go.U
end
section
set_option maxRecDepth 20000
namespace Go.U
open Go
theorem awake:f9_m ()=some true:=by kernel_rfl
def hasW (W:List (Bool×Bool)) (i way:Int):Prop:=if way=0 then (gx W i.toNat (false,false)).1=true else (gx W i.toNat (false,false)).2=true
theorem mkw_has {W:List (Bool×Bool)} {i j way:Int} {v:Int} (hj:j.toNat<W.length) (h:hasW W i way):hasW (W.set j.toNat (mkw (gx W j.toNat (false,false)) v)) i way:=by
 unfold hasW mkw at *
 rw [gx_set hj];by_cases e:j.toNat=i.toNat
 · rw [if_pos e,e];by_cases hw:way=0<;>by_cases hv:v=0<;>simp_all
 · rw [if_neg e];exact h
theorem mkw_new {W:List (Bool×Bool)} {j v:Int} (hj:j.toNat<W.length):hasW (W.set j.toNat (mkw (gx W j.toNat (false,false)) v)) j v:=by
 unfold hasW mkw;rw [gx_set hj,if_pos rfl];by_cases hv:v=0<;>simp [hv]
section
variable {g:TGraph} {D:List Int} {sc:List Int}
theorem obs1_has {o:Ob1} {m:M} {i way:Int} (hJ:J1 g o) (h:hasW o.2.2.1 i way):hasW (obs1 g o m).2.2.1 i way:=by
 unfold obs1;simp only;by_cases hl:0<=o.1
 · rw [if_pos hl];exact mkw_has (by rw [hJ.wl];have:=hJ.la;omega) h
 · rw [if_neg hl];exact h
theorem step_way (hF:FitG g D) {m:M} (hI:Inv g sc m) (he:m.en=0) (hn:(step g sc m).en=0):(step g sc m).at_=if wayOf (at' g m.at_.toNat) m=0 then (at' g m.at_.toNat).2.2.2.2.2.2.1 else (at' g m.at_.toNat).2.2.2.2.2.2.2:=by
 obtain ⟨h0,h0'⟩:=hI.at0 he;obtain ⟨j,hj⟩:=Int.eq_ofNat_of_zero_le h0;have hjn:j<g.1.length:=by omega
 have hG:=hF.good j hjn;have hst:step g sc m=stepI g sc (at' g j) (m.to (nx0 (at' g j))):=by unfold Go.U.step;rw [hj];rfl
 rw [hj,Int.toNat_natCast];have k:=stepI_kp (g:=g) (sc:=sc) (x:=at' g j) (m:=m.to (nx0 (at' g j))) hI.ma hI.re hI.fu.1 he hG.op;rw [<- hst] at k;by_cases h15:(at' g j).1=15
 · have hs:step g sc m=if tst (at' g j).2.2.2.2.1 (m.rd (at' g j).2.2.1) (m.rd (at' g j).2.2.2.1)=true then m.to (nx0 (at' g j)) else { m.to (nx0 (at' g j)) with at_:=(at' g j).2.2.2.2.2.2.2 }:=by
     rw [hst];unfold stepI;simp [h15]
   rw [hs];unfold wayOf;cases tst (at' g j).2.2.2.2.1 (m.rd (at' g j).2.2.1) (m.rd (at' g j).2.2.2.1)<;>simp [h15]
 · have hw:wayOf (at' g j) m=0:=by unfold wayOf;rw [if_neg (fun h=>h15 h.1)]
   rw [hw,if_pos rfl];rcases k.pl hn with h|⟨h,_⟩
   · exact h
   · exact absurd h h15
theorem holds_run (hF:FitG g D):∀ (n:Nat) (m:M) (o1:Ob1) (o2:Ob2) (c:TCover),Inv g sc m->J1 g o1->o1.1=o2.2.1->o1.2.1=o2.1->o2.2.2=true->(0<=o1.1->m.en=0->m.at_=if o1.2.2.2=0 then (at' g o1.1.toNat).2.2.2.2.2.2.1 else (at' g o1.1.toNat).2.2.2.2.2.2.2)->
  (∀ i way,hasW ((trace g sc n m).foldl (obs1 g) o1).2.2.1 i way->hasW c.2.1 i way)->
  ((trace g sc n m).foldl (obs2 g c) o2)=(((trace g sc n m).foldl (obs1 g) o1).2.1,((trace g sc n m).foldl (obs1 g) o1).1,true)
 |0,m,o1,o2,c,hI,hJ,h1,h2,h3,h4,h5=>by
  simp only [trace,List.foldl_nil];obtain ⟨a,b,d⟩:=o2;simp only at h1 h2 h3;rw [h1,h2,h3]
 |n+1,m,o1,o2,c,hI,hJ,h1,h2,h3,h4,h5=>by
  by_cases he:m.en=0
  · have h0:=hI.at0 he;have hJ':=hJ.next (m:=m) h0.2
    simp only [trace,if_pos he,List.foldl_cons] at h5 ⊢;have mono:∀ (l:List M) (o:Ob1) (i way:Int),J1 g o->(∀ m∈l,m.at_<(g.1.length:Int))->hasW o.2.2.1 i way->hasW (l.foldl (obs1 g) o).2.2.1 i way:=by
      intro l;induction l with
      |nil=>intro o i way _ _ h;exact h
      |cons a l ih=>intro o i way hj ha h;exact ih _ _ _ (hj.next (ha a List.mem_cons_self)) (fun m hm=>ha m (List.mem_cons_of_mem _ hm)) (obs1_has hj h)
    have hin:∀ (n:Nat) (m:M),Inv g sc m->∀ m'∈trace g sc n m,m'.at_<(g.1.length:Int):=by
      intro n;induction n with
      |zero=>intro m _ m' hm;simp [trace] at hm
      |succ n ih=>
        intro m hI m' hm;by_cases he:m.en=0
        · simp only [trace,if_pos he,List.mem_cons] at hm;rcases hm with rfl|hm
          · exact (hI.at0 he).2
          · exact ih _ (hI.nxt hF he).1 m' hm
        · simp [trace,if_neg he] at hm
    have hI':=(hI.nxt hF he).1;refine holds_run hF n (step g sc m) (obs1 g o1 m) (obs2 g c o2 m) c hI' hJ' rfl (by simp only [obs1,obs2,h2]) ?_ (fun hl hn=> ?_) h5
    · unfold obs2;simp only [h3,Bool.true_and];split
      · rename_i hl;rw [<- h1] at hl;have hat:=h4 hl he;have hh:hasW (obs1 g o1 m).2.2.1 o1.1 o1.2.2.2:=by
          unfold obs1;simp only;rw [if_pos hl];exact mkw_new (by rw [hJ.wl];have:=hJ.la;omega)
        have hf:=h5 _ _ (mono _ _ _ _ hJ' (hin n _ hI') hh);unfold good2;rw [<- h1];unfold hasW at hf;by_cases hw:o1.2.2.2=0
        · rw [if_pos hw] at hf hat;rw [hf,<- hat];simp
        · rw [if_neg hw] at hf hat;rw [hf,<- hat];simp
      · rfl
    · exact step_way hF hI he hn
  · simp only [trace,if_neg he,List.foldl_nil];obtain ⟨a,b,d⟩:=o2;simp only at h1 h2 h3;rw [h1,h2,h3]
structure Cl (o:Ob1):Prop where
 w:∀ i,gx o.2.1 i false=false->gx o.2.2.1 i (false,false)=(false,false)
 l:0<=o.1->gx o.2.1 o.1.toNat false=true
theorem Cl.next {o:Ob1} {m:M} (hJ:J1 g o) (h:Cl o) (h0:0<=m.at_/\m.at_<(g.1.length:Int)):Cl (obs1 g o m):=by
 have hp:m.at_.toNat<o.2.1.length:=by rw [hJ.pl];omega
 refine ⟨fun i hi=> ?_,fun _=>by simp only [obs1];rw [gx_set hp,if_pos rfl]⟩;simp only [obs1] at hi ⊢;rw [gx_set hp] at hi;by_cases e:m.at_.toNat=i
 · rw [if_pos e] at hi;cases hi
 · rw [if_neg e] at hi;by_cases hl:0<=o.1
   · rw [if_pos hl,gx_set (by rw [hJ.wl];have:=hJ.la;omega)];by_cases e2:o.1.toNat=i
     · have:=h.l hl;rw [e2,hi] at this;cases this
     · rw [if_neg e2];exact h.w i hi
   · rw [if_neg hl];exact h.w i hi
theorem cl_run (hF:FitG g D):∀ (n:Nat) (m:M) (o:Ob1),Inv g sc m->J1 g o->Cl o->Cl ((trace g sc n m).foldl (obs1 g) o)
 |0,m,o,_,_,h=>h
 |n+1,m,o,hI,hJ,h=>by
  by_cases he:m.en=0
  · simp only [trace,if_pos he,List.foldl_cons];exact cl_run hF n _ _ (hI.nxt hF he).1 (hJ.next (hI.at0 he).2) (h.next hJ (hI.at0 he))
  · simp only [trace,if_neg he,List.foldl_nil];exact h
theorem gx_rep {α:Type} {n i:Nat} {d:α}:gx (List.replicate n d) i d=d:=by
 simp only [gx,List.getD_eq_getElem?_getD,List.getElem?_replicate];split<;>rfl
theorem ob0_cl (g:TGraph):Cl (ob0 g):=⟨fun i _=>by simp only [ob0];exact gx_rep,fun h=>by simp [ob0] at h⟩
theorem math7 (g:TGraph) (sc:List Int) (fu:Int) (hL:Lens g) (hs:sc.length<=9223372036854775807):f7_m (g,sc,fu)=some true:=by
 unfold f7_m f7_c;obtain ⟨r,hr,hfit⟩:=f8_eq hL;simp only;rw [hr,Option.bind_some];cases r
 · simp only [Bool.not_false,cond_true];rw [awake];rfl
 · obtain ⟨D,hF⟩:=hfit rfl;obtain ⟨f,hf,hfu⟩:=f10_eq fu;have hfu':f<=1000000:=by omega
   simp only [Bool.not_true,cond_false];rw [hf,Option.bind_some];have hsl:ShortL [sc]:=⟨by simp,fun i hi=>by simp at hi;subst hi;exact hs⟩;rw [f12_eq hF hfu' hsl,Option.bind_some,of_one hF hs hfu'];obtain ⟨q1,q2,q3⟩:=run_end hF hs hfu';have hN:=hF.N;have hC:=cov1_cov hF hs hfu';have hp:=hC.p;have hw:=hC.w;simp only [nt,hp,hw,decide_true,Bool.not_true,cond_false];refine (ask_eq (b:=decide (0<=(g.1.length:Int))&&decide ((g.1.length:Int)<=(g.1.length:Int))&&decide (1 * (g.1.length:Int)<=70368744177664)&&decide ((g.1.length:Int)<9223372036854775808)) (by simp;omega)).trans ?_;rw [Int.toNat_natCast];have hJ2:J2 g (cov1 g sc f) (List.replicate g.1.length false,-1,true):=⟨by simp,hw,by simp only;omega⟩;have e25:=f25v1_eq hF hs hfu' (cov1 g sc f) (List.replicate g.1.length false,-1,true) hJ2;have hrun:=holds_run hF big (m0 g f) (ob0 g) (List.replicate g.1.length false,-1,true) (cov1 g sc f) (m0_inv hF sc hfu') (ob0_j hF) rfl rfl rfl (fun h=>by simp [ob0] at h) (fun i way h=>h);have hrun':(tr g sc f).foldl (obs2 g (cov1 g sc f)) (List.replicate g.1.length false,-1,true)=((ob1 g sc f).2.1,(ob1 g sc f).1,true):=hrun;rw [hrun'] at e25;simp only at e25;rw [e25,Option.bind_some];have hcl:=cl_run hF big (m0 g f) (ob0 g) (m0_inv hF sc hfu') (ob0_j hF) (ob0_cl g);have hcl':Cl (ob1 g sc f):=hcl;obtain ⟨e,l1,l2⟩:=each_tot2 (n:=g.1.length) (step:=f7_l12.m ((ls g sc f).en,(ls g sc f).si,(ls g sc f).ki,(ls g sc f).ti,(ls g sc f).re,(ls g sc f).rg.take (scs g).length,cov1 g sc f,(ob1 g sc f).2.1,(true,((ls g sc f).ar,(ls g sc f).ma)))) (by omega) (fun _=>True) (fun e=>e= .inr ()) trivial (fun i hi _=>by
     have hpl:(ob1 g sc f).2.1.length=g.1.length:=q3.pl;have hwl:(ob1 g sc f).2.2.1.length=g.1.length:=q3.wl;have i1:i<(ob1 g sc f).2.1.length:=by omega
     have i2:i<(ob1 g sc f).2.2.1.length:=by omega
     have h':(i:Int)<(g.1.length:Int):=by omega
     simp only [LD.m,f7_l12,nt,hpl,h',decide_true,cond_true,inR hi,ask_true,Int.toNat_natCast,cov1];simp only [hwl,inR hi,ask_true,BEq.rfl,Bool.not_true,cond_false];cases hc:gx (ob1 g sc f).2.1 i false
     · simp only [Bool.not_false,cond_true,hcl'.w i hc,cond_false];exact gd_ki trivial
     · simp only [Bool.not_true,cond_false];exact gd_ki trivial) (fun _=>by
     have hpl:(ob1 g sc f).2.1.length=g.1.length:=q3.pl;simp only [LD.m,f7_l12,nt,hpl,Int.lt_irrefl,decide_false,cond_false];exact ⟨_,rfl,rfl⟩)
   subst l2;rw [l1,Option.bind_some];simp only [Sum.elim_inr];by_cases hen:(ls g sc f).en=1
   · simp only [hen,decide_true,Bool.not_true,cond_false,cond_true,cov1,if_true,List.length_singleton];have b:V.inRange 0 1=true:=rfl;simp only [b,ask_true];have hg:gx [((ls g sc f).si,(ls g sc f).ki)] 0 dAlarm=((ls g sc f).si,(ls g sc f).ki):=rfl;simp only [hg,decide_true,Bool.and_true,cond_true];rw [awake];rfl
   · simp only [hen,decide_false,Bool.not_false,cond_true,cov1,if_false,List.length_nil];rw [awake];rfl
end
end Go.U
end
section
set_option maxRecDepth 20000
namespace Go.U
open Go
theorem okI64 {S:Nat} {n:Int} (h:okC S (.int .i64) n): -9223372036854775808<=n/\n<=9223372036854775807:=by
 have e1:IntKind.i64.min= -9223372036854775808:=by decide
 have e2:IntKind.i64.max=9223372036854775807:=by decide
 obtain ⟨h1,h2⟩:=h;rw [e1] at h1;rw [e2] at h2;exact ⟨h1,h2⟩
theorem maxLen_eq:maxLen=9223372036854775807:=by decide
theorem mem_at {g:TGraph} {j:Nat} (h:j<g.1.length):at' g j∈g.1:=List.mem_of_getElem? (gx_lt (d:=dInstr) h)
theorem lens_of {S:Nat} (hS:S<=maxLen) {g:TGraph} (h:okC S cGraph g):Lens g:=by
 obtain ⟨⟨⟨hi,_⟩,hi2⟩,_,_,_,⟨⟨ha,_⟩,ha2⟩,⟨⟨hs,_⟩,_⟩,⟨⟨hn,_⟩,_⟩,⟨hl,_⟩,_⟩:=h;rw [maxLen_eq] at hS;have hi:=Nat.le_trans hi hS;have ha:=Nat.le_trans ha hS;have hs:=Nat.le_trans hs hS;have hn:=Nat.le_trans hn hS;have hl:=Nat.le_trans hl hS;refine ⟨hi,hs,ha,hn,hl,fun j hj=> ?_⟩;obtain ⟨_,h2,_⟩:=hi2 _ (mem_at hj);exact okI64 h2
theorem len_of {S:Nat} (hS:S<=maxLen) {l:List Int} (h:okC S (.slice (.int .i64)) l):l.length<=9223372036854775807:=by
 rw [maxLen_eq] at hS;exact Nat.le_trans h.1.1 hS
theorem law7 (g:TGraph) (sc:List Int) (fu:Int) (h0:okC maxLen cGraph g) (h1:okC maxLen (.slice (.int .i64)) sc) (h2:okC maxLen (.int .i64) fu):f7_m (g,sc,fu)=some true:=
 math7 g sc fu (lens_of (Nat.le_refl _) h0) (len_of (Nat.le_refl _) h1)
end Go.U
end
