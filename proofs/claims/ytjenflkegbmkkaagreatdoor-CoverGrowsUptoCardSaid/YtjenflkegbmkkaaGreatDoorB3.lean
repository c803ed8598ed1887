/- A second evaluator, over rows of Lean values, and that it is right over the first. -/
import Derived.Test.YtjenflkegbmkkaaGreatDoorB2
import Derived.KernelRfl
set_option linter.unusedVariables false
set_option linter.unusedSimpArgs false
set_option linter.unusedSectionVars false
namespace Go.U
open Go
variable [TB:Tbl]
theorem pos_some:∀ {l:List Nat} {b i k:Nat},pos b l i=some k->∃ j,k=i+j/\l[j]?=some b
 |[],b,i,k,h=>by simp [pos] at h
 |x::l,b,i,k,h=>by
  simp only [pos] at h;split at h
  · rename_i e;simp at h;subst h;subst e;exact ⟨0,rfl,rfl⟩
  · obtain ⟨j,h1,h2⟩:=pos_some h;exact ⟨j+1,by omega,by simpa using h2⟩
theorem pos0 {l:List Nat} {b k:Nat} (h:pos b l 0=some k):l[k]?=some b:=by
 obtain ⟨j,h1,h2⟩:=pos_some h;have:k=j:=by omega
 subst this;exact h2
theorem pos_mem:∀ {l:List Nat} {b i:Nat},b∈l->∃ k,pos b l i=some k
 |[],b,i,h=>by simp at h
 |x::l,b,i,h=>by
  simp only [pos];split
  · exact ⟨i,rfl⟩
  · rename_i e;rcases List.mem_cons.1 h with rfl|h
    · exact (e rfl).elim
    · exact pos_mem h
theorem reach_nodup {H:UH}:∀ {d:Nat} {w seen:List Nat},seen.Nodup->(reach H d w seen).Nodup
 |0,w,seen,h=>by simpa [reach] using h
 |d+1,[],seen,h=>by simpa [reach] using h
 |d+1,b::w,seen,h=>by
  simp only [reach];split
  · exact reach_nodup h
  · rename_i hb;refine reach_nodup (List.nodup_append.2 ⟨h,by simp,fun x hx y hy=> ?_⟩);simp at hy;subst hy
    rintro rfl
    exact hb (by simpa using hx)
theorem locsOf_nodup:∀ {e:List (Nat×US)} {l:List Nat},l.Nodup->(locsOf e l).Nodup
 |[],l,h=>h
 |(_,.loc i _)::e,l,h=>by
  simp only [locsOf];refine locsOf_nodup ?_;split
  · exact h
  · rename_i hb;refine List.nodup_append.2 ⟨h,by simp,fun x hx y hy=> ?_⟩;simp at hy;subst hy
    rintro rfl
    exact hb (by simpa using hx)
 |(_,.v _)::e,l,h=>by simpa [locsOf] using locsOf_nodup h
theorem locsOf_mem:∀ {e:List (Nat×US)} {l:List Nat} {i:Nat},i∈locsOf e l->i∈l\/∃ t c,(t,US.loc i c)∈e
 |[],l,i,h=> .inl h
 |(t,.loc j c)::e,l,i,h=>by
  simp only [locsOf] at h;rcases locsOf_mem h with h|⟨t',c',h⟩
  · split at h
    · exact .inl h
    · rcases List.mem_append.1 h with h|h
      · exact .inl h
      · simp at h;subst h;exact .inr ⟨t,c,List.mem_cons_self ..⟩
  · exact .inr ⟨t',c',List.mem_cons_of_mem _ h⟩
 |(t,.v _)::e,l,i,h=>by
  simp only [locsOf] at h;rcases locsOf_mem h with h|⟨t',c',h⟩
  · exact .inl h
  · exact .inr ⟨t',c',List.mem_cons_of_mem _ h⟩
theorem nodup_get {l:List Nat} (h:l.Nodup) {i j x:Nat} (hi:l[i]?=some x) (hj:l[j]?=some x):i=j:=by
 have h1:=getElem?_lt hi;have h2:=getElem?_lt hj;rw [List.getElem?_eq_getElem h1] at hi;rw [List.getElem?_eq_getElem h2] at hj;simp at hi hj;exact (List.getElem_inj h).1 (by rw [hi,hj])
section
variable {m m':Mp} {Hv:V.AH} {φ:Nat->Option Nat}
def Ren (m m':Mp) (φ:Nat->Option Nat):Prop:=∀ b b',φ b=some b'->m'.ι b'=m.ι b/\m'.len b'=m.len b/\b'<m'.top
theorem RL.ren (h:Ren m m' φ) (d:Nat) {xs:List UV} {as:List V.AV} (hx:RL m xs as):RL m' (xs.map (U.ren φ d)) as:=
 ⟨by simp [hx.1],fun i x a h1 h2=>by
  rw [List.getElem?_map,Option.map_eq_some_iff] at h1;obtain ⟨y,hy,rfl⟩:=h1;exact RV.ren h d (hx.2 i y a hy h2)⟩
theorem get_map (g:UV->UV) (hg:g .junk= .junk):∀ (l:List (Nat×UV)) (t:Nat),get ((l.map fun p=>(p.1,g p.2)).map fun p=>(p.1,US.v p.2)) t=match get (l.map fun p=>(p.1,US.v p.2)) t with| .v y=> .v (g y)|x=>x
 |[],t=>by simp [get,hg]
 |(i,x)::l,t=>by
  simp only [List.map_cons,get];split
  · rfl
  · exact get_map g hg l t
theorem MR.free {k:KT} (m':Mp):∀ {es:List (KeyT k×UV)} {es':List (V.AV×V.AV)},MR k m es es'->MR k m' es es'
 |[],[],_=>trivial
 |(_,_)::_,(_,_)::_,h=>⟨h.1,h.2.1.freeR m' 8 h.2.2.1,h.2.2.1,h.2.2.2.free m'⟩
 |[],_::_,h=>h.elim
 |_::_,[],h=>h.elim
theorem RB.ren (h:Ren m m' φ) {b b':Nat} {y:UB} (hy:RB m Hv b y) (hι:m'.ι b'=m.ι b) (hl:m'.len b'=m.len b):RB m' Hv b' (renB φ y):=by
 cases y with
 |dead=>trivial
 |opn row=>
  obtain ⟨x,row',ty,h1,h2,h3⟩:=hy;exact ⟨x,row',ty,by rw [hι];exact h1,h2,h3.ren h 8⟩
 |bld q=>
  obtain ⟨x,p,q',h1,h2,h3,h4,h5⟩:=hy;exact ⟨x,p,q',by rw [hι];exact h1,h2,h3,RV.ren h 8 h4,h5⟩
 |byt s=>
  obtain ⟨h1,h2⟩:=hy;refine ⟨by rw [hl];exact h1,?_⟩;rcases h2 with ⟨h2,h3⟩|⟨x,h2,h3,h4⟩
  · exact .inl ⟨h2,by rw [hι];exact h3⟩
  · exact .inr ⟨x,by rw [hι];exact h2,h3,h4⟩
 |cells c l=>
  obtain ⟨h1,h2⟩:=hy;refine ⟨by rw [hl];exact h1,?_⟩;rcases h2 with ⟨h2,h3⟩|⟨x,rows,ty,h2,h3,h4,h5,h6,h7⟩
  · exact .inl ⟨h2,by rw [hι];exact h3⟩
  · exact .inr ⟨x,rows,ty,by rw [hι];exact h2,h3,h4,h5,h6,fun i row c y a k0 k1 k2 k3=>(h7 i row c y a k0 k1 k2 k3).free m' 8 ((h5 i k0).2 y (List.mem_of_getElem? k2))⟩
 |deep c l=>
  obtain ⟨h1,h0,h2⟩:=hy;refine ⟨by rw [hl];exact h1,fun r=>by rw [hl,hι];exact h0 r,?_⟩;rcases h2 with ⟨h2,h3⟩|⟨x,rows,ty,h2,h3,h4,h5⟩
  · exact .inl ⟨h2,by rw [hι];exact h3⟩
  · refine .inr ⟨x,rows,ty,by rw [hι];exact h2,h3,h4,fun r hr=> ?_⟩;obtain ⟨a,k1,k2⟩:=h5 r hr;rw [hι];exact ⟨a,k1,k2.keep (fun _ _ hc h=>h.free m' 8 hc) fun _ _=>rfl⟩
 |mapL k es=>
  obtain ⟨x,es',h1,h2,h3⟩:=hy;exact ⟨x,es',by rw [hι];exact h1,h2,h3.free m'⟩
 |mapT k g c l=>
  obtain ⟨x,es',h1,h2,h3⟩:=hy;exact ⟨x,es',by rw [hι];exact h1,h2,h3.free m'⟩
 |loop id env st pe=>
  obtain ⟨x,env',h1,h2,h3⟩:=hy;refine ⟨x,env',by rw [hι];exact h1,h2,fun t=> ?_⟩;have h4:=h3 t;unfold envIn at h4 ⊢;rw [get_map (U.ren φ 8) rfl env t]
  revert h4
  cases get (env.map fun p=>(p.1,US.v p.2)) t with
  |loc i c=>exact fun h=>h.elim
  |v y=>
    cases V.get (V.envIn env') t with
    |loc i c=>exact fun h=>h.elim
    |v a=>exact fun hr=>RV.ren h 8 hr
theorem liveB_ren (φ:Nat->Option Nat) (y:UB):liveB (renB φ y)=liveB y:=by cases y<;>rfl
theorem get_keep (g:Nat->US):∀ (keep:List Nat) (t:Nat),get (keep.map fun i=>(i,g i)) t=if t∈keep then g t else .v .junk
 |[],t=>by simp [get]
 |i::l,t=>by
  simp only [List.map_cons,get,get_keep g l t];by_cases e:t=i
  · subst e;simp
  · simp [e]
def Alike (n:Nat) (sv sv':V.S):Prop:=sv'.H=sv.H/\sv'.F=sv.F/\∀ t,t<n->V.get sv'.e t=V.get sv.e t
theorem Alike.refl (n:Nat) (sv:V.S):Alike n sv sv:=⟨rfl,rfl,fun _ _=>rfl⟩
theorem vget_keep (g:Nat->V.SV):∀ (keep:List Nat) (t:Nat),V.get (keep.map fun i=>(i,g i)) t=if t∈keep then g t else .v .junk
 |[],t=>by simp [V.get]
 |i::l,t=>by
  simp only [List.map_cons,V.get,vget_keep g l t];by_cases e:t=i
  · subst e;simp
  · simp [e]
theorem Alike.clean (n:Nat) (sv:V.S):Alike n sv (V.clean (List.range n) sv):=⟨rfl,rfl,fun t ht=>by
 simp only [V.clean];rw [vget_keep,if_pos (by simpa using ht)]⟩
theorem RS.ren {ψ χ:Nat->Option Nat} {φ':Nat->Option Nat} (h:Ren m m' χ) (hp:∀ i i' j,ψ i=some i'->φ i=some j->φ' i'=some j) {x:US} {a:V.SV} (hx:RS m φ x a):RS m' φ' (renS χ ψ x) a:=by
 cases x with
 |v y=>
  by_cases hy:y= .junk
  · subst hy;exact trivial
  · obtain ⟨a,rfl,hr⟩:=hx.val hy;exact (RV.ren h 8 hr).rs
 |loc i c=>
  cases a with
  |v a=>exact hx.elim
  |loc j c'=>
    simp only [renS];split
    · rename_i i' hi;exact ⟨hp i i' j hi hx.1,hx.2⟩
    · exact trivial
theorem compact_sim {n:Nat} {keep:List Nat} {s:St} {sv sv':V.S} (hk:∀ t∈keep,t<n) (hs:Rst m φ s sv) (hw:s.H.wm<=s.base) (ha:Alike n sv sv'):
   ∃ m' φ',Rst m' φ' (compact keep s) sv'/\Go' s.base m sv.H m' sv.H:=by
 obtain ⟨a1,a2,a3⟩:=ha
 let e:=keep.map fun i=>(i,get s.e i)
 let fs:=locsOf e []
 let rows:=fs.map fun i=>s.F.getD i []
 let bs:=List.range s.base++(reach s.H 64 (List.range s.base++(e.flatMap fun p=>idsS p.2)++rows.flatMap fun row=>row.flatMap (ids 8)) []).filter (fun b=>decide (s.base<=b))
 let χ:=fun b=>pos b bs 0
 let ψ:=fun i=>pos i fs 0
 have hbs:bs.Nodup:=by
   refine List.nodup_append.2 ⟨List.nodup_range,(reach_nodup List.nodup_nil).filter _,fun x hx y hy=> ?_⟩;simp at hx hy;omega
 have hfs:fs.Nodup:=locsOf_nodup List.nodup_nil
 let m':Mp:={ ι:=fun b s=>(bs[b]?).bind fun c=>m.ι c s,len:=fun b=>m.len (bs.getD b 0),top:=bs.length }
 let φ':Nat->Option Nat:=fun i=>(fs[i]?).bind φ
 have hren:Ren m m' χ:=fun b b' hb=>by
   have:=pos0 hb;exact ⟨by simp [m',this],by simp [m',this],getElem?_lt this⟩
 have hfsφ:∀ i,i∈fs->∃ j,φ i=some j:=fun i hi=>by
   rcases locsOf_mem hi with h|⟨t,c,h⟩
   · simp at h
   · obtain ⟨i',hi',he⟩:=List.mem_map.1 h;simp only [Prod.mk.injEq] at he;have:=hs.e t;rw [he.1] at he;rw [he.2] at this;cases hv:V.get sv.e t with
     |v a=>rw [hv] at this;exact this.elim
     |loc j c'=>rw [hv] at this;exact ⟨j,this.1⟩
 have hblk:∀ b' y,(bs.map fun b=>renB χ (s.H.bl.getD b .dead))[b']?=some y->∃ b,bs[b']?=some b/\y=renB χ (s.H.bl.getD b .dead):=fun b' y hy=>by
   rw [List.getElem?_map,Option.map_eq_some_iff] at hy;obtain ⟨b,h1,h2⟩:=hy;exact ⟨b,h1,h2.symm⟩
 have hlive:∀ b',live (compact keep s).H b'->∃ b,bs[b']?=some b/\live s.H b:=fun b' ⟨y,hy,hl⟩=>by
   obtain ⟨b,h1,rfl⟩:=hblk b' y hy;rw [liveB_ren] at hl;refine ⟨b,h1,?_⟩;rw [List.getD_eq_getElem?_getD] at hl;cases h2:s.H.bl[b]? with
   |none=>rw [h2] at hl;simp [liveB] at hl
   |some y=>rw [h2] at hl;exact ⟨y,h2,hl⟩
 have hbl:(compact keep s).H.bl=bs.map fun b=>renB χ (s.H.bl.getD b .dead):=rfl
 have hlen:(compact keep s).H.bl.length=bs.length:=by rw [hbl,List.length_map]
 have hF:(compact keep s).F=fs.map fun i=>(s.F.getD i []).map (ren χ 8):=List.map_map
 have hrange:∀ b,b<s.base->bs[b]?=some b:=fun b hb=>by
   simp only [bs];rw [List.getElem?_append_left (by simpa using hb)];simp [hb]
 refine ⟨m',φ',⟨⟨fun b _ x hb=> ?_,fun b' y hy=> ?_,fun b1 b2 _ _ x l1 l2 e1 e2=> ?_,fun b _ x hb hwb=> ?_,by rw [a1];exact hs.h.top,by rw [hlen]⟩,⟨fun i j hij=> ?_,fun i row hi=> ?_,fun i i' j h1 h2=> ?_⟩,fun t=> ?_,?_⟩,⟨⟨?_,fun b hb=> ?_⟩,fun _ _ _=>rfl,fun b s0 x hb=> ?_,Nat.le_refl _,rfl⟩⟩
 · simp only [m',Option.bind_eq_some_iff] at hb;obtain ⟨b0,h1,h2⟩:=hb;have:=(hs.h.dom b0 x h2).2;have h3:=getElem?_lt h1;refine ⟨by rw [hlen];exact h3,by rw [a1];exact this⟩
 · obtain ⟨b,h1,rfl⟩:=hblk b' y hy;have hι:m'.ι b'=m.ι b:=by simp [m',h1]
   have hl:m'.len b'=m.len b:=by simp [m',h1]
   rw [List.getD_eq_getElem?_getD];cases h2:s.H.bl[b]? with
   |none=>trivial
   |some y=>exact RB.ren hren ((hs.h.blk b y h2).bl (by rw [a1])) hι hl
 · obtain ⟨c1,h1,h2⟩:=hlive b1 l1;obtain ⟨c2,h3,h4⟩:=hlive b2 l2;simp only [m',h1,Option.bind_some] at e1;simp only [m',h3,Option.bind_some] at e2;obtain ⟨this,h5⟩:=hs.h.inj' c1 c2 x h2 h4 e1 e2;subst this;exact ⟨nodup_get hbs h1 h3,h5⟩
 · simp only [m',Option.bind_eq_some_iff] at hb;obtain ⟨b0,h1,h2⟩:=hb;rw [a1];refine hs.h.wm b0 x h2 ?_;have hwb':s.H.wm<=b:=hwb;rcases Nat.lt_or_ge b s.base with hlt|hge
   · rw [hrange b hlt] at h1;simp at h1;subst h1;exact hwb'
   · simp only [bs] at h1;rw [List.getElem?_append_right (by simpa using hge)] at h1;have:=List.mem_of_getElem? h1;simp at this;omega
 · simp only [φ',Option.bind_eq_some_iff] at hij;obtain ⟨i0,h1,h2⟩:=hij;have:=(hs.f.dom i0 j h2).2;have h3:=getElem?_lt h1;refine ⟨?_,by rw [a2];exact this⟩;have:(compact keep s).F=fs.map fun i=>(s.F.getD i []).map (ren χ 8):=hF
   rw [this,List.length_map];exact h3
 · have hi':(fs.map fun i=>(s.F.getD i []).map (ren χ 8))[i]?=some row:=by
     rw [hF] at hi;exact hi
   rw [List.getElem?_map,Option.map_eq_some_iff] at hi';obtain ⟨i0,h1,h2⟩:=hi';obtain ⟨j,hj⟩:=hfsφ i0 (List.mem_of_getElem? h1);have hlt:=(hs.f.dom i0 j hj).1;have hr0:=List.getElem?_eq_getElem hlt;obtain ⟨j',row',k1,k2,k3⟩:=hs.f.row i0 _ hr0;rw [hj] at k1;simp at k1;subst k1;refine ⟨j,row',by simp [φ',h1,hj],by rw [a2];exact k2,?_⟩;rw [<- h2,List.getD_eq_getElem?_getD,hr0];exact k3.ren hren 8
 · simp only [φ',Option.bind_eq_some_iff] at h1 h2;obtain ⟨i0,k1,k2⟩:=h1;obtain ⟨i1,k3,k4⟩:=h2;have:=hs.f.inj i0 i1 j k2 k4;subst this;exact nodup_get hfs k1 k3
 · have he:get (compact keep s).e t=if t∈keep then renS χ ψ (get s.e t) else .v .junk:=by
     have:(compact keep s).e=keep.map fun i=>(i,renS χ ψ (get s.e i)):=List.map_map
     rw [this];exact get_keep _ keep t
   rw [he];split
   · rename_i ht;rw [a3 t (hk t ht)];refine RS.ren hren (fun i i' j h1 h2=> ?_) (hs.e t);have:=pos0 h1;simp [φ',this,h2]
   · exact trivial
 · rw [hlen];show s.base<=bs.length;simp [bs]
 · simp [m',bs]
 · have:=hrange b hb;exact ⟨by simp [m',this],by simp [m',this]⟩
 · simp only [m',Option.bind_eq_some_iff] at hb;obtain ⟨b0,h1,h2⟩:=hb;exact .inl ⟨b0,s0,h2⟩
end
end Go.U
namespace Go.U
open Go
variable [TB:Tbl] {rf:Bool}
section
variable {φ:Nat->Option Nat} {Hv:V.AH}
theorem molds_sim {f:Sh->UV->UH->Option (UV×UH)} (hf:∀ sh x H x' H',f sh x H=some (x',H')->∀ m,RH m H Hv->Mo m H H' Hv fun m'=>∀ a,RV m x a->RV m' x' a):
  ∀ {shs:List Sh} {xs:List UV} {H:UH} {l:List UV} {H':UH},mold.molds f shs xs H=some (l,H')->∀ m,RH m H Hv->Mo m H H' Hv fun m'=>∀ as,RL m xs as->RL m' l as
 |[],[],H,l,H',h,m,hh=>by
  simp [mold.molds] at h;obtain ⟨rfl,rfl⟩:=h;exact .same hh fun as h=>h
 |s::ss,x::xs,H,l,H',h,m,hh=>by
  simp only [mold.molds,Option.bind_eq_some_iff] at h;obtain ⟨⟨x',H1⟩,h1,⟨xs',H2⟩,h2,h⟩:=h;simp at h;obtain ⟨rfl,rfl⟩:=h;refine (hf _ _ _ _ _ h1 m hh).trans fun m1 hh1 hle hp=>(molds_sim hf h2 m1 hh1).imp fun m2 hle2 hq as ha=> ?_
  cases as with
  |nil=>have:=ha.1;simp at this
  |cons a as=>
   have h0:=(hp a (ha.2 0 x a rfl rfl)).mono hle2;have hr:RL m xs as:=⟨by have:=ha.1;simpa using this,fun i y b k1 k2=>ha.2 (i+1) y b (by simpa using k1) (by simpa using k2)⟩;exact .cons h0 (hq as (hr.mono hle))
 |[],_::_,H,l,H',h,m,hh=>by simp [mold.molds] at h
 |_::_,[],H,l,H',h,m,hh=>by simp [mold.molds] at h
theorem decM_sim {m:Mp} {k:KT} {g:Bool} {c:CT}:∀ {es:List (KeyT k×UV)} {l:List (KeyT k×CellT c)} {es':List (V.AV×V.AV)},decM g c es=some l->MR k m es es'->MR k m (mapEs g c l) es'
 |[],l,es',h,hm=>by simp [decM] at h;subst h;exact hm
 |(i,x)::es,l,es',h,hm=>by
  simp only [decM,Option.bind_eq_some_iff] at h;obtain ⟨y,hy,l',hl,h⟩:=h;simp at h;subst h;cases es' with
  |nil=>exact hm.elim
  |cons p es'=>
   obtain ⟨h1,h2,h3,h4⟩:=hm;obtain ⟨d1,d2⟩:=decV_sim hy;exact ⟨h1,d2 m _ h2,d1,decM_sim hl h4⟩
theorem mold_deep {m:Mp} {H:UH} (hh:RH m H Hv) (c:CT):Mo m H (push H (.deep c [])) Hv fun m'=>∀ a,a= .nils\/a= .emp->RV m' (.all H.bl.length) a:=by
 have hp:=hh.push (Hv':=Hv) (y:= .deep c []) (x:=none) (n:=0) (fun _ _ _ _ _=>rfl) (Nat.le_refl _) rfl (fun xv e=>by simp at e) ⟨add_len _ _ _ _,fun r=>⟨by rw [Mp.add,addF_len];rfl,fun _=>by rw [Mp.add,addF_ι];rfl⟩,.inl ⟨rfl,add_ι _ _ _ _⟩⟩;refine ⟨rfl,_,hp.1,hp.2,⟨add_old hh _ _,fun _ _ _=>rfl,fun b _ xv hb=> ?_,Nat.le_refl _,rfl⟩,fun a h=> .all0 _ _ (by simp [Mp.add,Mp.addF]) (add_len _ _ _ _) h⟩;by_cases e:b=H.bl.length
 · subst e;obtain ⟨_,e⟩:=add_ιs hb;simp at e
 · rw [add_ι_ne _ _ _ e] at hb;exact .inl ⟨b,_,hb⟩
theorem mold_cut {m:Mp} {H:UH} (hh:RH m H Hv) (c:CT):Mo m H (push H (.cells c [])) Hv fun m'=>∀ a,a= .nils\/a= .emp->RV m' (.sl H.bl.length 0 0) a:=
 (mold_own hh c).imp fun _ _ _ a h=> .sl0 _ _ _ h
theorem mold_whole {m:Mp} {H H':UH} {b n:Nat} {c:CT} {x':UV} (h:(match H.bl[b]? with
   |some (.cells c' l)=>if c'=c/\H.wm<=b then some (UV.all H.bl.length,push (setBl H b .dead) (.cells c' (l.take n))) else none
   |_=>none)=some (x',H')) (hh:RH m H Hv):Mo m H H' Hv fun m'=>∀ a,RV m (.sl b 0 n) a->RV m' x' a:=by
 split at h
 case h_2=>simp at h
 rename_i c' l hb;split at h
 case isFalse=>simp at h
 rename_i hc;simp at h;obtain ⟨rfl,rfl⟩:=h;have hlive:live H b:=⟨_,hb,rfl⟩;have hk:=hh.kill b;have hlen:(setBl H b .dead).bl.length=H.bl.length:=by simp [setBl]
 have hnl:∀ {b'},live (setBl H b .dead) b'->b'≠b/\live H b':=fun h=>by
   rcases live_set h with ⟨_,h'⟩|h'
   · simp [liveB] at h'
   · exact h'
 obtain ⟨kb,kx⟩:=cells_block (s:=⟨[],[],H,0⟩) (sv:=⟨[],[],Hv⟩) hh hb;have hrb:RB (m.add (setBl H b .dead).bl.length (m.ι b 0) (l.take n).length) Hv (setBl H b .dead).bl.length (.cells c' (l.take n)):=by
   refine ⟨add_len _ _ _ _,?_⟩;rw [add_ι];cases hx:m.ι b 0 with
   |none=>
     have:=hh.blk b _ hb;rcases this.2 with ⟨h0,_⟩|⟨x,rows,_,h1,_⟩
     · exact .inl ⟨by simp [h0],rfl⟩
     · rw [hx] at h1;simp at h1
   |some x=>
     obtain ⟨rows,ty,k2,k3,k4⟩:=kx x hx;refine .inr ⟨x,rows,ty,rfl,k2,by simp;omega,fun i _=>⟨vw_length _ _ _,vw_closed _ _ _⟩,fun i row hi hr=> ?_,fun i row k y a hi hr h1 h2=> ?_⟩
     · exact k4.2.1 i row (by simp at hi;omega) hr
     · have e:vw c' (l.take n) i=vw c' l i:=by
        simp only [vw,List.getD_eq_getElem?_getD,List.getElem?_take];rw [if_pos (by simp at hi;omega)]
       rw [e] at h1;exact (k4.2.2 i row k y a (by simp at hi;omega) hr h1 h2).free _ 8 (vw_closed _ _ _ y (List.mem_of_getElem? h1))
 have hp:=hk.push (Hv':=Hv) (fun _ _ _ _ _=>rfl) (Nat.le_refl _) rfl (fun xv e=>⟨(hh.dom b xv e).2,hh.wm b xv e hc.2,fun b' s' hl' e'=>(hnl hl').1 (hh.inj b' b xv (hnl hl').2 hlive e' e)⟩) hrb;rw [hlen] at hp;refine ⟨rfl,_,hp.1,hp.2,⟨by have:=add_old hk;simpa only [hlen] using this _ _,fun _ _ _=>rfl,fun b' _ xv hb'=> ?_,Nat.le_refl _,rfl⟩,fun a ha=> ?_⟩
 · by_cases e:b'=H.bl.length
   · subst e;obtain ⟨_,e⟩:=add_ιs hb';exact .inl ⟨b,_,e⟩
   · rw [add_ι_ne _ _ _ e] at hb';exact .inl ⟨b',_,hb'⟩
 · cases ha with
   |sl _ _ _ x hx hle=>
     have:=RV.all (m:=m.add H.bl.length (m.ι b 0) (l.take n).length) H.bl.length x (by rw [add_ι];exact hx);have hk0:m.len b 0=l.length:=kb;rw [add_len,List.length_take,Nat.min_eq_left (by omega)] at this;rw [List.length_take,Nat.min_eq_left (by omega)];exact this
   |sl0 _ _ _ ha=>exact .all0 _ _ (by simp [Mp.add,Mp.addF]) (by rw [add_len];simp) ha
theorem mold_move {m:Mp} {H H':UH} {b:Nat} {c:CT} {x':UV} (h:(match H.bl[b]? with
  |some (.cells c' l)=>if c'=c/\H.wm<=b then some (UV.all H.bl.length,push (setBl H b .dead) (.cells c' l)) else none
  |_=>none)=some (x',H')) (hh:RH m H Hv):Mo m H H' Hv fun m'=>∀ a,RV m (.all b) a->RV m' x' a:=by
 cases hb:H.bl[b]? with
 |none=>rw [hb] at h;simp at h
 |some y=>
  rw [hb] at h;cases y with
  |cells c' l=>
   obtain ⟨k0,_⟩:=cells_block (s:=⟨[],[],H,0⟩) (sv:=⟨[],[],Hv⟩) hh hb;refine (mold_whole (n:=l.length) (c:=c) (b:=b) (x':=x') (H':=H') (by rw [hb];simpa [List.take_length] using h) hh).imp fun m' _ hp a ha=>hp a ?_
   cases ha with
   |all _ x hx=>rw [k0];exact .sl _ 0 _ x hx (by omega)
   |all0 _ _ _ hl ha=>
    have:l.length=0:=by omega
    rw [this];exact .sl0 _ 0 _ ha
  |_=>simp at h
theorem mold_sim:∀ (d:Nat) (sh:Sh) (x:UV) (H:UH) (x':UV) (H':UH),mold d false sh x H=some (x',H')->∀ m,RH m H Hv->Mo m H H' Hv fun m'=>∀ a,RV m x a->RV m' x' a
 |0,sh,x,H,x',H',h,m,hh=>by simp [mold] at h
 |d+1,sh,x,H,x',H',h,m,hh=>by
  unfold mold at h;split at h
  · rename_i e;exact absurd e (by omega)
  · simp at h;obtain ⟨rfl,rfl⟩:=h;exact .same hh fun a h=>h
  · simp at h;obtain ⟨rfl,rfl⟩:=h;exact .same hh fun a h=> .junk a
  · simp at h;obtain ⟨rfl,rfl⟩:=h;exact .same hh fun a h=>by cases h;exact .lit0 _ _ (.inl rfl)
  · simp at h;obtain ⟨rfl,rfl⟩:=h;exact .same hh fun a h=>by cases h;exact .lit0 _ _ (.inr rfl)
  · simp at h
  · simp at h
  · simp at h;obtain ⟨rfl,rfl⟩:=h;exact .same hh fun a h=>h
  · simp at h;obtain ⟨rfl,rfl⟩:=h;exact (mold_own hh _).imp fun m1 _ hp a h=>by cases h;exact hp _ (.inl rfl)
  · simp at h;obtain ⟨rfl,rfl⟩:=h;exact (mold_own hh _).imp fun m1 _ hp a h=>by cases h;exact hp _ (.inr rfl)
  · exact mold_whole h hh
  · simp at h;obtain ⟨rfl,rfl⟩:=h;exact (mold_cut hh _).imp fun m1 _ hp a h=>by cases h;exact hp _ (.inl rfl)
  · simp at h;obtain ⟨rfl,rfl⟩:=h;exact (mold_cut hh _).imp fun m1 _ hp a h=>by cases h;exact hp _ (.inr rfl)
  · simp at h;obtain ⟨rfl,rfl⟩:=h;exact .same hh fun a h=>h
  · split at h
    case h_2=>simp at h
    rename_i c l hb;simp at h;obtain ⟨rfl,rfl⟩:=h;obtain ⟨k0,_⟩:=cells_block (s:=⟨[],[],_,0⟩) (sv:=⟨[],[],Hv⟩) hh hb;refine .same hh fun a h=> ?_
    cases h with
    |all _ x hx=>rw [k0];exact .sl _ 0 _ x hx (by omega)
    |all0 _ _ _ hl ha=>
      have:l.length=0:=by omega
      rw [this];exact .sl0 _ 0 _ ha
  · simp at h;obtain ⟨rfl,rfl⟩:=h;exact .same hh fun a h=>h
  · simp at h;obtain ⟨rfl,rfl⟩:=h;exact (mold_deep hh _).imp fun m1 _ hp a h=>by cases h;exact hp _ (.inl rfl)
  · simp at h;obtain ⟨rfl,rfl⟩:=h;exact (mold_deep hh _).imp fun m1 _ hp a h=>by cases h;exact hp _ (.inr rfl)
  · simp at h;obtain ⟨rfl,rfl⟩:=h;exact .same hh fun a h=>h
  · exact mold_move h hh
  · split at h
    · rename_i k' es hb;split at h
      case isFalse=>simp at h
      rename_i hk;subst hk;simp only [Option.bind_eq_some_iff] at h;obtain ⟨l,hl,h⟩:=h;simp at h;obtain ⟨rfl,rfl⟩:=h;refine ⟨rfl,m,hh.turn ⟨_,hb,rfl⟩ ?_,.refl m,.refl Hv (Nat.le_refl _),fun a h=>h⟩;obtain ⟨x,es',k1,k2,k3⟩:=hh.blk _ _ hb;exact ⟨x,es',k1,k2,decM_sim hl k3⟩
    · simp at h;obtain ⟨rfl,rfl⟩:=h;exact .same hh fun a h=>h
    · simp at h
  · simp only [Option.map_eq_some_iff] at h;obtain ⟨⟨l,H1⟩,h1,h⟩:=h;simp at h;obtain ⟨rfl,rfl⟩:=h;refine (molds_sim (fun sh x H x' H' h m hh=>mold_sim _ sh x H x' H' h m hh) h1 m hh).imp fun m1 hle hp a ha=> ?_
    cases ha with
    |agg _ as hl hr=>have:=hp as ⟨hl,hr⟩;exact .agg _ _ this.1 this.2
  · simp only [Option.map_eq_some_iff] at h;obtain ⟨⟨l,H1⟩,h1,h⟩:=h;simp at h;obtain ⟨rfl,rfl⟩:=h;refine (molds_sim (fun sh x H x' H' h m hh=>mold_sim _ sh x H x' H' h m hh) h1 m hh).imp fun m1 hle hp a ha=> ?_
    cases ha with
    |tup _ as hl hr=>have:=hp as ⟨hl,hr⟩;exact .tup _ _ this.1 this.2
  · simp at h
theorem mold_junk {d:Nat} {fz:Bool} {sh:Sh} {H H':UH} {x':UV} (h:mold d fz sh .junk H=some (x',H')):x'= .junk/\H'=H:=by
 cases d with
 |zero=>simp [mold] at h
 |succ d=>cases sh<;>simp [mold] at h<;>exact ⟨h.1.symm,h.2.symm⟩
theorem moldE_sim {shs:List (Nat×Sh)}:∀ {e:List (Nat×US)} {H:UH} {e':List (Nat×US)} {H':UH},moldE shs e H=some (e',H')->∀ m,RH m H Hv->Mo m H H' Hv fun m'=>∀ t vv,RS m φ (get e t) vv->RS m' φ (get e' t) vv
 |[],H,e',H',h,m,hh=>by
  simp [moldE] at h;obtain ⟨rfl,rfl⟩:=h;exact .same hh fun t vv h=>h
 |(i,.v x)::e,H,e',H',h,m,hh=>by
  simp only [moldE,Option.bind_eq_some_iff] at h;obtain ⟨⟨x',H1⟩,h1,⟨e1,H2⟩,h2,h⟩:=h;simp at h;obtain ⟨rfl,rfl⟩:=h;have key:Mo m H H1 Hv fun m'=>∀ vv,RS m φ (.v x) vv->RS m' φ (.v x') vv:=by
    split at h1
    · rename_i sh _;by_cases hx:x= .junk
      · subst hx;obtain ⟨rfl,rfl⟩:=mold_junk h1;exact .same hh fun vv h=>h
      · refine (mold_sim _ _ _ _ _ _ h1 m hh).imp fun m1 _ hp vv hv=> ?_
        obtain ⟨a,rfl,hr⟩:=hv.val hx;exact (hp a hr).rs
    · simp at h1;obtain ⟨rfl,rfl⟩:=h1;exact .same hh fun vv h=>h
  refine key.trans fun m1 hh1 hle hp=>(moldE_sim h2 m1 hh1).imp fun m2 hle2 hq t vv ht=> ?_
  simp only [get] at ht ⊢;split at ht
  · rename_i e;rw [if_pos e];exact (hp vv ht).mono hle2 (.refl φ)
  · rename_i e;rw [if_neg e];exact hq t vv (ht.mono hle (.refl φ))
 |(i,.loc j c)::e,H,e',H',h,m,hh=>by
  simp only [moldE,Option.bind_eq_some_iff] at h;obtain ⟨⟨e1,H2⟩,h2,h⟩:=h;simp at h;obtain ⟨rfl,rfl⟩:=h;refine (moldE_sim h2 m hh).imp fun m2 hle2 hq t vv ht=> ?_
  simp only [get] at ht ⊢;split at ht
  · rename_i e;rw [if_pos e];exact ht.mono hle2 (.refl φ)
  · rename_i e;rw [if_neg e];exact hq t vv ht
theorem moldF_sim {shs:List (Nat×List Sh)}:∀ {i:Nat} {F:List (List UV)} {H:UH} {F':List (List UV)} {H':UH},moldF shs i F H=some (F',H')->∀ m,RH m H Hv->Mo m H H' Hv fun m'=>F'.length=F.length/\∀ (k:Nat) (row':List UV),F'[k]?=some row'->∃ row:List UV,F[k]?=some row/\∀ as,RL m row as->RL m' row' as
 |i,[],H,F',H',h,m,hh=>by
  simp [moldF] at h;obtain ⟨rfl,rfl⟩:=h;exact .same hh ⟨rfl,fun k row' h=>by simp at h⟩
 |i,row::F,H,F',H',h,m,hh=>by
  simp only [moldF,Option.bind_eq_some_iff] at h;obtain ⟨⟨row1,H1⟩,h1,⟨F1,H2⟩,h2,h⟩:=h;simp at h;obtain ⟨rfl,rfl⟩:=h;have key:Mo m H H1 Hv fun m'=>∀ as,RL m row as->RL m' row1 as:=by
   unfold moldR at h1;split at h1
   · exact molds_sim (fun sh x H x' H' h m hh=>mold_sim _ sh x H x' H' h m hh) h1 m hh
   · simp at h1;obtain ⟨rfl,rfl⟩:=h1;exact .same hh fun as h=>h
  refine key.trans fun m1 hh1 hle hp=>(moldF_sim h2 m1 hh1).imp fun m2 hle2 hq=>⟨by simp [hq.1],fun k row' hk=> ?_⟩
  cases k with
  |zero=>simp at hk;subst hk;exact ⟨row,rfl,fun as ha=>(hp as ha).mono hle2⟩
  |succ k=>
   obtain ⟨r,k1,k2⟩:=hq.2 k row' (by simpa using hk);exact ⟨r,by simpa using k1,fun as ha=>k2 as (ha.mono hle)⟩
theorem moldB_sim:∀ {l:List (Nat×List Sh)} {H H':UH},moldB l H=some H'->∀ m,RH m H Hv->Mo m H H' Hv fun _=>True
 |[],H,H',h,m,hh=>by
  simp [moldB] at h;subst h;exact .same hh trivial
 |(b,shs)::l,H,H',h,m,hh=>by
  simp only [moldB] at h;split at h
  case h_2=>simp at h
  rename_i row hb;simp only [Option.bind_eq_some_iff] at h;obtain ⟨⟨row1,H1⟩,h1,h⟩:=h;simp only at h;split at h
  case h_2=>simp at h
  rename_i row2 hb2;obtain ⟨x,rowv,ty,k1,k2,k3⟩:=hh.blk b _ hb;refine (molds_sim (fun sh x H x' H' h m hh=>mold_sim _ sh x H x' H' h m hh) h1 m hh).trans fun m1 hh1 hle hp=> ?_
  have ht:RH m1 (setBl H1 b (.opn row1)) Hv:=hh1.turn ⟨_,hb2,rfl⟩ ⟨x,rowv,ty,(hle.of b x k1).1,k2,hp rowv k3⟩;obtain ⟨w,m2,e1,e2,e3,e4⟩:=moldB_sim h m1 ht;exact ⟨w,m2,e1,e2,e3,e4⟩
def keepOK (n:Nat) (p:Pol):Prop:=∀ t∈p.keep,t<n
theorem prep_sim {n:Nat} {p:Pol} {s s':St} (h:prep p s=some s') (hk:keepOK n p):
    s'.base=s.base/\s'.H.wm=s.H.wm/\∀ (m:Mp) (φ:Nat->Option Nat) (sv sv':V.S),Rst m φ s sv->Alike n sv sv'->∃ m' φ',Rst m' φ' s' sv'/\Go' s.base m sv.H m' sv'.H:=by
  unfold prep at h;split at h
  case isFalse=>simp at h
  rename_i hw;simp only [Option.bind_eq_some_iff] at h;obtain ⟨⟨e,H1⟩,h1,⟨F,H2⟩,h2,H3,h3,h⟩:=h;split at h
  case isFalse=>simp at h
  rename_i hw3;simp at h;subst h;have hwm:H3.wm=s.H.wm:=by
    have hE:∀ {shs:List (Nat×Sh)} {e:List (Nat×US)} {H:UH} {e':List (Nat×US)} {H':UH},moldE shs e H=some (e',H')->H'.wm=H.wm:=by
     intro shs e;have hm:∀ (d:Nat) (sh:Sh) (x:UV) (H:UH) (x':UV) (H':UH),mold d false sh x H=some (x',H')->H'.wm=H.wm:=mold_wm;induction e with
     |nil=>intro H e' H' h;simp [moldE] at h;rw [h.2]
     |cons p e ih=>
       intro H e' H' h;obtain ⟨i,x⟩:=p;cases x with
       |v x=>
         simp only [moldE,Option.bind_eq_some_iff] at h;obtain ⟨⟨x',H1⟩,h1,⟨e1,H2⟩,h2,h⟩:=h;simp at h;obtain ⟨_,rfl⟩:=h;rw [ih h2];split at h1
         · exact hm _ _ _ _ _ _ h1
         · simp at h1;rw [h1.2]
       |loc j c=>
         simp only [moldE,Option.bind_eq_some_iff] at h;obtain ⟨⟨e1,H2⟩,h2,h⟩:=h;simp at h;obtain ⟨_,rfl⟩:=h;exact ih h2
    have hF:∀ {shs:List (Nat×List Sh)} {F:List (List UV)} {i:Nat} {H:UH} {F':List (List UV)} {H':UH},moldF shs i F H=some (F',H')->H'.wm=H.wm:=by
     intro shs F;induction F with
     |nil=>intro i H e' H' h;simp [moldF] at h;rw [h.2]
     |cons row F ih=>
       intro i H F' H' h;simp only [moldF,Option.bind_eq_some_iff] at h;obtain ⟨⟨x',H1⟩,h1,⟨e1,H2⟩,h2,h⟩:=h;simp at h;obtain ⟨_,rfl⟩:=h;rw [ih h2];unfold moldR at h1;split at h1
       · exact molds_wm (fun sh x H x' H' h=>mold_wm _ sh x H x' H' h) h1
       · simp at h1;rw [h1.2]
    have hB:∀ {l:List (Nat×List Sh)} {H H':UH},moldB l H=some H'->H'.wm=H.wm:=by
     intro l;induction l with
     |nil=>intro H H' h;simp [moldB] at h;rw [h]
     |cons p l ih=>
       intro H H' h;obtain ⟨b,shs⟩:=p;simp only [moldB] at h;split at h
       case h_2=>simp at h
       simp only [Option.bind_eq_some_iff] at h;obtain ⟨⟨row1,H1⟩,h1,h⟩:=h;simp only at h;split at h
       case h_2=>simp at h
       rw [ih h];show H1.wm=_;exact molds_wm (f:=mold 8 false) (fun sh x H x' H' h=>mold_wm _ sh x H x' H' h) h1
    rw [hB h3,hF h2,hE h1];rfl
  refine ⟨rfl,hwm,fun m φ sv sv' hs ha=> ?_⟩;obtain ⟨m0,φ0,k1,k2⟩:=compact_sim (keep:=p.keep) hk hs hw ha;obtain ⟨_,m1,r1,r2,r3,r4⟩:=moldE_sim (Hv:=sv'.H) (φ:=φ0) h1 m0 k1.h;obtain ⟨_,m2',q1',q2',q3',q4,q5'⟩:=moldF_sim (Hv:=sv'.H) h2 m1 r1;obtain ⟨_,m2,b1,b2,b3,_⟩:=moldB_sim (Hv:=sv'.H) h3 m2' q1';have q1:=b1;have q2:=q2'.trans b2;have q3:=q3'.trans b3 q3'.old.1;rw [<- ha.1] at k2;have k2':Go' s.base m sv'.H m0 sv'.H:=k2;have hb0:s.base<=m0.top:=by rw [k1.h.len];exact k1.b
  suffices hmid:Rst m2 φ0 { e,F,H:=H3,base:=s.base } sv'/\Go' s.base m sv.H m2 sv'.H by
    obtain ⟨m3,φ3,c1,c2⟩:=compact_sim (keep:=p.keep) hk hmid.1 hw3 (.refl n sv');exact ⟨m3,φ3,c1,hmid.2.trans c2 (Nat.le_refl _)⟩
  refine ⟨⟨q1,⟨fun i j hij=> ?_,fun i row hi=> ?_,k1.f.inj⟩,fun t=>(r4 t _ (k1.e t)).mono q2 (.refl φ0),?_⟩,?_⟩
  · have:=k1.f.dom i j hij;rw [q4];exact this
  · obtain ⟨row0,j1,j2⟩:=q5' i row hi;obtain ⟨j,row',j3,j4,j5⟩:=k1.f.row i row0 j1;exact ⟨j,row',j3,j4,(j2 row' (j5.mono r2)).mono b2⟩
  · have e1:=r3.old.1;have e2:=q3.old.1;have e3:=q1.len;show s.base<=H3.bl.length;omega
  · have:=(k2'.trans r3 hb0).trans q3 (by have:=r3.old.1;omega);rw [ha.1] at this ⊢;exact this
 where
  molds_wm {f:Sh->UV->UH->Option (UV×UH)} (hf:∀ sh x H x' H',f sh x H=some (x',H')->H'.wm=H.wm):∀ {shs:List Sh} {xs:List UV} {H:UH} {l:List UV} {H':UH},mold.molds f shs xs H=some (l,H')->H'.wm=H.wm
    |[],[],H,l,H',h=>by simp [mold.molds] at h;rw [h.2]
    |s::ss,x::xs,H,l,H',h=>by
     simp only [mold.molds,Option.bind_eq_some_iff] at h;obtain ⟨⟨x',H1⟩,h1,⟨xs',H2⟩,h2,h⟩:=h;simp at h;obtain ⟨_,rfl⟩:=h;rw [molds_wm hf h2,hf _ _ _ _ _ h1]
    |[],_::_,H,l,H',h=>by simp [mold.molds] at h
    |_::_,[],H,l,H',h=>by simp [mold.molds] at h
  mold_wm:∀ (d:Nat) (sh:Sh) (x:UV) (H:UH) (x':UV) (H':UH),mold d false sh x H=some (x',H')->H'.wm=H.wm
    |0,sh,x,H,x',H',h=>by simp [mold] at h
    |d+1,sh,x,H,x',H',h=>by
     unfold mold at h;split at h
     · rename_i e;exact absurd e (by omega)
     · simp at h;rw [h.2]
     · simp at h;rw [h.2]
     · simp at h;rw [h.2]
     · simp at h;rw [h.2]
     · simp at h
     · simp at h
     · simp at h;rw [h.2]
     · simp at h;rw [<- h.2];rfl
     · simp at h;rw [<- h.2];rfl
     · split at h
       case h_2=>simp at h
       split at h
       case isFalse=>simp at h
       simp at h;rw [<- h.2];rfl
     · simp at h;rw [<- h.2];rfl
     · simp at h;rw [<- h.2];rfl
     · simp at h;rw [h.2]
     · split at h
       case h_2=>simp at h
       simp at h;rw [h.2]
     · simp at h;rw [h.2]
     · simp at h;rw [<- h.2];rfl
     · simp at h;rw [<- h.2];rfl
     · simp at h;rw [h.2]
     · split at h
       case h_2=>simp at h
       split at h
       case isFalse=>simp at h
       simp at h;rw [<- h.2];rfl
     · split at h
       · split at h
         · simp only [Option.bind_eq_some_iff] at h;obtain ⟨l,hl,h⟩:=h;simp at h;rw [<- h.2];rfl
         · simp at h
       · simp at h;rw [h.2]
       · simp at h
     · simp only [Option.map_eq_some_iff] at h;obtain ⟨⟨l,H1⟩,h1,h⟩:=h;simp at h;rw [<- h.2];exact molds_wm (fun sh x H x' H' h=>mold_wm _ sh x H x' H' h) h1
     · simp only [Option.map_eq_some_iff] at h;obtain ⟨⟨l,H1⟩,h1,h⟩:=h;simp at h;rw [<- h.2];exact molds_wm (fun sh x H x' H' h=>mold_wm _ sh x H x' H' h) h1
     · simp at h
end
def loopM {T E:Type} (step:T->Option (T ⊕ E)):Nat->T->Option E
 |0,_=>none
 |n+1,t=>(step t).bind fun
  | .inl t'=>loopM step n t'
  | .inr e=>some e
def loopAll {T E:Type} (step:T->Option (T ⊕ E)) (t:T):Option E:=loopM step V.loopMost t
section
variable {A:V.Par} {C:V.Callee} {glob:Nat->Option (List UV)} {locs:List Nat} {n:Nat}
end
end Go.U
namespace Go.U
open Go
variable [TB:Tbl]
section
variable {A:V.Par} {glob:Nat->Option (List UV)} {m:Mp}
theorem results_sim {s:St}:∀ {rs:List ResultVar} {l:List UV},results A s rs=some l->∀ (m:Mp) (φ:Nat->Option Nat) (sv:V.S),Rst m φ s sv->∃ l',V.results A sv rs=some l'/\RL m l l'
 |[],l,h,m,φ,sv,hs=>by simp [results] at h;subst h;exact ⟨[],rfl,.nil⟩
 | .tmp t::rs,l,h,m,φ,sv,hs=>by
  simp only [results,Option.bind_eq_some_iff] at h;obtain ⟨a,ha,l1,hl,h⟩:=h;simp at h;subst h;obtain ⟨l',k1,k2⟩:=results_sim hl m φ sv hs;split at ha
  · simp at ha
  · rename_i x hne hx;simp at ha;subst ha;have:=hs.e t;rw [hx] at this;obtain ⟨a',e1,e2⟩:=this.val hne;exact ⟨a'::l',by simp [V.results,e1,k1],.cons e2 k2⟩
  · simp at ha
 | .cell p t::rs,l,h,m,φ,sv,hs=>by
  simp only [results,Option.bind_eq_some_iff] at h;obtain ⟨a,ha,l1,hl,h⟩:=h;simp at h;subst h;obtain ⟨l',k1,k2⟩:=results_sim hl m φ sv hs;obtain ⟨a',e1,e2⟩:=load_sim ha hs.h hs.f (hs.e p);exact ⟨a'::l',by simp [V.results,e1,k1],.cons e2 k2⟩
theorem result_sim {l:List UV} {l':List V.AV} (h:RL m l l'):RV m (result l) (V.result l'):=by
 unfold result V.result;split
 · obtain ⟨a,rfl,ha⟩:=h.one;exact ha
 · rename_i hne;split
   · rename_i a;have:=h.1
     match l,hne,this with
     |[x],hne,_=>exact (hne x rfl).elim
   · exact .tup _ _ h.1 h.2
theorem molds_fz {d:Nat} {f:Sh->UV->UH->Option (UV×UH)} (hf:∀ sh x H x' H',f sh x H=some (x',H')->closedR d x'=true->Fz d x H x' H'):
  ∀ {shs:List Sh} {xs:List UV} {H:UH} {l:List UV} {H':UH},mold.molds f shs xs H=some (l,H')->(∀ x∈l,closedR d x=true)->H'.wm=H.wm/\∀ (m:Mp) (Hv:V.AH) (as:List V.AV),RH m H Hv->RL m xs as->
   ∃ as' Hv',V.frList (V.freeze d) Hv as=some (as',Hv')/\∃ m',RH m' H' Hv'/\RL m' l as'/\m.Le m'/\Go' m.top m Hv m' Hv'
 |[],[],H,l,H',h,hc=>by
  simp [mold.molds] at h;obtain ⟨rfl,rfl⟩:=h;refine ⟨rfl,fun m Hv as hh ha=> ?_⟩;have:as=[]:=by have:=ha.1;simpa using this
  subst this;exact ⟨[],Hv,rfl,m,hh,.nil,.refl m,.refl Hv (Nat.le_refl _)⟩
 |s::ss,x::xs,H,l,H',h,hc=>by
  simp only [mold.molds,Option.bind_eq_some_iff] at h;obtain ⟨⟨x',H1⟩,h1,⟨xs',H2⟩,h2,h⟩:=h;simp at h;obtain ⟨rfl,rfl⟩:=h;obtain ⟨w1,k1⟩:=hf _ _ _ _ _ h1 (hc _ (List.mem_cons_self ..));obtain ⟨w2,k2⟩:=molds_fz hf h2 fun y hy=>hc y (List.mem_cons_of_mem _ hy)
  refine ⟨w2.trans w1,fun m Hv as hh ha=> ?_⟩;cases as with
  |nil=>have:=ha.1;simp at this
  |cons a as=>
   have hr:RL m xs as:=⟨by have:=ha.1;simpa using this,fun i y b k1 k2=>ha.2 (i+1) y b (by simpa using k1) (by simpa using k2)⟩;obtain ⟨a',Hv1,e1,m1,e2,e3,e4,e5⟩:=k1 m Hv a hh (ha.2 0 x a rfl rfl);obtain ⟨as',Hv2,e6,m2,e7,e8,e9,e10⟩:=k2 m1 Hv1 as e2 (hr.mono e4);exact ⟨a'::as',Hv2,by simp only [V.frList,e1,Option.bind_some,e6],m2,e7,.cons (e3.mono e9) e8,e4.trans e9,e5.trans e10 e5.old.1⟩
 |[],_::_,H,l,H',h,hc=>by simp [mold.molds] at h
 |_::_,[],H,l,H',h,hc=>by simp [mold.molds] at h
theorem mold_fz:∀ (d:Nat) (sh:Sh) (x:UV) (H:UH) (x':UV) (H':UH),mold d true sh x H=some (x',H')->closedR d x'=true->Fz d x H x' H'
 |0,sh,x,H,x',H',h,hc=>by simp [mold] at h
 |d+1,sh,x,H,x',H',h,hc=>by
  have h0:=h;unfold mold at h;split at h
  · rename_i e;exact absurd e (by omega)
  · simp at h;obtain ⟨rfl,rfl⟩:=h;exact .same hc
  · simp at h;obtain ⟨rfl,rfl⟩:=h;simp [closedR,closed] at hc
  · simp at h;obtain ⟨rfl,rfl⟩:=h;exact ⟨rfl,fun m Hv a hh hx=>by cases hx;exact ⟨.nils,Hv,rfl,.same hh (.lit0 _ _ (.inl rfl))⟩⟩
  · simp at h;obtain ⟨rfl,rfl⟩:=h;exact ⟨rfl,fun m Hv a hh hx=>by cases hx;exact ⟨.emp,Hv,rfl,.same hh (.lit0 _ _ (.inr rfl))⟩⟩
  · have he:=Nat.succ.inj ‹d+1=Nat.succ _›;subst he;split at h
    case isFalse=>simp at h
    rename_i hcc;simp at hcc;simp only [Option.bind_eq_some_iff] at h;obtain ⟨l,hl,h⟩:=h;simp at h;obtain ⟨rfl,rfl⟩:=h;exact lit_fz hcc.1 hcc.2 hl (.inl ⟨_,_,rfl⟩)
  · have he:=Nat.succ.inj ‹d+1=Nat.succ _›;subst he;split at h
    case isFalse=>simp at h
    rename_i hcc;simp at hcc;simp only [Option.bind_eq_some_iff] at h;obtain ⟨l,hl,h⟩:=h;simp at h;obtain ⟨rfl,rfl⟩:=h;unfold frzOf at hl;split at hl
    · rename_i c' l' hb;split at hl
      · rename_i hc;subst hc;injection hl with hl;subst hl
        exact lit_fz hcc.1 hcc.2 (by simp [rowsOf,hb]) (.inr rfl)
      · simp at hl
    · rename_i c' l' hb;split at hl
      · rename_i hc;obtain ⟨rfl,hd1⟩:=hc;injection hl with hl;subst hl
        exact frz_deep hd1 hcc.2 hb
      · simp at hl
    · simp at hl
  · simp at h;obtain ⟨rfl,rfl⟩:=h;exact .same hc
  · simp at h;obtain ⟨rfl,rfl⟩:=h;simp [closedR,closed] at hc
  · simp at h;obtain ⟨rfl,rfl⟩:=h;simp [closedR,closed] at hc
  · split at h
    case h_2=>simp at h
    split at h
    case isFalse=>simp at h
    simp at h;obtain ⟨rfl,rfl⟩:=h;simp [closedR,closed] at hc
  · simp at h;obtain ⟨rfl,rfl⟩:=h;simp [closedR,closed] at hc
  · simp at h;obtain ⟨rfl,rfl⟩:=h;simp [closedR,closed] at hc
  · simp at h;obtain ⟨rfl,rfl⟩:=h;simp [closedR,closed] at hc
  · split at h
    case h_2=>simp at h
    simp at h;obtain ⟨rfl,rfl⟩:=h;simp [closedR,closed] at hc
  · simp at h;obtain ⟨rfl,rfl⟩:=h;simp [closedR,closed] at hc
  · simp at h;obtain ⟨rfl,rfl⟩:=h;simp [closedR,closed] at hc
  · simp at h;obtain ⟨rfl,rfl⟩:=h;simp [closedR,closed] at hc
  · simp at h;obtain ⟨rfl,rfl⟩:=h;simp [closedR,closed] at hc
  · split at h
    case h_2=>simp at h
    split at h
    case isFalse=>simp at h
    simp at h;obtain ⟨rfl,rfl⟩:=h;simp [closedR,closed] at hc
  · split at h
    · split at h
      · simp only [Option.bind_eq_some_iff] at h;obtain ⟨l,hl,h⟩:=h;simp at h;obtain ⟨rfl,rfl⟩:=h;simp [closedR,closed] at hc
      · simp at h
    · simp at h;obtain ⟨rfl,rfl⟩:=h;simp [closedR,closed] at hc
    · simp at h
  · have he:=Nat.succ.inj ‹d+1=Nat.succ _›;subst he;simp only [Option.map_eq_some_iff] at h;obtain ⟨⟨l,H1⟩,h1,h⟩:=h;simp at h;obtain ⟨rfl,rfl⟩:=h;obtain ⟨w,k⟩:=molds_fz (fun sh x H x' H' h hc=>mold_fz _ sh x H x' H' h hc) h1 (List.all_eq_true.1 (by simpa [closedR] using hc));refine ⟨w,fun m Hv a hh ha=> ?_⟩;cases ha with
    |agg _ as hl hr=>
      obtain ⟨as',Hv',e1,m',e2,e3,e4,e5⟩:=k m Hv as hh ⟨hl,hr⟩;exact ⟨.agg as',Hv',by simp only [V.freeze,e1,Option.bind_some],m',e2,.agg _ _ e3.1 e3.2,e4,e5⟩
  · have he:=Nat.succ.inj ‹d+1=Nat.succ _›;subst he;simp only [Option.map_eq_some_iff] at h;obtain ⟨⟨l,H1⟩,h1,h⟩:=h;simp at h;obtain ⟨rfl,rfl⟩:=h;obtain ⟨w,k⟩:=molds_fz (fun sh x H x' H' h hc=>mold_fz _ sh x H x' H' h hc) h1 (List.all_eq_true.1 (by simpa [closedR] using hc));refine ⟨w,fun m Hv a hh ha=> ?_⟩;cases ha with
    |tup _ as hl hr=>
      obtain ⟨as',Hv',e1,m',e2,e3,e4,e5⟩:=k m Hv as hh ⟨hl,hr⟩;exact ⟨.tup as',Hv',by simp only [V.freeze,e1,Option.bind_some],m',e2,.tup _ _ e3.1 e3.2,e4,e5⟩
  · simp at h
def SpecOK (C:V.Callee) (f:FuncId) (spec:Spec):Prop:=
 ∀ (X:Type) (args:List UV) (H:UH) (K:UV->UH->Option X) (out:X),spec X args H K=some out->
  ∃ r H',K r H'=some out/\H'.wm=H.wm/\∀ (m:Mp) (Hv:V.AH) (as cs:List V.AV),RH m H Hv->RL m args (as++cs)->∃ r' Hv',C (.fn f cs) as Hv=some (r',Hv')/\HGo m Hv r H' r' Hv'
theorem SpecOK.imp {C:V.Callee} {f:FuncId} {g g':Spec} (h:SpecOK C f g) (hi:∀ X args H K out,g' X args H K=some out->g X args H K=some out):SpecOK C f g':=
 fun X args H K out ho=>h X args H K out (hi X args H K out ho)
theorem argEnv_rel {φ:Nat->Option Nat}:∀ {args:List UV} {as:List V.AV} {i:Nat},RL m args as->RE m φ (argEnv args i) (V.argEnv as i)
 |[],as,i,h=>by
  have:as=[]:=by have:=h.1;simpa using this
  subst this;exact fun t=>trivial
 |x::xs,as,i,h=>by
  cases as with
  |nil=>have:=h.1;simp at this
  |cons a as=>
   have hr:RL m xs as:=⟨by have:=h.1;simpa using this,fun i y b k1 k2=>h.2 (i+1) y b (by simpa using k1) (by simpa using k2)⟩;exact (argEnv_rel (i:=i+1) hr).cons i (h.2 0 x a rfl rfl).rs
theorem killB_ok {m:Mp} {Hv:V.AH}:∀ {l:List Nat} {H:UH},RH m H Hv->RH m (killB l H) Hv
 |[],_,h=>h
 |b::l,_,h=>killB_ok (l:=l) (h.kill b)
theorem killB_wm:∀ {l:List Nat} {H:UH},(killB l H).wm=H.wm
 |[],_=>rfl
 |b::l,H=>(killB_wm (l:=l) (H:=setBl H b .dead)).trans rfl
theorem HGo.kill {m:Mp} {Hv Hv':V.AH} {v:UV} {H':UH} {a:V.AV} (l:List Nat) (h:HGo m Hv v H' a Hv'):HGo m Hv v (killB l H') a Hv':=by
 obtain ⟨m1,e1,e2,e3,e4⟩:=h;exact ⟨m1,killB_ok e1,e2,e3,e4⟩
theorem fnRun_ok (hg:GlobOK A glob) {env:Env} {k:Nat} (hc:SimCall (V.call A k) env.call) {f:FuncId} {fn:Func} {c:Code} {locs:List Nat} {sh:Sh} {fz:Bool}
  (hext:A.ext f=none) (hfn:A.fns f=some fn) (hbody:fn.body=some c) (hloc:A.loc f=locs) (hkeep:A.keep f=List.range fn.ntmps) (hfz:A.frz f=fz)
  (hl:∀ c'∈loops env.join c,LoopSim env.loop (V.code A (V.call A k) true locs (List.range fn.ntmps) fn.ntmps) c'):
  SpecOK (V.call A (k+1)) f (fun X args H K=>fnRun A glob env locs fn sh fz args H K):=by
 intro X args H K out h;simp only [fnRun,hbody] at h;split at h
 case isFalse=>simp at h
 rename_i hlen;obtain ⟨ex,s1,h1,h2⟩:=code_sim hg hc hl h;have hex:(∀ id,ex≠ .exit id)/\(results A s1 fn.results.toList).bind (fun l=>(mold 8 fz sh.inner (result l) s1.H).bind fun (r,H1)=>if (!fz||closedR 8 r)&&decide (H1.wm<=H.bl.length) then K (gc H.bl.length r (killB sh.kills H1)).1 (gc H.bl.length r (killB sh.kills H1)).2 else none)=some out:=by
  cases ex with
  |exit id=>simp at h1
  |normal=>exact ⟨fun _=>by simp,h1⟩
  |ret=>exact ⟨fun _=>by simp,h1⟩
 obtain ⟨hne,h3⟩:=hex;simp only [Option.bind_eq_some_iff] at h3;obtain ⟨l,hrl,⟨r,H0⟩,hmo,h3⟩:=h3;split at h3
 case isFalse=>simp at h3
 rename_i hcl0;simp only [Bool.and_eq_true,decide_eq_true_eq] at hcl0;have hcl:=hcl0.1;have hgw0:=hcl0.2;generalize hH':killB sh.kills H0=H' at h3;have hwk:H'.wm=H0.wm:=by rw [<- hH'];exact killB_wm
 have hgw:H'.wm<=H.bl.length:=by rw [hwk];exact hgw0
 have start:∀ (m:Mp) (Hv:V.AH) (as cs:List V.AV),RH m H Hv->RL m args (as++cs)->∃ sv1 m1 φ1 l',V.code A (V.call A k) true locs (List.range fn.ntmps) fn.ntmps c ⟨V.argEnv (as++cs) 0,[],Hv⟩=some (ex,sv1)/\Rst m1 φ1 s1 sv1/\Go' H.bl.length m Hv m1 sv1.H/\V.results A sv1 fn.results.toList=some l'/\RL m1 l l':=fun m Hv as cs hh ha=>by
  obtain ⟨sv1,m1,φ1,e1,e2,e3⟩:=h2.2.2 m (fun _=>none) ⟨V.argEnv (as++cs) 0,[],Hv⟩ ⟨hh,⟨fun i j h=>by simp at h,fun i row h=>by simp at h,fun i i' j h=>by simp at h⟩,argEnv_rel ha,Nat.le_refl _⟩;obtain ⟨l',e4,e5⟩:=results_sim hrl m1 φ1 sv1 e2;exact ⟨sv1,m1,φ1,l',e1,e2,e3,e4,e5⟩
 have hcall:∀ (Hv:V.AH) (as cs:List V.AV) (sv1:V.S) (l':List V.AV),(as++cs).length<=fn.ntmps->V.code A (V.call A k) true locs (List.range fn.ntmps) fn.ntmps c ⟨V.argEnv (as++cs) 0,[],Hv⟩=some (ex,sv1)->V.results A sv1 fn.results.toList=some l'->
   V.call A (k+1) (.fn f cs) as Hv=if fz then V.freeze 8 sv1.H (V.result l') else some (V.result l',sv1.H):=fun Hv as cs sv1 l' hle e1 e2=>by
  simp only [V.call,hext,hfn,hbody,hloc,hkeep,hfz];rw [if_pos hle,e1];cases ex with
  |exit id=>exact (hne id rfl).elim
  |normal=>simp only [Option.bind_some,e2]
  |ret=>simp only [Option.bind_some,e2]
 have fin:∀ {m m1:Mp} {Hv Hv1:V.AH} {r':V.AV} {Hv':V.AH},RH m H Hv->Go' H.bl.length m Hv m1 Hv1->HGo m1 Hv1 r H' r' Hv'->H.bl.length<=m1.top->HGo m Hv (gc H.bl.length r H').1 (gc H.bl.length r H').2 r' Hv':=fun {m m1 Hv Hv1 r' Hv'} hh hgo ⟨m20,e10,e20,e3,e4⟩ htop=>by
  have hgo20:Go' H.bl.length m Hv m20 Hv':=hgo.trans e4 htop;have hst:Rst m20 (fun _=>none) ⟨[(0,.v r)],[],H',H.bl.length⟩ ⟨[(0,.v r')],[],Hv'⟩:=⟨e10,⟨fun i j h=>by simp at h,fun i row h=>by simp at h,fun i i' j h=>by simp at h⟩,fun t=>by
   simp only [get,V.get];split
   · exact e20.rs
   · exact trivial,by have:=hgo20.old.1;rw [e10.len] at this;exact this⟩
  obtain ⟨m2,φ2,c1,c2⟩:=compact_sim (keep:=[0]) (n:=1) (by simp) hst hgw (.refl 1 _);have e1:RH m2 (gc H.bl.length r H').2 Hv':=c1.h;have e2:RV m2 (gc H.bl.length r H').1 r':=by
   have:=c1.e 0;simp only [gc]
   revert this
   simp only [V.get,if_true];cases get (compact [0] ⟨[(0,.v r)],[],H',H.bl.length⟩).e 0 with
   |loc i c=>exact fun h=>h.elim
   |v x=>intro h;cases x<;>first|exact .junk _|exact h
  have hgo2:Go' m.top m Hv m2 Hv':=by rw [hh.len];exact hgo20.trans c2 (Nat.le_refl _)
  refine ⟨m2,e1,e2,⟨fun b _ x hb=> ?_,hgo2.old.1,fun b hb=>(hgo2.old.2 b hb).2⟩,hgo2⟩;have:=hgo2.old.2 b (by rw [hh.len];exact (hh.dom b x hb).1);exact ⟨by rw [this.1];exact hb,by rw [this.2]⟩
 cases fz with
 |true=>
  simp at hcl;obtain ⟨w,hf⟩:=mold_fz 8 sh.inner _ _ _ _ hmo hcl;refine ⟨_,_,h3,by show H'.wm=_;rw [hwk,w,h2.2.1],fun m Hv as cs hh ha=> ?_⟩;obtain ⟨sv1,m1,φ1,l',e1,e2,e3,e4,e5⟩:=start m Hv as cs hh ha;obtain ⟨r',Hv',k1,k2⟩:=hf m1 sv1.H _ e2.h (result_sim e5);exact ⟨r',Hv',by rw [hcall Hv as cs sv1 l' (by rw [ha.1];exact hlen) e1 e4];exact k1,fin hh e3 (hH' ▸ k2.kill sh.kills) e3.old.1⟩
 |false=>
  have hmw:=prep_sim.mold_wm 8 sh.inner _ _ _ _ hmo;refine ⟨_,_,h3,by show H'.wm=_;rw [hwk,hmw,h2.2.1],fun m Hv as cs hh ha=> ?_⟩;obtain ⟨sv1,m1,φ1,l',e1,e2,e3,e4,e5⟩:=start m Hv as cs hh ha;obtain ⟨_,m2,k1,k2,k3,k4⟩:=mold_sim 8 sh.inner _ _ _ _ hmo m1 e2.h;exact ⟨V.result l',sv1.H,by rw [hcall Hv as cs sv1 l' (by rw [ha.1];exact hlen) e1 e4];rfl,fin hh e3 (hH' ▸ HGo.kill sh.kills ⟨m2,k1,k4 _ (result_sim e5),k2,k3⟩) e3.old.1⟩
theorem disp_ok {C:V.Callee}:∀ {l:List (FuncId×Spec)},(∀ p∈l,SpecOK C p.1 p.2)->∀ f,SpecOK C f (disp l f)
 |[],_,f,X,args,H,K,out,h=>by simp [disp] at h
 |(g,sp)::l,hl,f,X,args,H,K,out,h=>by
  simp only [disp] at h;split at h
  · rename_i e;subst e;exact hl (f,sp) (List.mem_cons_self ..) X args H K out h
  · exact disp_ok (fun p hp=>hl p (List.mem_cons_of_mem _ hp)) f X args H K out h
theorem disp_sim {C:V.Callee} {l:List (FuncId×Spec)} (hl:∀ p∈l,SpecOK C p.1 p.2):SimCall C (fun X fv args H K=>match fv with| .fn f cs=>disp l f X (args++cs) H K|_=>none):=by
 intro X fv args H K out h;simp only at h;split at h
 · rename_i f cs;obtain ⟨r,H',h1,h2,h3⟩:=disp_ok hl f X _ H K out h;refine ⟨r,H',h1,h2,fun m Hv fv' args' hh hf ha=> ?_⟩;cases hf with
   |fn _ _ as hl' hr=>exact h3 m Hv args' as hh (ha.append ⟨hl',hr⟩)
 · simp at h
theorem callAt_sim {C:V.Callee} {spec:(X:Type)->UV->List UV->UH->(UV->UH->Option X)->Option X} (hs:SimCall C spec):SimCall C (fun X fv args H K=>callAt spec fv args H K):=by
 intro X fv args H K out h;simp only [callAt] at h;generalize hbs0:(reach H 64 ((fv::args).flatMap (ids 8)) []).filter (fun b=>liveB (H.bl.getD b .dead))=bs0 at h;have hnd0:bs0.Nodup:=by rw [<- hbs0];exact (reach_nodup List.nodup_nil).filter _
 have hlv0:∀ b∈bs0,live H b:=fun b hb=>by
   rw [<- hbs0,List.mem_filter] at hb;have:=hb.2;cases h1:H.bl[b]? with
   |none=>rw [List.getD_eq_getElem?_getD,h1] at this;simp [liveB] at this
   |some y=>rw [List.getD_eq_getElem?_getD,h1] at this;exact ⟨y,h1,this⟩
 generalize hlo0:bs0.filter (fun b=>decide (b<H.wm))=lo at h;generalize hbs:lo++bs0.filter (fun b=>decide (H.wm<=b))=bs at h;have hnd:bs.Nodup:=by
   rw [<- hbs,<- hlo0];refine List.nodup_append.2 ⟨hnd0.filter _,hnd0.filter _,fun x hx y hy=> ?_⟩;simp only [List.mem_filter,decide_eq_true_eq] at hx hy;omega
 have hlv:∀ b∈bs,live H b:=fun b hb=>by
   rw [<- hbs,<- hlo0,List.mem_append,List.mem_filter,List.mem_filter] at hb;rcases hb with hb|hb<;>exact hlv0 b hb.1
 have hhi0:∀ (j b:Nat),bs[j]?=some b->lo.length<=j->H.wm<=b:=fun j b hj hle=>by
   rw [<- hbs,List.getElem?_append_right hle] at hj;have:=List.mem_of_getElem? hj
   simpa only [List.mem_filter,decide_eq_true_eq] using (List.mem_filter.1 this).2
 generalize hw0:lo.length=w0 at h hhi0;obtain ⟨r,H1,h1,hwm1,h2⟩:=hs X _ _ _ _ out h;simp only at hwm1;generalize hnews:(reach H1 64 (List.range bs.length++ids 8 r) []).filter (fun b=>decide (bs.length<=b))=news at h1;have hnn:news.Nodup:=by rw [<- hnews];exact (reach_nodup List.nodup_nil).filter _
 have hnl:∀ b∈news,bs.length<=b:=fun b hb=>by rw [<- hnews,List.mem_filter] at hb;simpa using hb.2
 refine ⟨_,_,h1,rfl,fun m Hv fv' args' hh hf ha=> ?_⟩
 let m0:Mp:={ ι:=fun j s=>(bs[j]?).bind fun c=>m.ι c s,len:=fun j=>m.len (bs.getD j 0),top:=bs.length }
 have hren:Ren m m0 (fun b=>pos b bs 0):=fun b b' hb=>by
   have:=pos0 hb;exact ⟨by simp [m0,this],by simp [m0,this],getElem?_lt this⟩
 have hm0:∀ j {s} x,m0.ι j s=some x->∃ b,bs[j]?=some b/\m.ι b s=some x:=fun j s x hj=>by simpa [m0,Option.bind_eq_some_iff] using hj
 have hw0le:w0<=bs.length:=by rw [<- hw0,<- hbs];simp
 have hrh0:RH m0 ⟨bs.map fun b=>renB (fun b=>pos b bs 0) (H.bl.getD b .dead),w0⟩ Hv:=by
   refine ⟨fun b _ x hb=> ?_,fun b' y hy=> ?_,fun b1 b2 _ _ x l1 l2 e1 e2=> ?_,fun b _ x hb hwb=> ?_,hh.top,by simp [m0]⟩
   · obtain ⟨c,h1,h2⟩:=hm0 b x hb;exact ⟨by simpa using getElem?_lt h1,(hh.dom c x h2).2⟩
   · simp only [List.getElem?_map,Option.map_eq_some_iff] at hy;obtain ⟨b,h1,rfl⟩:=hy;rw [List.getD_eq_getElem?_getD];cases h2:H.bl[b]? with
     |none=>trivial
     |some y=>exact RB.ren hren (hh.blk b y h2) (by simp [m0,h1]) (by simp [m0,h1])
   · obtain ⟨c1,k1,k2⟩:=hm0 b1 x e1;obtain ⟨c2,k3,k4⟩:=hm0 b2 x e2;obtain ⟨this,h5⟩:=hh.inj' c1 c2 x (hlv c1 (List.mem_of_getElem? k1)) (hlv c2 (List.mem_of_getElem? k3)) k2 k4;subst this;exact ⟨nodup_get hnd k1 k3,h5⟩
   · obtain ⟨c,k1,k2⟩:=hm0 b x hb;have hlt:=getElem?_lt k1;simp only at hwb;exact hh.wm c x k2 (hhi0 b c k1 hwb)
 have hfr:RV m0 (ren (fun b=>pos b bs 0) 8 fv) fv':=RV.ren hren 8 hf;have har:RL m0 (args.map (ren (fun b=>pos b bs 0) 8)) args':=ha.ren hren 8;obtain ⟨r',Hv',k1,m1,k2,k3,k4,k5⟩:=h2 m0 Hv fv' args' hrh0 hfr har;refine ⟨r',Hv',k1,?_⟩;have hold:∀ j,j<bs.length->m1.ι j=m0.ι j/\m1.len j=m0.len j:=fun j hj=>k5.old.2 j hj
 let m':Mp:={ ι:=fun b=>if b<H.bl.length then m.ι b else fun s=>(news[b-H.bl.length]?).bind fun c=>m1.ι c s,len:=fun b=>if b<H.bl.length then m.len b else m1.len (news.getD (b-H.bl.length) 0),top:=H.bl.length+news.length }
 have hlo:∀ b,b<H.bl.length->m'.ι b=m.ι b/\m'.len b=m.len b:=fun b hb=>by simp [m',hb]
 have hhi:∀ i b,news[i]?=some b->m'.ι (H.bl.length+i)=m1.ι b/\m'.len (H.bl.length+i)=m1.len b:=fun i b hb=>by
   have:¬ H.bl.length+i<H.bl.length:=by omega
   simp [m',hb,this]
 have hbslt:∀ b∈bs,b<H.bl.length:=fun b hb=>by obtain ⟨y,hy,_⟩:=hlv b hb;exact getElem?_lt hy
 let ψ:Nat->Option Nat:=fun b=>if b<bs.length then bs[b]? else (pos b news 0).map (H.bl.length+ ·)
 have hψ:Ren m1 m' ψ:=fun b b' hb=>by
   simp only [ψ] at hb;split at hb
   · rename_i hlt;have hm:=List.mem_of_getElem? hb;have h3:=hold b hlt;obtain ⟨l1,l2⟩:=hlo b' (hbslt b' hm);rw [l1,l2,h3.1,h3.2];refine ⟨by simp [m0,hb],by simp [m0,hb],?_⟩;have:=hbslt b' hm;show b'<H.bl.length+news.length;omega
   · simp only [Option.map_eq_some_iff] at hb;obtain ⟨i,hi,rfl⟩:=hb;have hni:=pos0 hi;obtain ⟨l1,l2⟩:=hhi i b hni;rw [l1,l2];refine ⟨rfl,rfl,?_⟩;have:=getElem?_lt hni;show H.bl.length+i<H.bl.length+news.length;omega
 have hle:m.Le m':=⟨fun b _ x hb=>by
   have:=(hh.dom b x hb).1;rw [(hlo b this).1,(hlo b this).2];exact ⟨hb,rfl⟩,by rw [hh.len];simp [m'],fun b hb=>(hlo b (by rw [<- hh.len];exact hb)).2⟩
 have hnot:∀ b {s} x,live H b->m.ι b s=some x->pos b bs 0=none->∀ j s',m0.ι j s'≠some x:=fun b s x hl hb hp j s' hj=>by
   obtain ⟨c,e1,e2⟩:=hm0 j x hj;have hc:=List.mem_of_getElem? e1;have:=hh.inj b c x hl (hlv c hc) hb e2;subst this;obtain ⟨k,hk⟩:=pos_mem (i:=0) hc;rw [hp] at hk;simp at hk
 generalize hbl':(List.range H.bl.length).map (fun b=>match pos b bs 0 with|some j=>renB ψ (H1.bl.getD j .dead)|none=>H.bl.getD b .dead)++news.map (fun b=>renB ψ (H1.bl.getD b .dead))=bl';have hlen':bl'.length=H.bl.length+news.length:=by rw [<- hbl'];simp
 have hgl:∀ b,b<H.bl.length->bl'[b]?=some (match pos b bs 0 with|some j=>renB ψ (H1.bl.getD j .dead)|none=>H.bl.getD b .dead):=fun b hb=>by
   rw [<- hbl',List.getElem?_append_left (by simpa using hb)];simp [hb]
 have hgh:∀ b y,H.bl.length<=b->bl'[b]?=some y->∃ c,news[b-H.bl.length]?=some c/\y=renB ψ (H1.bl.getD c .dead):=fun b y hb hy=>by
   rw [<- hbl',List.getElem?_append_right (by simpa using hb)] at hy;simp only [List.length_map,List.length_range,List.getElem?_map,Option.map_eq_some_iff] at hy;obtain ⟨c,e1,e2⟩:=hy;exact ⟨c,e1,e2.symm⟩
 have hlive1:∀ j,liveB (renB ψ (H1.bl.getD j .dead))=true->live H1 j:=fun j hj=>by
   rw [liveB_ren,List.getD_eq_getElem?_getD] at hj;cases h3:H1.bl[j]? with
   |none=>rw [h3] at hj;simp [liveB] at hj
   |some y=>rw [h3] at hj;exact ⟨y,h3,hj⟩
 have hlive0:∀ b,liveB (H.bl.getD b .dead)=true->live H b:=fun b hb=>by
   rw [List.getD_eq_getElem?_getD] at hb;cases h3:H.bl[b]? with
   |none=>rw [h3] at hb;simp [liveB] at hb
   |some y=>rw [h3] at hb;exact ⟨y,h3,hb⟩
 have hkind:∀ b,live ⟨bl',H.wm⟩ b->(∃ j,live H1 j/\m'.ι b=m1.ι j/\((j<bs.length/\bs[j]?=some b)\/(bs.length<=j/\H.bl.length<=b/\news[b-H.bl.length]?=some j)))\/(b<H.bl.length/\live H b/\pos b bs 0=none):=fun b ⟨y,hy,hl⟩=>by
   have hy':bl'[b]?=some y:=hy;rcases Nat.lt_or_ge b H.bl.length with hlt|hge
   · rw [hgl b hlt] at hy';simp at hy';cases hp:pos b bs 0 with
     |none=>rw [hp] at hy';simp at hy';subst hy';exact .inr ⟨hlt,hlive0 b (by simpa using hl),rfl⟩
     |some j=>
       rw [hp] at hy';simp only at hy';subst hy';have hj:=pos0 hp;have hjl:=getElem?_lt hj;refine .inl ⟨j,hlive1 j (by simpa using hl),?_,.inl ⟨hjl,hj⟩⟩;rw [(hlo b hlt).1,(hold j hjl).1];simp [m0,hj]
   · obtain ⟨c,e1,rfl⟩:=hgh b y hge hy';have he:H.bl.length+(b-H.bl.length)=b:=by omega
     refine .inl ⟨c,hlive1 c hl,?_,.inr ⟨hnl c (List.mem_of_getElem? e1),hge,e1⟩⟩;have:=(hhi _ c e1).1;rw [he] at this;exact this
 have hrh':RH m' ⟨bl',H.wm⟩ Hv':=by
   refine ⟨fun b _ x hb=> ?_,fun b y hy=> ?_,fun b1 b2 _ _ x l1 l2 e1 e2=> ?_,fun b _ x hb hwb=> ?_,by rw [k5.wm];exact Nat.le_trans hh.top k5.len,by simp [m',hlen']⟩
   · show b<bl'.length/\x<Hv'.bl.length;rw [hlen'];rcases Nat.lt_or_ge b H.bl.length with hlt|hge
     · rw [(hlo b hlt).1] at hb;have:=hh.dom b x hb;have:=k5.len;omega
     · simp only [m'] at hb;rw [if_neg (by omega)] at hb;simp only [Option.bind_eq_some_iff] at hb;obtain ⟨c,e1,e2⟩:=hb;have:=getElem?_lt e1;exact ⟨by omega,(k2.dom c x e2).2⟩
   · have hy':bl'[b]?=some y:=hy;rcases Nat.lt_or_ge b H.bl.length with hlt|hge
     · rw [hgl b hlt] at hy';simp only [Option.some.injEq] at hy';cases hp:pos b bs 0 with
       |none=>
         rw [hp] at hy';simp only at hy';subst hy';rw [List.getD_eq_getElem?_getD];cases h3:H.bl[b]? with
         |none=>trivial
         |some y=>
           refine (hh.blk b y h3).keep hle (hlo b hlt).1 (hlo b hlt).2 fun hl _ x hx=> ?_
           exact k5.stay x (hh.dom b x hx).2 fun j s hj=>hnot b x ⟨y,h3,hl⟩ hx hp j s hj
       |some j=>
         rw [hp] at hy';simp only at hy';subst hy';have hj:=pos0 hp;have hjl:=getElem?_lt hj;rw [List.getD_eq_getElem?_getD];cases h3:H1.bl[j]? with
         |none=>trivial
         |some y=>exact RB.ren hψ (k2.blk j y h3) (by rw [(hlo b hlt).1,(hold j hjl).1];simp [m0,hj]) (by rw [(hlo b hlt).2,(hold j hjl).2];simp [m0,hj])
     · obtain ⟨c,e1,rfl⟩:=hgh b y hge hy';have he:H.bl.length+(b-H.bl.length)=b:=by omega
       have h4:=hhi _ c e1;rw [he] at h4;rw [List.getD_eq_getElem?_getD];cases h3:H1.bl[c]? with
       |none=>trivial
       |some y=>exact RB.ren hψ (k2.blk c y h3) h4.1 h4.2
   · rcases hkind b1 l1 with ⟨j1,g1,g2,g3⟩|⟨g1,g2,g3⟩<;>rcases hkind b2 l2 with ⟨j2,f1,f2,f3⟩|⟨f1,f2,f3⟩
     · rw [g2] at e1;rw [f2] at e2;obtain ⟨this,h5⟩:=k2.inj' j1 j2 x g1 f1 e1 e2;subst this;refine ⟨?_,h5⟩;rcases g3 with ⟨g3,g4⟩|⟨g3,g4,g5⟩<;>rcases f3 with ⟨f3,f4⟩|⟨f3,f4,f5⟩
       · rw [g4] at f4;simpa using f4
       · omega
       · omega
       · have:=nodup_get hnn g5 f5;omega
     · exfalso;rw [g2] at e1;rw [(hlo b2 f1).1] at e2;rcases g3 with ⟨g3,g4⟩|⟨g3,g4,g5⟩
       · rw [(hold j1 g3).1] at e1;exact hnot b2 x f2 e2 f3 j1 _ e1
       · rcases k5.new j1 x e1 with ⟨b0,s0,hb0⟩|hge
         · exact hnot b2 x f2 e2 f3 b0 s0 hb0
         · have:=(hh.dom b2 x e2).2;omega
     · exfalso;rw [f2] at e2;rw [(hlo b1 g1).1] at e1;rcases f3 with ⟨f3,f4⟩|⟨f3,f4,f5⟩
       · rw [(hold j2 f3).1] at e2;exact hnot b1 x g2 e1 g3 j2 _ e2
       · rcases k5.new j2 x e2 with ⟨b0,s0,hb0⟩|hge
         · exact hnot b1 x g2 e1 g3 b0 s0 hb0
         · have:=(hh.dom b1 x e1).2;omega
     · rw [(hlo b1 g1).1] at e1;rw [(hlo b2 f1).1] at e2;exact hh.inj' b1 b2 x g2 f2 e1 e2
   · have hwb':H.wm<=b:=hwb;rw [k5.wm];rcases Nat.lt_or_ge b H.bl.length with hlt|hge
     · rw [(hlo b hlt).1] at hb;exact hh.wm b x hb hwb'
     · simp only [m'] at hb;rw [if_neg (by omega)] at hb;simp only [Option.bind_eq_some_iff] at hb;obtain ⟨c,e1,e2⟩:=hb;have:=hnl c (List.mem_of_getElem? e1);have h5:=k2.wm c x e2 (by rw [hwm1];omega);rw [k5.wm] at h5;exact h5
 refine ⟨m',?_,RV.ren hψ 8 k3,hle,⟨⟨by rw [hh.len];simp [m'],fun b hb=>hlo b (by rw [<- hh.len];exact hb)⟩,fun x hx hn=>k5.stay x hx fun j s hj=> ?_,fun b s x hb=> ?_,k5.len,k5.wm⟩⟩
 · exact hrh'
 · obtain ⟨c,e1,e2⟩:=hm0 j x hj;exact hn c s e2
 · rcases Nat.lt_or_ge b H.bl.length with hlt|hge
   · rw [(hlo b hlt).1] at hb;exact .inl ⟨b,s,hb⟩
   · simp only [m'] at hb;rw [if_neg (by omega)] at hb;simp only [Option.bind_eq_some_iff] at hb;obtain ⟨c,e1,e2⟩:=hb;rcases k5.new c x e2 with ⟨b0,s0,hb0⟩|hge
     · obtain ⟨c0,_,e3⟩:=hm0 b0 x hb0;exact .inl ⟨c0,_,e3⟩
     · exact .inr hge
theorem callsOf_sim {C:V.Callee} {l:List (FuncId×Spec)} (hl:∀ p∈l,SpecOK C p.1 p.2):SimCall C (fun X fv args H K=>callsOf l X fv args H K):=callAt_sim (disp_sim hl)
end
end Go.U
namespace Go.U
open Go
variable [TB:Tbl]
section
variable {A:V.Par} {C:V.Callee} {glob:Nat->Option (List UV)} {locs:List Nat} {n:Nat} {X:Type} {out:X}
theorem envOf_get {e:List (Nat×V.SV)}:∀ (is:List Nat),∃ env,V.envOf e is=some env/\∀ t,V.get (V.envIn env) t=if t∈is then (match V.get e t with| .v a=> .v a|_=> .v .junk) else .v .junk
 |[]=>⟨[],rfl,fun t=>by simp [V.envIn,V.get]⟩
 |i::is=>by
  obtain ⟨env,h1,h2⟩:=envOf_get (e:=e) is;refine ⟨(i,match V.get e i with| .v a=>a|_=> .junk)::env,?_,fun t=> ?_⟩
  · simp only [V.envOf,h1];cases V.get e i<;>rfl
  · simp only [V.envIn,V.get,h2 t];by_cases ht:t=i
    · subst ht;simp only [if_true,List.mem_cons,true_or];cases V.get e t<;>rfl
    · simp only [if_neg ht,List.mem_cons,ht,false_or,if_false]
theorem envU_get (e:List (Nat×US)) (ks:List Nat) (t:Nat):get (envIn (envU e ks)) t=if t∈ks then .v (match get e t with| .v a=>a|_=> .junk) else .v .junk:=by
 have:envIn (envU e ks)=ks.map fun i=>(i,US.v (match get e i with| .v a=>a|_=> .junk)):=by unfold envIn envU;rw [List.map_map];rfl
 rw [this,get_keep]
theorem env_rel {m:Mp} {φ:Nat->Option Nat} {e:List (Nat×US)} {ev:List (Nat×V.SV)} {ks:List Nat} (h:RE m φ e ev) (hk:∀ t∈ks,t<n):
   ∃ env,V.envOf ev (List.range n)=some env/\∀ t,match get (envIn (envU e ks)) t,V.get (V.envIn env) t with
     | .v y,.v a=>RV m y a
     |_,_=>False:=by
 obtain ⟨env,h1,h2⟩:=envOf_get (e:=ev) (List.range n);refine ⟨env,h1,fun t=> ?_⟩;rw [h2 t,envU_get];by_cases ht:t∈ks
 · rw [if_pos ht,if_pos (List.mem_range.2 (hk t ht))];have:=h t
   revert this
   cases get e t with
   |loc i c=>
     cases V.get ev t with
     |loc j c'=>exact fun _=> .junk _
     |v a=>exact fun h=>h.elim
   |v y=>
     cases hv:V.get ev t with
     |loc j c'=>intro h;cases y<;>first|exact .junk _|exact h.elim
     |v a=>intro h;cases y<;>first|exact .junk _|exact h
 · rw [if_neg ht];by_cases ht2:t∈List.range n
   · rw [if_pos ht2];cases V.get ev t<;>exact .junk _
   · rw [if_neg ht2];exact .junk _
theorem rfRun_ok (hg:GlobOK A glob) {env:Env} (hc:SimCall C env.call) {id:Nat} {ks:List Nat} {g:Operand} {ps:Array Tmp} {a b:Code} (hrf:TB.rf id=⟨n,ps.toList,a,b⟩) {s:St} {K:V.Ex->St->Option X}
   (h:rfRun A glob env id n ks g s K=some out):∃ ex s',K ex s'=some out/\CTo (V.code A C true locs (List.range n) n (.rangeFunc g ps a b)) s ex s':=by
 unfold rfRun at h;simp only [Option.bind_eq_some_iff] at h;obtain ⟨fv,hfv,h⟩:=h;split at h
 case h_2=>simp at h
 rename_i f cs;generalize hcd:((match A.fns f with|some fn=>fn.body.isSome|none=>false)&&ks.all (fun i=>decide (i<n)))=cd at h;cases cd
 case false=>simp at h
 have hif:=hcd;rw [if_pos rfl] at h;simp only [Bool.and_eq_true,List.all_eq_true,decide_eq_true_eq] at hif;obtain ⟨hfn,hks⟩:=hif;obtain ⟨r,H',h1,hwm,h3⟩:=hc X _ _ _ _ _ h;split at h1
 case h_2=>simp at h1
 rename_i id' e' st pe hb;split at h1
 · simp at h1
 rename_i hst;refine ⟨pe,_,h1,rfl,by show H'.wm=_;rw [hwm];rfl,fun m φ sv hs=> ?_⟩;obtain ⟨fv',e1,e2⟩:=val_sim (m:=m) (φ:=φ) hg hfv hs.e;cases e2 with
 |fn _ _ as hl hr=>
   obtain ⟨env',e3,e4⟩:=env_rel (n:=n) (ks:=ks) hs.e hks;have hlen:=hs.h.len;obtain ⟨r1,r2,r3⟩:=RH.new (n:=0) (y:= .loop id (envU s.e ks) .ready .normal) (yv:= .loop n (List.range n) env' ps.toList a b .ready none) hs.h (by
     refine ⟨sv.H.bl.length,env',by rw [add_ι],?_,fun t=> ?_⟩
     · rw [hrf];simp [V.push,V.Ex.jump]
     · have:=e4 t
       revert this
       cases get (envIn (envU s.e ks)) t<;>cases V.get (V.envIn env') t<;>intro this<;>first|exact this.elim|exact RV.mono (add_le hs.h _ _) this)
   have hfr:RV (m.add s.H.bl.length (some sv.H.bl.length) 0) (.fn f cs) (.fn f as):=RV.mono r2 (.fn f cs as hl hr);obtain ⟨r',Hv',k1,m2,k2,k3,k4,k5⟩:=h3 _ _ (.fn f as) [.yl sv.H.bl.length] r1 hfr (RL.cons (.yl _ _ (by rw [add_ι])) .nil);have hι:m2.ι s.H.bl.length 0=some sv.H.bl.length:=(k4.of _ _ (by rw [add_ι])).1;obtain ⟨x',env2,q1,q2,q3⟩:=k2.blk _ _ hb;rw [hι] at q1;simp at q1;subst q1;have hlive:live H' s.H.bl.length:=⟨_,hb,rfl⟩;obtain ⟨w1,w2⟩:=RH.set (yv:= .dead) k2 hlive hι (y:= .dead) trivial;have hle:m.Le m2:=r2.trans k4;have hgo:Go' m.top m sv.H m2 (V.setBl Hv' sv.H.bl.length .dead):=(r3.trans k5 r3.old.1).trans w2 ((r3.trans k5 r3.old.1).old.1);refine ⟨{ sv with H:=V.setBl Hv' sv.H.bl.length .dead },m2,φ,?_,⟨w1,hs.f.mono hle,hs.e.mono hle (.refl φ),?_⟩,hgo.less (by rw [hlen];exact hs.b)⟩
   · simp only [V.code,if_true,e1,e3,Option.bind_some];have hf2:∃ fn,A.fns f=some fn/\fn.body.isSome=true:=by
       cases hA:A.fns f with
       |none=>rw [hA] at hfn;simp at hfn
       |some fn=>rw [hA] at hfn;exact ⟨fn,rfl,hfn⟩
     obtain ⟨fn,hf3,hf4⟩:=hf2;simp only [hf3,hf4,if_true,Option.bind_some,k1,q2];have hwm2:Hv'.wm<=sv.H.bl.length:=by rw [k5.wm];exact hs.h.top
     have hj:V.jumpOf pe.jump=some pe:=by cases pe<;>rfl
     cases st with
     |busy=>exact (hst rfl).elim
     |ready=>simp [hwm2,hj]
     |done=>simp [hwm2,hj]
     |exhausted=>simp [hwm2,hj]
   · show s.base<=(setBl H' _ _).bl.length;have:s.H.bl.length<=H'.bl.length:=by
       have:=getElem?_lt hb;omega
     simp only [setBl,List.length_set];exact Nat.le_trans hs.b this
def SpecYl (C:V.Callee) (spec:Spec):Prop:=
 ∀ (X:Type) (args:List UV) (H:UH) (K:UV->UH->Option X) (out:X),spec X args H K=some out->
  ∃ r H',K r H'=some out/\H'.wm=H.wm/\∀ (m:Mp) (Hv:V.AH) (a0:V.AV) (as:List V.AV),RH m H Hv->RL m args (a0::as)->∃ r' Hv',C a0 as Hv=some (r',Hv')/\HGo m Hv r H' r' Hv'
theorem SpecYl.imp {C:V.Callee} {g g':Spec} (h:SpecYl C g) (hi:∀ X args H K out,g' X args H K=some out->g X args H K=some out):SpecYl C g':=
 fun X args H K out ho=>h X args H K out (hi X args H K out ho)
theorem putAll_rel {m:Mp} {φ:Nat->Option Nat}:∀ {ps:List Nat} {as:List UV} {as':List V.AV} {e:List (Nat×US)} {ev:List (Nat×V.SV)},RL m as as'->RE m φ e ev->RE m φ (putAll ps as e) (V.putAll ps as' ev)
 |[],as,as',e,ev,_,he=>by cases as<;>cases as'<;>exact he
 |p::ps,[],as',e,ev,h,he=>by
  have:as'=[]:=by have:=h.1;simpa using this
  subst this;exact he
 |p::ps,a::as,as',e,ev,h,he=>by
  cases as' with
  |nil=>have:=h.1;simp at this
  |cons a' as'=>
   have hr:RL m as as':=⟨by have:=h.1;simpa using this,fun i y b k1 k2=>h.2 (i+1) y b (by simpa using k1) (by simpa using k2)⟩;exact putAll_rel (ps:=ps) hr (he.cons p (h.2 0 a a' rfl rfl).rs)
theorem envIn_rel {m:Mp} {φ:Nat->Option Nat} {e:List (Nat×UV)} {env':List (Nat×V.AV)} (h:∀ t,match get (envIn e) t,V.get (V.envIn env') t with
   | .v y,.v a=>RV m y a
   |_,_=>False):RE m φ (envIn e) (V.envIn env'):=fun t=>by
 have:=h t
 revert this
 cases get (envIn e) t<;>cases V.get (V.envIn env') t<;>intro this
 · exact RV.rs this
 · exact this.elim
 · exact this.elim
 · exact this.elim
theorem gc_sim {m m1:Mp} {H H':UH} {Hv Hv1 Hv':V.AH} {r:UV} {r':V.AV} (hgw:H'.wm<=H.bl.length) (hh:RH m H Hv) (hgo:Go' H.bl.length m Hv m1 Hv1) (hg:HGo m1 Hv1 r H' r' Hv') (htop:H.bl.length<=m1.top):
  HGo m Hv (gc H.bl.length r H').1 (gc H.bl.length r H').2 r' Hv':=by
 obtain ⟨m20,e10,e20,e3,e4⟩:=hg;have hgo20:Go' H.bl.length m Hv m20 Hv':=hgo.trans e4 htop;have hst:Rst m20 (fun _=>none) ⟨[(0,.v r)],[],H',H.bl.length⟩ ⟨[(0,.v r')],[],Hv'⟩:=⟨e10,⟨fun i j h=>by simp at h,fun i row h=>by simp at h,fun i i' j h=>by simp at h⟩,fun t=>by
  simp only [get,V.get];split
  · exact e20.rs
  · exact trivial,by have:=hgo20.old.1;rw [e10.len] at this;exact this⟩
 obtain ⟨m2,φ2,c1,c2⟩:=compact_sim (keep:=[0]) (n:=1) (by simp) hst hgw (.refl 1 _);have e1:RH m2 (gc H.bl.length r H').2 Hv':=c1.h;have e2:RV m2 (gc H.bl.length r H').1 r':=by
  have:=c1.e 0;simp only [gc]
  revert this
  simp only [V.get,if_true];cases get (compact [0] ⟨[(0,.v r)],[],H',H.bl.length⟩).e 0 with
  |loc i c=>exact fun h=>h.elim
  |v x=>intro h;cases x<;>first|exact .junk _|exact h
 have hgo2:Go' m.top m Hv m2 Hv':=by rw [hh.len];exact hgo20.trans c2 (Nat.le_refl _)
 refine ⟨m2,e1,e2,⟨fun b _ x hb=> ?_,hgo2.old.1,fun b hb=>(hgo2.old.2 b hb).2⟩,hgo2⟩;have:=hgo2.old.2 b (by rw [hh.len];exact (hh.dom b x hb).1);exact ⟨by rw [this.1];exact hb,by rw [this.2]⟩
theorem bool_gc {b:Bool} {base:Nat} {H:UH}:(gc base (.bool b) H).1= .bool b:=by
 simp [gc,compact,get,renS,ren]
theorem ylRun_ok (hg:GlobOK A glob) {env:Env} {k:Nat} (hc:SimCall (V.call A k) env.call) {id:Nat} {r:RFn} (hrf:TB.rf id=r)
  (hl1:∀ c'∈loops env.join r.assign,LoopSim env.loop (V.code A (V.call A k) false [] (List.range r.n) r.n) c')
  (hl2:∀ c'∈loops env.join r.body,LoopSim env.loop (V.code A (V.call A k) false [] (List.range r.n) r.n) c'):
  SpecYl (V.call A (k+1)) (fun X args H K=>ylRun A glob env id r args H K):=by
 intro X args H K out h;unfold ylRun at h;simp only at h;split at h
 case h_2=>simp at h
 rename_i b as;split at h
 case h_2=>simp at h
 rename_i id' e pe0 hb;split at h
 case isFalse=>simp at h
 rename_i hif;obtain ⟨rfl,hlen,hwb,hps⟩:=hif;obtain ⟨ex1,s1,h1,c1⟩:=code_sim hg hc hl1 h;split at h1
 case h_2=>simp at h1
 split at h1
 case h_2=>simp at h1
 rename_i id1 e1 pe1 hb1;obtain ⟨ex,s2,h2,c2⟩:=code_sim hg hc hl2 h1;split at h2
 case h_2=>simp at h2
 rename_i id2 e2 st2 pe2 hb2;split at h2
 case isFalse=>simp at h2
 rename_i hw2;generalize hst:(if ex.isNormal=true then LoopState.ready else LoopState.done)=st' at h2;have hwm2:s2.H.wm=H.wm:=c2.2.1.trans c1.2.1;refine ⟨_,_,h2,hwm2,fun m Hv a0 as' hh ha=> ?_⟩;obtain ⟨a0',as'',ha1,ha2,ha3⟩:=ha.cons';simp only [List.cons.injEq] at ha1;obtain ⟨rfl,rfl⟩:=ha1;cases ha2 with
 |yl _ x hx=>
  obtain ⟨x0,env',q1,q2,q3⟩:=hh.blk b _ hb;rw [hx] at q1;simp at q1;subst q1;rw [hrf] at q2;have hlb:b<H.bl.length:=getElem?_lt hb;have hs0:Rst m (fun _=>none) ⟨putAll r.ps as (envIn e),[],H,H.bl.length⟩ ⟨V.putAll r.ps as' (V.envIn env'),[],Hv⟩:=
    ⟨hh,⟨fun i j h=>by simp at h,fun i row h=>by simp at h,fun i i' j h=>by simp at h⟩,putAll_rel ha3 (envIn_rel q3),Nat.le_refl _⟩
  obtain ⟨sv1,m1,φ1,k1,k2,k3⟩:=c1.2.2 m _ _ hs0;have hx1:m1.ι b 0=some x:=by rw [(k3.old.2 b hlb).1];exact hx
  obtain ⟨x1,env1,p1,p2,p3⟩:=k2.h.blk b _ hb1;rw [hx1] at p1;simp at p1;subst p1;have hlt1:x<sv1.H.bl.length:=(k2.h.dom b x hx1).2;obtain ⟨w1,w2⟩:=RH.set (y:= .loop id1 e1 .busy pe1) (yv:= .loop (TB.rf id1).n (List.range (TB.rf id1).n) env1 (TB.rf id1).ps (TB.rf id1).assign (TB.rf id1).body .busy pe1.jump) k2.h ⟨_,hb1,rfl⟩ hx1 ⟨x,env1,hx1,by rw [vset_get,if_pos rfl,if_pos hlt1],p3⟩;have hs1:Rst m1 φ1 { s1 with H:=setBl s1.H b (.loop id1 e1 .busy pe1) } { sv1 with H:=V.setBl sv1.H x (.loop (TB.rf id1).n (List.range (TB.rf id1).n) env1 (TB.rf id1).ps (TB.rf id1).assign (TB.rf id1).body .busy pe1.jump) }:=
    ⟨w1,k2.f,k2.e,by simpa [setBl] using k2.b⟩
  obtain ⟨sv2,m2,φ2,l1,l2,l3⟩:=c2.2.2 m1 φ1 _ hs1;have hbase:s1.base=H.bl.length:=c1.1;have l3':=l3.less (n':=H.bl.length) (by show H.bl.length<=s1.base;omega);have hx2:m2.ι b 0=some x:=by rw [(l3'.old.2 b hlb).1];exact hx1
  obtain ⟨x2,env2,u1,u2,u3⟩:=l2.h.blk b _ hb2;rw [hx2] at u1;simp at u1;subst u1;have hlt2:x<sv2.H.bl.length:=(l2.h.dom b x hx2).2;obtain ⟨v1,v2⟩:=RH.set (y:= .loop id2 e2 st' ex) (yv:= .loop (TB.rf id2).n (List.range (TB.rf id2).n) env2 (TB.rf id2).ps (TB.rf id2).assign (TB.rf id2).body st' ex.jump) l2.h ⟨_,hb2,rfl⟩ hx2 ⟨x,env2,hx2,by rw [vset_get,if_pos rfl,if_pos hlt2],u3⟩;have hgo1:Go' H.bl.length m Hv m2 sv2.H:=(k3.trans (w2.less (by rw [k2.h.len,<- hbase];exact k2.b)) (Nat.le_refl _)).trans l3' (Nat.le_refl _);refine ⟨.bool ex.isNormal,V.setBl sv2.H x (.loop (TB.rf id2).n (List.range (TB.rf id2).n) env2 (TB.rf id2).ps (TB.rf id2).assign (TB.rf id2).body st' ex.jump),?_,?_⟩
  · have hwx:Hv.wm<=x:=hh.wm b x hx hwb;simp only [V.call,q2];rw [if_pos ⟨by rw [ha3.1];exact hlen,hwx,hps⟩,k1];simp only [Option.bind_some,p2,l1,u2,hst]
  · have hlen2:H.bl.length<=m2.top:=l3'.old.1;have:=gc_sim (r:= .bool ex.isNormal) (r':= .bool ex.isNormal) (H':=setBl s2.H b (.loop id2 e2 st' ex)) hw2 hh hgo1 ⟨m2,v1,.bool _,.refl m2,v2⟩ hlen2;rw [bool_gc] at this;exact this
theorem dispY_ok {C:V.Callee}:∀ {l:List (FuncId×Spec)},(∀ p∈l,SpecYl C p.2)->∀ f,SpecYl C (disp l f)
 |[],_,f,X,args,H,K,out,h=>by simp [disp] at h
 |(g,sp)::l,hl,f,X,args,H,K,out,h=>by
  simp only [disp] at h;split at h
  · rename_i e;subst e;exact hl (f,sp) (List.mem_cons_self ..) X args H K out h
  · exact dispY_ok (fun p hp=>hl p (List.mem_cons_of_mem _ hp)) f X args H K out h
theorem callsY_sim {C:V.Callee} {l ly:List (FuncId×Spec)} (hl:∀ p∈l,SpecOK C p.1 p.2) (hy:∀ p∈ly,SpecYl C p.2):SimCall C (fun X fv args H K=>callsY l ly X fv args H K):=by
 refine callAt_sim (spec:=fun X fv args H K=>_) ?_;intro X fv args H K out h;simp only at h;split at h
 · rename_i f cs;obtain ⟨r,H',h1,h2,h3⟩:=disp_ok hl f X _ H K out h;refine ⟨r,H',h1,h2,fun m Hv fv' args' hh hf ha=> ?_⟩;cases hf with
   |fn _ _ as hl' hr=>exact h3 m Hv args' as hh (ha.append ⟨hl',hr⟩)
 · rename_i b;split at h
   case h_2=>simp at h
   obtain ⟨r,H',h1,h2,h3⟩:=dispY_ok hy _ X _ H K out h;exact ⟨r,H',h1,h2,fun m Hv fv' args' hh hf ha=>h3 m Hv fv' args' hh (.cons hf ha)⟩
 · simp at h
end
end Go.U
namespace Go.U
open Go
inductive Sk where
 |bool
 |int (k:IntKind)
 |str
 |lit (c:CT)
 |sl (b:Nat)
 |pel (b c:Nat)
 |dsl (b:Nat)
 |dpl (b c:Nat)
 |junk
 |nilp
 |nils
 |emp
 |nilm
 |nilf
 |nili
 |ptr (b c:Nat)
 |all (b:Nat)
 |mp (b:Nat)
 |yl (b:Nat)
 |eptr (l:Sk)
 |fn (f:FuncId) (l:Sk)
 |agg (l:Sk)
 |tup (l:Sk)
 |nil
 |cons (a b:Sk)
def Sk.T:Sk->Type
 | .bool=>Bool
 | .int _=>Int
 | .str=>ByteArray
 | .lit c=>List (CellT c)
 | .sl _=>Nat×Nat
 | .pel _ _=>Nat
 | .dsl _=>Nat
 | .dpl _ _=>Nat×Nat
 | .eptr l=>l.T
 | .fn _ l=>l.T
 | .agg l=>l.T
 | .tup l=>l.T
 | .cons a b=>a.T×b.T
 |_=>Unit
def Sk.fill:(k:Sk)->k.T->UV ⊕ List UV
 | .bool,b=> .inl (.bool b)
 | .int k,n=> .inl (.int k n)
 | .str,s=> .inl (.str s)
 | .lit c,l=> .inl (.lit c l)
 | .sl b,p=> .inl (.sl b p.1 p.2)
 | .pel b c,r=> .inl (.pel b r c)
 | .dsl b,r=> .inl (.dsl b r)
 | .dpl b c,p=> .inl (.dpl b p.1 p.2 c)
 | .junk,_=> .inl .junk
 | .nilp,_=> .inl .nilp
 | .nils,_=> .inl .nils
 | .emp,_=> .inl .emp
 | .nilm,_=> .inl .nilm
 | .nilf,_=> .inl .nilf
 | .nili,_=> .inl .nili
 | .ptr b c,_=> .inl (.ptr b c)
 | .all b,_=> .inl (.all b)
 | .mp b,_=> .inl (.mp b)
 | .yl b,_=> .inl (.yl b)
 | .eptr l,t=> .inl (.eptr ((l.fill t).elim (fun _=>[]) id))
 | .fn f l,t=> .inl (.fn f ((l.fill t).elim (fun _=>[]) id))
 | .agg l,t=> .inl (.agg ((l.fill t).elim (fun _=>[]) id))
 | .tup l,t=> .inl (.tup ((l.fill t).elim (fun _=>[]) id))
 | .nil,_=> .inr []
 | .cons a b,(x,y)=> .inr ((a.fill x).elim id (fun _=> .junk)::(b.fill y).elim (fun _=>[]) id)
def Sk.take:(k:Sk)->UV ⊕ List UV->Option k.T
 | .bool=>fun x=>match x with| .inl (.bool b)=>some b|_=>none
 | .int k=>fun x=>match x with| .inl (.int k' n)=>if k'=k then some n else none|_=>none
 | .str=>fun x=>match x with| .inl (.str s)=>some s|_=>none
 | .lit c=>fun x=>match x with| .inl (.lit c' l)=>if h:c'=c then some (h ▸ l) else none|_=>none
 | .sl b=>fun x=>match x with| .inl (.sl b' r n)=>if b'=b then some (r,n) else none|_=>none
 | .pel b c=>fun x=>match x with| .inl (.pel b' r c')=>if b'=b/\c'=c then some r else none|_=>none
 | .dsl b=>fun x=>match x with| .inl (.dsl b' r)=>if b'=b then some r else none|_=>none
 | .dpl b c=>fun x=>match x with| .inl (.dpl b' r j c')=>if b'=b/\c'=c then some (r,j) else none|_=>none
 | .junk=>fun x=>match x with| .inl .junk=>some ()|_=>none
 | .nilp=>fun x=>match x with| .inl .nilp=>some ()|_=>none
 | .nils=>fun x=>match x with| .inl .nils=>some ()|_=>none
 | .emp=>fun x=>match x with| .inl .emp=>some ()|_=>none
 | .nilm=>fun x=>match x with| .inl .nilm=>some ()|_=>none
 | .nilf=>fun x=>match x with| .inl .nilf=>some ()|_=>none
 | .nili=>fun x=>match x with| .inl .nili=>some ()|_=>none
 | .ptr b c=>fun x=>match x with| .inl (.ptr b' c')=>if b'=b/\c'=c then some () else none|_=>none
 | .all b=>fun x=>match x with| .inl (.all b')=>if b'=b then some () else none|_=>none
 | .mp b=>fun x=>match x with| .inl (.mp b')=>if b'=b then some () else none|_=>none
 | .yl b=>fun x=>match x with| .inl (.yl b')=>if b'=b then some () else none|_=>none
 | .eptr l=>fun x=>match x with| .inl (.eptr cs)=>l.take (.inr cs)|_=>none
 | .fn f l=>fun x=>match x with| .inl (.fn f' cs)=>if f'=f then l.take (.inr cs) else none|_=>none
 | .agg l=>fun x=>match x with| .inl (.agg cs)=>l.take (.inr cs)|_=>none
 | .tup l=>fun x=>match x with| .inl (.tup cs)=>l.take (.inr cs)|_=>none
 | .nil=>fun x=>match x with| .inr []=>some ()|_=>none
 | .cons a b=>fun x=>match x with| .inr (y::ys)=>(a.take (.inl y)).bind fun u=>(b.take (.inr ys)).bind fun v=>some (u,v)|_=>none
theorem no_some {α:Type} {t:α} (h:(none:Option α)=some t):False:=by cases h
theorem dec_int {a b:Int} (h:decide (a=b)=true):a=b:=of_decide_eq_true h
theorem Sk.take_fill:∀ (k:Sk) (x:UV ⊕ List UV) (t:k.T),k.take x=some t->k.fill t=x:=by
 intro k;induction k with
 |bool|str|junk|nilp|nils|emp|nilm|nilf|nili|nil=>
  intro x t h;simp only [Sk.take] at h;split at h
  · injection h with h;subst h;rfl
  · simp at h
 |int k=>
  intro x t h;simp only [Sk.take] at h;split at h
  · split at h
    · rename_i e;subst e;injection h with h;subst h;rfl
    · simp at h
  · simp at h
 |lit c=>
  intro x t h;simp only [Sk.take] at h;split at h
  · split at h
    · rename_i e;subst e;injection h with h;subst h;rfl
    · simp at h
  · simp at h
 |sl b|all b|mp b|yl b|dsl b=>
  intro x t h;simp only [Sk.take] at h;split at h
  · split at h
    · rename_i e;subst e;injection h with h;subst h;rfl
    · simp at h
  · simp at h
 |pel b c|ptr b c|dpl b c=>
  intro x t h;simp only [Sk.take] at h;split at h
  · split at h
    · rename_i e;obtain ⟨rfl,rfl⟩:=e;injection h with h;subst h;rfl
    · simp at h
  · simp at h
 |eptr l ih=>
  intro x t h;cases x with
  |inr _=>exact (no_some (α:=l.T) (t:=t) h).elim
  |inl v=>
    cases v with
    |eptr cs=>
      show Sum.inl (UV.eptr ((l.fill t).elim (fun _=>[]) id))=_;rw [ih (.inr cs) t h];rfl
    |_=>exact (no_some (α:=l.T) (t:=t) h).elim
 |agg l ih=>
  intro x t h;cases x with
  |inr _=>exact (no_some (α:=l.T) (t:=t) h).elim
  |inl v=>
    cases v with
    |agg cs=>
      show Sum.inl (UV.agg ((l.fill t).elim (fun _=>[]) id))=_;rw [ih (.inr cs) t h];rfl
    |_=>exact (no_some (α:=l.T) (t:=t) h).elim
 |tup l ih=>
  intro x t h;cases x with
  |inr _=>exact (no_some (α:=l.T) (t:=t) h).elim
  |inl v=>
    cases v with
    |tup cs=>
      show Sum.inl (UV.tup ((l.fill t).elim (fun _=>[]) id))=_;rw [ih (.inr cs) t h];rfl
    |_=>exact (no_some (α:=l.T) (t:=t) h).elim
 |fn f l ih=>
  intro x t h;simp only [Sk.take] at h;split at h
  · rename_i f' cs;have h:(if f'=f then l.take (.inr cs) else none)=some (t:l.T):=h;split at h
    · rename_i e;subst e;show Sum.inl (UV.fn f' ((l.fill t).elim (fun _=>[]) id))=_;rw [ih _ _ h];rfl
    · simp at h
  · simp at h
 |cons a b iha ihb=>
  intro x t h;simp only [Sk.take] at h;split at h
  · simp only [Option.bind_eq_some_iff] at h;obtain ⟨u,hu,v,hv,h⟩:=h;injection h with h
    subst h;simp only [Sk.fill,iha _ _ hu,ihb _ _ hv];rfl
  · simp at h
def Sk.v (k:Sk) (t:k.T):UV:=(k.fill t).elim id fun _=> .junk
def Sk.l (k:Sk) (t:k.T):List UV:=(k.fill t).elim (fun _=>[]) id
inductive SkS where
 |v (k:Sk)
 |loc (i c:Nat)
inductive SkB where
 |dead
 |opn (l:Sk)
 |cells (c:CT)
 |deep (c:CT)
 |mapL (k:KT) (es:List (KeyT k×Sk))
 |mapT (k:KT) (g:Bool) (c:CT)
 |loop (id:Nat) (env:List (Nat×Sk)) (st:LoopState) (pe:V.Ex)
 |bld (q:Sk)
 |byt
def tyE:List (Nat×SkS)->Type
 |[]=>Unit
 |(_,.v k)::l=>k.T×tyE l
 |(_,.loc _ _)::l=>tyE l
def fillE:(l:List (Nat×SkS))->tyE l->List (Nat×US)
 |[],_=>[]
 |(i,.v k)::l,(x,y)=>(i,.v (k.v x))::fillE l y
 |(i,.loc j c)::l,y=>(i,.loc j c)::fillE l y
def takeE:(l:List (Nat×SkS))->List (Nat×US)->Option (tyE l)
 |[]=>fun e=>match e with|[]=>some ()|_=>none
 |(i,.v k)::l=>fun e=>match e with|(i',.v x)::e=>if i'=i then (k.take (.inl x)).bind fun u=>(takeE l e).bind fun v=>some (u,v) else none|_=>none
 |(i,.loc j c)::l=>fun e=>match e with|(i',.loc j' c')::e=>if i'=i/\j'=j/\c'=c then takeE l e else none|_=>none
def tyF:List Sk->Type
 |[]=>Unit
 |k::l=>k.T×tyF l
def fillF:(l:List Sk)->tyF l->List (List UV)
 |[],_=>[]
 |k::l,(x,y)=>k.l x::fillF l y
def takeF:(l:List Sk)->List (List UV)->Option (tyF l)
 |[]=>fun e=>match e with|[]=>some ()|_=>none
 |k::l=>fun e=>match e with|x::e=>(k.take (.inr x)).bind fun u=>(takeF l e).bind fun v=>some (u,v)|_=>none
def tyM {k:KT}:List (KeyT k×Sk)->Type
 |[]=>Unit
 |p::l=>p.2.T×tyM l
def fillM {k:KT}:(l:List (KeyT k×Sk))->tyM l->List (KeyT k×UV)
 |[],_=>[]
 |p::l,(x,y)=>(p.1,p.2.v x)::fillM l y
def takeM {k:KT}:(l:List (KeyT k×Sk))->List (KeyT k×UV)->Option (tyM l)
 |[]=>fun e=>match e with|[]=>some ()|_=>none
 |p::l=>fun e=>match e with|(i,x)::e=>cond (eqK k p.1 i) ((p.2.take (.inl x)).bind fun u=>(takeM l e).bind fun v=>some (u,v)) none|_=>none
def tyN:List (Nat×Sk)->Type
 |[]=>Unit
 |p::l=>p.2.T×tyN l
def fillN:(l:List (Nat×Sk))->tyN l->List (Nat×UV)
 |[],_=>[]
 |p::l,(x,y)=>(p.1,p.2.v x)::fillN l y
def takeN:(l:List (Nat×Sk))->List (Nat×UV)->Option (tyN l)
 |[]=>fun e=>match e with|[]=>some ()|_=>none
 |p::l=>fun e=>match e with|(i,x)::e=>if i=p.1 then ((p.2.take (.inl x)).bind fun u=>(takeN l e).bind fun v=>some (u,v)) else none|_=>none
def sameSt:LoopState->LoopState->Bool
 | .ready,.ready| .busy,.busy| .done,.done| .exhausted,.exhausted=>true
 |_,_=>false
theorem sameSt_eq {a b:LoopState} (h:sameSt a b=true):a=b:=by cases a<;>cases b<;>first|rfl|simp [sameSt] at h
def SkB.T:SkB->Type
 | .dead=>Unit
 | .opn l=>l.T
 | .cells c=>List (CellT c)
 | .deep c=>List (List (CellT c))
 | .mapL _ es=>tyM es
 | .mapT k _ c=>List (KeyT k×CellT c)
 | .loop _ env _ _=>tyN env
 | .bld q=>q.T
 | .byt=>ByteArray
def SkB.fill:(b:SkB)->b.T->UB
 | .dead,_=> .dead
 | .opn l,t=> .opn (l.l t)
 | .cells c,l=> .cells c l
 | .deep c,l=> .deep c l
 | .mapL k es,t=> .mapL k (fillM es t)
 | .mapT k g c,l=> .mapT k g c l
 | .loop id env st pe,t=> .loop id (fillN env t) st pe
 | .bld q,t=> .bld (q.v t)
 | .byt,s=> .byt s
def SkB.take:(b:SkB)->UB->Option b.T
 | .dead=>fun x=>match x with| .dead=>some ()|_=>none
 | .opn l=>fun x=>match x with| .opn row=>l.take (.inr row)|_=>none
 | .cells c=>fun x=>match x with| .cells c' l=>if h:c'=c then some (h ▸ l) else none|_=>none
 | .deep c=>fun x=>match x with| .deep c' l=>if h:c'=c then some (h ▸ l) else none|_=>none
 | .mapL k es=>fun x=>match x with| .mapL k' es'=>if h:k'=k then takeM es (h ▸ es') else none|_=>none
 | .mapT k g c=>fun x=>match x with| .mapT k' g' c' l=>if h:k'=k/\g'=g/\c'=c then some (h.1 ▸ h.2.2 ▸ l) else none|_=>none
 | .loop id env st pe=>fun x=>match x with| .loop id' env' st' pe'=>if id'=id/\sameSt st' st=true/\pe'=pe then takeN env env' else none|_=>none
 | .bld q=>fun x=>match x with| .bld y=>q.take (.inl y)|_=>none
 | .byt=>fun x=>match x with| .byt s=>some s|_=>none
def tyH:List SkB->Type
 |[]=>Unit
 |b::l=>b.T×tyH l
def fillH:(l:List SkB)->tyH l->List UB
 |[],_=>[]
 |b::l,(x,y)=>b.fill x::fillH l y
def takeH:(l:List SkB)->List UB->Option (tyH l)
 |[]=>fun e=>match e with|[]=>some ()|_=>none
 |b::l=>fun e=>match e with|x::e=>(b.take x).bind fun u=>(takeH l e).bind fun v=>some (u,v)|_=>none
theorem Sk.take_v {k:Sk} {x:UV} {t:k.T} (h:k.take (.inl x)=some t):k.v t=x:=by rw [Sk.v,k.take_fill _ _ h];rfl
theorem Sk.take_l {k:Sk} {x:List UV} {t:k.T} (h:k.take (.inr x)=some t):k.l t=x:=by rw [Sk.l,k.take_fill _ _ h];rfl
theorem takeE_fill:∀ (l:List (Nat×SkS)) (e:List (Nat×US)) (t:tyE l),takeE l e=some t->fillE l t=e
 |[],e,t,h=>by
  cases e with
  |nil=>rfl
  |cons _ _=>simp [takeE] at h
 |(i,.v k)::l,e,t,h=>by
  simp only [takeE] at h;split at h
  · split at h
    · rename_i e0;subst e0;simp only [Option.bind_eq_some_iff] at h;obtain ⟨u,hu,v,hv,h⟩:=h;injection h with h;subst h
      simp only [fillE,Sk.take_v hu,takeE_fill l _ v hv]
    · simp at h
  · simp at h
 |(i,.loc j c)::l,e,t,h=>by
  simp only [takeE] at h;split at h
  · rename_i i' j' c' e';have h:(if i'=i/\j'=j/\c'=c then takeE l e' else none)=some (t:tyE l):=h;split at h
    · rename_i e0;obtain ⟨rfl,rfl,rfl⟩:=e0;show (i',US.loc j' c')::fillE l t=_;rw [takeE_fill l _ t h]
    · simp at h
  · simp at h
theorem takeF_fill:∀ (l:List Sk) (e:List (List UV)) (t:tyF l),takeF l e=some t->fillF l t=e
 |[],e,t,h=>by
  cases e with
  |nil=>rfl
  |cons _ _=>simp [takeF] at h
 |k::l,e,t,h=>by
  simp only [takeF] at h;split at h
  · simp only [Option.bind_eq_some_iff] at h;obtain ⟨u,hu,v,hv,h⟩:=h;injection h with h;subst h
    simp only [fillF,Sk.take_l hu,takeF_fill l _ v hv]
  · simp at h
theorem eqK_eq {k:KT} {i j:KeyT k} (h:eqK k i j=true):i=j:=by
 cases k with
 |int k=>exact dec_int (a:=i) (b:=j) h
 |str=>cases i;cases j;exact congrArg ByteArray.mk (eq_of_beq (α:=Array UInt8) h)
theorem takeM_fill {k:KT}:∀ (l:List (KeyT k×Sk)) (e:List (KeyT k×UV)) (t:tyM l),takeM l e=some t->fillM l t=e
 |[],e,t,h=>by
  cases e with
  |nil=>rfl
  |cons _ _=>simp [takeM] at h
 |p::l,e,t,h=>by
  simp only [takeM] at h;split at h
  · rename_i i x e;cases he:eqK k p.1 i with
    |false=>rw [he] at h;simp at h
    |true=>
     rw [he] at h;simp only [cond_true,Option.bind_eq_some_iff] at h;obtain ⟨u,hu,v,hv,h⟩:=h;injection h with h;subst h
     simp only [fillM,Sk.take_v hu,takeM_fill l _ v hv,eqK_eq he]
  · simp at h
theorem takeN_fill:∀ (l:List (Nat×Sk)) (e:List (Nat×UV)) (t:tyN l),takeN l e=some t->fillN l t=e
 |[],e,t,h=>by
  cases e with
  |nil=>rfl
  |cons _ _=>simp [takeN] at h
 |p::l,e,t,h=>by
  simp only [takeN] at h;split at h
  · rename_i i x e;split at h
    · rename_i he;simp only [Option.bind_eq_some_iff] at h;obtain ⟨u,hu,v,hv,h⟩:=h;injection h with h;subst h
      simp only [fillN,Sk.take_v hu,takeN_fill l _ v hv,he]
    · simp at h
  · simp at h
theorem SkB.take_fill:∀ (b:SkB) (x:UB) (t:b.T),b.take x=some t->b.fill t=x
 | .dead,x,t,h=>by
  simp only [SkB.take] at h;split at h
  · rfl
  · simp at h
 | .opn l,x,t,h=>by
  cases x with
  |opn row=>
    show UB.opn (l.l t)=_;rw [Sk.take_l (x:=row) h]
  |_=>exact (no_some (α:=l.T) (t:=t) h).elim
 | .cells c,x,t,h=>by
  simp only [SkB.take] at h;split at h
  · split at h
    · rename_i e;subst e;injection h with h;subst h;rfl
    · simp at h
  · simp at h
 | .deep c,x,t,h=>by
  simp only [SkB.take] at h;split at h
  · split at h
    · rename_i e;subst e;injection h with h;subst h;rfl
    · simp at h
  · simp at h
 | .mapL k es,x,t,h=>by
  simp only [SkB.take] at h;split at h
  · rename_i k' es';have h:(if h:k'=k then takeM es (h ▸ es') else none)=some (t:tyM es):=h;split at h
    · rename_i e;subst e;show UB.mapL k' (fillM es t)=_;rw [takeM_fill _ _ _ h]
    · simp at h
  · simp at h
 | .mapT k g c,x,t,h=>by
  simp only [SkB.take] at h;split at h
  · split at h
    · rename_i e;obtain ⟨rfl,rfl,rfl⟩:=e;injection h with h;subst h;rfl
    · simp at h
  · simp at h
 | .loop id env st pe,x,t,h=>by
  simp only [SkB.take] at h;split at h
  · rename_i id' env' st' pe';have h:(if id'=id/\sameSt st' st=true/\pe'=pe then takeN env env' else none)=some (t:tyN env):=h;split at h
    · rename_i e;obtain ⟨rfl,e2,rfl⟩:=e;have:=sameSt_eq e2;subst this;show UB.loop id' (fillN env t) _ pe'=_;rw [takeN_fill _ _ _ h]
    · simp at h
  · simp at h
 | .bld q,x,t,h=>by
  cases x with
  |bld y=>
    show UB.bld (q.v t)=_;rw [Sk.take_v (x:=y) h]
  |_=>exact (no_some (α:=q.T) (t:=t) h).elim
 | .byt,x,t,h=>by
  cases x with
  |byt s=>injection h with h;subst h;rfl
  |_=>exact (no_some (α:=ByteArray) (t:=t) h).elim
theorem takeH_fill:∀ (l:List SkB) (e:List UB) (t:tyH l),takeH l e=some t->fillH l t=e
 |[],e,t,h=>by
  cases e with
  |nil=>rfl
  |cons _ _=>simp [takeH] at h
 |b::l,e,t,h=>by
  simp only [takeH] at h;split at h
  · simp only [Option.bind_eq_some_iff] at h;obtain ⟨u,hu,v,hv,h⟩:=h;injection h with h;subst h
    simp only [fillH,SkB.take_fill b _ _ hu,takeH_fill l _ v hv]
  · simp at h
structure SkSt where
 e:List (Nat×SkS)
 F:List Sk
 bl:List SkB
 wm:Nat
 base:Nat
def SkSt.T (k:SkSt):Type:=tyE k.e×tyF k.F×tyH k.bl
def SkSt.fill (k:SkSt) (t:k.T):St:=⟨fillE k.e t.1,fillF k.F t.2.1,⟨fillH k.bl t.2.2,k.wm⟩,k.base⟩
def SkSt.take (k:SkSt) (s:St):Option k.T:=
 if s.H.wm=k.wm/\s.base=k.base then (takeE k.e s.e).bind fun a=>(takeF k.F s.F).bind fun b=>(takeH k.bl s.H.bl).bind fun c=>some (a,b,c) else none
theorem SkSt.take_fill {k:SkSt} {s:St} {t:k.T} (h:k.take s=some t):k.fill t=s:=by
 unfold SkSt.take at h;split at h
 case isFalse=>simp at h
 rename_i hw;simp only [Option.bind_eq_some_iff] at h;obtain ⟨a,ha,b,hb,c,hc,h⟩:=h;injection h with h;subst h
 simp only [SkSt.fill,takeE_fill _ _ _ ha,takeF_fill _ _ _ hb,takeH_fill _ _ _ hc,<- hw.1,<- hw.2]
structure SkA where
 l:Sk
 bl:List SkB
 wm:Nat
def SkA.T (k:SkA):Type:=k.l.T×tyH k.bl
def SkA.args (k:SkA) (t:k.T):List UV:=k.l.l t.1
def SkA.heap (k:SkA) (t:k.T):UH:=⟨fillH k.bl t.2,k.wm⟩
def SkA.take (k:SkA) (args:List UV) (H:UH):Option k.T:=
 if H.wm=k.wm then (k.l.take (.inr args)).bind fun a=>(takeH k.bl H.bl).bind fun b=>some (a,b) else none
theorem SkA.take_fill {k:SkA} {args:List UV} {H:UH} {t:k.T} (h:k.take args H=some t):k.args t=args/\k.heap t=H:=by
 unfold SkA.take at h;split at h
 case isFalse=>simp at h
 rename_i hw;simp only [Option.bind_eq_some_iff] at h;obtain ⟨a,ha,b,hb,h⟩:=h;injection h with h;subst h
 exact ⟨Sk.take_l ha,by simp only [SkA.heap,takeH_fill _ _ _ hb,<- hw]⟩
theorem cond_bind {α β:Type} (b:Bool) (x y:Option α) (k:α->Option β):(cond b x y).bind k=cond b (x.bind k) (y.bind k):=by cases b<;>rfl
theorem ask_bind {α β:Type} (b:Bool) (x:Option α) (k:α->Option β):(ask b x).bind k=ask b (x.bind k):=by cases b<;>rfl
theorem elim_bind {α β γ δ:Type} (e:α ⊕ β) (f:α->Option γ) (g:β->Option γ) (k:γ->Option δ):(e.elim f g).bind k=e.elim (fun a=>(f a).bind k) (fun a=>(g a).bind k):=by cases e<;>rfl
def finU (pol:Pol) (pe:V.Ex->Pol):V.Ex->St->Option (St ⊕ (V.Ex×St))
 | .normal,s=>(prep pol s).bind fun s=>some (.inl s)
 |ex,s=>(prep (pe ex) s).bind fun s=>some (.inr (ex,s))
section
variable [TB:Tbl] {rf:Bool}
variable {A:V.Par} {C:V.Callee} {glob:Nat->Option (List UV)} {locs:List Nat} {n:Nat}
theorem loop_model (hg:GlobOK A glob) {env:Env} (hc:SimCall C env.call) {c:Code} (hl:∀ c'∈loops env.join c,LoopSim env.loop (V.code A C rf locs (List.range n) n) c')
  {P T E:Type} {enc:P->T->St} {eout:P->E->V.Ex×St} {pol:Pol} {pe:V.Ex->Pol} (hpol:keepOK n pol) (hpe:∀ ex,keepOK n (pe ex))
  {step:(Y:Type)->P->T->(T->Option Y)->(E->Option Y)->Option Y}
  (hnat:∀ Y p t ki ke,step Y p t ki ke=(step (T ⊕ E) p t (fun t=>some (.inl t)) (fun e=>some (.inr e))).bind (Sum.elim ki ke))
  (hstep:∀ p t,code A glob env locs n c (enc p t) (finU pol pe)=step _ p t (fun t'=>some (.inl (enc p t'))) (fun e=>some (.inr (eout p e))))
  {orc:(X:Type)->Nat->St->(V.Ex->St->Option X)->Option X}
  (horc:∀ (X:Type) (s:St) (K:V.Ex->St->Option X) (out:X),orc X (loopKey c) s K=some out->∃ p t e,prep pol s=some (enc p t)/\loopAll (fun t=>step (T ⊕ E) p t (fun t=>some (.inl t)) (fun e=>some (.inr e))) t=some e/\K (eout p e).1 (eout p e).2=some out):
  LoopSim orc (V.code A C rf locs (List.range n) n) (.loop c):=by
 intro X s K out h;obtain ⟨p,t,e,h1,h2,h3⟩:=horc X s K out h;obtain ⟨p1,p2,p3⟩:=prep_sim h1 hpol;have main:∀ (N:Nat) (t:T) (e:E),loopM (fun t=>step (T ⊕ E) p t (fun t=>some (.inl t)) (fun e=>some (.inr e))) N t=some e->(eout p e).2.base=(enc p t).base/\(eout p e).2.H.wm=(enc p t).H.wm/\∀ (m:Mp) (φ:Nat->Option Nat) (sv:V.S),Rst m φ (enc p t) (V.clean (List.range n) sv)->
   ∃ sv' m' φ',V.loopN (fun s=>V.code A C rf locs (List.range n) n c (V.clean (List.range n) s)) N sv=some ((eout p e).1,sv')/\Rst m' φ' (eout p e).2 sv'/\Go' (enc p t).base m sv.H m' sv'.H:=by
  intro N;induction N with
  |zero=>intro t e h;simp [loopM] at h
  |succ N ih=>
   intro t e h;simp only [loopM,Option.bind_eq_some_iff] at h;obtain ⟨r,hr,h⟩:=h;have hcode:=hstep p t;rw [hnat,hr] at hcode;cases r with
   |inl t'=>
    simp only [Option.bind_some,Sum.elim_inl] at hcode;obtain ⟨ex,s1,g1,g2⟩:=code_sim hg hc hl hcode;have hex:ex= .normal/\prep pol s1=some (enc p t'):=by
     cases ex<;>simp [finU,Option.bind_eq_some_iff] at g1
     exact ⟨rfl,g1⟩
    obtain ⟨rfl,hpr⟩:=hex;obtain ⟨q1,q2,q3⟩:=prep_sim hpr hpol;obtain ⟨i1,i2,i3⟩:=ih t' e h;refine ⟨by rw [i1,q1,g2.1],by rw [i2,q2,g2.2.1],fun m φ sv hs=> ?_⟩;obtain ⟨sv1,m1,φ1,e1,e2,e3⟩:=g2.2.2 m φ _ hs;obtain ⟨m2,φ2,e4,e5⟩:=q3 m1 φ1 sv1 _ e2 (.clean n sv1);obtain ⟨sv3,m3,φ3,e6,e7,e8⟩:=i3 m2 φ2 sv1 e4;rw [g2.1] at e5;rw [q1,g2.1] at e8;refine ⟨sv3,m3,φ3,by simp only [V.loopN,e1,Option.bind_some];exact e6,e7,?_⟩;exact (e3.trans e5 (Nat.le_refl _)).trans e8 (Nat.le_refl _)
   |inr e'=>
    simp at h;subst h;simp only [Option.bind_some,Sum.elim_inr] at hcode;obtain ⟨ex,s1,g1,g2⟩:=code_sim hg hc hl hcode;have hex:ex≠ .normal/\(eout p e').1=ex/\prep (pe ex) s1=some (eout p e').2:=by
     cases ex<;>simp [finU,Option.bind_eq_some_iff] at g1
     · obtain ⟨a,ha,hb⟩:=g1;rw [<- hb];exact ⟨by simp,rfl,ha⟩
     · obtain ⟨a,ha,hb⟩:=g1;rw [<- hb];exact ⟨by simp,rfl,ha⟩
    obtain ⟨hne,hex,hpr⟩:=hex;obtain ⟨q1,q2,q3⟩:=prep_sim hpr (hpe ex);refine ⟨by rw [q1,g2.1],by rw [q2,g2.2.1],fun m φ sv hs=> ?_⟩;obtain ⟨sv1,m1,φ1,e1,e2,e3⟩:=g2.2.2 m φ _ hs;obtain ⟨m2,φ2,e4,e5⟩:=q3 m1 φ1 sv1 sv1 e2 (.refl n sv1);rw [g2.1] at e5;refine ⟨sv1,m2,φ2,?_,e4,e3.trans e5 (Nat.le_refl _)⟩;rw [hex];simp only [V.loopN,e1,Option.bind_some]
 obtain ⟨i1,i2,i3⟩:=main V.loopMost t e h2;refine ⟨_,_,h3,by rw [i1,p1],by rw [i2,p2],fun m φ sv hs=> ?_⟩;obtain ⟨m2,φ2,e4,e5⟩:=p3 m φ sv _ hs (.clean n sv);obtain ⟨sv3,m3,φ3,e6,e7,e8⟩:=i3 m2 φ2 sv e4;rw [p1] at e8;exact ⟨sv3,m3,φ3,e6,e7,e5.trans e8 (Nat.le_refl _)⟩
theorem piece_model (hg:GlobOK A glob) {env:Env} (hc:SimCall C env.call) {c:Code} {env0:Env} (hcall:env0.call=env.call)
  (hl:∀ c'∈loops env0.join c,LoopSim env0.loop (V.code A C rf locs (List.range n) n) c')
  {P E:Type} {enc:P->St} {eout:P->E->V.Ex×St} {pol:Pol} {pe:V.Ex->Pol} (hpol:keepOK n pol) (hpe:∀ ex,keepOK n (pe ex))
  {step:(Y:Type)->P->(E->Option Y)->Option Y}
  (hnat:∀ Y p ke,step Y p ke=(step E p (fun e=>some e)).bind ke)
  (hstep:∀ p,code A glob env0 locs n c (enc p) (fun ex s=>(prep (pe ex) s).bind fun s=>some (ex,s))=step _ p (fun e=>some (eout p e)))
  {orc:(X:Type)->Nat->St->(V.Ex->St->Option X)->Option X}
  (horc:∀ (X:Type) (s:St) (K:V.Ex->St->Option X) (out:X),orc X (keyOf c) s K=some out->∃ p e,prep pol s=some (enc p)/\step E p (fun e=>some e)=some e/\K (eout p e).1 (eout p e).2=some out):
  LoopSim orc (V.code A C rf locs (List.range n) n) c:=by
 intro X s K out h;obtain ⟨p,e,h1,h2,h3⟩:=horc X s K out h;obtain ⟨p1,p2,p3⟩:=prep_sim h1 hpol;have hcode:=hstep p;rw [hnat,h2] at hcode;simp only [Option.bind_some] at hcode;obtain ⟨ex,s1,g1,g2⟩:=code_sim hg (by rw [hcall];exact hc) hl hcode;simp only [Option.bind_eq_some_iff,Option.some.injEq] at g1;obtain ⟨s2,hpr,g1⟩:=g1;obtain ⟨q1,q2,q3⟩:=prep_sim hpr (hpe ex);rw [<- g1] at h3;refine ⟨ex,s2,h3,by rw [q1,g2.1,p1],by rw [q2,g2.2.1,p2],fun m φ sv hs=> ?_⟩;obtain ⟨m1,φ1,e1,e2⟩:=p3 m φ sv sv hs (.refl n sv);obtain ⟨sv1,m2,φ2,e3,e4,e5⟩:=g2.2.2 m1 φ1 sv e1;obtain ⟨m3,φ3,e6,e7⟩:=q3 m2 φ2 sv1 sv1 e4 (.refl n sv1);rw [p1] at e5;rw [g2.1,p1] at e7;exact ⟨sv1,m3,φ3,e3,e6,(e2.trans e5 (Nat.le_refl _)).trans e7 (Nat.le_refl _)⟩
theorem range_model (hg:GlobOK A glob) {env:Env} (hc:SimCall C env.call) {env0:Env} (hcall:env0.call=env.call) {id:Nat} {ks:List Nat} {g:Operand} {ps:Array Tmp} {a b:Code} (hrf:TB.rf id=⟨n,ps.toList,a,b⟩)
  {P E:Type} {enc:P->St} {eout:P->E->V.Ex×St} {pol:Pol} {pe:V.Ex->Pol} (hpol:keepOK n pol) (hpe:∀ ex,keepOK n (pe ex))
  {step:(Y:Type)->P->(E->Option Y)->Option Y}
  (hnat:∀ Y p ke,step Y p ke=(step E p (fun e=>some e)).bind ke)
  (hstep:∀ p,rfRun A glob env0 id n ks g (enc p) (fun ex s=>(prep (pe ex) s).bind fun s=>some (ex,s))=step _ p (fun e=>some (eout p e)))
  {orc:(X:Type)->Nat->St->(V.Ex->St->Option X)->Option X}
  (horc:∀ (X:Type) (s:St) (K:V.Ex->St->Option X) (out:X),orc X (keyOf (.rangeFunc g ps a b)) s K=some out->∃ p e,prep pol s=some (enc p)/\step E p (fun e=>some e)=some e/\K (eout p e).1 (eout p e).2=some out):
  LoopSim orc (V.code A C true locs (List.range n) n) (.rangeFunc g ps a b):=by
 intro X s K out h;obtain ⟨p,e,h1,h2,h3⟩:=horc X s K out h;obtain ⟨p1,p2,p3⟩:=prep_sim h1 hpol;have hcode:=hstep p;rw [hnat,h2] at hcode;simp only [Option.bind_some] at hcode;obtain ⟨ex,s1,g1,g2⟩:=rfRun_ok (locs:=locs) hg (by rw [hcall];exact hc) hrf hcode;simp only [Option.bind_eq_some_iff,Option.some.injEq] at g1;obtain ⟨s2,hpr,g1⟩:=g1;obtain ⟨q1,q2,q3⟩:=prep_sim hpr (hpe ex);rw [<- g1] at h3;refine ⟨ex,s2,h3,by rw [q1,g2.1,p1],by rw [q2,g2.2.1,p2],fun m φ sv hs=> ?_⟩;obtain ⟨m1,φ1,e1,e2⟩:=p3 m φ sv sv hs (.refl n sv);obtain ⟨sv1,m2,φ2,e3,e4,e5⟩:=g2.2.2 m1 φ1 sv e1;obtain ⟨m3,φ3,e6,e7⟩:=q3 m2 φ2 sv1 sv1 e4 (.refl n sv1);rw [p1] at e5;rw [g2.1,p1] at e7;exact ⟨sv1,m3,φ3,e3,e6,(e2.trans e5 (Nat.le_refl _)).trans e7 (Nat.le_refl _)⟩
end
end Go.U
namespace Go.U
open Go
theorem n1 {α β:Type} (b:Bool) (x y:Option α) (k:α->Option β):(cond b x y).bind k=cond b (x.bind k) (y.bind k):=cond_bind b x y k
theorem n2 {α β:Type} (b:Bool) (x:Option α) (k:α->Option β):(ask b x).bind k=ask b (x.bind k):=ask_bind b x k
theorem n3 {α β γ δ:Type} (e:α ⊕ β) (f:α->Option γ) (g:β->Option γ) (k:γ->Option δ):(e.elim f g).bind k=e.elim (fun a=>(f a).bind k) (fun a=>(g a).bind k):=elim_bind e f g k
theorem n4 {α β γ:Type} (x:Option α) (f:α->Option β) (g:β->Option γ):(x.bind f).bind g=x.bind fun a=>(f a).bind g:=Option.bind_assoc x f g
theorem n5 {α β:Type} (a:α) (f:α->Option β):(some a).bind f=f a:=rfl
theorem n6 {α β:Type} (f:α->Option β):(none:Option α).bind f=none:=rfl
theorem n7 {α β γ:Type} (f:α->γ) (g:β->γ) (a:α):Sum.elim f g (.inl a)=f a:=rfl
theorem n8 {α β γ:Type} (f:α->γ) (g:β->γ) (b:β):Sum.elim f g (.inr b)=g b:=rfl
def peOf:List (V.Ex×Pol)->V.Ex->Pol
 |[],_=>⟨[],[],[],[]⟩
 |(e,p)::l,ex=>if ex=e then p else peOf l ex
def keepB (n:Nat) (p:Pol):Bool:=p.keep.all fun t=>decide (t<n)
theorem keepB_ok {n:Nat} {p:Pol} (h:keepB n p=true):keepOK n p:=fun t ht=>by
 have:=List.all_eq_true.1 h t ht;simpa using this
theorem peB_ok {n:Nat}:∀ {l:List (V.Ex×Pol)},(l.all fun q=>keepB n q.2)=true->∀ ex,keepOK n (peOf l ex)
 |[],_,ex=>fun t ht=>by simp [peOf] at ht
 |(e,p)::l,h,ex=>by
  simp only [List.all_cons,Bool.and_eq_true] at h;unfold peOf;split
  · exact keepB_ok h.1
  · exact peB_ok h.2 ex
structure LD (P T E:Type) where
 sk:SkSt
 p:sk.T->P
 t:sk.T->T
 n:P->T->sk.T
 st:(Y:Type)->P->T->(T->Option Y)->(E->Option Y)->Option Y
 o:(Z:Type)->P->E->(V.Ex->St->Z)->Z
 pol:Pol
 pe:List (V.Ex×Pol)
def LD.m {P T E:Type} (L:LD P T E) (p:P) (t:T):Option (T ⊕ E):=L.st _ p t (fun t=>some (.inl t)) (fun e=>some (.inr e))
def LD.q {P T E:Type} (L:LD P T E) (X:Type) (s:St) (K:V.Ex->St->Option X):Option X:=
 (prep L.pol s).bind fun s=>(L.sk.take s).bind fun u=>(loopAll (L.m (L.p u)) (L.t u)).bind fun e=>L.o _ (L.p u) e K
structure PD (P E:Type) where
 sk:SkSt
 p:sk.T->P
 n:P->sk.T
 st:(Y:Type)->P->(E->Option Y)->Option Y
 o:(Z:Type)->P->E->(V.Ex->St->Z)->Z
 pol:Pol
 pe:List (V.Ex×Pol)
def PD.m {P E:Type} (L:PD P E) (p:P):Option E:=L.st _ p (fun e=>some e)
def PD.q {P E:Type} (L:PD P E) (X:Type) (s:St) (K:V.Ex->St->Option X):Option X:=
 (prep L.pol s).bind fun s=>(L.sk.take s).bind fun u=>(L.m (L.p u)).bind fun e=>L.o _ (L.p u) e K
structure FS (A R:Type) where
 sk:SkA
 a:sk.T->A
 n:A->sk.T
 o:(Z:Type)->A->R->(UV->UH->Z)->Z
def FS.sp {A R:Type} (S:FS A R) (m:A->Option R):Spec:=fun X args H K=>(S.sk.take args H).bind fun u=>(m (S.a u)).bind fun r=>S.o _ (S.a u) r K
section
variable [TB:Tbl] {rf:Bool}
variable {A:V.Par} {C:V.Callee} {glob:Nat->Option (List UV)} {locs:List Nat} {n:Nat}
noncomputable abbrev vc (A:V.Par) (C:V.Callee) (rf:Bool) (locs:List Nat) (n:Nat):=V.code A C rf locs (List.range n) n
theorem loop_form (hg:GlobOK A glob) {env:Env} (hc:SimCall C env.call) {c:Code} (hl:∀ c'∈loops env.join c,LoopSim env.loop (vc A C rf locs n) c') {P T E:Type} (L:LD P T E)
  (hk:(keepB n L.pol&&L.pe.all fun q=>keepB n q.2)=true)
  (hnat:∀ Y p t ki ke,L.st Y p t ki ke=(L.m p t).bind (Sum.elim ki ke))
  (hstep:∀ p t,code A glob env locs n c (L.sk.fill (L.n p t)) (finU L.pol (peOf L.pe))=L.st _ p t (fun t=>some (.inl (L.sk.fill (L.n p t)))) (fun e=>some (.inr (L.o _ p e Prod.mk))))
  (hflat:∀ u,L.n (L.p u) (L.t u)=u) (ho:∀ Z p e K,L.o Z p e K=K (L.o _ p e Prod.mk).1 (L.o _ p e Prod.mk).2)
  (hq:∀ X s K,env.loop X (loopKey c) s K=L.q X s K):LoopSim env.loop (vc A C rf locs n) (.loop c):=by
 simp only [Bool.and_eq_true] at hk;refine loop_model hg (env:=env) hc hl (enc:=fun p t=>L.sk.fill (L.n p t)) (eout:=fun p e=>L.o _ p e Prod.mk) (pol:=L.pol) (pe:=peOf L.pe) (step:=L.st) (keepB_ok hk.1) (peB_ok hk.2) hnat hstep ?_;intro X s K out h;rw [hq] at h;unfold LD.q at h;obtain ⟨s',hs,h⟩:=Option.bind_eq_some_iff.1 h;obtain ⟨u,hu,h⟩:=Option.bind_eq_some_iff.1 h;obtain ⟨e,he,h⟩:=Option.bind_eq_some_iff.1 h;refine ⟨L.p u,L.t u,e,?_,he,(ho _ _ _ _).symm.trans h⟩;rw [hs,hflat,SkSt.take_fill hu]
theorem piece_form (hg:GlobOK A glob) {env env0:Env} (hc:SimCall C env.call) (hcall:env0.call=env.call) {c:Code} (hl:∀ c'∈loops env0.join c,LoopSim env0.loop (vc A C rf locs n) c') {P E:Type} (L:PD P E)
  (hk:(keepB n L.pol&&L.pe.all fun q=>keepB n q.2)=true)
  (hnat:∀ Y p ke,L.st Y p ke=(L.m p).bind ke)
  (hstep:∀ p,code A glob env0 locs n c (L.sk.fill (L.n p)) (fun ex s=>(prep (peOf L.pe ex) s).bind fun s=>some (ex,s))=L.st _ p (fun e=>some (L.o _ p e Prod.mk)))
  (hflat:∀ u,L.n (L.p u)=u) (ho:∀ Z p e K,L.o Z p e K=K (L.o _ p e Prod.mk).1 (L.o _ p e Prod.mk).2)
  (hq:∀ X s K,env.loop X (keyOf c) s K=L.q X s K):LoopSim env.loop (vc A C rf locs n) c:=by
 simp only [Bool.and_eq_true] at hk;refine piece_model hg (env:=env) (env0:=env0) hc hcall hl (enc:=fun p=>L.sk.fill (L.n p)) (eout:=fun p e=>L.o _ p e Prod.mk) (pol:=L.pol) (pe:=peOf L.pe) (step:=L.st) (keepB_ok hk.1) (peB_ok hk.2) hnat hstep ?_;intro X s K out h;rw [hq] at h;unfold PD.q at h;obtain ⟨s',hs,h⟩:=Option.bind_eq_some_iff.1 h;obtain ⟨u,hu,h⟩:=Option.bind_eq_some_iff.1 h;obtain ⟨e,he,h⟩:=Option.bind_eq_some_iff.1 h;refine ⟨L.p u,e,?_,he,(ho _ _ _ _).symm.trans h⟩;rw [hs,hflat,SkSt.take_fill hu]
theorem range_form (hg:GlobOK A glob) {env env0:Env} (hc:SimCall C env.call) (hcall:env0.call=env.call) {id:Nat} {ks:List Nat} {g:Operand} {ps:Array Tmp} {a b:Code} (hrf:TB.rf id=⟨n,ps.toList,a,b⟩) {P E:Type} (L:PD P E)
  (hk:(keepB n L.pol&&L.pe.all fun q=>keepB n q.2)=true)
  (hnat:∀ Y p ke,L.st Y p ke=(L.m p).bind ke)
  (hstep:∀ p,rfRun A glob env0 id n ks g (L.sk.fill (L.n p)) (fun ex s=>(prep (peOf L.pe ex) s).bind fun s=>some (ex,s))=L.st _ p (fun e=>some (L.o _ p e Prod.mk)))
  (hflat:∀ u,L.n (L.p u)=u) (ho:∀ Z p e K,L.o Z p e K=K (L.o _ p e Prod.mk).1 (L.o _ p e Prod.mk).2)
  (hq:∀ X s K,env.loop X (keyOf (.rangeFunc g ps a b)) s K=L.q X s K):LoopSim env.loop (vc A C true locs n) (.rangeFunc g ps a b):=by
 simp only [Bool.and_eq_true] at hk;refine range_model hg (env:=env) (env0:=env0) hc hcall hrf (enc:=fun p=>L.sk.fill (L.n p)) (eout:=fun p e=>L.o _ p e Prod.mk) (pol:=L.pol) (pe:=peOf L.pe) (step:=L.st) (keepB_ok hk.1) (peB_ok hk.2) hnat hstep ?_;intro X s K out h;rw [hq] at h;unfold PD.q at h;obtain ⟨s',hs,h⟩:=Option.bind_eq_some_iff.1 h;obtain ⟨u,hu,h⟩:=Option.bind_eq_some_iff.1 h;obtain ⟨e,he,h⟩:=Option.bind_eq_some_iff.1 h;refine ⟨L.p u,e,?_,he,(ho _ _ _ _).symm.trans h⟩;rw [hs,hflat,SkSt.take_fill hu]
def callsL (l:List (FuncId×Spec)):(X:Type)->UV->List UV->UH->(UV->UH->Option X)->Option X:=fun X fv args H K=>callsOf l X fv args H K
def callsYL (l ly:List (FuncId×Spec)):(X:Type)->UV->List UV->UH->(UV->UH->Option X)->Option X:=fun X fv args H K=>callsY l ly X fv args H K
theorem ok_nil {C:V.Callee}:∀ p∈([]:List (FuncId×Spec)),SpecOK C p.1 p.2:=fun p h=>by cases h
theorem ok_cons {C:V.Callee} {f:FuncId} {s:Spec} {l:List (FuncId×Spec)} (h:SpecOK C f s) (hl:∀ p∈l,SpecOK C p.1 p.2):∀ p∈(f,s)::l,SpecOK C p.1 p.2:=fun p hp=>by
 rcases List.mem_cons.1 hp with rfl|hp
 · exact h
 · exact hl p hp
theorem yl_nil {C:V.Callee}:∀ p∈([]:List (FuncId×Spec)),SpecYl C p.2:=fun p h=>by cases h
theorem yl_cons {C:V.Callee} {f:FuncId} {s:Spec} {l:List (FuncId×Spec)} (h:SpecYl C s) (hl:∀ p∈l,SpecYl C p.2):∀ p∈(f,s)::l,SpecYl C p.2:=fun p hp=>by
 rcases List.mem_cons.1 hp with rfl|hp
 · exact h
 · exact hl p hp
theorem lp_nil {orc:(X:Type)->Nat->St->(V.Ex->St->Option X)->Option X} {vcode:Code->V.S->Option (V.Ex×V.S)}:∀ c∈([]:List Code),LoopSim orc vcode c:=fun p h=>by cases h
theorem lp_cons {orc:(X:Type)->Nat->St->(V.Ex->St->Option X)->Option X} {vcode:Code->V.S->Option (V.Ex×V.S)} {c:Code} {l:List Code} (h:LoopSim orc vcode c) (hl:∀ c∈l,LoopSim orc vcode c):∀ c'∈c::l,LoopSim orc vcode c':=fun p hp=>by
 rcases List.mem_cons.1 hp with rfl|hp
 · exact h
 · exact hl p hp
theorem lp_of {orc:(X:Type)->Nat->St->(V.Ex->St->Option X)->Option X} {vcode:Code->V.S->Option (V.Ex×V.S)} {l l':List Code} (e:l=l') (h:∀ c∈l',LoopSim orc vcode c):∀ c∈l,LoopSim orc vcode c:=fun c hc=>h c (e ▸ hc)
theorem fn_form (hg:GlobOK A glob) {env:Env} {k:Nat} (hc:SimCall (V.call A k) env.call) {f:FuncId} {fn:Func} {c:Code} {sh:Sh} {fz:Bool}
  (h1:A.fns f=some fn) (h2:fn.body=some c) (h3:A.ext f=none) (h4:A.loc f=locs) (h5:A.keep f=List.range fn.ntmps) (h6:A.frz f=fz)
  (hl:∀ c'∈loops env.join c,LoopSim env.loop (vc A (V.call A k) true locs fn.ntmps) c') {A' R:Type} (S:FS A' R) {m:A'->Option R}
  {mc:(X:Type)->A'->(R->Option X)->Option X}
  (hrun:∀ X a K,fnRun A glob env locs fn sh fz (S.sk.args (S.n a)) (S.sk.heap (S.n a)) K=mc X a (fun r=>S.o _ a r K))
  (hnat:∀ X a K,mc X a K=(m a).bind K) (hflat:∀ u,S.n (S.a u)=u):SpecOK (V.call A (k+1)) f (S.sp m):=by
 refine (fnRun_ok (sh:=sh) (fz:=fz) hg hc (f:=f) (fn:=fn) (c:=c) h3 h1 h2 (locs:=locs) h4 h5 h6 hl).imp ?_;intro X args H K out h;unfold FS.sp at h;obtain ⟨u,hu,h⟩:=Option.bind_eq_some_iff.1 h;obtain ⟨g1,g2⟩:=SkA.take_fill hu;rw [<- g1,<- g2];have:=hrun X (S.a u) K;rw [hflat,hnat] at this;rw [this];exact h
theorem yl_form (hg:GlobOK A glob) {env:Env} {k:Nat} (hc:SimCall (V.call A k) env.call) {id:Nat} {r:RFn} (hrf:TB.rf id=r)
  (h1:∀ c'∈loops env.join r.assign,LoopSim env.loop (vc A (V.call A k) false [] r.n) c') (h2:∀ c'∈loops env.join r.body,LoopSim env.loop (vc A (V.call A k) false [] r.n) c') {A' R:Type} (S:FS A' R) {m:A'->Option R}
  {mc:(X:Type)->A'->(R->Option X)->Option X}
  (hrun:∀ X a K,ylRun A glob env id r (S.sk.args (S.n a)) (S.sk.heap (S.n a)) K=mc X a (fun r=>S.o _ a r K))
  (hnat:∀ X a K,mc X a K=(m a).bind K) (hflat:∀ u,S.n (S.a u)=u):SpecYl (V.call A (k+1)) (S.sp m):=by
 refine (ylRun_ok hg hc (id:=id) (r:=r) hrf h1 h2).imp ?_;intro X args H K out h;unfold FS.sp at h;obtain ⟨u,hu,h⟩:=Option.bind_eq_some_iff.1 h;obtain ⟨g1,g2⟩:=SkA.take_fill hu;rw [<- g1,<- g2];have:=hrun X (S.a u) K;rw [hflat,hnat] at this;rw [this];exact h
end
end Go.U
