/- A second evaluator, over rows of Lean values, and that it is right over the first. -/
import Derived.Test.YtjenflkegbmkkaaGreatDoorB2
import Derived.KernelRfl
set_option linter.unusedVariables false
set_option linter.unusedSimpArgs false
set_option linter.unusedSectionVars false
open Bool renaming and_eq_true→Ia
open List renaming mem_cons→oc,nodup_append→Ay,mem_append→Sn,mem_cons_self→zc,mem_cons_of_mem→Gb,getElem?_eq_getElem→ya,getElem?_map→Ob,map_cons→Dd,mem_of_getElem?→jb,range→oa,mem_map→ye,getD_eq_getElem?_getD→Ea,length_map→Ec,getElem?_append_left→Fa,getElem?_append_right→Ka,getElem?_take→Ab,length_take→dc,take_length→po,all_eq_true→Yb,mem_filter→th,length_set→fe
open Nat renaming le_refl→ua,lt_or_ge→Rb,le_trans→Ib
open Nat.succ renaming inj→nC
open Option renaming map_eq_some_iff→ia,bind_eq_some_iff→aa,bind_some→da
open Option.some renaming injEq→yc
open Sum renaming elim_inr→ot
namespace Go.U
open Go
variable [TB:qB]
theorem XG:∀ {l:List Nat} {b i k:Nat},pos b l i=some k->∃ j,k=i+j/\l[j]?=some b
 |[],b,i,k,h=>by simp [pos] at h
 |x::l,b,i,k,h=>by
  simp only [pos] at h;split at h
  · rename_i e;simp at h;subst h;subst e;exact ⟨0,rfl,rfl⟩
  · obtain ⟨j,h1,h2⟩:=XG h;exact ⟨j+1,by omega,by simpa using h2⟩
theorem jP {l:List Nat} {b k:Nat} (h:pos b l 0=some k):l[k]?=some b:=by
 obtain ⟨j,h1,h2⟩:=XG h;have:k=j:=by omega
 subst this;exact h2
theorem pM:∀ {l:List Nat} {b i:Nat},b∈l->∃ k,pos b l i=some k
 |[],b,i,h=>by simp at h
 |x::l,b,i,h=>by
  simp only [pos];split
  · exact ⟨i,rfl⟩
  · rename_i e;rcases oc.1 h with rfl|h
    · exact (e rfl).elim
    · exact pM h
theorem aj {H:UH}:∀ {d:Nat} {w seen:List Nat},seen.Nodup->(reach H d w seen).Nodup
 |0,w,seen,h=>by simpa [reach] using h
 |d+1,[],seen,h=>by simpa [reach] using h
 |d+1,b::w,seen,h=>by
  simp only [reach];split
  · exact aj h
  · rename_i hb;refine aj (Ay.2 ⟨h,by simp,fun x hx y hy=> ?_⟩);simp at hy;subst hy
    rintro rfl
    exact hb (by simpa using hx)
theorem vn:∀ {e:List (Nat×US)} {l:List Nat},l.Nodup->(Ol e l).Nodup
 |[],l,h=>h
 |(_,.loc i _)::e,l,h=>by
  simp only [Ol];refine vn ?_;split
  · exact h
  · rename_i hb;refine Ay.2 ⟨h,by simp,fun x hx y hy=> ?_⟩;simp at hy;subst hy
    rintro rfl
    exact hb (by simpa using hx)
 |(_,.v _)::e,l,h=>by simpa [Ol] using vn h
theorem Ks:∀ {e:List (Nat×US)} {l:List Nat} {i:Nat},i∈Ol e l->i∈l\/∃ t c,(t,US.loc i c)∈e
 |[],l,i,h=> .inl h
 |(t,.loc j c)::e,l,i,h=>by
  simp only [Ol] at h;rcases Ks h with h|⟨t',c',h⟩
  · split at h
    · exact .inl h
    · rcases Sn.1 h with h|h
      · exact .inl h
      · simp at h;subst h;exact .inr ⟨t,c,zc ..⟩
  · exact .inr ⟨t',c',Gb _ h⟩
 |(t,.v _)::e,l,i,h=>by
  simp only [Ol] at h;rcases Ks h with h|⟨t',c',h⟩
  · exact .inl h
  · exact .inr ⟨t',c',Gb _ h⟩
theorem vq {l:List Nat} (h:l.Nodup) {i j x:Nat} (hi:l[i]?=some x) (hj:l[j]?=some x):i=j:=by
 have h1:=Ua hi;have h2:=Ua hj;rw [ya h1] at hi;rw [ya h2] at hj;simp at hi hj;exact (List.getElem_inj h).1 (by rw [hi,hj])
section
variable {m m':Mp} {Hv:V.AH} {φ:Nat->Option Nat}
def Ren (m m':Mp) (φ:Nat->Option Nat):Prop:=∀ b b',φ b=some b'->m'.ι b'=m.ι b/\m'.len b'=m.len b/\b'<m'.top
theorem RL.zj (h:Ren m m' φ) (d:Nat) {xs:List UV} {as:List V.AV} (hx:RL m xs as):RL m' (xs.map (U.zj φ d)) as:=
 ⟨by simp [hx.1],fun i x a h1 h2=>by
  rw [Ob,ia] at h1;obtain ⟨y,hy,rfl⟩:=h1;exact RV.zj h d (hx.2 i y a hy h2)⟩
theorem get_map (g:UV->UV) (hg:g .Qb= .Qb):∀ (l:List (Nat×UV)) (t:Nat),get ((l.map fun p=>(p.1,g p.2)).map fun p=>(p.1,US.v p.2)) t=match get (l.map fun p=>(p.1,US.v p.2)) t with| .v y=> .v (g y)|x=>x
 |[],t=>by simp [get,hg]
 |(i,x)::l,t=>by
  simp only [Dd,get];split
  · rfl
  · exact get_map g hg l t
theorem MR.free {k:KT} (m':Mp):∀ {es:List (jd k×UV)} {qd:List (V.AV×V.AV)},MR k m es qd->MR k m' es qd
 |[],[],_=>trivial
 |(_,_)::_,(_,_)::_,h=>⟨h.1,h.2.1.nU m' 8 h.2.2.1,h.2.2.1,h.2.2.2.free m'⟩
 |[],_::_,h=>h.elim
 |_::_,[],h=>h.elim
theorem RB.zj (h:Ren m m' φ) {b b':Nat} {y:UB} (hy:RB m Hv b y) (Zn:m'.ι b'=m.ι b) (hl:m'.len b'=m.len b):RB m' Hv b' (Hs φ y):=by
 cases y with
 |dead=>trivial
 |fb row=>
  obtain ⟨x,Jb,ty,h1,h2,h3⟩:=hy;exact ⟨x,Jb,ty,by rw [Zn];exact h1,h2,h3.zj h 8⟩
 |Gl q=>
  obtain ⟨x,p,q',h1,h2,h3,h4,h5⟩:=hy;exact ⟨x,p,q',by rw [Zn];exact h1,h2,h3,RV.zj h 8 h4,h5⟩
 |jo s=>
  obtain ⟨h1,h2⟩:=hy;refine ⟨by rw [hl];exact h1,?_⟩;rcases h2 with ⟨h2,h3⟩|⟨x,h2,h3,h4⟩
  · exact .inl ⟨h2,by rw [Zn];exact h3⟩
  · exact .inr ⟨x,by rw [Zn];exact h2,h3,h4⟩
 |cells c l=>
  obtain ⟨h1,h2⟩:=hy;refine ⟨by rw [hl];exact h1,?_⟩;rcases h2 with ⟨h2,h3⟩|⟨x,rows,ty,h2,h3,h4,h5,h6,h7⟩
  · exact .inl ⟨h2,by rw [Zn];exact h3⟩
  · exact .inr ⟨x,rows,ty,by rw [Zn];exact h2,h3,h4,h5,h6,fun i row c y a k0 k1 k2 k3=>(h7 i row c y a k0 k1 k2 k3).free m' 8 ((h5 i k0).2 y (jb k2))⟩
 |deep c l=>
  obtain ⟨h1,h0,h2⟩:=hy;refine ⟨by rw [hl];exact h1,fun r=>by rw [hl,Zn];exact h0 r,?_⟩;rcases h2 with ⟨h2,h3⟩|⟨x,rows,ty,h2,h3,h4,h5⟩
  · exact .inl ⟨h2,by rw [Zn];exact h3⟩
  · refine .inr ⟨x,rows,ty,by rw [Zn];exact h2,h3,h4,fun r hr=> ?_⟩;obtain ⟨a,k1,k2⟩:=h5 r hr;rw [Zn];exact ⟨a,k1,k2.keep (fun _ _ hc h=>h.free m' 8 hc) fun _ _=>rfl⟩
 |Oj k es=>
  obtain ⟨x,qd,h1,h2,h3⟩:=hy;exact ⟨x,qd,by rw [Zn];exact h1,h2,h3.free m'⟩
 |ah k g c l=>
  obtain ⟨x,qd,h1,h2,h3⟩:=hy;exact ⟨x,qd,by rw [Zn];exact h1,h2,h3.free m'⟩
 |loop id env st pe=>
  obtain ⟨x,Vl,h1,h2,h3⟩:=hy;refine ⟨x,Vl,by rw [Zn];exact h1,h2,fun t=> ?_⟩;have h4:=h3 t;unfold ve at h4 ⊢;rw [get_map (U.zj φ 8) rfl env t]
  revert h4
  cases get (env.map fun p=>(p.1,US.v p.2)) t with
  |loc i c=>exact fun h=>h.elim
  |v y=>
    cases V.get (V.ve Vl) t with
    |loc i c=>exact fun h=>h.elim
    |v a=>exact fun hr=>RV.zj h 8 hr
theorem SC (φ:Nat->Option Nat) (y:UB):Qd (Hs φ y)=Qd y:=by cases y<;>rfl
theorem wA (g:Nat->US):∀ (keep:List Nat) (t:Nat),get (keep.map fun i=>(i,g i)) t=if t∈keep then g t else .v .Qb
 |[],t=>by simp [get]
 |i::l,t=>by
  simp only [Dd,get,wA g l t];by_cases e:t=i
  · subst e;simp
  · simp [e]
def Alike (n:Nat) (sv je:V.S):Prop:=je.H=sv.H/\je.F=sv.F/\∀ t,t<n->V.get je.e t=V.get sv.e t
theorem Alike.refl (n:Nat) (sv:V.S):Alike n sv sv:=⟨rfl,rfl,fun _ _=>rfl⟩
theorem rC (g:Nat->V.SV):∀ (keep:List Nat) (t:Nat),V.get (keep.map fun i=>(i,g i)) t=if t∈keep then g t else .v .Qb
 |[],t=>by simp [V.get]
 |i::l,t=>by
  simp only [Dd,V.get,rC g l t];by_cases e:t=i
  · subst e;simp
  · simp [e]
theorem Alike.clean (n:Nat) (sv:V.S):Alike n sv (V.clean (oa n) sv):=⟨rfl,rfl,fun t ht=>by
 simp only [V.clean];rw [rC,if_pos (by simpa using ht)]⟩
theorem RS.zj {ψ χ:Nat->Option Nat} {zg:Nat->Option Nat} (h:Ren m m' χ) (hp:∀ i i' j,ψ i=some i'->φ i=some j->zg i'=some j) {x:US} {a:V.SV} (hx:RS m φ x a):RS m' zg (gP χ ψ x) a:=by
 cases x with
 |v y=>
  by_cases hy:y= .Qb
  · subst hy;exact trivial
  · obtain ⟨a,rfl,hr⟩:=hx.val hy;exact (RV.zj h 8 hr).rs
 |loc i c=>
  cases a with
  |v a=>exact hx.elim
  |loc j c'=>
    simp only [gP];split
    · rename_i i' hi;exact ⟨hp i i' j hi hx.1,hx.2⟩
    · exact trivial
theorem El {n:Nat} {keep:List Nat} {s:St} {sv je:V.S} (hk:∀ t∈keep,t<n) (hs:Hl m φ s sv) (hw:s.H.wm<=s.base) (ha:Alike n sv je):
   ∃ m' zg,Hl m' zg (compact keep s) je/\Fj s.base m sv.H m' sv.H:=by
 obtain ⟨a1,a2,a3⟩:=ha
 let e:=keep.map fun i=>(i,get s.e i)
 let fs:=Ol e []
 let rows:=fs.map fun i=>s.F.getD i []
 let bs:=oa s.base++(reach s.H 64 (oa s.base++(e.flatMap fun p=>sac p.2)++rows.flatMap fun row=>row.flatMap (ids 8)) []).filter (fun b=>decide (s.base<=b))
 let χ:=fun b=>pos b bs 0
 let ψ:=fun i=>pos i fs 0
 have N5:bs.Nodup:=by
   refine Ay.2 ⟨List.nodup_range,(aj List.nodup_nil).filter _,fun x hx y hy=> ?_⟩;simp at hx hy;omega
 have hfs:fs.Nodup:=vn List.nodup_nil
 let m':Mp:={ ι:=fun b s=>(bs[b]?).bind fun c=>m.ι c s,len:=fun b=>m.len (bs.getD b 0),top:=bs.length }
 let zg:Nat->Option Nat:=fun i=>(fs[i]?).bind φ
 have eK:Ren m m' χ:=fun b b' hb=>by
   have:=jP hb;exact ⟨by simp [m',this],by simp [m',this],Ua this⟩
 have qad:∀ i,i∈fs->∃ j,φ i=some j:=fun i hi=>by
   rcases Ks hi with h|⟨t,c,h⟩
   · simp at h
   · obtain ⟨i',XT,he⟩:=ye.1 h;simp only [Prod.mk.injEq] at he;have:=hs.e t;rw [he.1] at he;rw [he.2] at this;cases hv:V.get sv.e t with
     |v a=>rw [hv] at this;exact this.elim
     |loc j c'=>rw [hv] at this;exact ⟨j,this.1⟩
 have hblk:∀ b' y,(bs.map fun b=>Hs χ (s.H.bl.getD b .dead))[b']?=some y->∃ b,bs[b']?=some b/\y=Hs χ (s.H.bl.getD b .dead):=fun b' y hy=>by
   rw [Ob,ia] at hy;obtain ⟨b,h1,h2⟩:=hy;exact ⟨b,h1,h2.symm⟩
 have Sd:∀ b',live (compact keep s).H b'->∃ b,bs[b']?=some b/\live s.H b:=fun b' ⟨y,hy,hl⟩=>by
   obtain ⟨b,h1,rfl⟩:=hblk b' y hy;rw [SC] at hl;refine ⟨b,h1,?_⟩;rw [Ea] at hl;cases h2:s.H.bl[b]? with
   |none=>rw [h2] at hl;simp [Qd] at hl
   |some y=>rw [h2] at hl;exact ⟨y,h2,hl⟩
 have Bt:(compact keep s).H.bl=bs.map fun b=>Hs χ (s.H.bl.getD b .dead):=rfl
 have hlen:(compact keep s).H.bl.length=bs.length:=by rw [Bt,Ec]
 have hF:(compact keep s).F=fs.map fun i=>(s.F.getD i []).map (zj χ 8):=List.map_map
 have JT:∀ b,b<s.base->bs[b]?=some b:=fun b hb=>by
   simp only [bs];rw [Fa (by simpa using hb)];simp [hb]
 refine ⟨m',zg,⟨⟨fun b _ x hb=> ?_,fun b' y hy=> ?_,fun b1 b2 _ _ x l1 l2 e1 e2=> ?_,fun b _ x hb XC=> ?_,by rw [a1];exact hs.h.top,by rw [hlen]⟩,⟨fun i j Jy=> ?_,fun i row hi=> ?_,fun i i' j h1 h2=> ?_⟩,fun t=> ?_,?_⟩,⟨⟨?_,fun b hb=> ?_⟩,fun _ _ _=>rfl,fun b s0 x hb=> ?_,ua _,rfl⟩⟩
 · simp only [m',aa] at hb;obtain ⟨b0,h1,h2⟩:=hb;have:=(hs.h.Ae b0 x h2).2;have h3:=Ua h1;refine ⟨by rw [hlen];exact h3,by rw [a1];exact this⟩
 · obtain ⟨b,h1,rfl⟩:=hblk b' y hy;have Zn:m'.ι b'=m.ι b:=by simp [m',h1]
   have hl:m'.len b'=m.len b:=by simp [m',h1]
   rw [Ea];cases h2:s.H.bl[b]? with
   |none=>trivial
   |some y=>exact RB.zj eK ((hs.h.Oc b y h2).bl (by rw [a1])) Zn hl
 · obtain ⟨c1,h1,h2⟩:=Sd b1 l1;obtain ⟨c2,h3,h4⟩:=Sd b2 l2;simp only [m',h1,da] at e1;simp only [m',h3,da] at e2;obtain ⟨this,h5⟩:=hs.h.Am c1 c2 x h2 h4 e1 e2;subst this;exact ⟨vq N5 h1 h3,h5⟩
 · simp only [m',aa] at hb;obtain ⟨b0,h1,h2⟩:=hb;rw [a1];refine hs.h.wm b0 x h2 ?_;have T8:s.H.wm<=b:=XC;rcases Rb b s.base with nc|Pr
   · rw [JT b nc] at h1;simp at h1;subst h1;exact T8
   · simp only [bs] at h1;rw [Ka (by simpa using Pr)] at h1;have:=jb h1;simp at this;omega
 · simp only [zg,aa] at Jy;obtain ⟨i0,h1,h2⟩:=Jy;have:=(hs.f.Ae i0 j h2).2;have h3:=Ua h1;refine ⟨?_,by rw [a2];exact this⟩;have:(compact keep s).F=fs.map fun i=>(s.F.getD i []).map (zj χ 8):=hF
   rw [this,Ec];exact h3
 · have XT:(fs.map fun i=>(s.F.getD i []).map (zj χ 8))[i]?=some row:=by
     rw [hF] at hi;exact hi
   rw [Ob,ia] at XT;obtain ⟨i0,h1,h2⟩:=XT;obtain ⟨j,hj⟩:=qad i0 (jb h1);have nc:=(hs.f.Ae i0 j hj).1;have O0:=ya nc;obtain ⟨j',Jb,k1,k2,k3⟩:=hs.f.row i0 _ O0;rw [hj] at k1;simp at k1;subst k1;refine ⟨j,Jb,by simp [zg,h1,hj],by rw [a2];exact k2,?_⟩;rw [<- h2,Ea,O0];exact k3.zj eK 8
 · simp only [zg,aa] at h1 h2;obtain ⟨i0,k1,k2⟩:=h1;obtain ⟨i1,k3,k4⟩:=h2;have:=hs.f.inj i0 i1 j k2 k4;subst this;exact vq hfs k1 k3
 · have he:get (compact keep s).e t=if t∈keep then gP χ ψ (get s.e t) else .v .Qb:=by
     have:(compact keep s).e=keep.map fun i=>(i,gP χ ψ (get s.e i)):=List.map_map
     rw [this];exact wA _ keep t
   rw [he];split
   · rename_i ht;rw [a3 t (hk t ht)];refine RS.zj eK (fun i i' j h1 h2=> ?_) (hs.e t);have:=jP h1;simp [zg,this,h2]
   · exact trivial
 · rw [hlen];show s.base<=bs.length;simp [bs]
 · simp [m',bs]
 · have:=JT b hb;exact ⟨by simp [m',this],by simp [m',this]⟩
 · simp only [m',aa] at hb;obtain ⟨b0,h1,h2⟩:=hb;exact .inl ⟨b0,s0,h2⟩
end
end Go.U
namespace Go.U
open Go
variable [TB:qB] {rf:Bool}
section
variable {φ:Nat->Option Nat} {Hv:V.AH}
theorem jm {f:Sh->UV->UH->Option (UV×UH)} (hf:∀ sh x H x' H',f sh x H=some (x',H')->∀ m,RH m H Hv->Mo m H H' Hv fun m'=>∀ a,RV m x a->RV m' x' a):
  ∀ {vt:List Sh} {xs:List UV} {H:UH} {l:List UV} {H':UH},Zf.Gh f vt xs H=some (l,H')->∀ m,RH m H Hv->Mo m H H' Hv fun m'=>∀ as,RL m xs as->RL m' l as
 |[],[],H,l,H',h,m,hh=>by
  simp [Zf.Gh] at h;obtain ⟨rfl,rfl⟩:=h;exact .same hh fun as h=>h
 |s::ss,x::xs,H,l,H',h,m,hh=>by
  simp only [Zf.Gh,aa] at h;obtain ⟨⟨x',H1⟩,h1,⟨Fo,H2⟩,h2,h⟩:=h;simp at h;obtain ⟨rfl,rfl⟩:=h;refine (hf _ _ _ _ _ h1 m hh).trans fun m1 aD hle hp=>(jm hf h2 m1 aD).imp fun m2 lK hq as ha=> ?_
  cases as with
  |nil=>have:=ha.1;simp at this
  |cons a as=>
   have h0:=(hp a (ha.2 0 x a rfl rfl)).mono lK;have hr:RL m xs as:=⟨by have:=ha.1;simpa using this,fun i y b k1 k2=>ha.2 (i+1) y b (by simpa using k1) (by simpa using k2)⟩;exact .cons h0 (hq as (hr.mono hle))
 |[],_::_,H,l,H',h,m,hh=>by simp [Zf.Gh] at h
 |_::_,[],H,l,H',h,m,hh=>by simp [Zf.Gh] at h
theorem QI {m:Mp} {k:KT} {g:Bool} {c:CT}:∀ {es:List (jd k×UV)} {l:List (jd k×Eb c)} {qd:List (V.AV×V.AV)},BY g c es=some l->MR k m es qd->MR k m (Hj g c l) qd
 |[],l,qd,h,hm=>by simp [BY] at h;subst h;exact hm
 |(i,x)::es,l,qd,h,hm=>by
  simp only [BY,aa] at h;obtain ⟨y,hy,l',hl,h⟩:=h;simp at h;subst h;cases qd with
  |nil=>exact hm.elim
  |cons p qd=>
   obtain ⟨h1,h2,h3,h4⟩:=hm;obtain ⟨d1,d2⟩:=PI hy;exact ⟨h1,d2 m _ h2,d1,QI hl h4⟩
theorem NC {m:Mp} {H:UH} (hh:RH m H Hv) (c:CT):Mo m H (push H (.deep c [])) Hv fun m'=>∀ a,a= .Wa\/a= .Kd->RV m' (.all H.bl.length) a:=by
 have hp:=hh.push (Ic:=Hv) (y:= .deep c []) (x:=none) (n:=0) (fun _ _ _ _ _=>rfl) (ua _) rfl (fun xv e=>by simp at e) ⟨xd _ _ _ _,fun r=>⟨by rw [Mp.add,cq];rfl,fun _=>by rw [Mp.add,Vg];rfl⟩,.inl ⟨rfl,Ud _ _ _ _⟩⟩;refine ⟨rfl,_,hp.1,hp.2,⟨tg hh _ _,fun _ _ _=>rfl,fun b _ xv hb=> ?_,ua _,rfl⟩,fun a h=> .Nf _ _ (by simp [Mp.add,Mp.Fi]) (xd _ _ _ _) h⟩;by_cases e:b=H.bl.length
 · subst e;obtain ⟨_,e⟩:=zi hb;simp at e
 · rw [vf _ _ _ e] at hb;exact .inl ⟨b,_,hb⟩
theorem fH {m:Mp} {H:UH} (hh:RH m H Hv) (c:CT):Mo m H (push H (.cells c [])) Hv fun m'=>∀ a,a= .Wa\/a= .Kd->RV m' (.sl H.bl.length 0 0) a:=
 (Ot hh c).imp fun _ _ _ a h=> .Ir _ _ _ h
theorem bA {m:Mp} {H H':UH} {b n:Nat} {c:CT} {x':UV} (h:(match H.bl[b]? with
   |some (.cells c' l)=>if c'=c/\H.wm<=b then some (UV.all H.bl.length,push (Ma H b .dead) (.cells c' (l.take n))) else none
   |_=>none)=some (x',H')) (hh:RH m H Hv):Mo m H H' Hv fun m'=>∀ a,RV m (.sl b 0 n) a->RV m' x' a:=by
 split at h
 case h_2=>simp at h
 rename_i c' l hb;split at h
 case isFalse=>simp at h
 rename_i hc;simp at h;obtain ⟨rfl,rfl⟩:=h;have Sd:live H b:=⟨_,hb,rfl⟩;have hk:=hh.kill b;have hlen:(Ma H b .dead).bl.length=H.bl.length:=by simp [Ma]
 have Cj:∀ {b'},live (Ma H b .dead) b'->b'≠b/\live H b':=fun h=>by
   rcases ag h with ⟨_,h'⟩|h'
   · simp [Qd] at h'
   · exact h'
 obtain ⟨kb,kx⟩:=uc (s:=⟨[],[],H,0⟩) (sv:=⟨[],[],Hv⟩) hh hb;have hrb:RB (m.add (Ma H b .dead).bl.length (m.ι b 0) (l.take n).length) Hv (Ma H b .dead).bl.length (.cells c' (l.take n)):=by
   refine ⟨xd _ _ _ _,?_⟩;rw [Ud];cases hx:m.ι b 0 with
   |none=>
     have:=hh.Oc b _ hb;rcases this.2 with ⟨h0,_⟩|⟨x,rows,_,h1,_⟩
     · exact .inl ⟨by simp [h0],rfl⟩
     · rw [hx] at h1;simp at h1
   |some x=>
     obtain ⟨rows,ty,k2,k3,k4⟩:=kx x hx;refine .inr ⟨x,rows,ty,rfl,k2,by simp;omega,fun i _=>⟨tf _ _ _,Od _ _ _⟩,fun i row hi hr=> ?_,fun i row k y a hi hr h1 h2=> ?_⟩
     · exact k4.2.1 i row (by simp at hi;omega) hr
     · have e:vw c' (l.take n) i=vw c' l i:=by
        simp only [vw,Ea,Ab];rw [if_pos (by simp at hi;omega)]
       rw [e] at h1;exact (k4.2.2 i row k y a (by simp at hi;omega) hr h1 h2).free _ 8 (Od _ _ _ y (jb h1))
 have hp:=hk.push (Ic:=Hv) (fun _ _ _ _ _=>rfl) (ua _) rfl (fun xv e=>⟨(hh.Ae b xv e).2,hh.wm b xv e hc.2,fun b' s' Pf e'=>(Cj Pf).1 (hh.inj b' b xv (Cj Pf).2 Sd e' e)⟩) hrb;rw [hlen] at hp;refine ⟨rfl,_,hp.1,hp.2,⟨by have:=tg hk;simpa only [hlen] using this _ _,fun _ _ _=>rfl,fun b' _ xv zd=> ?_,ua _,rfl⟩,fun a ha=> ?_⟩
 · by_cases e:b'=H.bl.length
   · subst e;obtain ⟨_,e⟩:=zi zd;exact .inl ⟨b,_,e⟩
   · rw [vf _ _ _ e] at zd;exact .inl ⟨b',_,zd⟩
 · cases ha with
   |sl _ _ _ x hx hle=>
     have:=RV.all (m:=m.add H.bl.length (m.ι b 0) (l.take n).length) H.bl.length x (by rw [Ud];exact hx);have hk0:m.len b 0=l.length:=kb;rw [xd,dc,Nat.min_eq_left (by omega)] at this;rw [dc,Nat.min_eq_left (by omega)];exact this
   |Ir _ _ _ ha=>exact .Nf _ _ (by simp [Mp.add,Mp.Fi]) (by rw [xd];simp) ha
theorem pP {m:Mp} {H H':UH} {b:Nat} {c:CT} {x':UV} (h:(match H.bl[b]? with
  |some (.cells c' l)=>if c'=c/\H.wm<=b then some (UV.all H.bl.length,push (Ma H b .dead) (.cells c' l)) else none
  |_=>none)=some (x',H')) (hh:RH m H Hv):Mo m H H' Hv fun m'=>∀ a,RV m (.all b) a->RV m' x' a:=by
 cases hb:H.bl[b]? with
 |none=>rw [hb] at h;simp at h
 |some y=>
  rw [hb] at h;cases y with
  |cells c' l=>
   obtain ⟨k0,_⟩:=uc (s:=⟨[],[],H,0⟩) (sv:=⟨[],[],Hv⟩) hh hb;refine (bA (n:=l.length) (c:=c) (b:=b) (x':=x') (H':=H') (by rw [hb];simpa [po] using h) hh).imp fun m' _ hp a ha=>hp a ?_
   cases ha with
   |all _ x hx=>rw [k0];exact .sl _ 0 _ x hx (by omega)
   |Nf _ _ _ hl ha=>
    have:l.length=0:=by omega
    rw [this];exact .Ir _ 0 _ ha
  |_=>simp at h
theorem mm:∀ (d:Nat) (sh:Sh) (x:UV) (H:UH) (x':UV) (H':UH),Zf d false sh x H=some (x',H')->∀ m,RH m H Hv->Mo m H H' Hv fun m'=>∀ a,RV m x a->RV m' x' a
 |0,sh,x,H,x',H',h,m,hh=>by simp [Zf] at h
 |d+1,sh,x,H,x',H',h,m,hh=>by
  unfold Zf at h;split at h
  · rename_i e;exact absurd e (by omega)
  · simp at h;obtain ⟨rfl,rfl⟩:=h;exact .same hh fun a h=>h
  · simp at h;obtain ⟨rfl,rfl⟩:=h;exact .same hh fun a h=> .Qb a
  · simp at h;obtain ⟨rfl,rfl⟩:=h;exact .same hh fun a h=>by cases h;exact .Qh _ _ (.inl rfl)
  · simp at h;obtain ⟨rfl,rfl⟩:=h;exact .same hh fun a h=>by cases h;exact .Qh _ _ (.inr rfl)
  · simp at h
  · simp at h
  · simp at h;obtain ⟨rfl,rfl⟩:=h;exact .same hh fun a h=>h
  · simp at h;obtain ⟨rfl,rfl⟩:=h;exact (Ot hh _).imp fun m1 _ hp a h=>by cases h;exact hp _ (.inl rfl)
  · simp at h;obtain ⟨rfl,rfl⟩:=h;exact (Ot hh _).imp fun m1 _ hp a h=>by cases h;exact hp _ (.inr rfl)
  · exact bA h hh
  · simp at h;obtain ⟨rfl,rfl⟩:=h;exact (fH hh _).imp fun m1 _ hp a h=>by cases h;exact hp _ (.inl rfl)
  · simp at h;obtain ⟨rfl,rfl⟩:=h;exact (fH hh _).imp fun m1 _ hp a h=>by cases h;exact hp _ (.inr rfl)
  · simp at h;obtain ⟨rfl,rfl⟩:=h;exact .same hh fun a h=>h
  · split at h
    case h_2=>simp at h
    rename_i c l hb;simp at h;obtain ⟨rfl,rfl⟩:=h;obtain ⟨k0,_⟩:=uc (s:=⟨[],[],_,0⟩) (sv:=⟨[],[],Hv⟩) hh hb;refine .same hh fun a h=> ?_
    cases h with
    |all _ x hx=>rw [k0];exact .sl _ 0 _ x hx (by omega)
    |Nf _ _ _ hl ha=>
      have:l.length=0:=by omega
      rw [this];exact .Ir _ 0 _ ha
  · simp at h;obtain ⟨rfl,rfl⟩:=h;exact .same hh fun a h=>h
  · simp at h;obtain ⟨rfl,rfl⟩:=h;exact (NC hh _).imp fun m1 _ hp a h=>by cases h;exact hp _ (.inl rfl)
  · simp at h;obtain ⟨rfl,rfl⟩:=h;exact (NC hh _).imp fun m1 _ hp a h=>by cases h;exact hp _ (.inr rfl)
  · simp at h;obtain ⟨rfl,rfl⟩:=h;exact .same hh fun a h=>h
  · exact pP h hh
  · split at h
    · rename_i k' es hb;split at h
      case isFalse=>simp at h
      rename_i hk;subst hk;simp only [aa] at h;obtain ⟨l,hl,h⟩:=h;simp at h;obtain ⟨rfl,rfl⟩:=h;refine ⟨rfl,m,hh.X7 ⟨_,hb,rfl⟩ ?_,.refl m,.refl Hv (ua _),fun a h=>h⟩;obtain ⟨x,qd,k1,k2,k3⟩:=hh.Oc _ _ hb;exact ⟨x,qd,k1,k2,QI hl k3⟩
    · simp at h;obtain ⟨rfl,rfl⟩:=h;exact .same hh fun a h=>h
    · simp at h
  · simp only [ia] at h;obtain ⟨⟨l,H1⟩,h1,h⟩:=h;simp at h;obtain ⟨rfl,rfl⟩:=h;refine (jm (fun sh x H x' H' h m hh=>mm _ sh x H x' H' h m hh) h1 m hh).imp fun m1 hle hp a ha=> ?_
    cases ha with
    |agg _ as hl hr=>have:=hp as ⟨hl,hr⟩;exact .agg _ _ this.1 this.2
  · simp only [ia] at h;obtain ⟨⟨l,H1⟩,h1,h⟩:=h;simp at h;obtain ⟨rfl,rfl⟩:=h;refine (jm (fun sh x H x' H' h m hh=>mm _ sh x H x' H' h m hh) h1 m hh).imp fun m1 hle hp a ha=> ?_
    cases ha with
    |Rc _ as hl hr=>have:=hp as ⟨hl,hr⟩;exact .Rc _ _ this.1 this.2
  · simp at h
theorem qP {d:Nat} {fz:Bool} {sh:Sh} {H H':UH} {x':UV} (h:Zf d fz sh .Qb H=some (x',H')):x'= .Qb/\H'=H:=by
 cases d with
 |zero=>simp [Zf] at h
 |succ d=>cases sh<;>simp [Zf] at h<;>exact ⟨h.1.symm,h.2.symm⟩
theorem Tv {vt:List (Nat×Sh)}:∀ {e:List (Nat×US)} {H:UH} {e':List (Nat×US)} {H':UH},Wo vt e H=some (e',H')->∀ m,RH m H Hv->Mo m H H' Hv fun m'=>∀ t vv,RS m φ (get e t) vv->RS m' φ (get e' t) vv
 |[],H,e',H',h,m,hh=>by
  simp [Wo] at h;obtain ⟨rfl,rfl⟩:=h;exact .same hh fun t vv h=>h
 |(i,.v x)::e,H,e',H',h,m,hh=>by
  simp only [Wo,aa] at h;obtain ⟨⟨x',H1⟩,h1,⟨e1,H2⟩,h2,h⟩:=h;simp at h;obtain ⟨rfl,rfl⟩:=h;have key:Mo m H H1 Hv fun m'=>∀ vv,RS m φ (.v x) vv->RS m' φ (.v x') vv:=by
    split at h1
    · rename_i sh _;by_cases hx:x= .Qb
      · subst hx;obtain ⟨rfl,rfl⟩:=qP h1;exact .same hh fun vv h=>h
      · refine (mm _ _ _ _ _ _ h1 m hh).imp fun m1 _ hp vv hv=> ?_
        obtain ⟨a,rfl,hr⟩:=hv.val hx;exact (hp a hr).rs
    · simp at h1;obtain ⟨rfl,rfl⟩:=h1;exact .same hh fun vv h=>h
  refine key.trans fun m1 aD hle hp=>(Tv h2 m1 aD).imp fun m2 lK hq t vv ht=> ?_
  simp only [get] at ht ⊢;split at ht
  · rename_i e;rw [if_pos e];exact (hp vv ht).mono lK (.refl φ)
  · rename_i e;rw [if_neg e];exact hq t vv (ht.mono hle (.refl φ))
 |(i,.loc j c)::e,H,e',H',h,m,hh=>by
  simp only [Wo,aa] at h;obtain ⟨⟨e1,H2⟩,h2,h⟩:=h;simp at h;obtain ⟨rfl,rfl⟩:=h;refine (Tv h2 m hh).imp fun m2 lK hq t vv ht=> ?_
  simp only [get] at ht ⊢;split at ht
  · rename_i e;rw [if_pos e];exact ht.mono lK (.refl φ)
  · rename_i e;rw [if_neg e];exact hq t vv ht
theorem OC {vt:List (Nat×List Sh)}:∀ {i:Nat} {F:List (List UV)} {H:UH} {F':List (List UV)} {H':UH},Vw vt i F H=some (F',H')->∀ m,RH m H Hv->Mo m H H' Hv fun m'=>F'.length=F.length/\∀ (k:Nat) (Jb:List UV),F'[k]?=some Jb->∃ row:List UV,F[k]?=some row/\∀ as,RL m row as->RL m' Jb as
 |i,[],H,F',H',h,m,hh=>by
  simp [Vw] at h;obtain ⟨rfl,rfl⟩:=h;exact .same hh ⟨rfl,fun k Jb h=>by simp at h⟩
 |i,row::F,H,F',H',h,m,hh=>by
  simp only [Vw,aa] at h;obtain ⟨⟨nf,H1⟩,h1,⟨F1,H2⟩,h2,h⟩:=h;simp at h;obtain ⟨rfl,rfl⟩:=h;have key:Mo m H H1 Hv fun m'=>∀ as,RL m row as->RL m' nf as:=by
   unfold iT at h1;split at h1
   · exact jm (fun sh x H x' H' h m hh=>mm _ sh x H x' H' h m hh) h1 m hh
   · simp at h1;obtain ⟨rfl,rfl⟩:=h1;exact .same hh fun as h=>h
  refine key.trans fun m1 aD hle hp=>(OC h2 m1 aD).imp fun m2 lK hq=>⟨by simp [hq.1],fun k Jb hk=> ?_⟩
  cases k with
  |zero=>simp at hk;subst hk;exact ⟨row,rfl,fun as ha=>(hp as ha).mono lK⟩
  |succ k=>
   obtain ⟨r,k1,k2⟩:=hq.2 k Jb (by simpa using hk);exact ⟨r,by simpa using k1,fun as ha=>k2 as (ha.mono hle)⟩
theorem PC:∀ {l:List (Nat×List Sh)} {H H':UH},Ww l H=some H'->∀ m,RH m H Hv->Mo m H H' Hv fun _=>True
 |[],H,H',h,m,hh=>by
  simp [Ww] at h;subst h;exact .same hh trivial
 |(b,vt)::l,H,H',h,m,hh=>by
  simp only [Ww] at h;split at h
  case h_2=>simp at h
  rename_i row hb;simp only [aa] at h;obtain ⟨⟨nf,H1⟩,h1,h⟩:=h;simp only at h;split at h
  case h_2=>simp at h
  rename_i xk bD;obtain ⟨x,Yab,ty,k1,k2,k3⟩:=hh.Oc b _ hb;refine (jm (fun sh x H x' H' h m hh=>mm _ sh x H x' H' h m hh) h1 m hh).trans fun m1 aD hle hp=> ?_
  have ht:RH m1 (Ma H1 b (.fb nf)) Hv:=aD.X7 ⟨_,bD,rfl⟩ ⟨x,Yab,ty,(hle.of b x k1).1,k2,hp Yab k3⟩;obtain ⟨w,m2,e1,e2,e3,e4⟩:=PC h m1 ht;exact ⟨w,m2,e1,e2,e3,e4⟩
def xn (n:Nat) (p:bE):Prop:=∀ t∈p.keep,t<n
theorem bj {n:Nat} {p:bE} {s s':St} (h:Ro p s=some s') (hk:xn n p):
    s'.base=s.base/\s'.H.wm=s.H.wm/\∀ (m:Mp) (φ:Nat->Option Nat) (sv je:V.S),Hl m φ s sv->Alike n sv je->∃ m' zg,Hl m' zg s' je/\Fj s.base m sv.H m' je.H:=by
  unfold Ro at h;split at h
  case isFalse=>simp at h
  rename_i hw;simp only [aa] at h;obtain ⟨⟨e,H1⟩,h1,⟨F,H2⟩,h2,H3,h3,h⟩:=h;split at h
  case isFalse=>simp at h
  rename_i hw3;simp at h;subst h;have Of:H3.wm=s.H.wm:=by
    have hE:∀ {vt:List (Nat×Sh)} {e:List (Nat×US)} {H:UH} {e':List (Nat×US)} {H':UH},Wo vt e H=some (e',H')->H'.wm=H.wm:=by
     intro vt e;have hm:∀ (d:Nat) (sh:Sh) (x:UV) (H:UH) (x':UV) (H':UH),Zf d false sh x H=some (x',H')->H'.wm=H.wm:=zq;induction e with
     |nil=>intro H e' H' h;simp [Wo] at h;rw [h.2]
     |cons p e ih=>
       intro H e' H' h;obtain ⟨i,x⟩:=p;cases x with
       |v x=>
         simp only [Wo,aa] at h;obtain ⟨⟨x',H1⟩,h1,⟨e1,H2⟩,h2,h⟩:=h;simp at h;obtain ⟨_,rfl⟩:=h;rw [ih h2];split at h1
         · exact hm _ _ _ _ _ _ h1
         · simp at h1;rw [h1.2]
       |loc j c=>
         simp only [Wo,aa] at h;obtain ⟨⟨e1,H2⟩,h2,h⟩:=h;simp at h;obtain ⟨_,rfl⟩:=h;exact ih h2
    have hF:∀ {vt:List (Nat×List Sh)} {F:List (List UV)} {i:Nat} {H:UH} {F':List (List UV)} {H':UH},Vw vt i F H=some (F',H')->H'.wm=H.wm:=by
     intro vt F;induction F with
     |nil=>intro i H e' H' h;simp [Vw] at h;rw [h.2]
     |cons row F ih=>
       intro i H F' H' h;simp only [Vw,aa] at h;obtain ⟨⟨x',H1⟩,h1,⟨e1,H2⟩,h2,h⟩:=h;simp at h;obtain ⟨_,rfl⟩:=h;rw [ih h2];unfold iT at h1;split at h1
       · exact Vo (fun sh x H x' H' h=>zq _ sh x H x' H' h) h1
       · simp at h1;rw [h1.2]
    have hB:∀ {l:List (Nat×List Sh)} {H H':UH},Ww l H=some H'->H'.wm=H.wm:=by
     intro l;induction l with
     |nil=>intro H H' h;simp [Ww] at h;rw [h]
     |cons p l ih=>
       intro H H' h;obtain ⟨b,vt⟩:=p;simp only [Ww] at h;split at h
       case h_2=>simp at h
       simp only [aa] at h;obtain ⟨⟨nf,H1⟩,h1,h⟩:=h;simp only at h;split at h
       case h_2=>simp at h
       rw [ih h];show H1.wm=_;exact Vo (f:=Zf 8 false) (fun sh x H x' H' h=>zq _ sh x H x' H' h) h1
    rw [hB h3,hF h2,hE h1];rfl
  refine ⟨rfl,Of,fun m φ sv je hs ha=> ?_⟩;obtain ⟨m0,φ0,k1,k2⟩:=El (keep:=p.keep) hk hs hw ha;obtain ⟨_,m1,r1,r2,r3,r4⟩:=Tv (Hv:=je.H) (φ:=φ0) h1 m0 k1.h;obtain ⟨_,m2',q1',q2',q3',q4,q5'⟩:=OC (Hv:=je.H) h2 m1 r1;obtain ⟨_,m2,b1,b2,b3,_⟩:=PC (Hv:=je.H) h3 m2' q1';have q1:=b1;have q2:=q2'.trans b2;have q3:=q3'.trans b3 q3'.ik.1;rw [<- ha.1] at k2;have vP:Fj s.base m je.H m0 je.H:=k2;have sA:s.base<=m0.top:=by rw [k1.h.len];exact k1.b
  suffices ead:Hl m2 φ0 { e,F,H:=H3,base:=s.base } je/\Fj s.base m sv.H m2 je.H by
    obtain ⟨m3,BZ,c1,c2⟩:=El (keep:=p.keep) hk ead.1 hw3 (.refl n je);exact ⟨m3,BZ,c1,ead.2.trans c2 (ua _)⟩
  refine ⟨⟨q1,⟨fun i j Jy=> ?_,fun i row hi=> ?_,k1.f.inj⟩,fun t=>(r4 t _ (k1.e t)).mono q2 (.refl φ0),?_⟩,?_⟩
  · have:=k1.f.Ae i j Jy;rw [q4];exact this
  · obtain ⟨bP,j1,j2⟩:=q5' i row hi;obtain ⟨j,Jb,j3,j4,j5⟩:=k1.f.row i bP j1;exact ⟨j,Jb,j3,j4,(j2 Jb (j5.mono r2)).mono b2⟩
  · have e1:=r3.ik.1;have e2:=q3.ik.1;have e3:=q1.len;show s.base<=H3.bl.length;omega
  · have:=(vP.trans r3 sA).trans q3 (by have:=r3.ik.1;omega);rw [ha.1] at this ⊢;exact this
 where
  Vo {f:Sh->UV->UH->Option (UV×UH)} (hf:∀ sh x H x' H',f sh x H=some (x',H')->H'.wm=H.wm):∀ {vt:List Sh} {xs:List UV} {H:UH} {l:List UV} {H':UH},Zf.Gh f vt xs H=some (l,H')->H'.wm=H.wm
    |[],[],H,l,H',h=>by simp [Zf.Gh] at h;rw [h.2]
    |s::ss,x::xs,H,l,H',h=>by
     simp only [Zf.Gh,aa] at h;obtain ⟨⟨x',H1⟩,h1,⟨Fo,H2⟩,h2,h⟩:=h;simp at h;obtain ⟨_,rfl⟩:=h;rw [Vo hf h2,hf _ _ _ _ _ h1]
    |[],_::_,H,l,H',h=>by simp [Zf.Gh] at h
    |_::_,[],H,l,H',h=>by simp [Zf.Gh] at h
  zq:∀ (d:Nat) (sh:Sh) (x:UV) (H:UH) (x':UV) (H':UH),Zf d false sh x H=some (x',H')->H'.wm=H.wm
    |0,sh,x,H,x',H',h=>by simp [Zf] at h
    |d+1,sh,x,H,x',H',h=>by
     unfold Zf at h;split at h
     · rename_i e;exact absurd e (by omega)
     · simp at h;rw [h.2]
     · simp at h;rw [h.2]
     · simp at h;rw [h.2]
     · simp at h;rw [h.2]
     · simp at h
     · simp at h
     · simp at h;rw [h.2]
     · simp at h;rw [<- h.2];rfl
     · simp at h;rw [<- h.2];rfl
     · split at h
       case h_2=>simp at h
       split at h
       case isFalse=>simp at h
       simp at h;rw [<- h.2];rfl
     · simp at h;rw [<- h.2];rfl
     · simp at h;rw [<- h.2];rfl
     · simp at h;rw [h.2]
     · split at h
       case h_2=>simp at h
       simp at h;rw [h.2]
     · simp at h;rw [h.2]
     · simp at h;rw [<- h.2];rfl
     · simp at h;rw [<- h.2];rfl
     · simp at h;rw [h.2]
     · split at h
       case h_2=>simp at h
       split at h
       case isFalse=>simp at h
       simp at h;rw [<- h.2];rfl
     · split at h
       · split at h
         · simp only [aa] at h;obtain ⟨l,hl,h⟩:=h;simp at h;rw [<- h.2];rfl
         · simp at h
       · simp at h;rw [h.2]
       · simp at h
     · simp only [ia] at h;obtain ⟨⟨l,H1⟩,h1,h⟩:=h;simp at h;rw [<- h.2];exact Vo (fun sh x H x' H' h=>zq _ sh x H x' H' h) h1
     · simp only [ia] at h;obtain ⟨⟨l,H1⟩,h1,h⟩:=h;simp at h;rw [<- h.2];exact Vo (fun sh x H x' H' h=>zq _ sh x H x' H' h) h1
     · simp at h
end
def Xn {T E:Type} (step:T->Option (T ⊕ E)):Nat->T->Option E
 |0,_=>none
 |n+1,t=>(step t).bind fun
  | .inl t'=>Xn step n t'
  | .inr e=>some e
def Oa {T E:Type} (step:T->Option (T ⊕ E)) (t:T):Option E:=Xn step V.um t
section
variable {A:V.oh} {C:V.Callee} {La:Nat->Option (List UV)} {za:List Nat} {n:Nat}
end
end Go.U
namespace Go.U
open Go
variable [TB:qB]
section
variable {A:V.oh} {La:Nat->Option (List UV)} {m:Mp}
theorem Po {s:St}:∀ {rs:List ResultVar} {l:List UV},results A s rs=some l->∀ (m:Mp) (φ:Nat->Option Nat) (sv:V.S),Hl m φ s sv->∃ l',V.results A sv rs=some l'/\RL m l l'
 |[],l,h,m,φ,sv,hs=>by simp [results] at h;subst h;exact ⟨[],rfl,.nil⟩
 | .tmp t::rs,l,h,m,φ,sv,hs=>by
  simp only [results,aa] at h;obtain ⟨a,ha,l1,hl,h⟩:=h;simp at h;subst h;obtain ⟨l',k1,k2⟩:=Po hl m φ sv hs;split at ha
  · simp at ha
  · rename_i x Nc hx;simp at ha;subst ha;have:=hs.e t;rw [hx] at this;obtain ⟨a',e1,e2⟩:=this.val Nc;exact ⟨a'::l',by simp [V.results,e1,k1],.cons e2 k2⟩
  · simp at ha
 | .cell p t::rs,l,h,m,φ,sv,hs=>by
  simp only [results,aa] at h;obtain ⟨a,ha,l1,hl,h⟩:=h;simp at h;subst h;obtain ⟨l',k1,k2⟩:=Po hl m φ sv hs;obtain ⟨a',e1,e2⟩:=Tt ha hs.h hs.f (hs.e p);exact ⟨a'::l',by simp [V.results,e1,k1],.cons e2 k2⟩
theorem Oz {l:List UV} {l':List V.AV} (h:RL m l l'):RV m (result l) (V.result l'):=by
 unfold result V.result;split
 · obtain ⟨a,rfl,ha⟩:=h.one;exact ha
 · rename_i Nc;split
   · rename_i a;have:=h.1
     match l,Nc,this with
     |[x],Nc,_=>exact (Nc x rfl).elim
   · exact .Rc _ _ h.1 h.2
theorem aA {d:Nat} {f:Sh->UV->UH->Option (UV×UH)} (hf:∀ sh x H x' H',f sh x H=some (x',H')->Nb d x'=true->Fz d x H x' H'):
  ∀ {vt:List Sh} {xs:List UV} {H:UH} {l:List UV} {H':UH},Zf.Gh f vt xs H=some (l,H')->(∀ x∈l,Nb d x=true)->H'.wm=H.wm/\∀ (m:Mp) (Hv:V.AH) (as:List V.AV),RH m H Hv->RL m xs as->
   ∃ Xl Ic,V.Ig (V.freeze d) Hv as=some (Xl,Ic)/\∃ m',RH m' H' Ic/\RL m' l Xl/\m.Le m'/\Fj m.top m Hv m' Ic
 |[],[],H,l,H',h,hc=>by
  simp [Zf.Gh] at h;obtain ⟨rfl,rfl⟩:=h;refine ⟨rfl,fun m Hv as hh ha=> ?_⟩;have:as=[]:=by have:=ha.1;simpa using this
  subst this;exact ⟨[],Hv,rfl,m,hh,.nil,.refl m,.refl Hv (ua _)⟩
 |s::ss,x::xs,H,l,H',h,hc=>by
  simp only [Zf.Gh,aa] at h;obtain ⟨⟨x',H1⟩,h1,⟨Fo,H2⟩,h2,h⟩:=h;simp at h;obtain ⟨rfl,rfl⟩:=h;obtain ⟨w1,k1⟩:=hf _ _ _ _ _ h1 (hc _ (zc ..));obtain ⟨w2,k2⟩:=aA hf h2 fun y hy=>hc y (Gb _ hy)
  refine ⟨w2.trans w1,fun m Hv as hh ha=> ?_⟩;cases as with
  |nil=>have:=ha.1;simp at this
  |cons a as=>
   have hr:RL m xs as:=⟨by have:=ha.1;simpa using this,fun i y b k1 k2=>ha.2 (i+1) y b (by simpa using k1) (by simpa using k2)⟩;obtain ⟨a',oS,e1,m1,e2,e3,e4,e5⟩:=k1 m Hv a hh (ha.2 0 x a rfl rfl);obtain ⟨Xl,Hv2,e6,m2,e7,e8,e9,ZA⟩:=k2 m1 oS as e2 (hr.mono e4);exact ⟨a'::Xl,Hv2,by simp only [V.Ig,e1,da,e6],m2,e7,.cons (e3.mono e9) e8,e4.trans e9,e5.trans ZA e5.ik.1⟩
 |[],_::_,H,l,H',h,hc=>by simp [Zf.Gh] at h
 |_::_,[],H,l,H',h,hc=>by simp [Zf.Gh] at h
theorem IE:∀ (d:Nat) (sh:Sh) (x:UV) (H:UH) (x':UV) (H':UH),Zf d true sh x H=some (x',H')->Nb d x'=true->Fz d x H x' H'
 |0,sh,x,H,x',H',h,hc=>by simp [Zf] at h
 |d+1,sh,x,H,x',H',h,hc=>by
  have h0:=h;unfold Zf at h;split at h
  · rename_i e;exact absurd e (by omega)
  · simp at h;obtain ⟨rfl,rfl⟩:=h;exact .same hc
  · simp at h;obtain ⟨rfl,rfl⟩:=h;simp [Nb,closed] at hc
  · simp at h;obtain ⟨rfl,rfl⟩:=h;exact ⟨rfl,fun m Hv a hh hx=>by cases hx;exact ⟨.Wa,Hv,rfl,.same hh (.Qh _ _ (.inl rfl))⟩⟩
  · simp at h;obtain ⟨rfl,rfl⟩:=h;exact ⟨rfl,fun m Hv a hh hx=>by cases hx;exact ⟨.Kd,Hv,rfl,.same hh (.Qh _ _ (.inr rfl))⟩⟩
  · have he:=nC ‹d+1=Nat.succ _›;subst he;split at h
    case isFalse=>simp at h
    rename_i sy;simp at sy;simp only [aa] at h;obtain ⟨l,hl,h⟩:=h;simp at h;obtain ⟨rfl,rfl⟩:=h;exact VJ sy.1 sy.2 hl (.inl ⟨_,_,rfl⟩)
  · have he:=nC ‹d+1=Nat.succ _›;subst he;split at h
    case isFalse=>simp at h
    rename_i sy;simp at sy;simp only [aa] at h;obtain ⟨l,hl,h⟩:=h;simp at h;obtain ⟨rfl,rfl⟩:=h;unfold S5 at hl;split at hl
    · rename_i c' l' hb;split at hl
      · rename_i hc;subst hc;injection hl with hl;subst hl
        exact VJ sy.1 sy.2 (by simp [rowsOf,hb]) (.inr rfl)
      · simp at hl
    · rename_i c' l' hb;split at hl
      · rename_i hc;obtain ⟨rfl,jJ⟩:=hc;injection hl with hl;subst hl
        exact LH jJ sy.2 hb
      · simp at hl
    · simp at hl
  · simp at h;obtain ⟨rfl,rfl⟩:=h;exact .same hc
  · simp at h;obtain ⟨rfl,rfl⟩:=h;simp [Nb,closed] at hc
  · simp at h;obtain ⟨rfl,rfl⟩:=h;simp [Nb,closed] at hc
  · split at h
    case h_2=>simp at h
    split at h
    case isFalse=>simp at h
    simp at h;obtain ⟨rfl,rfl⟩:=h;simp [Nb,closed] at hc
  · simp at h;obtain ⟨rfl,rfl⟩:=h;simp [Nb,closed] at hc
  · simp at h;obtain ⟨rfl,rfl⟩:=h;simp [Nb,closed] at hc
  · simp at h;obtain ⟨rfl,rfl⟩:=h;simp [Nb,closed] at hc
  · split at h
    case h_2=>simp at h
    simp at h;obtain ⟨rfl,rfl⟩:=h;simp [Nb,closed] at hc
  · simp at h;obtain ⟨rfl,rfl⟩:=h;simp [Nb,closed] at hc
  · simp at h;obtain ⟨rfl,rfl⟩:=h;simp [Nb,closed] at hc
  · simp at h;obtain ⟨rfl,rfl⟩:=h;simp [Nb,closed] at hc
  · simp at h;obtain ⟨rfl,rfl⟩:=h;simp [Nb,closed] at hc
  · split at h
    case h_2=>simp at h
    split at h
    case isFalse=>simp at h
    simp at h;obtain ⟨rfl,rfl⟩:=h;simp [Nb,closed] at hc
  · split at h
    · split at h
      · simp only [aa] at h;obtain ⟨l,hl,h⟩:=h;simp at h;obtain ⟨rfl,rfl⟩:=h;simp [Nb,closed] at hc
      · simp at h
    · simp at h;obtain ⟨rfl,rfl⟩:=h;simp [Nb,closed] at hc
    · simp at h
  · have he:=nC ‹d+1=Nat.succ _›;subst he;simp only [ia] at h;obtain ⟨⟨l,H1⟩,h1,h⟩:=h;simp at h;obtain ⟨rfl,rfl⟩:=h;obtain ⟨w,k⟩:=aA (fun sh x H x' H' h hc=>IE _ sh x H x' H' h hc) h1 (Yb.1 (by simpa [Nb] using hc));refine ⟨w,fun m Hv a hh ha=> ?_⟩;cases ha with
    |agg _ as hl hr=>
      obtain ⟨Xl,Ic,e1,m',e2,e3,e4,e5⟩:=k m Hv as hh ⟨hl,hr⟩;exact ⟨.agg Xl,Ic,by simp only [V.freeze,e1,da],m',e2,.agg _ _ e3.1 e3.2,e4,e5⟩
  · have he:=nC ‹d+1=Nat.succ _›;subst he;simp only [ia] at h;obtain ⟨⟨l,H1⟩,h1,h⟩:=h;simp at h;obtain ⟨rfl,rfl⟩:=h;obtain ⟨w,k⟩:=aA (fun sh x H x' H' h hc=>IE _ sh x H x' H' h hc) h1 (Yb.1 (by simpa [Nb] using hc));refine ⟨w,fun m Hv a hh ha=> ?_⟩;cases ha with
    |Rc _ as hl hr=>
      obtain ⟨Xl,Ic,e1,m',e2,e3,e4,e5⟩:=k m Hv as hh ⟨hl,hr⟩;exact ⟨.Rc Xl,Ic,by simp only [V.freeze,e1,da],m',e2,.Rc _ _ e3.1 e3.2,e4,e5⟩
  · simp at h
def Me (C:V.Callee) (f:FuncId) (spec:Spec):Prop:=
 ∀ (X:Type) (args:List UV) (H:UH) (K:UV->UH->Option X) (out:X),spec X args H K=some out->
  ∃ r H',K r H'=some out/\H'.wm=H.wm/\∀ (m:Mp) (Hv:V.AH) (as cs:List V.AV),RH m H Hv->RL m args (as++cs)->∃ r' Ic,C (.fn f cs) as Hv=some (r',Ic)/\Bo m Hv r H' r' Ic
theorem Me.imp {C:V.Callee} {f:FuncId} {g g':Spec} (h:Me C f g) (hi:∀ X args H K out,g' X args H K=some out->g X args H K=some out):Me C f g':=
 fun X args H K out ho=>h X args H K out (hi X args H K out ho)
theorem pB {φ:Nat->Option Nat}:∀ {args:List UV} {as:List V.AV} {i:Nat},RL m args as->RE m φ (be args i) (V.be as i)
 |[],as,i,h=>by
  have:as=[]:=by have:=h.1;simpa using this
  subst this;exact fun t=>trivial
 |x::xs,as,i,h=>by
  cases as with
  |nil=>have:=h.1;simp at this
  |cons a as=>
   have hr:RL m xs as:=⟨by have:=h.1;simpa using this,fun i y b k1 k2=>h.2 (i+1) y b (by simpa using k1) (by simpa using k2)⟩;exact (pB (i:=i+1) hr).cons i (h.2 0 x a rfl rfl).rs
theorem pH {m:Mp} {Hv:V.AH}:∀ {l:List Nat} {H:UH},RH m H Hv->RH m (Xt l H) Hv
 |[],_,h=>h
 |b::l,_,h=>pH (l:=l) (h.kill b)
theorem oH:∀ {l:List Nat} {H:UH},(Xt l H).wm=H.wm
 |[],_=>rfl
 |b::l,H=>(oH (l:=l) (H:=Ma H b .dead)).trans rfl
theorem Bo.kill {m:Mp} {Hv Ic:V.AH} {v:UV} {H':UH} {a:V.AV} (l:List Nat) (h:Bo m Hv v H' a Ic):Bo m Hv v (Xt l H') a Ic:=by
 obtain ⟨m1,e1,e2,e3,e4⟩:=h;exact ⟨m1,pH e1,e2,e3,e4⟩
theorem sU (hg:xe A La) {env:Env} {k:Nat} (hc:Sa (V.call A k) env.call) {f:FuncId} {fn:Func} {c:Code} {za:List Nat} {sh:Sh} {fz:Bool}
  (vo:A.ext f=none) (Mm:A.fns f=some fn) (bx:fn.body=some c) (uo:A.loc f=za) (MM:A.keep f=oa fn.ntmps) (Uk:A.lS f=fz)
  (hl:∀ c'∈loops env.join c,Va env.loop (V.code A (V.call A k) true za (oa fn.ntmps) fn.ntmps) c'):
  Me (V.call A (k+1)) f (fun X args H K=>NH A La env za fn sh fz args H K):=by
 intro X args H K out h;simp only [NH,bx] at h;split at h
 case isFalse=>simp at h
 rename_i hlen;obtain ⟨ex,s1,h1,h2⟩:=gg hg hc hl h;have hex:(∀ id,ex≠ .exit id)/\(results A s1 fn.results.toList).bind (fun l=>(Zf 8 fz sh.inner (result l) s1.H).bind fun (r,H1)=>if (!fz||Nb 8 r)&&decide (H1.wm<=H.bl.length) then K (gc H.bl.length r (Xt sh.fA H1)).1 (gc H.bl.length r (Xt sh.fA H1)).2 else none)=some out:=by
  cases ex with
  |exit id=>simp at h1
  |normal=>exact ⟨fun _=>by simp,h1⟩
  |ret=>exact ⟨fun _=>by simp,h1⟩
 obtain ⟨Nc,h3⟩:=hex;simp only [aa] at h3;obtain ⟨l,ZC,⟨r,H0⟩,hmo,h3⟩:=h3;split at h3
 case isFalse=>simp at h3
 rename_i T9;simp only [Ia,decide_eq_true_eq] at T9;have rK:=T9.1;have sah:=T9.2;generalize hH':Xt sh.fA H0=H' at h3;have hwk:H'.wm=H0.wm:=by rw [<- hH'];exact oH
 have hgw:H'.wm<=H.bl.length:=by rw [hwk];exact sah
 have start:∀ (m:Mp) (Hv:V.AH) (as cs:List V.AV),RH m H Hv->RL m args (as++cs)->∃ Kj m1 qz l',V.code A (V.call A k) true za (oa fn.ntmps) fn.ntmps c ⟨V.be (as++cs) 0,[],Hv⟩=some (ex,Kj)/\Hl m1 qz s1 Kj/\Fj H.bl.length m Hv m1 Kj.H/\V.results A Kj fn.results.toList=some l'/\RL m1 l l':=fun m Hv as cs hh ha=>by
  obtain ⟨Kj,m1,qz,e1,e2,e3⟩:=h2.2.2 m (fun _=>none) ⟨V.be (as++cs) 0,[],Hv⟩ ⟨hh,⟨fun i j h=>by simp at h,fun i row h=>by simp at h,fun i i' j h=>by simp at h⟩,pB ha,ua _⟩;obtain ⟨l',e4,e5⟩:=Po ZC m1 qz Kj e2;exact ⟨Kj,m1,qz,l',e1,e2,e3,e4,e5⟩
 have Sf:∀ (Hv:V.AH) (as cs:List V.AV) (Kj:V.S) (l':List V.AV),(as++cs).length<=fn.ntmps->V.code A (V.call A k) true za (oa fn.ntmps) fn.ntmps c ⟨V.be (as++cs) 0,[],Hv⟩=some (ex,Kj)->V.results A Kj fn.results.toList=some l'->
   V.call A (k+1) (.fn f cs) as Hv=if fz then V.freeze 8 Kj.H (V.result l') else some (V.result l',Kj.H):=fun Hv as cs Kj l' hle e1 e2=>by
  simp only [V.call,vo,Mm,bx,uo,MM,Uk];rw [if_pos hle,e1];cases ex with
  |exit id=>exact (Nc id rfl).elim
  |normal=>simp only [da,e2]
  |ret=>simp only [da,e2]
 have fin:∀ {m m1:Mp} {Hv oS:V.AH} {r':V.AV} {Ic:V.AH},RH m H Hv->Fj H.bl.length m Hv m1 oS->Bo m1 oS r H' r' Ic->H.bl.length<=m1.top->Bo m Hv (gc H.bl.length r H').1 (gc H.bl.length r H').2 r' Ic:=fun {m m1 Hv oS r' Ic} hh Ao ⟨m20,ZA,e20,e3,e4⟩ iy=>by
  have BH:Fj H.bl.length m Hv m20 Ic:=Ao.trans e4 iy;have Wb:Hl m20 (fun _=>none) ⟨[(0,.v r)],[],H',H.bl.length⟩ ⟨[(0,.v r')],[],Ic⟩:=⟨ZA,⟨fun i j h=>by simp at h,fun i row h=>by simp at h,fun i i' j h=>by simp at h⟩,fun t=>by
   simp only [get,V.get];split
   · exact e20.rs
   · exact trivial,by have:=BH.ik.1;rw [ZA.len] at this;exact this⟩
  obtain ⟨m2,Cy,c1,c2⟩:=El (keep:=[0]) (n:=1) (by simp) Wb hgw (.refl 1 _);have e1:RH m2 (gc H.bl.length r H').2 Ic:=c1.h;have e2:RV m2 (gc H.bl.length r H').1 r':=by
   have:=c1.e 0;simp only [gc]
   revert this
   simp only [V.get,if_true];cases get (compact [0] ⟨[(0,.v r)],[],H',H.bl.length⟩).e 0 with
   |loc i c=>exact fun h=>h.elim
   |v x=>intro h;cases x<;>first|exact .Qb _|exact h
  have YE:Fj m.top m Hv m2 Ic:=by rw [hh.len];exact BH.trans c2 (ua _)
  refine ⟨m2,e1,e2,⟨fun b _ x hb=> ?_,YE.ik.1,fun b hb=>(YE.ik.2 b hb).2⟩,YE⟩;have:=YE.ik.2 b (by rw [hh.len];exact (hh.Ae b x hb).1);exact ⟨by rw [this.1];exact hb,by rw [this.2]⟩
 cases fz with
 |true=>
  simp at rK;obtain ⟨w,hf⟩:=IE 8 sh.inner _ _ _ _ hmo rK;refine ⟨_,_,h3,by show H'.wm=_;rw [hwk,w,h2.2.1],fun m Hv as cs hh ha=> ?_⟩;obtain ⟨Kj,m1,qz,l',e1,e2,e3,e4,e5⟩:=start m Hv as cs hh ha;obtain ⟨r',Ic,k1,k2⟩:=hf m1 Kj.H _ e2.h (Oz e5);exact ⟨r',Ic,by rw [Sf Hv as cs Kj l' (by rw [ha.1];exact hlen) e1 e4];exact k1,fin hh e3 (hH' ▸ k2.kill sh.fA) e3.ik.1⟩
 |false=>
  have hmw:=bj.zq 8 sh.inner _ _ _ _ hmo;refine ⟨_,_,h3,by show H'.wm=_;rw [hwk,hmw,h2.2.1],fun m Hv as cs hh ha=> ?_⟩;obtain ⟨Kj,m1,qz,l',e1,e2,e3,e4,e5⟩:=start m Hv as cs hh ha;obtain ⟨_,m2,k1,k2,k3,k4⟩:=mm 8 sh.inner _ _ _ _ hmo m1 e2.h;exact ⟨V.result l',Kj.H,by rw [Sf Hv as cs Kj l' (by rw [ha.1];exact hlen) e1 e4];rfl,fin hh e3 (hH' ▸ Bo.kill sh.fA ⟨m2,k1,k4 _ (Oz e5),k2,k3⟩) e3.ik.1⟩
theorem lG {C:V.Callee}:∀ {l:List (FuncId×Spec)},(∀ p∈l,Me C p.1 p.2)->∀ f,Me C f (aB l f)
 |[],_,f,X,args,H,K,out,h=>by simp [aB] at h
 |(g,sp)::l,hl,f,X,args,H,K,out,h=>by
  simp only [aB] at h;split at h
  · rename_i e;subst e;exact hl (f,sp) (zc ..) X args H K out h
  · exact lG (fun p hp=>hl p (Gb _ hp)) f X args H K out h
theorem wY {C:V.Callee} {l:List (FuncId×Spec)} (hl:∀ p∈l,Me C p.1 p.2):Sa C (fun X fv args H K=>match fv with| .fn f cs=>aB l f X (args++cs) H K|_=>none):=by
 intro X fv args H K out h;simp only at h;split at h
 · rename_i f cs;obtain ⟨r,H',h1,h2,h3⟩:=lG hl f X _ H K out h;refine ⟨r,H',h1,h2,fun m Hv vZ Yg hh hf ha=> ?_⟩;cases hf with
   |fn _ _ as Pf hr=>exact h3 m Hv Yg as hh (ha.append ⟨Pf,hr⟩)
 · simp at h
theorem gB {C:V.Callee} {spec:(X:Type)->UV->List UV->UH->(UV->UH->Option X)->Option X} (hs:Sa C spec):Sa C (fun X fv args H K=>rG spec fv args H K):=by
 intro X fv args H K out h;simp only [rG] at h;generalize Bad:(reach H 64 ((fv::args).flatMap (ids 8)) []).filter (fun b=>Qd (H.bl.getD b .dead))=bs0 at h;have aad:bs0.Nodup:=by rw [<- Bad];exact (aj List.nodup_nil).filter _
 have kah:∀ b∈bs0,live H b:=fun b hb=>by
   rw [<- Bad,th] at hb;have:=hb.2;cases h1:H.bl[b]? with
   |none=>rw [Ea,h1] at this;simp [Qd] at this
   |some y=>rw [Ea,h1] at this;exact ⟨y,h1,this⟩
 generalize fad:bs0.filter (fun b=>decide (b<H.wm))=lo at h;generalize N5:lo++bs0.filter (fun b=>decide (H.wm<=b))=bs at h;have s9:bs.Nodup:=by
   rw [<- N5,<- fad];refine Ay.2 ⟨aad.filter _,aad.filter _,fun x hx y hy=> ?_⟩;simp only [th,decide_eq_true_eq] at hx hy;omega
 have jK:∀ b∈bs,live H b:=fun b hb=>by
   rw [<- N5,<- fad,Sn,th,th] at hb;rcases hb with hb|hb<;>exact kah b hb.1
 have mad:∀ (j b:Nat),bs[j]?=some b->lo.length<=j->H.wm<=b:=fun j b hj hle=>by
   rw [<- N5,Ka hle] at hj;have:=jb hj
   simpa only [th,decide_eq_true_eq] using (th.1 this).2
 generalize IM:lo.length=w0 at h mad;obtain ⟨r,H1,h1,AT,h2⟩:=hs X _ _ _ _ out h;simp only at AT;generalize D5:(reach H1 64 (oa bs.length++ids 8 r) []).filter (fun b=>decide (bs.length<=b))=news at h1;have hnn:news.Nodup:=by rw [<- D5];exact (aj List.nodup_nil).filter _
 have Cj:∀ b∈news,bs.length<=b:=fun b hb=>by rw [<- D5,th] at hb;simpa using hb.2
 refine ⟨_,_,h1,rfl,fun m Hv vZ Yg hh hf ha=> ?_⟩
 let m0:Mp:={ ι:=fun j s=>(bs[j]?).bind fun c=>m.ι c s,len:=fun j=>m.len (bs.getD j 0),top:=bs.length }
 have eK:Ren m m0 (fun b=>pos b bs 0):=fun b b' hb=>by
   have:=jP hb;exact ⟨by simp [m0,this],by simp [m0,this],Ua this⟩
 have w9:∀ j {s} x,m0.ι j s=some x->∃ b,bs[j]?=some b/\m.ι b s=some x:=fun j s x hj=>by simpa [m0,aa] using hj
 have eaj:w0<=bs.length:=by rw [<- IM,<- N5];simp
 have Kag:RH m0 ⟨bs.map fun b=>Hs (fun b=>pos b bs 0) (H.bl.getD b .dead),w0⟩ Hv:=by
   refine ⟨fun b _ x hb=> ?_,fun b' y hy=> ?_,fun b1 b2 _ _ x l1 l2 e1 e2=> ?_,fun b _ x hb XC=> ?_,hh.top,by simp [m0]⟩
   · obtain ⟨c,h1,h2⟩:=w9 b x hb;exact ⟨by simpa using Ua h1,(hh.Ae c x h2).2⟩
   · simp only [Ob,ia] at hy;obtain ⟨b,h1,rfl⟩:=hy;rw [Ea];cases h2:H.bl[b]? with
     |none=>trivial
     |some y=>exact RB.zj eK (hh.Oc b y h2) (by simp [m0,h1]) (by simp [m0,h1])
   · obtain ⟨c1,k1,k2⟩:=w9 b1 x e1;obtain ⟨c2,k3,k4⟩:=w9 b2 x e2;obtain ⟨this,h5⟩:=hh.Am c1 c2 x (jK c1 (jb k1)) (jK c2 (jb k3)) k2 k4;subst this;exact ⟨vq s9 k1 k3,h5⟩
   · obtain ⟨c,k1,k2⟩:=w9 b x hb;have nc:=Ua k1;simp only at XC;exact hh.wm c x k2 (mad b c k1 XC)
 have XB:RV m0 (zj (fun b=>pos b bs 0) 8 fv) vZ:=RV.zj eK 8 hf;have har:RL m0 (args.map (zj (fun b=>pos b bs 0) 8)) Yg:=ha.zj eK 8;obtain ⟨r',Ic,k1,m1,k2,k3,k4,k5⟩:=h2 m0 Hv vZ Yg Kag XB har;refine ⟨r',Ic,k1,?_⟩;have hold:∀ j,j<bs.length->m1.ι j=m0.ι j/\m1.len j=m0.len j:=fun j hj=>k5.ik.2 j hj
 let m':Mp:={ ι:=fun b=>if b<H.bl.length then m.ι b else fun s=>(news[b-H.bl.length]?).bind fun c=>m1.ι c s,len:=fun b=>if b<H.bl.length then m.len b else m1.len (news.getD (b-H.bl.length) 0),top:=H.bl.length+news.length }
 have iv:∀ b,b<H.bl.length->m'.ι b=m.ι b/\m'.len b=m.len b:=fun b hb=>by simp [m',hb]
 have OM:∀ i b,news[i]?=some b->m'.ι (H.bl.length+i)=m1.ι b/\m'.len (H.bl.length+i)=m1.len b:=fun i b hb=>by
   have:¬ H.bl.length+i<H.bl.length:=by omega
   simp [m',hb,this]
 have M5:∀ b∈bs,b<H.bl.length:=fun b hb=>by obtain ⟨y,hy,_⟩:=jK b hb;exact Ua hy
 let ψ:Nat->Option Nat:=fun b=>if b<bs.length then bs[b]? else (pos b news 0).map (H.bl.length+ ·)
 have hψ:Ren m1 m' ψ:=fun b b' hb=>by
   simp only [ψ] at hb;split at hb
   · rename_i nc;have hm:=jb hb;have h3:=hold b nc;obtain ⟨l1,l2⟩:=iv b' (M5 b' hm);rw [l1,l2,h3.1,h3.2];refine ⟨by simp [m0,hb],by simp [m0,hb],?_⟩;have:=M5 b' hm;show b'<H.bl.length+news.length;omega
   · simp only [ia] at hb;obtain ⟨i,hi,rfl⟩:=hb;have hni:=jP hi;obtain ⟨l1,l2⟩:=OM i b hni;rw [l1,l2];refine ⟨rfl,rfl,?_⟩;have:=Ua hni;show H.bl.length+i<H.bl.length+news.length;omega
 have hle:m.Le m':=⟨fun b _ x hb=>by
   have:=(hh.Ae b x hb).1;rw [(iv b this).1,(iv b this).2];exact ⟨hb,rfl⟩,by rw [hh.len];simp [m'],fun b hb=>(iv b (by rw [<- hh.len];exact hb)).2⟩
 have fK:∀ b {s} x,live H b->m.ι b s=some x->pos b bs 0=none->∀ j s',m0.ι j s'≠some x:=fun b s x hl hb hp j s' hj=>by
   obtain ⟨c,e1,e2⟩:=w9 j x hj;have hc:=jb e1;have:=hh.inj b c x hl (jK c hc) hb e2;subst this;obtain ⟨k,hk⟩:=pM (i:=0) hc;rw [hp] at hk;simp at hk
 generalize GH:(oa H.bl.length).map (fun b=>match pos b bs 0 with|some j=>Hs ψ (H1.bl.getD j .dead)|none=>H.bl.getD b .dead)++news.map (fun b=>Hs ψ (H1.bl.getD b .dead))=x4;have LM:x4.length=H.bl.length+news.length:=by rw [<- GH];simp
 have K5:∀ b,b<H.bl.length->x4[b]?=some (match pos b bs 0 with|some j=>Hs ψ (H1.bl.getD j .dead)|none=>H.bl.getD b .dead):=fun b hb=>by
   rw [<- GH,Fa (by simpa using hb)];simp [hb]
 have hgh:∀ b y,H.bl.length<=b->x4[b]?=some y->∃ c,news[b-H.bl.length]?=some c/\y=Hs ψ (H1.bl.getD c .dead):=fun b y hb hy=>by
   rw [<- GH,Ka (by simpa using hb)] at hy;simp only [Ec,List.length_range,Ob,ia] at hy;obtain ⟨c,e1,e2⟩:=hy;exact ⟨c,e1,e2.symm⟩
 have TT:∀ j,Qd (Hs ψ (H1.bl.getD j .dead))=true->live H1 j:=fun j hj=>by
   rw [SC,Ea] at hj;cases h3:H1.bl[j]? with
   |none=>rw [h3] at hj;simp [Qd] at hj
   |some y=>rw [h3] at hj;exact ⟨y,h3,hj⟩
 have kK:∀ b,Qd (H.bl.getD b .dead)=true->live H b:=fun b hb=>by
   rw [Ea] at hb;cases h3:H.bl[b]? with
   |none=>rw [h3] at hb;simp [Qd] at hb
   |some y=>rw [h3] at hb;exact ⟨y,h3,hb⟩
 have F5:∀ b,live ⟨x4,H.wm⟩ b->(∃ j,live H1 j/\m'.ι b=m1.ι j/\((j<bs.length/\bs[j]?=some b)\/(bs.length<=j/\H.bl.length<=b/\news[b-H.bl.length]?=some j)))\/(b<H.bl.length/\live H b/\pos b bs 0=none):=fun b ⟨y,hy,hl⟩=>by
   have If:x4[b]?=some y:=hy;rcases Rb b H.bl.length with nc|Pr
   · rw [K5 b nc] at If;simp at If;cases hp:pos b bs 0 with
     |none=>rw [hp] at If;simp at If;subst If;exact .inr ⟨nc,kK b (by simpa using hl),rfl⟩
     |some j=>
       rw [hp] at If;simp only at If;subst If;have hj:=jP hp;have LP:=Ua hj;refine .inl ⟨j,TT j (by simpa using hl),?_,.inl ⟨LP,hj⟩⟩;rw [(iv b nc).1,(hold j LP).1];simp [m0,hj]
   · obtain ⟨c,e1,rfl⟩:=hgh b y Pr If;have he:H.bl.length+(b-H.bl.length)=b:=by omega
     refine .inl ⟨c,TT c hl,?_,.inr ⟨Cj c (jb e1),Pr,e1⟩⟩;have:=(OM _ c e1).1;rw [he] at this;exact this
 have Lag:RH m' ⟨x4,H.wm⟩ Ic:=by
   refine ⟨fun b _ x hb=> ?_,fun b y hy=> ?_,fun b1 b2 _ _ x l1 l2 e1 e2=> ?_,fun b _ x hb XC=> ?_,by rw [k5.wm];exact Ib hh.top k5.len,by simp [m',LM]⟩
   · show b<x4.length/\x<Ic.bl.length;rw [LM];rcases Rb b H.bl.length with nc|Pr
     · rw [(iv b nc).1] at hb;have:=hh.Ae b x hb;have:=k5.len;omega
     · simp only [m'] at hb;rw [if_neg (by omega)] at hb;simp only [aa] at hb;obtain ⟨c,e1,e2⟩:=hb;have:=Ua e1;exact ⟨by omega,(k2.Ae c x e2).2⟩
   · have If:x4[b]?=some y:=hy;rcases Rb b H.bl.length with nc|Pr
     · rw [K5 b nc] at If;simp only [yc] at If;cases hp:pos b bs 0 with
       |none=>
         rw [hp] at If;simp only at If;subst If;rw [Ea];cases h3:H.bl[b]? with
         |none=>trivial
         |some y=>
           refine (hh.Oc b y h3).keep hle (iv b nc).1 (iv b nc).2 fun hl _ x hx=> ?_
           exact k5.stay x (hh.Ae b x hx).2 fun j s hj=>fK b x ⟨y,h3,hl⟩ hx hp j s hj
       |some j=>
         rw [hp] at If;simp only at If;subst If;have hj:=jP hp;have LP:=Ua hj;rw [Ea];cases h3:H1.bl[j]? with
         |none=>trivial
         |some y=>exact RB.zj hψ (k2.Oc j y h3) (by rw [(iv b nc).1,(hold j LP).1];simp [m0,hj]) (by rw [(iv b nc).2,(hold j LP).2];simp [m0,hj])
     · obtain ⟨c,e1,rfl⟩:=hgh b y Pr If;have he:H.bl.length+(b-H.bl.length)=b:=by omega
       have h4:=OM _ c e1;rw [he] at h4;rw [Ea];cases h3:H1.bl[c]? with
       |none=>trivial
       |some y=>exact RB.zj hψ (k2.Oc c y h3) h4.1 h4.2
   · rcases F5 b1 l1 with ⟨j1,g1,g2,g3⟩|⟨g1,g2,g3⟩<;>rcases F5 b2 l2 with ⟨j2,f1,f2,f3⟩|⟨f1,f2,f3⟩
     · rw [g2] at e1;rw [f2] at e2;obtain ⟨this,h5⟩:=k2.Am j1 j2 x g1 f1 e1 e2;subst this;refine ⟨?_,h5⟩;rcases g3 with ⟨g3,g4⟩|⟨g3,g4,g5⟩<;>rcases f3 with ⟨f3,f4⟩|⟨f3,f4,f5⟩
       · rw [g4] at f4;simpa using f4
       · omega
       · omega
       · have:=vq hnn g5 f5;omega
     · exfalso;rw [g2] at e1;rw [(iv b2 f1).1] at e2;rcases g3 with ⟨g3,g4⟩|⟨g3,g4,g5⟩
       · rw [(hold j1 g3).1] at e1;exact fK b2 x f2 e2 f3 j1 _ e1
       · rcases k5.new j1 x e1 with ⟨b0,s0,sA⟩|Pr
         · exact fK b2 x f2 e2 f3 b0 s0 sA
         · have:=(hh.Ae b2 x e2).2;omega
     · exfalso;rw [f2] at e2;rw [(iv b1 g1).1] at e1;rcases f3 with ⟨f3,f4⟩|⟨f3,f4,f5⟩
       · rw [(hold j2 f3).1] at e2;exact fK b1 x g2 e1 g3 j2 _ e2
       · rcases k5.new j2 x e2 with ⟨b0,s0,sA⟩|Pr
         · exact fK b1 x g2 e1 g3 b0 s0 sA
         · have:=(hh.Ae b1 x e1).2;omega
     · rw [(iv b1 g1).1] at e1;rw [(iv b2 f1).1] at e2;exact hh.Am b1 b2 x g2 f2 e1 e2
   · have T8:H.wm<=b:=XC;rw [k5.wm];rcases Rb b H.bl.length with nc|Pr
     · rw [(iv b nc).1] at hb;exact hh.wm b x hb T8
     · simp only [m'] at hb;rw [if_neg (by omega)] at hb;simp only [aa] at hb;obtain ⟨c,e1,e2⟩:=hb;have:=Cj c (jb e1);have h5:=k2.wm c x e2 (by rw [AT];omega);rw [k5.wm] at h5;exact h5
 refine ⟨m',?_,RV.zj hψ 8 k3,hle,⟨⟨by rw [hh.len];simp [m'],fun b hb=>iv b (by rw [<- hh.len];exact hb)⟩,fun x hx hn=>k5.stay x hx fun j s hj=> ?_,fun b s x hb=> ?_,k5.len,k5.wm⟩⟩
 · exact Lag
 · obtain ⟨c,e1,e2⟩:=w9 j x hj;exact hn c s e2
 · rcases Rb b H.bl.length with nc|Pr
   · rw [(iv b nc).1] at hb;exact .inl ⟨b,s,hb⟩
   · simp only [m'] at hb;rw [if_neg (by omega)] at hb;simp only [aa] at hb;obtain ⟨c,e1,e2⟩:=hb;rcases k5.new c x e2 with ⟨b0,s0,sA⟩|Pr
     · obtain ⟨c0,_,e3⟩:=w9 b0 x sA;exact .inl ⟨c0,_,e3⟩
     · exact .inr Pr
theorem VI {C:V.Callee} {l:List (FuncId×Spec)} (hl:∀ p∈l,Me C p.1 p.2):Sa C (fun X fv args H K=>vO l X fv args H K):=gB (wY hl)
end
end Go.U
namespace Go.U
open Go
variable [TB:qB]
section
variable {A:V.oh} {C:V.Callee} {La:Nat->Option (List UV)} {za:List Nat} {n:Nat} {X:Type} {out:X}
theorem KD {e:List (Nat×V.SV)}:∀ (is:List Nat),∃ env,V.Mx e is=some env/\∀ t,V.get (V.ve env) t=if t∈is then (match V.get e t with| .v a=> .v a|_=> .v .Qb) else .v .Qb
 |[]=>⟨[],rfl,fun t=>by simp [V.ve,V.get]⟩
 |i::is=>by
  obtain ⟨env,h1,h2⟩:=KD (e:=e) is;refine ⟨(i,match V.get e i with| .v a=>a|_=> .Qb)::env,?_,fun t=> ?_⟩
  · simp only [V.Mx,h1];cases V.get e i<;>rfl
  · simp only [V.ve,V.get,h2 t];by_cases ht:t=i
    · subst ht;simp only [if_true,oc,true_or];cases V.get e t<;>rfl
    · simp only [if_neg ht,oc,ht,false_or,if_false]
theorem tY (e:List (Nat×US)) (ks:List Nat) (t:Nat):get (ve (JL e ks)) t=if t∈ks then .v (match get e t with| .v a=>a|_=> .Qb) else .v .Qb:=by
 have:ve (JL e ks)=ks.map fun i=>(i,US.v (match get e i with| .v a=>a|_=> .Qb)):=by unfold ve JL;rw [List.map_map];rfl
 rw [this,wA]
theorem Q3 {m:Mp} {φ:Nat->Option Nat} {e:List (Nat×US)} {ev:List (Nat×V.SV)} {ks:List Nat} (h:RE m φ e ev) (hk:∀ t∈ks,t<n):
   ∃ env,V.Mx ev (oa n)=some env/\∀ t,match get (ve (JL e ks)) t,V.get (V.ve env) t with
     | .v y,.v a=>RV m y a
     |_,_=>False:=by
 obtain ⟨env,h1,h2⟩:=KD (e:=ev) (oa n);refine ⟨env,h1,fun t=> ?_⟩;rw [h2 t,tY];by_cases ht:t∈ks
 · rw [if_pos ht,if_pos (List.mem_range.2 (hk t ht))];have:=h t
   revert this
   cases get e t with
   |loc i c=>
     cases V.get ev t with
     |loc j c'=>exact fun _=> .Qb _
     |v a=>exact fun h=>h.elim
   |v y=>
     cases hv:V.get ev t with
     |loc j c'=>intro h;cases y<;>first|exact .Qb _|exact h.elim
     |v a=>intro h;cases y<;>first|exact .Qb _|exact h
 · rw [if_neg ht];by_cases ht2:t∈oa n
   · rw [if_pos ht2];cases V.get ev t<;>exact .Qb _
   · rw [if_neg ht2];exact .Qb _
theorem MS (hg:xe A La) {env:Env} (hc:Sa C env.call) {id:Nat} {ks:List Nat} {g:Operand} {ps:Array Tmp} {a b:Code} (dK:TB.rf id=⟨n,ps.toList,a,b⟩) {s:St} {K:V.Ex->St->Option X}
   (h:UG A La env id n ks g s K=some out):∃ ex s',K ex s'=some out/\EO (V.code A C true za (oa n) n (.rangeFunc g ps a b)) s ex s':=by
 unfold UG at h;simp only [aa] at h;obtain ⟨fv,MP,h⟩:=h;split at h
 case h_2=>simp at h
 rename_i f cs;generalize hcd:((match A.fns f with|some fn=>fn.body.isSome|none=>false)&&ks.all (fun i=>decide (i<n)))=cd at h;cases cd
 case false=>simp at h
 have hif:=hcd;rw [if_pos rfl] at h;simp only [Ia,Yb,decide_eq_true_eq] at hif;obtain ⟨Mm,hks⟩:=hif;obtain ⟨r,H',h1,Of,h3⟩:=hc X _ _ _ _ _ h;split at h1
 case h_2=>simp at h1
 rename_i xB e' st pe hb;split at h1
 · simp at h1
 rename_i Wb;refine ⟨pe,_,h1,rfl,by show H'.wm=_;rw [Of];rfl,fun m φ sv hs=> ?_⟩;obtain ⟨vZ,e1,e2⟩:=Gc (m:=m) (φ:=φ) hg MP hs.e;cases e2 with
 |fn _ _ as hl hr=>
   obtain ⟨Vl,e3,e4⟩:=Q3 (n:=n) (ks:=ks) hs.e hks;have hlen:=hs.h.len;obtain ⟨r1,r2,r3⟩:=RH.new (n:=0) (y:= .loop id (JL s.e ks) .ready .normal) (yv:= .loop n (oa n) Vl ps.toList a b .ready none) hs.h (by
     refine ⟨sv.H.bl.length,Vl,by rw [Ud],?_,fun t=> ?_⟩
     · rw [dK];simp [V.push,V.Ex.jump]
     · have:=e4 t
       revert this
       cases get (ve (JL s.e ks)) t<;>cases V.get (V.ve Vl) t<;>intro this<;>first|exact this.elim|exact RV.mono (cM hs.h _ _) this)
   have XB:RV (m.add s.H.bl.length (some sv.H.bl.length) 0) (.fn f cs) (.fn f as):=RV.mono r2 (.fn f cs as hl hr);obtain ⟨r',Ic,k1,m2,k2,k3,k4,k5⟩:=h3 _ _ (.fn f as) [.yl sv.H.bl.length] r1 XB (RL.cons (.yl _ _ (by rw [Ud])) .nil);have Zn:m2.ι s.H.bl.length 0=some sv.H.bl.length:=(k4.of _ _ (by rw [Ud])).1;obtain ⟨x',gG,q1,q2,q3⟩:=k2.Oc _ _ hb;rw [Zn] at q1;simp at q1;subst q1;have Sd:live H' s.H.bl.length:=⟨_,hb,rfl⟩;obtain ⟨w1,w2⟩:=RH.set (yv:= .dead) k2 Sd Zn (y:= .dead) trivial;have hle:m.Le m2:=r2.trans k4;have Ao:Fj m.top m sv.H m2 (V.Ma Ic sv.H.bl.length .dead):=(r3.trans k5 r3.ik.1).trans w2 ((r3.trans k5 r3.ik.1).ik.1);refine ⟨{ sv with H:=V.Ma Ic sv.H.bl.length .dead },m2,φ,?_,⟨w1,hs.f.mono hle,hs.e.mono hle (.refl φ),?_⟩,Ao.less (by rw [hlen];exact hs.b)⟩
   · simp only [V.code,if_true,e1,e3,da];have hf2:∃ fn,A.fns f=some fn/\fn.body.isSome=true:=by
       cases hA:A.fns f with
       |none=>rw [hA] at Mm;simp at Mm
       |some fn=>rw [hA] at Mm;exact ⟨fn,rfl,Mm⟩
     obtain ⟨fn,hf3,hf4⟩:=hf2;simp only [hf3,hf4,if_true,da,k1,q2];have TE:Ic.wm<=sv.H.bl.length:=by rw [k5.wm];exact hs.h.top
     have hj:V.PE pe.jump=some pe:=by cases pe<;>rfl
     cases st with
     |busy=>exact (Wb rfl).elim
     |ready=>simp [TE,hj]
     |done=>simp [TE,hj]
     |exhausted=>simp [TE,hj]
   · show s.base<=(Ma H' _ _).bl.length;have:s.H.bl.length<=H'.bl.length:=by
       have:=Ua hb;omega
     simp only [Ma,fe];exact Ib hs.b this
def Ai (C:V.Callee) (spec:Spec):Prop:=
 ∀ (X:Type) (args:List UV) (H:UH) (K:UV->UH->Option X) (out:X),spec X args H K=some out->
  ∃ r H',K r H'=some out/\H'.wm=H.wm/\∀ (m:Mp) (Hv:V.AH) (a0:V.AV) (as:List V.AV),RH m H Hv->RL m args (a0::as)->∃ r' Ic,C a0 as Hv=some (r',Ic)/\Bo m Hv r H' r' Ic
theorem Ai.imp {C:V.Callee} {g g':Spec} (h:Ai C g) (hi:∀ X args H K out,g' X args H K=some out->g X args H K=some out):Ai C g':=
 fun X args H K out ho=>h X args H K out (hi X args H K out ho)
theorem Sz {m:Mp} {φ:Nat->Option Nat}:∀ {ps:List Nat} {as:List UV} {Xl:List V.AV} {e:List (Nat×US)} {ev:List (Nat×V.SV)},RL m as Xl->RE m φ e ev->RE m φ (Ni ps as e) (V.Ni ps Xl ev)
 |[],as,Xl,e,ev,_,he=>by cases as<;>cases Xl<;>exact he
 |p::ps,[],Xl,e,ev,h,he=>by
  have:Xl=[]:=by have:=h.1;simpa using this
  subst this;exact he
 |p::ps,a::as,Xl,e,ev,h,he=>by
  cases Xl with
  |nil=>have:=h.1;simp at this
  |cons a' Xl=>
   have hr:RL m as Xl:=⟨by have:=h.1;simpa using this,fun i y b k1 k2=>h.2 (i+1) y b (by simpa using k1) (by simpa using k2)⟩;exact Sz (ps:=ps) hr (he.cons p (h.2 0 a a' rfl rfl).rs)
theorem BR {m:Mp} {φ:Nat->Option Nat} {e:List (Nat×UV)} {Vl:List (Nat×V.AV)} (h:∀ t,match get (ve e) t,V.get (V.ve Vl) t with
   | .v y,.v a=>RV m y a
   |_,_=>False):RE m φ (ve e) (V.ve Vl):=fun t=>by
 have:=h t
 revert this
 cases get (ve e) t<;>cases V.get (V.ve Vl) t<;>intro this
 · exact RV.rs this
 · exact this.elim
 · exact this.elim
 · exact this.elim
theorem Y' {m m1:Mp} {H H':UH} {Hv oS Ic:V.AH} {r:UV} {r':V.AV} (hgw:H'.wm<=H.bl.length) (hh:RH m H Hv) (Ao:Fj H.bl.length m Hv m1 oS) (hg:Bo m1 oS r H' r' Ic) (iy:H.bl.length<=m1.top):
  Bo m Hv (gc H.bl.length r H').1 (gc H.bl.length r H').2 r' Ic:=by
 obtain ⟨m20,ZA,e20,e3,e4⟩:=hg;have BH:Fj H.bl.length m Hv m20 Ic:=Ao.trans e4 iy;have Wb:Hl m20 (fun _=>none) ⟨[(0,.v r)],[],H',H.bl.length⟩ ⟨[(0,.v r')],[],Ic⟩:=⟨ZA,⟨fun i j h=>by simp at h,fun i row h=>by simp at h,fun i i' j h=>by simp at h⟩,fun t=>by
  simp only [get,V.get];split
  · exact e20.rs
  · exact trivial,by have:=BH.ik.1;rw [ZA.len] at this;exact this⟩
 obtain ⟨m2,Cy,c1,c2⟩:=El (keep:=[0]) (n:=1) (by simp) Wb hgw (.refl 1 _);have e1:RH m2 (gc H.bl.length r H').2 Ic:=c1.h;have e2:RV m2 (gc H.bl.length r H').1 r':=by
  have:=c1.e 0;simp only [gc]
  revert this
  simp only [V.get,if_true];cases get (compact [0] ⟨[(0,.v r)],[],H',H.bl.length⟩).e 0 with
  |loc i c=>exact fun h=>h.elim
  |v x=>intro h;cases x<;>first|exact .Qb _|exact h
 have YE:Fj m.top m Hv m2 Ic:=by rw [hh.len];exact BH.trans c2 (ua _)
 refine ⟨m2,e1,e2,⟨fun b _ x hb=> ?_,YE.ik.1,fun b hb=>(YE.ik.2 b hb).2⟩,YE⟩;have:=YE.ik.2 b (by rw [hh.len];exact (hh.Ae b x hb).1);exact ⟨by rw [this.1];exact hb,by rw [this.2]⟩
theorem u4 {b:Bool} {base:Nat} {H:UH}:(gc base (.bool b) H).1= .bool b:=by
 simp [gc,compact,get,gP,zj]
theorem qS (hg:xe A La) {env:Env} {k:Nat} (hc:Sa (V.call A k) env.call) {id:Nat} {r:RFn} (dK:TB.rf id=r)
  (iJ:∀ c'∈loops env.join r.assign,Va env.loop (V.code A (V.call A k) false [] (oa r.n) r.n) c')
  (yH:∀ c'∈loops env.join r.body,Va env.loop (V.code A (V.call A k) false [] (oa r.n) r.n) c'):
  Ai (V.call A (k+1)) (fun X args H K=>kM A La env id r args H K):=by
 intro X args H K out h;unfold kM at h;simp only at h;split at h
 case h_2=>simp at h
 rename_i b as;split at h
 case h_2=>simp at h
 rename_i xB e pe0 hb;split at h
 case isFalse=>simp at h
 rename_i hif;obtain ⟨rfl,hlen,XC,oA⟩:=hif;obtain ⟨H7,s1,h1,c1⟩:=gg hg hc iJ h;split at h1
 case h_2=>simp at h1
 split at h1
 case h_2=>simp at h1
 rename_i GM e1 pe1 Pm;obtain ⟨ex,s2,h2,c2⟩:=gg hg hc yH h1;split at h2
 case h_2=>simp at h2
 rename_i FM e2 st2 pe2 bD;split at h2
 case isFalse=>simp at h2
 rename_i I0;generalize Wb:(if ex.Fg=true then LoopState.ready else LoopState.done)=O4 at h2;have TE:s2.H.wm=H.wm:=c2.2.1.trans c1.2.1;refine ⟨_,_,h2,TE,fun m Hv a0 Xl hh ha=> ?_⟩;obtain ⟨a0',Pam,ha1,eU,ha3⟩:=ha.Oh;simp only [List.cons.injEq] at ha1;obtain ⟨rfl,rfl⟩:=ha1;cases eU with
 |yl _ x hx=>
  obtain ⟨x0,Vl,q1,q2,q3⟩:=hh.Oc b _ hb;rw [hx] at q1;simp at q1;subst q1;rw [dK] at q2;have KP:b<H.bl.length:=Ua hb;have lZ:Hl m (fun _=>none) ⟨Ni r.ps as (ve e),[],H,H.bl.length⟩ ⟨V.Ni r.ps Xl (V.ve Vl),[],Hv⟩:=
    ⟨hh,⟨fun i j h=>by simp at h,fun i row h=>by simp at h,fun i i' j h=>by simp at h⟩,Sz ha3 (BR q3),ua _⟩
  obtain ⟨Kj,m1,qz,k1,k2,k3⟩:=c1.2.2 m _ _ lZ;have dj:m1.ι b 0=some x:=by rw [(k3.ik.2 b KP).1];exact hx
  obtain ⟨x1,KL,p1,p2,p3⟩:=k2.h.Oc b _ Pm;rw [dj] at p1;simp at p1;subst p1;have y9:x<Kj.H.bl.length:=(k2.h.Ae b x dj).2;obtain ⟨w1,w2⟩:=RH.set (y:= .loop GM e1 .busy pe1) (yv:= .loop (TB.rf GM).n (oa (TB.rf GM).n) KL (TB.rf GM).ps (TB.rf GM).assign (TB.rf GM).body .busy pe1.jump) k2.h ⟨_,Pm,rfl⟩ dj ⟨x,KL,dj,by rw [Ac,if_pos rfl,if_pos y9],p3⟩;have kZ:Hl m1 qz { s1 with H:=Ma s1.H b (.loop GM e1 .busy pe1) } { Kj with H:=V.Ma Kj.H x (.loop (TB.rf GM).n (oa (TB.rf GM).n) KL (TB.rf GM).ps (TB.rf GM).assign (TB.rf GM).body .busy pe1.jump) }:=
    ⟨w1,k2.f,k2.e,by simpa [Ma] using k2.b⟩
  obtain ⟨zS,m2,Cy,l1,l2,l3⟩:=c2.2.2 m1 qz _ kZ;have Dad:s1.base=H.bl.length:=c1.1;have l3':=l3.less (n':=H.bl.length) (by show H.bl.length<=s1.base;omega);have bp:m2.ι b 0=some x:=by rw [(l3'.ik.2 b KP).1];exact dj
  obtain ⟨x2,gG,u1,u2,u3⟩:=l2.h.Oc b _ bD;rw [bp] at u1;simp at u1;subst u1;have JP:x<zS.H.bl.length:=(l2.h.Ae b x bp).2;obtain ⟨v1,v2⟩:=RH.set (y:= .loop FM e2 O4 ex) (yv:= .loop (TB.rf FM).n (oa (TB.rf FM).n) gG (TB.rf FM).ps (TB.rf FM).assign (TB.rf FM).body O4 ex.jump) l2.h ⟨_,bD,rfl⟩ bp ⟨x,gG,bp,by rw [Ac,if_pos rfl,if_pos JP],u3⟩;have ZT:Fj H.bl.length m Hv m2 zS.H:=(k3.trans (w2.less (by rw [k2.h.len,<- Dad];exact k2.b)) (ua _)).trans l3' (ua _);refine ⟨.bool ex.Fg,V.Ma zS.H x (.loop (TB.rf FM).n (oa (TB.rf FM).n) gG (TB.rf FM).ps (TB.rf FM).assign (TB.rf FM).body O4 ex.jump),?_,?_⟩
  · have G0:Hv.wm<=x:=hh.wm b x hx XC;simp only [V.call,q2];rw [if_pos ⟨by rw [ha3.1];exact hlen,G0,oA⟩,k1];simp only [da,p2,l1,u2,Wb]
  · have E5:H.bl.length<=m2.top:=l3'.ik.1;have:=Y' (r:= .bool ex.Fg) (r':= .bool ex.Fg) (H':=Ma s2.H b (.loop FM e2 O4 ex)) I0 hh ZT ⟨m2,v1,.bool _,.refl m2,v2⟩ E5;rw [u4] at this;exact this
theorem LI {C:V.Callee}:∀ {l:List (FuncId×Spec)},(∀ p∈l,Ai C p.2)->∀ f,Ai C (aB l f)
 |[],_,f,X,args,H,K,out,h=>by simp [aB] at h
 |(g,sp)::l,hl,f,X,args,H,K,out,h=>by
  simp only [aB] at h;split at h
  · rename_i e;subst e;exact hl (f,sp) (zc ..) X args H K out h
  · exact LI (fun p hp=>hl p (Gb _ hp)) f X args H K out h
theorem TL {C:V.Callee} {l ly:List (FuncId×Spec)} (hl:∀ p∈l,Me C p.1 p.2) (hy:∀ p∈ly,Ai C p.2):Sa C (fun X fv args H K=>KY l ly X fv args H K):=by
 refine gB (spec:=fun X fv args H K=>_) ?_;intro X fv args H K out h;simp only at h;split at h
 · rename_i f cs;obtain ⟨r,H',h1,h2,h3⟩:=lG hl f X _ H K out h;refine ⟨r,H',h1,h2,fun m Hv vZ Yg hh hf ha=> ?_⟩;cases hf with
   |fn _ _ as Pf hr=>exact h3 m Hv Yg as hh (ha.append ⟨Pf,hr⟩)
 · rename_i b;split at h
   case h_2=>simp at h
   obtain ⟨r,H',h1,h2,h3⟩:=LI hy _ X _ H K out h;exact ⟨r,H',h1,h2,fun m Hv vZ Yg hh hf ha=>h3 m Hv vZ Yg hh (.cons hf ha)⟩
 · simp at h
end
end Go.U
namespace Go.U
open Go
inductive Sk where
 |bool
 |int (k:IntKind)
 |str
 |lit (c:CT)
 |sl (b:Nat)
 |Nl (b c:Nat)
 |br (b:Nat)
 |zo (b c:Nat)
 |Qb
 |De
 |Wa
 |Kd
 |yf
 |Te
 |Cg
 |ptr (b c:Nat)
 |all (b:Nat)
 |mp (b:Nat)
 |yl (b:Nat)
 |Bd (l:Sk)
 |fn (f:FuncId) (l:Sk)
 |agg (l:Sk)
 |Rc (l:Sk)
 |nil
 |cons (a b:Sk)
def Sk.T:Sk->Type
 | .bool=>Bool
 | .int _=>Int
 | .str=>ByteArray
 | .lit c=>List (Eb c)
 | .sl _=>Nat×Nat
 | .Nl _ _=>Nat
 | .br _=>Nat
 | .zo _ _=>Nat×Nat
 | .Bd l=>l.T
 | .fn _ l=>l.T
 | .agg l=>l.T
 | .Rc l=>l.T
 | .cons a b=>a.T×b.T
 |_=>Unit
def Sk.fill:(k:Sk)->k.T->UV ⊕ List UV
 | .bool,b=> .inl (.bool b)
 | .int k,n=> .inl (.int k n)
 | .str,s=> .inl (.str s)
 | .lit c,l=> .inl (.lit c l)
 | .sl b,p=> .inl (.sl b p.1 p.2)
 | .Nl b c,r=> .inl (.Nl b r c)
 | .br b,r=> .inl (.br b r)
 | .zo b c,p=> .inl (.zo b p.1 p.2 c)
 | .Qb,_=> .inl .Qb
 | .De,_=> .inl .De
 | .Wa,_=> .inl .Wa
 | .Kd,_=> .inl .Kd
 | .yf,_=> .inl .yf
 | .Te,_=> .inl .Te
 | .Cg,_=> .inl .Cg
 | .ptr b c,_=> .inl (.ptr b c)
 | .all b,_=> .inl (.all b)
 | .mp b,_=> .inl (.mp b)
 | .yl b,_=> .inl (.yl b)
 | .Bd l,t=> .inl (.Bd ((l.fill t).elim (fun _=>[]) id))
 | .fn f l,t=> .inl (.fn f ((l.fill t).elim (fun _=>[]) id))
 | .agg l,t=> .inl (.agg ((l.fill t).elim (fun _=>[]) id))
 | .Rc l,t=> .inl (.Rc ((l.fill t).elim (fun _=>[]) id))
 | .nil,_=> .inr []
 | .cons a b,(x,y)=> .inr ((a.fill x).elim id (fun _=> .Qb)::(b.fill y).elim (fun _=>[]) id)
def Sk.take:(k:Sk)->UV ⊕ List UV->Option k.T
 | .bool=>fun x=>match x with| .inl (.bool b)=>some b|_=>none
 | .int k=>fun x=>match x with| .inl (.int k' n)=>if k'=k then some n else none|_=>none
 | .str=>fun x=>match x with| .inl (.str s)=>some s|_=>none
 | .lit c=>fun x=>match x with| .inl (.lit c' l)=>if h:c'=c then some (h ▸ l) else none|_=>none
 | .sl b=>fun x=>match x with| .inl (.sl b' r n)=>if b'=b then some (r,n) else none|_=>none
 | .Nl b c=>fun x=>match x with| .inl (.Nl b' r c')=>if b'=b/\c'=c then some r else none|_=>none
 | .br b=>fun x=>match x with| .inl (.br b' r)=>if b'=b then some r else none|_=>none
 | .zo b c=>fun x=>match x with| .inl (.zo b' r j c')=>if b'=b/\c'=c then some (r,j) else none|_=>none
 | .Qb=>fun x=>match x with| .inl .Qb=>some ()|_=>none
 | .De=>fun x=>match x with| .inl .De=>some ()|_=>none
 | .Wa=>fun x=>match x with| .inl .Wa=>some ()|_=>none
 | .Kd=>fun x=>match x with| .inl .Kd=>some ()|_=>none
 | .yf=>fun x=>match x with| .inl .yf=>some ()|_=>none
 | .Te=>fun x=>match x with| .inl .Te=>some ()|_=>none
 | .Cg=>fun x=>match x with| .inl .Cg=>some ()|_=>none
 | .ptr b c=>fun x=>match x with| .inl (.ptr b' c')=>if b'=b/\c'=c then some () else none|_=>none
 | .all b=>fun x=>match x with| .inl (.all b')=>if b'=b then some () else none|_=>none
 | .mp b=>fun x=>match x with| .inl (.mp b')=>if b'=b then some () else none|_=>none
 | .yl b=>fun x=>match x with| .inl (.yl b')=>if b'=b then some () else none|_=>none
 | .Bd l=>fun x=>match x with| .inl (.Bd cs)=>l.take (.inr cs)|_=>none
 | .fn f l=>fun x=>match x with| .inl (.fn f' cs)=>if f'=f then l.take (.inr cs) else none|_=>none
 | .agg l=>fun x=>match x with| .inl (.agg cs)=>l.take (.inr cs)|_=>none
 | .Rc l=>fun x=>match x with| .inl (.Rc cs)=>l.take (.inr cs)|_=>none
 | .nil=>fun x=>match x with| .inr []=>some ()|_=>none
 | .cons a b=>fun x=>match x with| .inr (y::ys)=>(a.take (.inl y)).bind fun u=>(b.take (.inr ys)).bind fun v=>some (u,v)|_=>none
theorem Nj {α:Type} {t:α} (h:(none:Option α)=some t):False:=by cases h
theorem U3 {a b:Int} (h:decide (a=b)=true):a=b:=of_decide_eq_true h
theorem Sk.sd:∀ (k:Sk) (x:UV ⊕ List UV) (t:k.T),k.take x=some t->k.fill t=x:=by
 intro k;induction k with
 |bool|str|Qb|De|Wa|Kd|yf|Te|Cg|nil=>
  intro x t h;simp only [Sk.take] at h;split at h
  · injection h with h;subst h;rfl
  · simp at h
 |int k=>
  intro x t h;simp only [Sk.take] at h;split at h
  · split at h
    · rename_i e;subst e;injection h with h;subst h;rfl
    · simp at h
  · simp at h
 |lit c=>
  intro x t h;simp only [Sk.take] at h;split at h
  · split at h
    · rename_i e;subst e;injection h with h;subst h;rfl
    · simp at h
  · simp at h
 |sl b|all b|mp b|yl b|br b=>
  intro x t h;simp only [Sk.take] at h;split at h
  · split at h
    · rename_i e;subst e;injection h with h;subst h;rfl
    · simp at h
  · simp at h
 |Nl b c|ptr b c|zo b c=>
  intro x t h;simp only [Sk.take] at h;split at h
  · split at h
    · rename_i e;obtain ⟨rfl,rfl⟩:=e;injection h with h;subst h;rfl
    · simp at h
  · simp at h
 |Bd l ih=>
  intro x t h;cases x with
  |inr _=>exact (Nj (α:=l.T) (t:=t) h).elim
  |inl v=>
    cases v with
    |Bd cs=>
      show Sum.inl (UV.Bd ((l.fill t).elim (fun _=>[]) id))=_;rw [ih (.inr cs) t h];rfl
    |_=>exact (Nj (α:=l.T) (t:=t) h).elim
 |agg l ih=>
  intro x t h;cases x with
  |inr _=>exact (Nj (α:=l.T) (t:=t) h).elim
  |inl v=>
    cases v with
    |agg cs=>
      show Sum.inl (UV.agg ((l.fill t).elim (fun _=>[]) id))=_;rw [ih (.inr cs) t h];rfl
    |_=>exact (Nj (α:=l.T) (t:=t) h).elim
 |Rc l ih=>
  intro x t h;cases x with
  |inr _=>exact (Nj (α:=l.T) (t:=t) h).elim
  |inl v=>
    cases v with
    |Rc cs=>
      show Sum.inl (UV.Rc ((l.fill t).elim (fun _=>[]) id))=_;rw [ih (.inr cs) t h];rfl
    |_=>exact (Nj (α:=l.T) (t:=t) h).elim
 |fn f l ih=>
  intro x t h;simp only [Sk.take] at h;split at h
  · rename_i f' cs;have h:(if f'=f then l.take (.inr cs) else none)=some (t:l.T):=h;split at h
    · rename_i e;subst e;show Sum.inl (UV.fn f' ((l.fill t).elim (fun _=>[]) id))=_;rw [ih _ _ h];rfl
    · simp at h
  · simp at h
 |cons a b iha ihb=>
  intro x t h;simp only [Sk.take] at h;split at h
  · simp only [aa] at h;obtain ⟨u,hu,v,hv,h⟩:=h;injection h with h
    subst h;simp only [Sk.fill,iha _ _ hu,ihb _ _ hv];rfl
  · simp at h
def Sk.v (k:Sk) (t:k.T):UV:=(k.fill t).elim id fun _=> .Qb
def Sk.l (k:Sk) (t:k.T):List UV:=(k.fill t).elim (fun _=>[]) id
inductive SkS where
 |v (k:Sk)
 |loc (i c:Nat)
inductive lC where
 |dead
 |fb (l:Sk)
 |cells (c:CT)
 |deep (c:CT)
 |Oj (k:KT) (es:List (jd k×Sk))
 |ah (k:KT) (g:Bool) (c:CT)
 |loop (id:Nat) (env:List (Nat×Sk)) (st:LoopState) (pe:V.Ex)
 |Gl (q:Sk)
 |jo
def W7:List (Nat×SkS)->Type
 |[]=>Unit
 |(_,.v k)::l=>k.T×W7 l
 |(_,.loc _ _)::l=>W7 l
def mD:(l:List (Nat×SkS))->W7 l->List (Nat×US)
 |[],_=>[]
 |(i,.v k)::l,(x,y)=>(i,.v (k.v x))::mD l y
 |(i,.loc j c)::l,y=>(i,.loc j c)::mD l y
def Pw:(l:List (Nat×SkS))->List (Nat×US)->Option (W7 l)
 |[]=>fun e=>match e with|[]=>some ()|_=>none
 |(i,.v k)::l=>fun e=>match e with|(i',.v x)::e=>if i'=i then (k.take (.inl x)).bind fun u=>(Pw l e).bind fun v=>some (u,v) else none|_=>none
 |(i,.loc j c)::l=>fun e=>match e with|(i',.loc j' c')::e=>if i'=i/\j'=j/\c'=c then Pw l e else none|_=>none
def tyF:List Sk->Type
 |[]=>Unit
 |k::l=>k.T×tyF l
def XM:(l:List Sk)->tyF l->List (List UV)
 |[],_=>[]
 |k::l,(x,y)=>k.l x::XM l y
def LG:(l:List Sk)->List (List UV)->Option (tyF l)
 |[]=>fun e=>match e with|[]=>some ()|_=>none
 |k::l=>fun e=>match e with|x::e=>(k.take (.inr x)).bind fun u=>(LG l e).bind fun v=>some (u,v)|_=>none
def tyM {k:KT}:List (jd k×Sk)->Type
 |[]=>Unit
 |p::l=>p.2.T×tyM l
def TH {k:KT}:(l:List (jd k×Sk))->tyM l->List (jd k×UV)
 |[],_=>[]
 |p::l,(x,y)=>(p.1,p.2.v x)::TH l y
def zC {k:KT}:(l:List (jd k×Sk))->List (jd k×UV)->Option (tyM l)
 |[]=>fun e=>match e with|[]=>some ()|_=>none
 |p::l=>fun e=>match e with|(i,x)::e=>cond (FG k p.1 i) ((p.2.take (.inl x)).bind fun u=>(zC l e).bind fun v=>some (u,v)) none|_=>none
def tyN:List (Nat×Sk)->Type
 |[]=>Unit
 |p::l=>p.2.T×tyN l
def SH:(l:List (Nat×Sk))->tyN l->List (Nat×UV)
 |[],_=>[]
 |p::l,(x,y)=>(p.1,p.2.v x)::SH l y
def takeN:(l:List (Nat×Sk))->List (Nat×UV)->Option (tyN l)
 |[]=>fun e=>match e with|[]=>some ()|_=>none
 |p::l=>fun e=>match e with|(i,x)::e=>if i=p.1 then ((p.2.take (.inl x)).bind fun u=>(takeN l e).bind fun v=>some (u,v)) else none|_=>none
def uE:LoopState->LoopState->Bool
 | .ready,.ready| .busy,.busy| .done,.done| .exhausted,.exhausted=>true
 |_,_=>false
theorem aP {a b:LoopState} (h:uE a b=true):a=b:=by cases a<;>cases b<;>first|rfl|simp [uE] at h
def lC.T:lC->Type
 | .dead=>Unit
 | .fb l=>l.T
 | .cells c=>List (Eb c)
 | .deep c=>List (List (Eb c))
 | .Oj _ es=>tyM es
 | .ah k _ c=>List (jd k×Eb c)
 | .loop _ env _ _=>tyN env
 | .Gl q=>q.T
 | .jo=>ByteArray
def lC.fill:(b:lC)->b.T->UB
 | .dead,_=> .dead
 | .fb l,t=> .fb (l.l t)
 | .cells c,l=> .cells c l
 | .deep c,l=> .deep c l
 | .Oj k es,t=> .Oj k (TH es t)
 | .ah k g c,l=> .ah k g c l
 | .loop id env st pe,t=> .loop id (SH env t) st pe
 | .Gl q,t=> .Gl (q.v t)
 | .jo,s=> .jo s
def lC.take:(b:lC)->UB->Option b.T
 | .dead=>fun x=>match x with| .dead=>some ()|_=>none
 | .fb l=>fun x=>match x with| .fb row=>l.take (.inr row)|_=>none
 | .cells c=>fun x=>match x with| .cells c' l=>if h:c'=c then some (h ▸ l) else none|_=>none
 | .deep c=>fun x=>match x with| .deep c' l=>if h:c'=c then some (h ▸ l) else none|_=>none
 | .Oj k es=>fun x=>match x with| .Oj k' qd=>if h:k'=k then zC es (h ▸ qd) else none|_=>none
 | .ah k g c=>fun x=>match x with| .ah k' g' c' l=>if h:k'=k/\g'=g/\c'=c then some (h.1 ▸ h.2.2 ▸ l) else none|_=>none
 | .loop id env st pe=>fun x=>match x with| .loop xB Vl O4 pe'=>if xB=id/\uE O4 st=true/\pe'=pe then takeN env Vl else none|_=>none
 | .Gl q=>fun x=>match x with| .Gl y=>q.take (.inl y)|_=>none
 | .jo=>fun x=>match x with| .jo s=>some s|_=>none
def tyH:List lC->Type
 |[]=>Unit
 |b::l=>b.T×tyH l
def VH:(l:List lC)->tyH l->List UB
 |[],_=>[]
 |b::l,(x,y)=>b.fill x::VH l y
def BC:(l:List lC)->List UB->Option (tyH l)
 |[]=>fun e=>match e with|[]=>some ()|_=>none
 |b::l=>fun e=>match e with|x::e=>(b.take x).bind fun u=>(BC l e).bind fun v=>some (u,v)|_=>none
theorem Sk.oE {k:Sk} {x:UV} {t:k.T} (h:k.take (.inl x)=some t):k.v t=x:=by rw [Sk.v,k.sd _ _ h];rfl
theorem Sk.vJ {k:Sk} {x:List UV} {t:k.T} (h:k.take (.inr x)=some t):k.l t=x:=by rw [Sk.l,k.sd _ _ h];rfl
theorem Bs:∀ (l:List (Nat×SkS)) (e:List (Nat×US)) (t:W7 l),Pw l e=some t->mD l t=e
 |[],e,t,h=>by
  cases e with
  |nil=>rfl
  |cons _ _=>simp [Pw] at h
 |(i,.v k)::l,e,t,h=>by
  simp only [Pw] at h;split at h
  · split at h
    · rename_i e0;subst e0;simp only [aa] at h;obtain ⟨u,hu,v,hv,h⟩:=h;injection h with h;subst h
      simp only [mD,Sk.oE hu,Bs l _ v hv]
    · simp at h
  · simp at h
 |(i,.loc j c)::l,e,t,h=>by
  simp only [Pw] at h;split at h
  · rename_i i' j' c' e';have h:(if i'=i/\j'=j/\c'=c then Pw l e' else none)=some (t:W7 l):=h;split at h
    · rename_i e0;obtain ⟨rfl,rfl,rfl⟩:=e0;show (i',US.loc j' c')::mD l t=_;rw [Bs l _ t h]
    · simp at h
  · simp at h
theorem Iz:∀ (l:List Sk) (e:List (List UV)) (t:tyF l),LG l e=some t->XM l t=e
 |[],e,t,h=>by
  cases e with
  |nil=>rfl
  |cons _ _=>simp [LG] at h
 |k::l,e,t,h=>by
  simp only [LG] at h;split at h
  · simp only [aa] at h;obtain ⟨u,hu,v,hv,h⟩:=h;injection h with h;subst h
    simp only [XM,Sk.vJ hu,Iz l _ v hv]
  · simp at h
theorem Maa {k:KT} {i j:jd k} (h:FG k i j=true):i=j:=by
 cases k with
 |int k=>exact U3 (a:=i) (b:=j) h
 |str=>cases i;cases j;exact congrArg ByteArray.mk (eq_of_beq (α:=Array UInt8) h)
theorem Hz {k:KT}:∀ (l:List (jd k×Sk)) (e:List (jd k×UV)) (t:tyM l),zC l e=some t->TH l t=e
 |[],e,t,h=>by
  cases e with
  |nil=>rfl
  |cons _ _=>simp [zC] at h
 |p::l,e,t,h=>by
  simp only [zC] at h;split at h
  · rename_i i x e;cases he:FG k p.1 i with
    |false=>rw [he] at h;simp at h
    |true=>
     rw [he] at h;simp only [cond_true,aa] at h;obtain ⟨u,hu,v,hv,h⟩:=h;injection h with h;subst h
     simp only [TH,Sk.oE hu,Hz l _ v hv,Maa he]
  · simp at h
theorem Gz:∀ (l:List (Nat×Sk)) (e:List (Nat×UV)) (t:tyN l),takeN l e=some t->SH l t=e
 |[],e,t,h=>by
  cases e with
  |nil=>rfl
  |cons _ _=>simp [takeN] at h
 |p::l,e,t,h=>by
  simp only [takeN] at h;split at h
  · rename_i i x e;split at h
    · rename_i he;simp only [aa] at h;obtain ⟨u,hu,v,hv,h⟩:=h;injection h with h;subst h
      simp only [SH,Sk.oE hu,Gz l _ v hv,he]
    · simp at h
  · simp at h
theorem lC.sd:∀ (b:lC) (x:UB) (t:b.T),b.take x=some t->b.fill t=x
 | .dead,x,t,h=>by
  simp only [lC.take] at h;split at h
  · rfl
  · simp at h
 | .fb l,x,t,h=>by
  cases x with
  |fb row=>
    show UB.fb (l.l t)=_;rw [Sk.vJ (x:=row) h]
  |_=>exact (Nj (α:=l.T) (t:=t) h).elim
 | .cells c,x,t,h=>by
  simp only [lC.take] at h;split at h
  · split at h
    · rename_i e;subst e;injection h with h;subst h;rfl
    · simp at h
  · simp at h
 | .deep c,x,t,h=>by
  simp only [lC.take] at h;split at h
  · split at h
    · rename_i e;subst e;injection h with h;subst h;rfl
    · simp at h
  · simp at h
 | .Oj k es,x,t,h=>by
  simp only [lC.take] at h;split at h
  · rename_i k' qd;have h:(if h:k'=k then zC es (h ▸ qd) else none)=some (t:tyM es):=h;split at h
    · rename_i e;subst e;show UB.Oj k' (TH es t)=_;rw [Hz _ _ _ h]
    · simp at h
  · simp at h
 | .ah k g c,x,t,h=>by
  simp only [lC.take] at h;split at h
  · split at h
    · rename_i e;obtain ⟨rfl,rfl,rfl⟩:=e;injection h with h;subst h;rfl
    · simp at h
  · simp at h
 | .loop id env st pe,x,t,h=>by
  simp only [lC.take] at h;split at h
  · rename_i xB Vl O4 pe';have h:(if xB=id/\uE O4 st=true/\pe'=pe then takeN env Vl else none)=some (t:tyN env):=h;split at h
    · rename_i e;obtain ⟨rfl,e2,rfl⟩:=e;have:=aP e2;subst this;show UB.loop xB (SH env t) _ pe'=_;rw [Gz _ _ _ h]
    · simp at h
  · simp at h
 | .Gl q,x,t,h=>by
  cases x with
  |Gl y=>
    show UB.Gl (q.v t)=_;rw [Sk.oE (x:=y) h]
  |_=>exact (Nj (α:=q.T) (t:=t) h).elim
 | .jo,x,t,h=>by
  cases x with
  |jo s=>injection h with h;subst h;rfl
  |_=>exact (Nj (α:=ByteArray) (t:=t) h).elim
theorem As:∀ (l:List lC) (e:List UB) (t:tyH l),BC l e=some t->VH l t=e
 |[],e,t,h=>by
  cases e with
  |nil=>rfl
  |cons _ _=>simp [BC] at h
 |b::l,e,t,h=>by
  simp only [BC] at h;split at h
  · simp only [aa] at h;obtain ⟨u,hu,v,hv,h⟩:=h;injection h with h;subst h
    simp only [VH,lC.sd b _ _ hu,As l _ v hv]
  · simp at h
structure jt where
 e:List (Nat×SkS)
 F:List Sk
 bl:List lC
 wm:Nat
 base:Nat
def jt.T (k:jt):Type:=W7 k.e×tyF k.F×tyH k.bl
def jt.fill (k:jt) (t:k.T):St:=⟨mD k.e t.1,XM k.F t.2.1,⟨VH k.bl t.2.2,k.wm⟩,k.base⟩
def jt.take (k:jt) (s:St):Option k.T:=
 if s.H.wm=k.wm/\s.base=k.base then (Pw k.e s.e).bind fun a=>(LG k.F s.F).bind fun b=>(BC k.bl s.H.bl).bind fun c=>some (a,b,c) else none
theorem jt.sd {k:jt} {s:St} {t:k.T} (h:k.take s=some t):k.fill t=s:=by
 unfold jt.take at h;split at h
 case isFalse=>simp at h
 rename_i hw;simp only [aa] at h;obtain ⟨a,ha,b,hb,c,hc,h⟩:=h;injection h with h;subst h
 simp only [jt.fill,Bs _ _ _ ha,Iz _ _ _ hb,As _ _ _ hc,<- hw.1,<- hw.2]
structure oz where
 l:Sk
 bl:List lC
 wm:Nat
def oz.T (k:oz):Type:=k.l.T×tyH k.bl
def oz.args (k:oz) (t:k.T):List UV:=k.l.l t.1
def oz.heap (k:oz) (t:k.T):UH:=⟨VH k.bl t.2,k.wm⟩
def oz.take (k:oz) (args:List UV) (H:UH):Option k.T:=
 if H.wm=k.wm then (k.l.take (.inr args)).bind fun a=>(BC k.bl H.bl).bind fun b=>some (a,b) else none
theorem oz.sd {k:oz} {args:List UV} {H:UH} {t:k.T} (h:k.take args H=some t):k.args t=args/\k.heap t=H:=by
 unfold oz.take at h;split at h
 case isFalse=>simp at h
 rename_i hw;simp only [aa] at h;obtain ⟨a,ha,b,hb,h⟩:=h;injection h with h;subst h
 exact ⟨Sk.vJ ha,by simp only [oz.heap,As _ _ _ hb,<- hw]⟩
theorem KR {α β:Type} (b:Bool) (x y:Option α) (k:α->Option β):(cond b x y).bind k=cond b (x.bind k) (y.bind k):=by cases b<;>rfl
theorem PY {α β:Type} (b:Bool) (x:Option α) (k:α->Option β):(ask b x).bind k=ask b (x.bind k):=by cases b<;>rfl
theorem CR {α β γ δ:Type} (e:α ⊕ β) (f:α->Option γ) (g:β->Option γ) (k:γ->Option δ):(e.elim f g).bind k=e.elim (fun a=>(f a).bind k) (fun a=>(g a).bind k):=by cases e<;>rfl
def tU (Je:bE) (pe:V.Ex->bE):V.Ex->St->Option (St ⊕ (V.Ex×St))
 | .normal,s=>(Ro Je s).bind fun s=>some (.inl s)
 |ex,s=>(Ro (pe ex) s).bind fun s=>some (.inr (ex,s))
section
variable [TB:qB] {rf:Bool}
variable {A:V.oh} {C:V.Callee} {La:Nat->Option (List UV)} {za:List Nat} {n:Nat}
theorem TJ (hg:xe A La) {env:Env} (hc:Sa C env.call) {c:Code} (hl:∀ c'∈loops env.join c,Va env.loop (V.code A C rf za (oa n) n) c')
  {P T E:Type} {enc:P->T->St} {Im:P->E->V.Ex×St} {Je:bE} {pe:V.Ex->bE} (HP:xn n Je) (hpe:∀ ex,xn n (pe ex))
  {step:(Y:Type)->P->T->(T->Option Y)->(E->Option Y)->Option Y}
  (Ri:∀ Y p t ki ke,step Y p t ki ke=(step (T ⊕ E) p t (fun t=>some (.inl t)) (fun e=>some (.inr e))).bind (Sum.elim ki ke))
  (ij:∀ p t,code A La env za n c (enc p t) (tU Je pe)=step _ p t (fun t'=>some (.inl (enc p t'))) (fun e=>some (.inr (Im p e))))
  {BE:(X:Type)->Nat->St->(V.Ex->St->Option X)->Option X}
  (OT:∀ (X:Type) (s:St) (K:V.Ex->St->Option X) (out:X),BE X (bf c) s K=some out->∃ p t e,Ro Je s=some (enc p t)/\Oa (fun t=>step (T ⊕ E) p t (fun t=>some (.inl t)) (fun e=>some (.inr e))) t=some e/\K (Im p e).1 (Im p e).2=some out):
  Va BE (V.code A C rf za (oa n) n) (.loop c):=by
 intro X s K out h;obtain ⟨p,t,e,h1,h2,h3⟩:=OT X s K out h;obtain ⟨p1,p2,p3⟩:=bj h1 HP;have main:∀ (N:Nat) (t:T) (e:E),Xn (fun t=>step (T ⊕ E) p t (fun t=>some (.inl t)) (fun e=>some (.inr e))) N t=some e->(Im p e).2.base=(enc p t).base/\(Im p e).2.H.wm=(enc p t).H.wm/\∀ (m:Mp) (φ:Nat->Option Nat) (sv:V.S),Hl m φ (enc p t) (V.clean (oa n) sv)->
   ∃ je m' zg,V.Mr (fun s=>V.code A C rf za (oa n) n c (V.clean (oa n) s)) N sv=some ((Im p e).1,je)/\Hl m' zg (Im p e).2 je/\Fj (enc p t).base m sv.H m' je.H:=by
  intro N;induction N with
  |zero=>intro t e h;simp [Xn] at h
  |succ N ih=>
   intro t e h;simp only [Xn,aa] at h;obtain ⟨r,hr,h⟩:=h;have kj:=ij p t;rw [Ri,hr] at kj;cases r with
   |inl t'=>
    simp only [da,Sum.elim_inl] at kj;obtain ⟨ex,s1,g1,g2⟩:=gg hg hc hl kj;have hex:ex= .normal/\Ro Je s1=some (enc p t'):=by
     cases ex<;>simp [tU,aa] at g1
     exact ⟨rfl,g1⟩
    obtain ⟨rfl,l9⟩:=hex;obtain ⟨q1,q2,q3⟩:=bj l9 HP;obtain ⟨i1,i2,i3⟩:=ih t' e h;refine ⟨by rw [i1,q1,g2.1],by rw [i2,q2,g2.2.1],fun m φ sv hs=> ?_⟩;obtain ⟨Kj,m1,qz,e1,e2,e3⟩:=g2.2.2 m φ _ hs;obtain ⟨m2,Cy,e4,e5⟩:=q3 m1 qz Kj _ e2 (.clean n Kj);obtain ⟨JB,m3,BZ,e6,e7,e8⟩:=i3 m2 Cy Kj e4;rw [g2.1] at e5;rw [q1,g2.1] at e8;refine ⟨JB,m3,BZ,by simp only [V.Mr,e1,da];exact e6,e7,?_⟩;exact (e3.trans e5 (ua _)).trans e8 (ua _)
   |inr e'=>
    simp at h;subst h;simp only [da,ot] at kj;obtain ⟨ex,s1,g1,g2⟩:=gg hg hc hl kj;have hex:ex≠ .normal/\(Im p e').1=ex/\Ro (pe ex) s1=some (Im p e').2:=by
     cases ex<;>simp [tU,aa] at g1
     · obtain ⟨a,ha,hb⟩:=g1;rw [<- hb];exact ⟨by simp,rfl,ha⟩
     · obtain ⟨a,ha,hb⟩:=g1;rw [<- hb];exact ⟨by simp,rfl,ha⟩
    obtain ⟨Nc,hex,l9⟩:=hex;obtain ⟨q1,q2,q3⟩:=bj l9 (hpe ex);refine ⟨by rw [q1,g2.1],by rw [q2,g2.2.1],fun m φ sv hs=> ?_⟩;obtain ⟨Kj,m1,qz,e1,e2,e3⟩:=g2.2.2 m φ _ hs;obtain ⟨m2,Cy,e4,e5⟩:=q3 m1 qz Kj Kj e2 (.refl n Kj);rw [g2.1] at e5;refine ⟨Kj,m2,Cy,?_,e4,e3.trans e5 (ua _)⟩;rw [hex];simp only [V.Mr,e1,da]
 obtain ⟨i1,i2,i3⟩:=main V.um t e h2;refine ⟨_,_,h3,by rw [i1,p1],by rw [i2,p2],fun m φ sv hs=> ?_⟩;obtain ⟨m2,Cy,e4,e5⟩:=p3 m φ sv _ hs (.clean n sv);obtain ⟨JB,m3,BZ,e6,e7,e8⟩:=i3 m2 Cy sv e4;rw [p1] at e8;exact ⟨JB,m3,BZ,e6,e7,e5.trans e8 (ua _)⟩
theorem ZG (hg:xe A La) {env:Env} (hc:Sa C env.call) {c:Code} {Lg:Env} (Sf:Lg.call=env.call)
  (hl:∀ c'∈loops Lg.join c,Va Lg.loop (V.code A C rf za (oa n) n) c')
  {P E:Type} {enc:P->St} {Im:P->E->V.Ex×St} {Je:bE} {pe:V.Ex->bE} (HP:xn n Je) (hpe:∀ ex,xn n (pe ex))
  {step:(Y:Type)->P->(E->Option Y)->Option Y}
  (Ri:∀ Y p ke,step Y p ke=(step E p (fun e=>some e)).bind ke)
  (ij:∀ p,code A La Lg za n c (enc p) (fun ex s=>(Ro (pe ex) s).bind fun s=>some (ex,s))=step _ p (fun e=>some (Im p e)))
  {BE:(X:Type)->Nat->St->(V.Ex->St->Option X)->Option X}
  (OT:∀ (X:Type) (s:St) (K:V.Ex->St->Option X) (out:X),BE X (keyOf c) s K=some out->∃ p e,Ro Je s=some (enc p)/\step E p (fun e=>some e)=some e/\K (Im p e).1 (Im p e).2=some out):
  Va BE (V.code A C rf za (oa n) n) c:=by
 intro X s K out h;obtain ⟨p,e,h1,h2,h3⟩:=OT X s K out h;obtain ⟨p1,p2,p3⟩:=bj h1 HP;have kj:=ij p;rw [Ri,h2] at kj;simp only [da] at kj;obtain ⟨ex,s1,g1,g2⟩:=gg hg (by rw [Sf];exact hc) hl kj;simp only [aa,yc] at g1;obtain ⟨s2,l9,g1⟩:=g1;obtain ⟨q1,q2,q3⟩:=bj l9 (hpe ex);rw [<- g1] at h3;refine ⟨ex,s2,h3,by rw [q1,g2.1,p1],by rw [q2,g2.2.1,p2],fun m φ sv hs=> ?_⟩;obtain ⟨m1,qz,e1,e2⟩:=p3 m φ sv sv hs (.refl n sv);obtain ⟨Kj,m2,Cy,e3,e4,e5⟩:=g2.2.2 m1 qz sv e1;obtain ⟨m3,BZ,e6,e7⟩:=q3 m2 Cy Kj Kj e4 (.refl n Kj);rw [p1] at e5;rw [g2.1,p1] at e7;exact ⟨Kj,m3,BZ,e3,e6,(e2.trans e5 (ua _)).trans e7 (ua _)⟩
theorem WG (hg:xe A La) {env:Env} (hc:Sa C env.call) {Lg:Env} (Sf:Lg.call=env.call) {id:Nat} {ks:List Nat} {g:Operand} {ps:Array Tmp} {a b:Code} (dK:TB.rf id=⟨n,ps.toList,a,b⟩)
  {P E:Type} {enc:P->St} {Im:P->E->V.Ex×St} {Je:bE} {pe:V.Ex->bE} (HP:xn n Je) (hpe:∀ ex,xn n (pe ex))
  {step:(Y:Type)->P->(E->Option Y)->Option Y}
  (Ri:∀ Y p ke,step Y p ke=(step E p (fun e=>some e)).bind ke)
  (ij:∀ p,UG A La Lg id n ks g (enc p) (fun ex s=>(Ro (pe ex) s).bind fun s=>some (ex,s))=step _ p (fun e=>some (Im p e)))
  {BE:(X:Type)->Nat->St->(V.Ex->St->Option X)->Option X}
  (OT:∀ (X:Type) (s:St) (K:V.Ex->St->Option X) (out:X),BE X (keyOf (.rangeFunc g ps a b)) s K=some out->∃ p e,Ro Je s=some (enc p)/\step E p (fun e=>some e)=some e/\K (Im p e).1 (Im p e).2=some out):
  Va BE (V.code A C true za (oa n) n) (.rangeFunc g ps a b):=by
 intro X s K out h;obtain ⟨p,e,h1,h2,h3⟩:=OT X s K out h;obtain ⟨p1,p2,p3⟩:=bj h1 HP;have kj:=ij p;rw [Ri,h2] at kj;simp only [da] at kj;obtain ⟨ex,s1,g1,g2⟩:=MS (za:=za) hg (by rw [Sf];exact hc) dK kj;simp only [aa,yc] at g1;obtain ⟨s2,l9,g1⟩:=g1;obtain ⟨q1,q2,q3⟩:=bj l9 (hpe ex);rw [<- g1] at h3;refine ⟨ex,s2,h3,by rw [q1,g2.1,p1],by rw [q2,g2.2.1,p2],fun m φ sv hs=> ?_⟩;obtain ⟨m1,qz,e1,e2⟩:=p3 m φ sv sv hs (.refl n sv);obtain ⟨Kj,m2,Cy,e3,e4,e5⟩:=g2.2.2 m1 qz sv e1;obtain ⟨m3,BZ,e6,e7⟩:=q3 m2 Cy Kj Kj e4 (.refl n Kj);rw [p1] at e5;rw [g2.1,p1] at e7;exact ⟨Kj,m3,BZ,e3,e6,(e2.trans e5 (ua _)).trans e7 (ua _)⟩
end
end Go.U
namespace Go.U
open Go
theorem n1 {α β:Type} (b:Bool) (x y:Option α) (k:α->Option β):(cond b x y).bind k=cond b (x.bind k) (y.bind k):=KR b x y k
theorem n2 {α β:Type} (b:Bool) (x:Option α) (k:α->Option β):(ask b x).bind k=ask b (x.bind k):=PY b x k
theorem n3 {α β γ δ:Type} (e:α ⊕ β) (f:α->Option γ) (g:β->Option γ) (k:γ->Option δ):(e.elim f g).bind k=e.elim (fun a=>(f a).bind k) (fun a=>(g a).bind k):=CR e f g k
theorem n4 {α β γ:Type} (x:Option α) (f:α->Option β) (g:β->Option γ):(x.bind f).bind g=x.bind fun a=>(f a).bind g:=Option.bind_assoc x f g
theorem n5 {α β:Type} (a:α) (f:α->Option β):(some a).bind f=f a:=rfl
theorem n6 {α β:Type} (f:α->Option β):(none:Option α).bind f=none:=rfl
theorem n7 {α β γ:Type} (f:α->γ) (g:β->γ) (a:α):Sum.elim f g (.inl a)=f a:=rfl
theorem n8 {α β γ:Type} (f:α->γ) (g:β->γ) (b:β):Sum.elim f g (.inr b)=g b:=rfl
def Ov:List (V.Ex×bE)->V.Ex->bE
 |[],_=>⟨[],[],[],[]⟩
 |(e,p)::l,ex=>if ex=e then p else Ov l ex
def Rk (n:Nat) (p:bE):Bool:=p.keep.all fun t=>decide (t<n)
theorem Zt {n:Nat} {p:bE} (h:Rk n p=true):xn n p:=fun t ht=>by
 have:=Yb.1 h t ht;simpa using this
theorem AE {n:Nat}:∀ {l:List (V.Ex×bE)},(l.all fun q=>Rk n q.2)=true->∀ ex,xn n (Ov l ex)
 |[],_,ex=>fun t ht=>by simp [Ov] at ht
 |(e,p)::l,h,ex=>by
  simp only [List.all_cons,Ia] at h;unfold Ov;split
  · exact Zt h.1
  · exact AE h.2 ex
structure LD (P T E:Type) where
 sk:jt
 p:sk.T->P
 t:sk.T->T
 n:P->T->sk.T
 st:(Y:Type)->P->T->(T->Option Y)->(E->Option Y)->Option Y
 o:(Z:Type)->P->E->(V.Ex->St->Z)->Z
 Je:bE
 pe:List (V.Ex×bE)
def LD.m {P T E:Type} (L:LD P T E) (p:P) (t:T):Option (T ⊕ E):=L.st _ p t (fun t=>some (.inl t)) (fun e=>some (.inr e))
def LD.q {P T E:Type} (L:LD P T E) (X:Type) (s:St) (K:V.Ex->St->Option X):Option X:=
 (Ro L.Je s).bind fun s=>(L.sk.take s).bind fun u=>(Oa (L.m (L.p u)) (L.t u)).bind fun e=>L.o _ (L.p u) e K
structure PD (P E:Type) where
 sk:jt
 p:sk.T->P
 n:P->sk.T
 st:(Y:Type)->P->(E->Option Y)->Option Y
 o:(Z:Type)->P->E->(V.Ex->St->Z)->Z
 Je:bE
 pe:List (V.Ex×bE)
def PD.m {P E:Type} (L:PD P E) (p:P):Option E:=L.st _ p (fun e=>some e)
def PD.q {P E:Type} (L:PD P E) (X:Type) (s:St) (K:V.Ex->St->Option X):Option X:=
 (Ro L.Je s).bind fun s=>(L.sk.take s).bind fun u=>(L.m (L.p u)).bind fun e=>L.o _ (L.p u) e K
structure FS (A R:Type) where
 sk:oz
 a:sk.T->A
 n:A->sk.T
 o:(Z:Type)->A->R->(UV->UH->Z)->Z
def FS.sp {A R:Type} (S:FS A R) (m:A->Option R):Spec:=fun X args H K=>(S.sk.take args H).bind fun u=>(m (S.a u)).bind fun r=>S.o _ (S.a u) r K
section
variable [TB:qB] {rf:Bool}
variable {A:V.oh} {C:V.Callee} {La:Nat->Option (List UV)} {za:List Nat} {n:Nat}
noncomputable abbrev vc (A:V.oh) (C:V.Callee) (rf:Bool) (za:List Nat) (n:Nat):=V.code A C rf za (oa n) n
theorem rP (hg:xe A La) {env:Env} (hc:Sa C env.call) {c:Code} (hl:∀ c'∈loops env.join c,Va env.loop (vc A C rf za n) c') {P T E:Type} (L:LD P T E)
  (hk:(Rk n L.Je&&L.pe.all fun q=>Rk n q.2)=true)
  (Ri:∀ Y p t ki ke,L.st Y p t ki ke=(L.m p t).bind (Sum.elim ki ke))
  (ij:∀ p t,code A La env za n c (L.sk.fill (L.n p t)) (tU L.Je (Ov L.pe))=L.st _ p t (fun t=>some (.inl (L.sk.fill (L.n p t)))) (fun e=>some (.inr (L.o _ p e Prod.mk))))
  (gh:∀ u,L.n (L.p u) (L.t u)=u) (ho:∀ Z p e K,L.o Z p e K=K (L.o _ p e Prod.mk).1 (L.o _ p e Prod.mk).2)
  (hq:∀ X s K,env.loop X (bf c) s K=L.q X s K):Va env.loop (vc A C rf za n) (.loop c):=by
 simp only [Ia] at hk;refine TJ hg (env:=env) hc hl (enc:=fun p t=>L.sk.fill (L.n p t)) (Im:=fun p e=>L.o _ p e Prod.mk) (Je:=L.Je) (pe:=Ov L.pe) (step:=L.st) (Zt hk.1) (AE hk.2) Ri ij ?_;intro X s K out h;rw [hq] at h;unfold LD.q at h;obtain ⟨s',hs,h⟩:=aa.1 h;obtain ⟨u,hu,h⟩:=aa.1 h;obtain ⟨e,he,h⟩:=aa.1 h;refine ⟨L.p u,L.t u,e,?_,he,(ho _ _ _ _).symm.trans h⟩;rw [hs,gh,jt.sd hu]
theorem KJ (hg:xe A La) {env Lg:Env} (hc:Sa C env.call) (Sf:Lg.call=env.call) {c:Code} (hl:∀ c'∈loops Lg.join c,Va Lg.loop (vc A C rf za n) c') {P E:Type} (L:PD P E)
  (hk:(Rk n L.Je&&L.pe.all fun q=>Rk n q.2)=true)
  (Ri:∀ Y p ke,L.st Y p ke=(L.m p).bind ke)
  (ij:∀ p,code A La Lg za n c (L.sk.fill (L.n p)) (fun ex s=>(Ro (Ov L.pe ex) s).bind fun s=>some (ex,s))=L.st _ p (fun e=>some (L.o _ p e Prod.mk)))
  (gh:∀ u,L.n (L.p u)=u) (ho:∀ Z p e K,L.o Z p e K=K (L.o _ p e Prod.mk).1 (L.o _ p e Prod.mk).2)
  (hq:∀ X s K,env.loop X (keyOf c) s K=L.q X s K):Va env.loop (vc A C rf za n) c:=by
 simp only [Ia] at hk;refine ZG hg (env:=env) (Lg:=Lg) hc Sf hl (enc:=fun p=>L.sk.fill (L.n p)) (Im:=fun p e=>L.o _ p e Prod.mk) (Je:=L.Je) (pe:=Ov L.pe) (step:=L.st) (Zt hk.1) (AE hk.2) Ri ij ?_;intro X s K out h;rw [hq] at h;unfold PD.q at h;obtain ⟨s',hs,h⟩:=aa.1 h;obtain ⟨u,hu,h⟩:=aa.1 h;obtain ⟨e,he,h⟩:=aa.1 h;refine ⟨L.p u,e,?_,he,(ho _ _ _ _).symm.trans h⟩;rw [hs,gh,jt.sd hu]
theorem JJ (hg:xe A La) {env Lg:Env} (hc:Sa C env.call) (Sf:Lg.call=env.call) {id:Nat} {ks:List Nat} {g:Operand} {ps:Array Tmp} {a b:Code} (dK:TB.rf id=⟨n,ps.toList,a,b⟩) {P E:Type} (L:PD P E)
  (hk:(Rk n L.Je&&L.pe.all fun q=>Rk n q.2)=true)
  (Ri:∀ Y p ke,L.st Y p ke=(L.m p).bind ke)
  (ij:∀ p,UG A La Lg id n ks g (L.sk.fill (L.n p)) (fun ex s=>(Ro (Ov L.pe ex) s).bind fun s=>some (ex,s))=L.st _ p (fun e=>some (L.o _ p e Prod.mk)))
  (gh:∀ u,L.n (L.p u)=u) (ho:∀ Z p e K,L.o Z p e K=K (L.o _ p e Prod.mk).1 (L.o _ p e Prod.mk).2)
  (hq:∀ X s K,env.loop X (keyOf (.rangeFunc g ps a b)) s K=L.q X s K):Va env.loop (vc A C true za n) (.rangeFunc g ps a b):=by
 simp only [Ia] at hk;refine WG hg (env:=env) (Lg:=Lg) hc Sf dK (enc:=fun p=>L.sk.fill (L.n p)) (Im:=fun p e=>L.o _ p e Prod.mk) (Je:=L.Je) (pe:=Ov L.pe) (step:=L.st) (Zt hk.1) (AE hk.2) Ri ij ?_;intro X s K out h;rw [hq] at h;unfold PD.q at h;obtain ⟨s',hs,h⟩:=aa.1 h;obtain ⟨u,hu,h⟩:=aa.1 h;obtain ⟨e,he,h⟩:=aa.1 h;refine ⟨L.p u,e,?_,he,(ho _ _ _ _).symm.trans h⟩;rw [hs,gh,jt.sd hu]
def Cb (l:List (FuncId×Spec)):(X:Type)->UV->List UV->UH->(UV->UH->Option X)->Option X:=fun X fv args H K=>vO l X fv args H K
def dr (l ly:List (FuncId×Spec)):(X:Type)->UV->List UV->UH->(UV->UH->Option X)->Option X:=fun X fv args H K=>KY l ly X fv args H K
theorem C8 {C:V.Callee}:∀ p∈([]:List (FuncId×Spec)),Me C p.1 p.2:=fun p h=>by cases h
theorem rM {C:V.Callee} {f:FuncId} {s:Spec} {l:List (FuncId×Spec)} (h:Me C f s) (hl:∀ p∈l,Me C p.1 p.2):∀ p∈(f,s)::l,Me C p.1 p.2:=fun p hp=>by
 rcases oc.1 hp with rfl|hp
 · exact h
 · exact hl p hp
theorem S7 {C:V.Callee}:∀ p∈([]:List (FuncId×Spec)),Ai C p.2:=fun p h=>by cases h
theorem DZ {C:V.Callee} {f:FuncId} {s:Spec} {l:List (FuncId×Spec)} (h:Ai C s) (hl:∀ p∈l,Ai C p.2):∀ p∈(f,s)::l,Ai C p.2:=fun p hp=>by
 rcases oc.1 hp with rfl|hp
 · exact h
 · exact hl p hp
theorem Bc {BE:(X:Type)->Nat->St->(V.Ex->St->Option X)->Option X} {Mw:Code->V.S->Option (V.Ex×V.S)}:∀ c∈([]:List Code),Va BE Mw c:=fun p h=>by cases h
theorem Db {BE:(X:Type)->Nat->St->(V.Ex->St->Option X)->Option X} {Mw:Code->V.S->Option (V.Ex×V.S)} {c:Code} {l:List Code} (h:Va BE Mw c) (hl:∀ c∈l,Va BE Mw c):∀ c'∈c::l,Va BE Mw c':=fun p hp=>by
 rcases oc.1 hp with rfl|hp
 · exact h
 · exact hl p hp
theorem Yc {BE:(X:Type)->Nat->St->(V.Ex->St->Option X)->Option X} {Mw:Code->V.S->Option (V.Ex×V.S)} {l l':List Code} (e:l=l') (h:∀ c∈l',Va BE Mw c):∀ c∈l,Va BE Mw c:=fun c hc=>h c (e ▸ hc)
theorem L1 (hg:xe A La) {env:Env} {k:Nat} (hc:Sa (V.call A k) env.call) {f:FuncId} {fn:Func} {c:Code} {sh:Sh} {fz:Bool}
  (h1:A.fns f=some fn) (h2:fn.body=some c) (h3:A.ext f=none) (h4:A.loc f=za) (h5:A.keep f=oa fn.ntmps) (h6:A.lS f=fz)
  (hl:∀ c'∈loops env.join c,Va env.loop (vc A (V.call A k) true za fn.ntmps) c') {A' R:Type} (S:FS A' R) {m:A'->Option R}
  {mc:(X:Type)->A'->(R->Option X)->Option X}
  (Vd:∀ X a K,NH A La env za fn sh fz (S.sk.args (S.n a)) (S.sk.heap (S.n a)) K=mc X a (fun r=>S.o _ a r K))
  (Ri:∀ X a K,mc X a K=(m a).bind K) (gh:∀ u,S.n (S.a u)=u):Me (V.call A (k+1)) f (S.sp m):=by
 refine (sU (sh:=sh) (fz:=fz) hg hc (f:=f) (fn:=fn) (c:=c) h3 h1 h2 (za:=za) h4 h5 h6 hl).imp ?_;intro X args H K out h;unfold FS.sp at h;obtain ⟨u,hu,h⟩:=aa.1 h;obtain ⟨g1,g2⟩:=oz.sd hu;rw [<- g1,<- g2];have:=Vd X (S.a u) K;rw [gh,Ri] at this;rw [this];exact h
theorem CZ (hg:xe A La) {env:Env} {k:Nat} (hc:Sa (V.call A k) env.call) {id:Nat} {r:RFn} (dK:TB.rf id=r)
  (h1:∀ c'∈loops env.join r.assign,Va env.loop (vc A (V.call A k) false [] r.n) c') (h2:∀ c'∈loops env.join r.body,Va env.loop (vc A (V.call A k) false [] r.n) c') {A' R:Type} (S:FS A' R) {m:A'->Option R}
  {mc:(X:Type)->A'->(R->Option X)->Option X}
  (Vd:∀ X a K,kM A La env id r (S.sk.args (S.n a)) (S.sk.heap (S.n a)) K=mc X a (fun r=>S.o _ a r K))
  (Ri:∀ X a K,mc X a K=(m a).bind K) (gh:∀ u,S.n (S.a u)=u):Ai (V.call A (k+1)) (S.sp m):=by
 refine (qS hg hc (id:=id) (r:=r) dK h1 h2).imp ?_;intro X args H K out h;unfold FS.sp at h;obtain ⟨u,hu,h⟩:=aa.1 h;obtain ⟨g1,g2⟩:=oz.sd hu;rw [<- g1,<- g2];have:=Vd X (S.a u) K;rw [gh,Ri] at this;rw [this];exact h
end
end Go.U
