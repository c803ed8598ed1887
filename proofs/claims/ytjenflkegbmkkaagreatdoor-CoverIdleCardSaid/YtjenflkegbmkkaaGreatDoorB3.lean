/- A second evaluator, over rows of Lean values, and that it is right over the first. -/
import Derived.Test.YtjenflkegbmkkaaGreatDoorB2
import Derived.KernelRfl
set_option linter.unusedVariables false
set_option linter.unusedSimpArgs false
set_option linter.unusedSectionVars false
open Bool renaming and_eq_true→Ia
open List renaming mem_cons→oc,nodup_append→By,mem_append→Tn,mem_cons_self→zc,mem_cons_of_mem→Gb,getElem?_eq_getElem→ya,getElem?_map→Ob,map_cons→Dd,mem_of_getElem?→jb,range→ua,mem_map→ye,getD_eq_getElem?_getD→Ea,length_map→Ec,getElem?_append_left→Fa,getElem?_append_right→Ka,getElem?_take→Ab,length_take→dc,take_length→qo,all_eq_true→Yb,mem_filter→th,length_set→fe
open Nat renaming le_refl→oa,lt_or_ge→Rb,le_trans→Ib
open Nat.succ renaming inj→nC
open Option renaming map_eq_some_iff→ia,bind_eq_some_iff→aa,bind_some→da
open Option.some renaming injEq→yc
open Sum renaming elim_inr→qt
namespace Go.U
open Go
variable [TB:sB]
theorem ZG:∀ {l:List Nat} {b i k:Nat},pos b l i=some k->∃ j,k=i+j/\l[j]?=some b
 |[],b,i,k,h=>by simp [pos] at h
 |x::l,b,i,k,h=>by
  simp only [pos] at h;split at h
  · rename_i e;simp at h;subst h;subst e;exact ⟨0,rfl,rfl⟩
  · obtain ⟨j,h1,h2⟩:=ZG h;exact ⟨j+1,by omega,by simpa using h2⟩
theorem iP {l:List Nat} {b k:Nat} (h:pos b l 0=some k):l[k]?=some b:=by
 obtain ⟨j,h1,h2⟩:=ZG h;have:k=j:=by omega
 subst this;exact h2
theorem qM:∀ {l:List Nat} {b i:Nat},b∈l->∃ k,pos b l i=some k
 |[],b,i,h=>by simp at h
 |x::l,b,i,h=>by
  simp only [pos];split
  · exact ⟨i,rfl⟩
  · rename_i e;rcases oc.1 h with rfl|h
    · exact (e rfl).elim
    · exact qM h
theorem aj {H:UH}:∀ {d:Nat} {w seen:List Nat},seen.Nodup->(reach H d w seen).Nodup
 |0,w,seen,h=>by simpa [reach] using h
 |d+1,[],seen,h=>by simpa [reach] using h
 |d+1,b::w,seen,h=>by
  simp only [reach];split
  · exact aj h
  · rename_i hb;refine aj (By.2 ⟨h,by simp,fun x hx y hy=> ?_⟩);simp at hy;subst hy
    rintro rfl
    exact hb (by simpa using hx)
theorem xn:∀ {e:List (Nat×US)} {l:List Nat},l.Nodup->(Nl e l).Nodup
 |[],l,h=>h
 |(_,.loc i _)::e,l,h=>by
  simp only [Nl];refine xn ?_;split
  · exact h
  · rename_i hb;refine By.2 ⟨h,by simp,fun x hx y hy=> ?_⟩;simp at hy;subst hy
    rintro rfl
    exact hb (by simpa using hx)
 |(_,.v _)::e,l,h=>by simpa [Nl] using xn h
theorem Ls:∀ {e:List (Nat×US)} {l:List Nat} {i:Nat},i∈Nl e l->i∈l\/∃ t c,(t,US.loc i c)∈e
 |[],l,i,h=> .inl h
 |(t,.loc j c)::e,l,i,h=>by
  simp only [Nl] at h;rcases Ls h with h|⟨t',c',h⟩
  · split at h
    · exact .inl h
    · rcases Tn.1 h with h|h
      · exact .inl h
      · simp at h;subst h;exact .inr ⟨t,c,zc ..⟩
  · exact .inr ⟨t',c',Gb _ h⟩
 |(t,.v _)::e,l,i,h=>by
  simp only [Nl] at h;rcases Ls h with h|⟨t',c',h⟩
  · exact .inl h
  · exact .inr ⟨t',c',Gb _ h⟩
theorem wq {l:List Nat} (h:l.Nodup) {i j x:Nat} (hi:l[i]?=some x) (hj:l[j]?=some x):i=j:=by
 have h1:=Ua hi;have h2:=Ua hj;rw [ya h1] at hi;rw [ya h2] at hj;simp at hi hj;exact (List.getElem_inj h).1 (by rw [hi,hj])
section
variable {m m':Mp} {Hv:V.AH} {φ:Nat->Option Nat}
def Ren (m m':Mp) (φ:Nat->Option Nat):Prop:=∀ b b',φ b=some b'->m'.ι b'=m.ι b/\m'.len b'=m.len b/\b'<m'.top
theorem RL.yj (h:Ren m m' φ) (d:Nat) {xs:List UV} {as:List V.AV} (hx:RL m xs as):RL m' (xs.map (U.yj φ d)) as:=
 ⟨by simp [hx.1],fun i x a h1 h2=>by
  rw [Ob,ia] at h1;obtain ⟨y,hy,rfl⟩:=h1;exact RV.yj h d (hx.2 i y a hy h2)⟩
theorem get_map (g:UV->UV) (hg:g .Qb= .Qb):∀ (l:List (Nat×UV)) (t:Nat),get ((l.map fun p=>(p.1,g p.2)).map fun p=>(p.1,US.v p.2)) t=match get (l.map fun p=>(p.1,US.v p.2)) t with| .v y=> .v (g y)|x=>x
 |[],t=>by simp [get,hg]
 |(i,x)::l,t=>by
  simp only [Dd,get];split
  · rfl
  · exact get_map g hg l t
theorem MR.free {k:KT} (m':Mp):∀ {es:List (jd k×UV)} {qd:List (V.AV×V.AV)},MR k m es qd->MR k m' es qd
 |[],[],_=>trivial
 |(_,_)::_,(_,_)::_,h=>⟨h.1,h.2.1.mU m' 8 h.2.2.1,h.2.2.1,h.2.2.2.free m'⟩
 |[],_::_,h=>h.elim
 |_::_,[],h=>h.elim
theorem RB.yj (h:Ren m m' φ) {b b':Nat} {y:UB} (hy:RB m Hv b y) (eo:m'.ι b'=m.ι b) (hl:m'.len b'=m.len b):RB m' Hv b' (Is φ y):=by
 cases y with
 |dead=>trivial
 |fb row=>
  obtain ⟨x,Jb,ty,h1,h2,h3⟩:=hy;exact ⟨x,Jb,ty,by rw [eo];exact h1,h2,h3.yj h 8⟩
 |Fl q=>
  obtain ⟨x,p,q',h1,h2,h3,h4,h5⟩:=hy;exact ⟨x,p,q',by rw [eo];exact h1,h2,h3,RV.yj h 8 h4,h5⟩
 |ko s=>
  obtain ⟨h1,h2⟩:=hy;refine ⟨by rw [hl];exact h1,?_⟩;rcases h2 with ⟨h2,h3⟩|⟨x,h2,h3,h4⟩
  · exact .inl ⟨h2,by rw [eo];exact h3⟩
  · exact .inr ⟨x,by rw [eo];exact h2,h3,h4⟩
 |cells c l=>
  obtain ⟨h1,h2⟩:=hy;refine ⟨by rw [hl];exact h1,?_⟩;rcases h2 with ⟨h2,h3⟩|⟨x,rows,ty,h2,h3,h4,h5,h6,h7⟩
  · exact .inl ⟨h2,by rw [eo];exact h3⟩
  · exact .inr ⟨x,rows,ty,by rw [eo];exact h2,h3,h4,h5,h6,fun i row c y a k0 k1 k2 k3=>(h7 i row c y a k0 k1 k2 k3).free m' 8 ((h5 i k0).2 y (jb k2))⟩
 |deep c l=>
  obtain ⟨h1,h0,h2⟩:=hy;refine ⟨by rw [hl];exact h1,fun r=>by rw [hl,eo];exact h0 r,?_⟩;rcases h2 with ⟨h2,h3⟩|⟨x,rows,ty,h2,h3,h4,h5⟩
  · exact .inl ⟨h2,by rw [eo];exact h3⟩
  · refine .inr ⟨x,rows,ty,by rw [eo];exact h2,h3,h4,fun r hr=> ?_⟩;obtain ⟨a,k1,k2⟩:=h5 r hr;rw [eo];exact ⟨a,k1,k2.keep (fun _ _ hc h=>h.free m' 8 hc) fun _ _=>rfl⟩
 |Nj k es=>
  obtain ⟨x,qd,h1,h2,h3⟩:=hy;exact ⟨x,qd,by rw [eo];exact h1,h2,h3.free m'⟩
 |ah k g c l=>
  obtain ⟨x,qd,h1,h2,h3⟩:=hy;exact ⟨x,qd,by rw [eo];exact h1,h2,h3.free m'⟩
 |loop id env st pe=>
  obtain ⟨x,Ul,h1,h2,h3⟩:=hy;refine ⟨x,Ul,by rw [eo];exact h1,h2,fun t=> ?_⟩;have h4:=h3 t;unfold ve at h4 ⊢;rw [get_map (U.yj φ 8) rfl env t]
  revert h4
  cases get (env.map fun p=>(p.1,US.v p.2)) t with
  |loc i c=>exact fun h=>h.elim
  |v y=>
    cases V.get (V.ve Ul) t with
    |loc i c=>exact fun h=>h.elim
    |v a=>exact fun hr=>RV.yj h 8 hr
theorem RC (φ:Nat->Option Nat) (y:UB):Sd (Is φ y)=Sd y:=by cases y<;>rfl
theorem xA (g:Nat->US):∀ (keep:List Nat) (t:Nat),get (keep.map fun i=>(i,g i)) t=if t∈keep then g t else .v .Qb
 |[],t=>by simp [get]
 |i::l,t=>by
  simp only [Dd,get,xA g l t];by_cases e:t=i
  · subst e;simp
  · simp [e]
def Alike (n:Nat) (sv je:V.S):Prop:=je.H=sv.H/\je.F=sv.F/\∀ t,t<n->V.get je.e t=V.get sv.e t
theorem Alike.refl (n:Nat) (sv:V.S):Alike n sv sv:=⟨rfl,rfl,fun _ _=>rfl⟩
theorem rC (g:Nat->V.SV):∀ (keep:List Nat) (t:Nat),V.get (keep.map fun i=>(i,g i)) t=if t∈keep then g t else .v .Qb
 |[],t=>by simp [V.get]
 |i::l,t=>by
  simp only [Dd,V.get,rC g l t];by_cases e:t=i
  · subst e;simp
  · simp [e]
theorem Alike.clean (n:Nat) (sv:V.S):Alike n sv (V.clean (ua n) sv):=⟨rfl,rfl,fun t ht=>by
 simp only [V.clean];rw [rC,if_pos (by simpa using ht)]⟩
theorem RS.yj {ψ χ:Nat->Option Nat} {zg:Nat->Option Nat} (h:Ren m m' χ) (hp:∀ i i' j,ψ i=some i'->φ i=some j->zg i'=some j) {x:US} {a:V.SV} (hx:RS m φ x a):RS m' zg (fP χ ψ x) a:=by
 cases x with
 |v y=>
  by_cases hy:y= .Qb
  · subst hy;exact trivial
  · obtain ⟨a,rfl,hr⟩:=hx.val hy;exact (RV.yj h 8 hr).rs
 |loc i c=>
  cases a with
  |v a=>exact hx.elim
  |loc j c'=>
    simp only [fP];split
    · rename_i i' hi;exact ⟨hp i i' j hi hx.1,hx.2⟩
    · exact trivial
theorem Dl {n:Nat} {keep:List Nat} {s:St} {sv je:V.S} (hk:∀ t∈keep,t<n) (hs:Gl m φ s sv) (hw:s.H.wm<=s.base) (ha:Alike n sv je):
   ∃ m' zg,Gl m' zg (compact keep s) je/\Ej s.base m sv.H m' sv.H:=by
 obtain ⟨a1,a2,a3⟩:=ha
 let e:=keep.map fun i=>(i,get s.e i)
 let fs:=Nl e []
 let rows:=fs.map fun i=>s.F.getD i []
 let bs:=ua s.base++(reach s.H 64 (ua s.base++(e.flatMap fun p=>rac p.2)++rows.flatMap fun row=>row.flatMap (ids 8)) []).filter (fun b=>decide (s.base<=b))
 let χ:=fun b=>pos b bs 0
 let ψ:=fun i=>pos i fs 0
 have N5:bs.Nodup:=by
   refine By.2 ⟨List.nodup_range,(aj List.nodup_nil).filter _,fun x hx y hy=> ?_⟩;simp at hx hy;omega
 have hfs:fs.Nodup:=xn List.nodup_nil
 let m':Mp:={ ι:=fun b s=>(bs[b]?).bind fun c=>m.ι c s,len:=fun b=>m.len (bs.getD b 0),top:=bs.length }
 let zg:Nat->Option Nat:=fun i=>(fs[i]?).bind φ
 have gK:Ren m m' χ:=fun b b' hb=>by
   have:=iP hb;exact ⟨by simp [m',this],by simp [m',this],Ua this⟩
 have oad:∀ i,i∈fs->∃ j,φ i=some j:=fun i hi=>by
   rcases Ls hi with h|⟨t,c,h⟩
   · simp at h
   · obtain ⟨i',VT,he⟩:=ye.1 h;simp only [Prod.mk.injEq] at he;have:=hs.e t;rw [he.1] at he;rw [he.2] at this;cases hv:V.get sv.e t with
     |v a=>rw [hv] at this;exact this.elim
     |loc j c'=>rw [hv] at this;exact ⟨j,this.1⟩
 have hblk:∀ b' y,(bs.map fun b=>Is χ (s.H.bl.getD b .dead))[b']?=some y->∃ b,bs[b']?=some b/\y=Is χ (s.H.bl.getD b .dead):=fun b' y hy=>by
   rw [Ob,ia] at hy;obtain ⟨b,h1,h2⟩:=hy;exact ⟨b,h1,h2.symm⟩
 have Td:∀ b',live (compact keep s).H b'->∃ b,bs[b']?=some b/\live s.H b:=fun b' ⟨y,hy,hl⟩=>by
   obtain ⟨b,h1,rfl⟩:=hblk b' y hy;rw [RC] at hl;refine ⟨b,h1,?_⟩;rw [Ea] at hl;cases h2:s.H.bl[b]? with
   |none=>rw [h2] at hl;simp [Sd] at hl
   |some y=>rw [h2] at hl;exact ⟨y,h2,hl⟩
 have Ct:(compact keep s).H.bl=bs.map fun b=>Is χ (s.H.bl.getD b .dead):=rfl
 have hlen:(compact keep s).H.bl.length=bs.length:=by rw [Ct,Ec]
 have hF:(compact keep s).F=fs.map fun i=>(s.F.getD i []).map (yj χ 8):=List.map_map
 have HT:∀ b,b<s.base->bs[b]?=some b:=fun b hb=>by
   simp only [bs];rw [Fa (by simpa using hb)];simp [hb]
 refine ⟨m',zg,⟨⟨fun b _ x hb=> ?_,fun b' y hy=> ?_,fun b1 b2 _ _ x l1 l2 e1 e2=> ?_,fun b _ x hb WC=> ?_,by rw [a1];exact hs.h.top,by rw [hlen]⟩,⟨fun i j Ky=> ?_,fun i row hi=> ?_,fun i i' j h1 h2=> ?_⟩,fun t=> ?_,?_⟩,⟨⟨?_,fun b hb=> ?_⟩,fun _ _ _=>rfl,fun b s0 x hb=> ?_,oa _,rfl⟩⟩
 · simp only [m',aa] at hb;obtain ⟨b0,h1,h2⟩:=hb;have:=(hs.h.Ae b0 x h2).2;have h3:=Ua h1;refine ⟨by rw [hlen];exact h3,by rw [a1];exact this⟩
 · obtain ⟨b,h1,rfl⟩:=hblk b' y hy;have eo:m'.ι b'=m.ι b:=by simp [m',h1]
   have hl:m'.len b'=m.len b:=by simp [m',h1]
   rw [Ea];cases h2:s.H.bl[b]? with
   |none=>trivial
   |some y=>exact RB.yj gK ((hs.h.Oc b y h2).bl (by rw [a1])) eo hl
 · obtain ⟨c1,h1,h2⟩:=Td b1 l1;obtain ⟨c2,h3,h4⟩:=Td b2 l2;simp only [m',h1,da] at e1;simp only [m',h3,da] at e2;obtain ⟨this,h5⟩:=hs.h.zm c1 c2 x h2 h4 e1 e2;subst this;exact ⟨wq N5 h1 h3,h5⟩
 · simp only [m',aa] at hb;obtain ⟨b0,h1,h2⟩:=hb;rw [a1];refine hs.h.wm b0 x h2 ?_;have T8:s.H.wm<=b:=WC;rcases Rb b s.base with nc|Qr
   · rw [HT b nc] at h1;simp at h1;subst h1;exact T8
   · simp only [bs] at h1;rw [Ka (by simpa using Qr)] at h1;have:=jb h1;simp at this;omega
 · simp only [zg,aa] at Ky;obtain ⟨i0,h1,h2⟩:=Ky;have:=(hs.f.Ae i0 j h2).2;have h3:=Ua h1;refine ⟨?_,by rw [a2];exact this⟩;have:(compact keep s).F=fs.map fun i=>(s.F.getD i []).map (yj χ 8):=hF
   rw [this,Ec];exact h3
 · have VT:(fs.map fun i=>(s.F.getD i []).map (yj χ 8))[i]?=some row:=by
     rw [hF] at hi;exact hi
   rw [Ob,ia] at VT;obtain ⟨i0,h1,h2⟩:=VT;obtain ⟨j,hj⟩:=oad i0 (jb h1);have nc:=(hs.f.Ae i0 j hj).1;have O0:=ya nc;obtain ⟨j',Jb,k1,k2,k3⟩:=hs.f.row i0 _ O0;rw [hj] at k1;simp at k1;subst k1;refine ⟨j,Jb,by simp [zg,h1,hj],by rw [a2];exact k2,?_⟩;rw [<- h2,Ea,O0];exact k3.yj gK 8
 · simp only [zg,aa] at h1 h2;obtain ⟨i0,k1,k2⟩:=h1;obtain ⟨i1,k3,k4⟩:=h2;have:=hs.f.inj i0 i1 j k2 k4;subst this;exact wq hfs k1 k3
 · have he:get (compact keep s).e t=if t∈keep then fP χ ψ (get s.e t) else .v .Qb:=by
     have:(compact keep s).e=keep.map fun i=>(i,fP χ ψ (get s.e i)):=List.map_map
     rw [this];exact xA _ keep t
   rw [he];split
   · rename_i ht;rw [a3 t (hk t ht)];refine RS.yj gK (fun i i' j h1 h2=> ?_) (hs.e t);have:=iP h1;simp [zg,this,h2]
   · exact trivial
 · rw [hlen];show s.base<=bs.length;simp [bs]
 · simp [m',bs]
 · have:=HT b hb;exact ⟨by simp [m',this],by simp [m',this]⟩
 · simp only [m',aa] at hb;obtain ⟨b0,h1,h2⟩:=hb;exact .inl ⟨b0,s0,h2⟩
end
end Go.U
namespace Go.U
open Go
variable [TB:sB] {rf:Bool}
section
variable {φ:Nat->Option Nat} {Hv:V.AH}
theorem gm {f:Sh->UV->UH->Option (UV×UH)} (hf:∀ sh x H x' H',f sh x H=some (x',H')->∀ m,RH m H Hv->Mo m H H' Hv fun m'=>∀ a,RV m x a->RV m' x' a):
  ∀ {Bt:List Sh} {xs:List UV} {H:UH} {l:List UV} {H':UH},Zf.Gh f Bt xs H=some (l,H')->∀ m,RH m H Hv->Mo m H H' Hv fun m'=>∀ as,RL m xs as->RL m' l as
 |[],[],H,l,H',h,m,hh=>by
  simp [Zf.Gh] at h;obtain ⟨rfl,rfl⟩:=h;exact .same hh fun as h=>h
 |s::ss,x::xs,H,l,H',h,m,hh=>by
  simp only [Zf.Gh,aa] at h;obtain ⟨⟨x',H1⟩,h1,⟨Ho,H2⟩,h2,h⟩:=h;simp at h;obtain ⟨rfl,rfl⟩:=h;refine (hf _ _ _ _ _ h1 m hh).trans fun m1 ZC hle hp=>(gm hf h2 m1 ZC).imp fun m2 nK hq as ha=> ?_
  cases as with
  |nil=>have:=ha.1;simp at this
  |cons a as=>
   have h0:=(hp a (ha.2 0 x a rfl rfl)).mono nK;have hr:RL m xs as:=⟨by have:=ha.1;simpa using this,fun i y b k1 k2=>ha.2 (i+1) y b (by simpa using k1) (by simpa using k2)⟩;exact .cons h0 (hq as (hr.mono hle))
 |[],_::_,H,l,H',h,m,hh=>by simp [Zf.Gh] at h
 |_::_,[],H,l,H',h,m,hh=>by simp [Zf.Gh] at h
theorem SI {m:Mp} {k:KT} {g:Bool} {c:CT}:∀ {es:List (jd k×UV)} {l:List (jd k×Eb c)} {qd:List (V.AV×V.AV)},CY g c es=some l->MR k m es qd->MR k m (Gj g c l) qd
 |[],l,qd,h,hm=>by simp [CY] at h;subst h;exact hm
 |(i,x)::es,l,qd,h,hm=>by
  simp only [CY,aa] at h;obtain ⟨y,hy,l',hl,h⟩:=h;simp at h;subst h;cases qd with
  |nil=>exact hm.elim
  |cons p qd=>
   obtain ⟨h1,h2,h3,h4⟩:=hm;obtain ⟨d1,d2⟩:=RI hy;exact ⟨h1,d2 m _ h2,d1,SI hl h4⟩
theorem NC {m:Mp} {H:UH} (hh:RH m H Hv) (c:CT):Mo m H (push H (.deep c [])) Hv fun m'=>∀ a,a= .Wa\/a= .Kd->RV m' (.all H.bl.length) a:=by
 have hp:=hh.push (Ic:=Hv) (y:= .deep c []) (x:=none) (n:=0) (fun _ _ _ _ _=>rfl) (oa _) rfl (fun xv e=>by simp at e) ⟨xd _ _ _ _,fun r=>⟨by rw [Mp.add,fq];rfl,fun _=>by rw [Mp.add,Vg];rfl⟩,.inl ⟨rfl,Vd _ _ _ _⟩⟩;refine ⟨rfl,_,hp.1,hp.2,⟨tg hh _ _,fun _ _ _=>rfl,fun b _ xv hb=> ?_,oa _,rfl⟩,fun a h=> .Nf _ _ (by simp [Mp.add,Mp.Fi]) (xd _ _ _ _) h⟩;by_cases e:b=H.bl.length
 · subst e;obtain ⟨_,e⟩:=zi hb;simp at e
 · rw [vf _ _ _ e] at hb;exact .inl ⟨b,_,hb⟩
theorem iH {m:Mp} {H:UH} (hh:RH m H Hv) (c:CT):Mo m H (push H (.cells c [])) Hv fun m'=>∀ a,a= .Wa\/a= .Kd->RV m' (.sl H.bl.length 0 0) a:=
 (Qt hh c).imp fun _ _ _ a h=> .Jr _ _ _ h
theorem dA {m:Mp} {H H':UH} {b n:Nat} {c:CT} {x':UV} (h:(match H.bl[b]? with
   |some (.cells c' l)=>if c'=c/\H.wm<=b then some (UV.all H.bl.length,push (Ma H b .dead) (.cells c' (l.take n))) else none
   |_=>none)=some (x',H')) (hh:RH m H Hv):Mo m H H' Hv fun m'=>∀ a,RV m (.sl b 0 n) a->RV m' x' a:=by
 split at h
 case h_2=>simp at h
 rename_i c' l hb;split at h
 case isFalse=>simp at h
 rename_i hc;simp at h;obtain ⟨rfl,rfl⟩:=h;have Td:live H b:=⟨_,hb,rfl⟩;have hk:=hh.kill b;have hlen:(Ma H b .dead).bl.length=H.bl.length:=by simp [Ma]
 have Bj:∀ {b'},live (Ma H b .dead) b'->b'≠b/\live H b':=fun h=>by
   rcases ag h with ⟨_,h'⟩|h'
   · simp [Sd] at h'
   · exact h'
 obtain ⟨kb,kx⟩:=uc (s:=⟨[],[],H,0⟩) (sv:=⟨[],[],Hv⟩) hh hb;have hrb:RB (m.add (Ma H b .dead).bl.length (m.ι b 0) (l.take n).length) Hv (Ma H b .dead).bl.length (.cells c' (l.take n)):=by
   refine ⟨xd _ _ _ _,?_⟩;rw [Vd];cases hx:m.ι b 0 with
   |none=>
     have:=hh.Oc b _ hb;rcases this.2 with ⟨h0,_⟩|⟨x,rows,_,h1,_⟩
     · exact .inl ⟨by simp [h0],rfl⟩
     · rw [hx] at h1;simp at h1
   |some x=>
     obtain ⟨rows,ty,k2,k3,k4⟩:=kx x hx;refine .inr ⟨x,rows,ty,rfl,k2,by simp;omega,fun i _=>⟨tf _ _ _,Pd _ _ _⟩,fun i row hi hr=> ?_,fun i row k y a hi hr h1 h2=> ?_⟩
     · exact k4.2.1 i row (by simp at hi;omega) hr
     · have e:vw c' (l.take n) i=vw c' l i:=by
        simp only [vw,Ea,Ab];rw [if_pos (by simp at hi;omega)]
       rw [e] at h1;exact (k4.2.2 i row k y a (by simp at hi;omega) hr h1 h2).free _ 8 (Pd _ _ _ y (jb h1))
 have hp:=hk.push (Ic:=Hv) (fun _ _ _ _ _=>rfl) (oa _) rfl (fun xv e=>⟨(hh.Ae b xv e).2,hh.wm b xv e hc.2,fun b' s' Pf e'=>(Bj Pf).1 (hh.inj b' b xv (Bj Pf).2 Td e' e)⟩) hrb;rw [hlen] at hp;refine ⟨rfl,_,hp.1,hp.2,⟨by have:=tg hk;simpa only [hlen] using this _ _,fun _ _ _=>rfl,fun b' _ xv zd=> ?_,oa _,rfl⟩,fun a ha=> ?_⟩
 · by_cases e:b'=H.bl.length
   · subst e;obtain ⟨_,e⟩:=zi zd;exact .inl ⟨b,_,e⟩
   · rw [vf _ _ _ e] at zd;exact .inl ⟨b',_,zd⟩
 · cases ha with
   |sl _ _ _ x hx hle=>
     have:=RV.all (m:=m.add H.bl.length (m.ι b 0) (l.take n).length) H.bl.length x (by rw [Vd];exact hx);have hk0:m.len b 0=l.length:=kb;rw [xd,dc,Nat.min_eq_left (by omega)] at this;rw [dc,Nat.min_eq_left (by omega)];exact this
   |Jr _ _ _ ha=>exact .Nf _ _ (by simp [Mp.add,Mp.Fi]) (by rw [xd];simp) ha
theorem oP {m:Mp} {H H':UH} {b:Nat} {c:CT} {x':UV} (h:(match H.bl[b]? with
  |some (.cells c' l)=>if c'=c/\H.wm<=b then some (UV.all H.bl.length,push (Ma H b .dead) (.cells c' l)) else none
  |_=>none)=some (x',H')) (hh:RH m H Hv):Mo m H H' Hv fun m'=>∀ a,RV m (.all b) a->RV m' x' a:=by
 cases hb:H.bl[b]? with
 |none=>rw [hb] at h;simp at h
 |some y=>
  rw [hb] at h;cases y with
  |cells c' l=>
   obtain ⟨k0,_⟩:=uc (s:=⟨[],[],H,0⟩) (sv:=⟨[],[],Hv⟩) hh hb;refine (dA (n:=l.length) (c:=c) (b:=b) (x':=x') (H':=H') (by rw [hb];simpa [qo] using h) hh).imp fun m' _ hp a ha=>hp a ?_
   cases ha with
   |all _ x hx=>rw [k0];exact .sl _ 0 _ x hx (by omega)
   |Nf _ _ _ hl ha=>
    have:l.length=0:=by omega
    rw [this];exact .Jr _ 0 _ ha
  |_=>simp at h
theorem jm:∀ (d:Nat) (sh:Sh) (x:UV) (H:UH) (x':UV) (H':UH),Zf d false sh x H=some (x',H')->∀ m,RH m H Hv->Mo m H H' Hv fun m'=>∀ a,RV m x a->RV m' x' a
 |0,sh,x,H,x',H',h,m,hh=>by simp [Zf] at h
 |d+1,sh,x,H,x',H',h,m,hh=>by
  unfold Zf at h;split at h
  · rename_i e;exact absurd e (by omega)
  · simp at h;obtain ⟨rfl,rfl⟩:=h;exact .same hh fun a h=>h
  · simp at h;obtain ⟨rfl,rfl⟩:=h;exact .same hh fun a h=> .Qb a
  · simp at h;obtain ⟨rfl,rfl⟩:=h;exact .same hh fun a h=>by cases h;exact .Qh _ _ (.inl rfl)
  · simp at h;obtain ⟨rfl,rfl⟩:=h;exact .same hh fun a h=>by cases h;exact .Qh _ _ (.inr rfl)
  · simp at h
  · simp at h
  · simp at h;obtain ⟨rfl,rfl⟩:=h;exact .same hh fun a h=>h
  · simp at h;obtain ⟨rfl,rfl⟩:=h;exact (Qt hh _).imp fun m1 _ hp a h=>by cases h;exact hp _ (.inl rfl)
  · simp at h;obtain ⟨rfl,rfl⟩:=h;exact (Qt hh _).imp fun m1 _ hp a h=>by cases h;exact hp _ (.inr rfl)
  · exact dA h hh
  · simp at h;obtain ⟨rfl,rfl⟩:=h;exact (iH hh _).imp fun m1 _ hp a h=>by cases h;exact hp _ (.inl rfl)
  · simp at h;obtain ⟨rfl,rfl⟩:=h;exact (iH hh _).imp fun m1 _ hp a h=>by cases h;exact hp _ (.inr rfl)
  · simp at h;obtain ⟨rfl,rfl⟩:=h;exact .same hh fun a h=>h
  · split at h
    case h_2=>simp at h
    rename_i c l hb;simp at h;obtain ⟨rfl,rfl⟩:=h;obtain ⟨k0,_⟩:=uc (s:=⟨[],[],_,0⟩) (sv:=⟨[],[],Hv⟩) hh hb;refine .same hh fun a h=> ?_
    cases h with
    |all _ x hx=>rw [k0];exact .sl _ 0 _ x hx (by omega)
    |Nf _ _ _ hl ha=>
      have:l.length=0:=by omega
      rw [this];exact .Jr _ 0 _ ha
  · simp at h;obtain ⟨rfl,rfl⟩:=h;exact .same hh fun a h=>h
  · simp at h;obtain ⟨rfl,rfl⟩:=h;exact (NC hh _).imp fun m1 _ hp a h=>by cases h;exact hp _ (.inl rfl)
  · simp at h;obtain ⟨rfl,rfl⟩:=h;exact (NC hh _).imp fun m1 _ hp a h=>by cases h;exact hp _ (.inr rfl)
  · simp at h;obtain ⟨rfl,rfl⟩:=h;exact .same hh fun a h=>h
  · exact oP h hh
  · split at h
    · rename_i k' es hb;split at h
      case isFalse=>simp at h
      rename_i hk;subst hk;simp only [aa] at h;obtain ⟨l,hl,h⟩:=h;simp at h;obtain ⟨rfl,rfl⟩:=h;refine ⟨rfl,m,hh.X7 ⟨_,hb,rfl⟩ ?_,.refl m,.refl Hv (oa _),fun a h=>h⟩;obtain ⟨x,qd,k1,k2,k3⟩:=hh.Oc _ _ hb;exact ⟨x,qd,k1,k2,SI hl k3⟩
    · simp at h;obtain ⟨rfl,rfl⟩:=h;exact .same hh fun a h=>h
    · simp at h
  · simp only [ia] at h;obtain ⟨⟨l,H1⟩,h1,h⟩:=h;simp at h;obtain ⟨rfl,rfl⟩:=h;refine (gm (fun sh x H x' H' h m hh=>jm _ sh x H x' H' h m hh) h1 m hh).imp fun m1 hle hp a ha=> ?_
    cases ha with
    |agg _ as hl hr=>have:=hp as ⟨hl,hr⟩;exact .agg _ _ this.1 this.2
  · simp only [ia] at h;obtain ⟨⟨l,H1⟩,h1,h⟩:=h;simp at h;obtain ⟨rfl,rfl⟩:=h;refine (gm (fun sh x H x' H' h m hh=>jm _ sh x H x' H' h m hh) h1 m hh).imp fun m1 hle hp a ha=> ?_
    cases ha with
    |Rc _ as hl hr=>have:=hp as ⟨hl,hr⟩;exact .Rc _ _ this.1 this.2
  · simp at h
theorem pP {d:Nat} {fz:Bool} {sh:Sh} {H H':UH} {x':UV} (h:Zf d fz sh .Qb H=some (x',H')):x'= .Qb/\H'=H:=by
 cases d with
 |zero=>simp [Zf] at h
 |succ d=>cases sh<;>simp [Zf] at h<;>exact ⟨h.1.symm,h.2.symm⟩
theorem Vv {Bt:List (Nat×Sh)}:∀ {e:List (Nat×US)} {H:UH} {e':List (Nat×US)} {H':UH},Xo Bt e H=some (e',H')->∀ m,RH m H Hv->Mo m H H' Hv fun m'=>∀ t vv,RS m φ (get e t) vv->RS m' φ (get e' t) vv
 |[],H,e',H',h,m,hh=>by
  simp [Xo] at h;obtain ⟨rfl,rfl⟩:=h;exact .same hh fun t vv h=>h
 |(i,.v x)::e,H,e',H',h,m,hh=>by
  simp only [Xo,aa] at h;obtain ⟨⟨x',H1⟩,h1,⟨e1,H2⟩,h2,h⟩:=h;simp at h;obtain ⟨rfl,rfl⟩:=h;have key:Mo m H H1 Hv fun m'=>∀ vv,RS m φ (.v x) vv->RS m' φ (.v x') vv:=by
    split at h1
    · rename_i sh _;by_cases hx:x= .Qb
      · subst hx;obtain ⟨rfl,rfl⟩:=pP h1;exact .same hh fun vv h=>h
      · refine (jm _ _ _ _ _ _ h1 m hh).imp fun m1 _ hp vv hv=> ?_
        obtain ⟨a,rfl,hr⟩:=hv.val hx;exact (hp a hr).rs
    · simp at h1;obtain ⟨rfl,rfl⟩:=h1;exact .same hh fun vv h=>h
  refine key.trans fun m1 ZC hle hp=>(Vv h2 m1 ZC).imp fun m2 nK hq t vv ht=> ?_
  simp only [get] at ht ⊢;split at ht
  · rename_i e;rw [if_pos e];exact (hp vv ht).mono nK (.refl φ)
  · rename_i e;rw [if_neg e];exact hq t vv (ht.mono hle (.refl φ))
 |(i,.loc j c)::e,H,e',H',h,m,hh=>by
  simp only [Xo,aa] at h;obtain ⟨⟨e1,H2⟩,h2,h⟩:=h;simp at h;obtain ⟨rfl,rfl⟩:=h;refine (Vv h2 m hh).imp fun m2 nK hq t vv ht=> ?_
  simp only [get] at ht ⊢;split at ht
  · rename_i e;rw [if_pos e];exact ht.mono nK (.refl φ)
  · rename_i e;rw [if_neg e];exact hq t vv ht
theorem OC {Bt:List (Nat×List Sh)}:∀ {i:Nat} {F:List (List UV)} {H:UH} {F':List (List UV)} {H':UH},Yw Bt i F H=some (F',H')->∀ m,RH m H Hv->Mo m H H' Hv fun m'=>F'.length=F.length/\∀ (k:Nat) (Jb:List UV),F'[k]?=some Jb->∃ row:List UV,F[k]?=some row/\∀ as,RL m row as->RL m' Jb as
 |i,[],H,F',H',h,m,hh=>by
  simp [Yw] at h;obtain ⟨rfl,rfl⟩:=h;exact .same hh ⟨rfl,fun k Jb h=>by simp at h⟩
 |i,row::F,H,F',H',h,m,hh=>by
  simp only [Yw,aa] at h;obtain ⟨⟨nf,H1⟩,h1,⟨F1,H2⟩,h2,h⟩:=h;simp at h;obtain ⟨rfl,rfl⟩:=h;have key:Mo m H H1 Hv fun m'=>∀ as,RL m row as->RL m' nf as:=by
   unfold fT at h1;split at h1
   · exact gm (fun sh x H x' H' h m hh=>jm _ sh x H x' H' h m hh) h1 m hh
   · simp at h1;obtain ⟨rfl,rfl⟩:=h1;exact .same hh fun as h=>h
  refine key.trans fun m1 ZC hle hp=>(OC h2 m1 ZC).imp fun m2 nK hq=>⟨by simp [hq.1],fun k Jb hk=> ?_⟩
  cases k with
  |zero=>simp at hk;subst hk;exact ⟨row,rfl,fun as ha=>(hp as ha).mono nK⟩
  |succ k=>
   obtain ⟨r,k1,k2⟩:=hq.2 k Jb (by simpa using hk);exact ⟨r,by simpa using k1,fun as ha=>k2 as (ha.mono hle)⟩
theorem PC:∀ {l:List (Nat×List Sh)} {H H':UH},Zw l H=some H'->∀ m,RH m H Hv->Mo m H H' Hv fun _=>True
 |[],H,H',h,m,hh=>by
  simp [Zw] at h;subst h;exact .same hh trivial
 |(b,Bt)::l,H,H',h,m,hh=>by
  simp only [Zw] at h;split at h
  case h_2=>simp at h
  rename_i row hb;simp only [aa] at h;obtain ⟨⟨nf,H1⟩,h1,h⟩:=h;simp only at h;split at h
  case h_2=>simp at h
  rename_i wk aD;obtain ⟨x,Xab,ty,k1,k2,k3⟩:=hh.Oc b _ hb;refine (gm (fun sh x H x' H' h m hh=>jm _ sh x H x' H' h m hh) h1 m hh).trans fun m1 ZC hle hp=> ?_
  have ht:RH m1 (Ma H1 b (.fb nf)) Hv:=ZC.X7 ⟨_,aD,rfl⟩ ⟨x,Xab,ty,(hle.of b x k1).1,k2,hp Xab k3⟩;obtain ⟨w,m2,e1,e2,e3,e4⟩:=PC h m1 ht;exact ⟨w,m2,e1,e2,e3,e4⟩
def yn (n:Nat) (p:ZD):Prop:=∀ t∈p.keep,t<n
theorem bj {n:Nat} {p:ZD} {s s':St} (h:To p s=some s') (hk:yn n p):
    s'.base=s.base/\s'.H.wm=s.H.wm/\∀ (m:Mp) (φ:Nat->Option Nat) (sv je:V.S),Gl m φ s sv->Alike n sv je->∃ m' zg,Gl m' zg s' je/\Ej s.base m sv.H m' je.H:=by
  unfold To at h;split at h
  case isFalse=>simp at h
  rename_i hw;simp only [aa] at h;obtain ⟨⟨e,H1⟩,h1,⟨F,H2⟩,h2,H3,h3,h⟩:=h;split at h
  case isFalse=>simp at h
  rename_i hw3;simp at h;subst h;have Of:H3.wm=s.H.wm:=by
    have hE:∀ {Bt:List (Nat×Sh)} {e:List (Nat×US)} {H:UH} {e':List (Nat×US)} {H':UH},Xo Bt e H=some (e',H')->H'.wm=H.wm:=by
     intro Bt e;have hm:∀ (d:Nat) (sh:Sh) (x:UV) (H:UH) (x':UV) (H':UH),Zf d false sh x H=some (x',H')->H'.wm=H.wm:=Aq;induction e with
     |nil=>intro H e' H' h;simp [Xo] at h;rw [h.2]
     |cons p e ih=>
       intro H e' H' h;obtain ⟨i,x⟩:=p;cases x with
       |v x=>
         simp only [Xo,aa] at h;obtain ⟨⟨x',H1⟩,h1,⟨e1,H2⟩,h2,h⟩:=h;simp at h;obtain ⟨_,rfl⟩:=h;rw [ih h2];split at h1
         · exact hm _ _ _ _ _ _ h1
         · simp at h1;rw [h1.2]
       |loc j c=>
         simp only [Xo,aa] at h;obtain ⟨⟨e1,H2⟩,h2,h⟩:=h;simp at h;obtain ⟨_,rfl⟩:=h;exact ih h2
    have hF:∀ {Bt:List (Nat×List Sh)} {F:List (List UV)} {i:Nat} {H:UH} {F':List (List UV)} {H':UH},Yw Bt i F H=some (F',H')->H'.wm=H.wm:=by
     intro Bt F;induction F with
     |nil=>intro i H e' H' h;simp [Yw] at h;rw [h.2]
     |cons row F ih=>
       intro i H F' H' h;simp only [Yw,aa] at h;obtain ⟨⟨x',H1⟩,h1,⟨e1,H2⟩,h2,h⟩:=h;simp at h;obtain ⟨_,rfl⟩:=h;rw [ih h2];unfold fT at h1;split at h1
       · exact Wo (fun sh x H x' H' h=>Aq _ sh x H x' H' h) h1
       · simp at h1;rw [h1.2]
    have hB:∀ {l:List (Nat×List Sh)} {H H':UH},Zw l H=some H'->H'.wm=H.wm:=by
     intro l;induction l with
     |nil=>intro H H' h;simp [Zw] at h;rw [h]
     |cons p l ih=>
       intro H H' h;obtain ⟨b,Bt⟩:=p;simp only [Zw] at h;split at h
       case h_2=>simp at h
       simp only [aa] at h;obtain ⟨⟨nf,H1⟩,h1,h⟩:=h;simp only at h;split at h
       case h_2=>simp at h
       rw [ih h];show H1.wm=_;exact Wo (f:=Zf 8 false) (fun sh x H x' H' h=>Aq _ sh x H x' H' h) h1
    rw [hB h3,hF h2,hE h1];rfl
  refine ⟨rfl,Of,fun m φ sv je hs ha=> ?_⟩;obtain ⟨m0,φ0,k1,k2⟩:=Dl (keep:=p.keep) hk hs hw ha;obtain ⟨_,m1,r1,r2,r3,r4⟩:=Vv (Hv:=je.H) (φ:=φ0) h1 m0 k1.h;obtain ⟨_,m2',q1',q2',q3',q4,q5'⟩:=OC (Hv:=je.H) h2 m1 r1;obtain ⟨_,m2,b1,b2,b3,_⟩:=PC (Hv:=je.H) h3 m2' q1';have q1:=b1;have q2:=q2'.trans b2;have q3:=q3'.trans b3 q3'.gk.1;rw [<- ha.1] at k2;have uP:Ej s.base m je.H m0 je.H:=k2;have tA:s.base<=m0.top:=by rw [k1.h.len];exact k1.b
  suffices dad:Gl m2 φ0 { e,F,H:=H3,base:=s.base } je/\Ej s.base m sv.H m2 je.H by
    obtain ⟨m3,BZ,c1,c2⟩:=Dl (keep:=p.keep) hk dad.1 hw3 (.refl n je);exact ⟨m3,BZ,c1,dad.2.trans c2 (oa _)⟩
  refine ⟨⟨q1,⟨fun i j Ky=> ?_,fun i row hi=> ?_,k1.f.inj⟩,fun t=>(r4 t _ (k1.e t)).mono q2 (.refl φ0),?_⟩,?_⟩
  · have:=k1.f.Ae i j Ky;rw [q4];exact this
  · obtain ⟨aP,j1,j2⟩:=q5' i row hi;obtain ⟨j,Jb,j3,j4,j5⟩:=k1.f.row i aP j1;exact ⟨j,Jb,j3,j4,(j2 Jb (j5.mono r2)).mono b2⟩
  · have e1:=r3.gk.1;have e2:=q3.gk.1;have e3:=q1.len;show s.base<=H3.bl.length;omega
  · have:=(uP.trans r3 tA).trans q3 (by have:=r3.gk.1;omega);rw [ha.1] at this ⊢;exact this
 where
  Wo {f:Sh->UV->UH->Option (UV×UH)} (hf:∀ sh x H x' H',f sh x H=some (x',H')->H'.wm=H.wm):∀ {Bt:List Sh} {xs:List UV} {H:UH} {l:List UV} {H':UH},Zf.Gh f Bt xs H=some (l,H')->H'.wm=H.wm
    |[],[],H,l,H',h=>by simp [Zf.Gh] at h;rw [h.2]
    |s::ss,x::xs,H,l,H',h=>by
     simp only [Zf.Gh,aa] at h;obtain ⟨⟨x',H1⟩,h1,⟨Ho,H2⟩,h2,h⟩:=h;simp at h;obtain ⟨_,rfl⟩:=h;rw [Wo hf h2,hf _ _ _ _ _ h1]
    |[],_::_,H,l,H',h=>by simp [Zf.Gh] at h
    |_::_,[],H,l,H',h=>by simp [Zf.Gh] at h
  Aq:∀ (d:Nat) (sh:Sh) (x:UV) (H:UH) (x':UV) (H':UH),Zf d false sh x H=some (x',H')->H'.wm=H.wm
    |0,sh,x,H,x',H',h=>by simp [Zf] at h
    |d+1,sh,x,H,x',H',h=>by
     unfold Zf at h;split at h
     · rename_i e;exact absurd e (by omega)
     · simp at h;rw [h.2]
     · simp at h;rw [h.2]
     · simp at h;rw [h.2]
     · simp at h;rw [h.2]
     · simp at h
     · simp at h
     · simp at h;rw [h.2]
     · simp at h;rw [<- h.2];rfl
     · simp at h;rw [<- h.2];rfl
     · split at h
       case h_2=>simp at h
       split at h
       case isFalse=>simp at h
       simp at h;rw [<- h.2];rfl
     · simp at h;rw [<- h.2];rfl
     · simp at h;rw [<- h.2];rfl
     · simp at h;rw [h.2]
     · split at h
       case h_2=>simp at h
       simp at h;rw [h.2]
     · simp at h;rw [h.2]
     · simp at h;rw [<- h.2];rfl
     · simp at h;rw [<- h.2];rfl
     · simp at h;rw [h.2]
     · split at h
       case h_2=>simp at h
       split at h
       case isFalse=>simp at h
       simp at h;rw [<- h.2];rfl
     · split at h
       · split at h
         · simp only [aa] at h;obtain ⟨l,hl,h⟩:=h;simp at h;rw [<- h.2];rfl
         · simp at h
       · simp at h;rw [h.2]
       · simp at h
     · simp only [ia] at h;obtain ⟨⟨l,H1⟩,h1,h⟩:=h;simp at h;rw [<- h.2];exact Wo (fun sh x H x' H' h=>Aq _ sh x H x' H' h) h1
     · simp only [ia] at h;obtain ⟨⟨l,H1⟩,h1,h⟩:=h;simp at h;rw [<- h.2];exact Wo (fun sh x H x' H' h=>Aq _ sh x H x' H' h) h1
     · simp at h
end
def Yn {T E:Type} (step:T->Option (T ⊕ E)):Nat->T->Option E
 |0,_=>none
 |n+1,t=>(step t).bind fun
  | .inl t'=>Yn step n t'
  | .inr e=>some e
def Oa {T E:Type} (step:T->Option (T ⊕ E)) (t:T):Option E:=Yn step V.qm t
section
variable {A:V.oh} {C:V.Callee} {La:Nat->Option (List UV)} {za:List Nat} {n:Nat}
end
end Go.U
namespace Go.U
open Go
variable [TB:sB]
section
variable {A:V.oh} {La:Nat->Option (List UV)} {m:Mp}
theorem Qo {s:St}:∀ {rs:List ResultVar} {l:List UV},results A s rs=some l->∀ (m:Mp) (φ:Nat->Option Nat) (sv:V.S),Gl m φ s sv->∃ l',V.results A sv rs=some l'/\RL m l l'
 |[],l,h,m,φ,sv,hs=>by simp [results] at h;subst h;exact ⟨[],rfl,.nil⟩
 | .tmp t::rs,l,h,m,φ,sv,hs=>by
  simp only [results,aa] at h;obtain ⟨a,ha,l1,hl,h⟩:=h;simp at h;subst h;obtain ⟨l',k1,k2⟩:=Qo hl m φ sv hs;split at ha
  · simp at ha
  · rename_i x Nc hx;simp at ha;subst ha;have:=hs.e t;rw [hx] at this;obtain ⟨a',e1,e2⟩:=this.val Nc;exact ⟨a'::l',by simp [V.results,e1,k1],.cons e2 k2⟩
  · simp at ha
 | .cell p t::rs,l,h,m,φ,sv,hs=>by
  simp only [results,aa] at h;obtain ⟨a,ha,l1,hl,h⟩:=h;simp at h;subst h;obtain ⟨l',k1,k2⟩:=Qo hl m φ sv hs;obtain ⟨a',e1,e2⟩:=Vt ha hs.h hs.f (hs.e p);exact ⟨a'::l',by simp [V.results,e1,k1],.cons e2 k2⟩
theorem Pz {l:List UV} {l':List V.AV} (h:RL m l l'):RV m (result l) (V.result l'):=by
 unfold result V.result;split
 · obtain ⟨a,rfl,ha⟩:=h.one;exact ha
 · rename_i Nc;split
   · rename_i a;have:=h.1
     match l,Nc,this with
     |[x],Nc,_=>exact (Nc x rfl).elim
   · exact .Rc _ _ h.1 h.2
theorem bA {d:Nat} {f:Sh->UV->UH->Option (UV×UH)} (hf:∀ sh x H x' H',f sh x H=some (x',H')->Nb d x'=true->Fz d x H x' H'):
  ∀ {Bt:List Sh} {xs:List UV} {H:UH} {l:List UV} {H':UH},Zf.Gh f Bt xs H=some (l,H')->(∀ x∈l,Nb d x=true)->H'.wm=H.wm/\∀ (m:Mp) (Hv:V.AH) (as:List V.AV),RH m H Hv->RL m xs as->
   ∃ Wl Ic,V.Ig (V.freeze d) Hv as=some (Wl,Ic)/\∃ m',RH m' H' Ic/\RL m' l Wl/\m.Le m'/\Ej m.top m Hv m' Ic
 |[],[],H,l,H',h,hc=>by
  simp [Zf.Gh] at h;obtain ⟨rfl,rfl⟩:=h;refine ⟨rfl,fun m Hv as hh ha=> ?_⟩;have:as=[]:=by have:=ha.1;simpa using this
  subst this;exact ⟨[],Hv,rfl,m,hh,.nil,.refl m,.refl Hv (oa _)⟩
 |s::ss,x::xs,H,l,H',h,hc=>by
  simp only [Zf.Gh,aa] at h;obtain ⟨⟨x',H1⟩,h1,⟨Ho,H2⟩,h2,h⟩:=h;simp at h;obtain ⟨rfl,rfl⟩:=h;obtain ⟨w1,k1⟩:=hf _ _ _ _ _ h1 (hc _ (zc ..));obtain ⟨w2,k2⟩:=bA hf h2 fun y hy=>hc y (Gb _ hy)
  refine ⟨w2.trans w1,fun m Hv as hh ha=> ?_⟩;cases as with
  |nil=>have:=ha.1;simp at this
  |cons a as=>
   have hr:RL m xs as:=⟨by have:=ha.1;simpa using this,fun i y b k1 k2=>ha.2 (i+1) y b (by simpa using k1) (by simpa using k2)⟩;obtain ⟨a',mS,e1,m1,e2,e3,e4,e5⟩:=k1 m Hv a hh (ha.2 0 x a rfl rfl);obtain ⟨Wl,Hv2,e6,m2,e7,e8,e9,aB⟩:=k2 m1 mS as e2 (hr.mono e4);exact ⟨a'::Wl,Hv2,by simp only [V.Ig,e1,da,e6],m2,e7,.cons (e3.mono e9) e8,e4.trans e9,e5.trans aB e5.gk.1⟩
 |[],_::_,H,l,H',h,hc=>by simp [Zf.Gh] at h
 |_::_,[],H,l,H',h,hc=>by simp [Zf.Gh] at h
theorem HE:∀ (d:Nat) (sh:Sh) (x:UV) (H:UH) (x':UV) (H':UH),Zf d true sh x H=some (x',H')->Nb d x'=true->Fz d x H x' H'
 |0,sh,x,H,x',H',h,hc=>by simp [Zf] at h
 |d+1,sh,x,H,x',H',h,hc=>by
  have h0:=h;unfold Zf at h;split at h
  · rename_i e;exact absurd e (by omega)
  · simp at h;obtain ⟨rfl,rfl⟩:=h;exact .same hc
  · simp at h;obtain ⟨rfl,rfl⟩:=h;simp [Nb,closed] at hc
  · simp at h;obtain ⟨rfl,rfl⟩:=h;exact ⟨rfl,fun m Hv a hh hx=>by cases hx;exact ⟨.Wa,Hv,rfl,.same hh (.Qh _ _ (.inl rfl))⟩⟩
  · simp at h;obtain ⟨rfl,rfl⟩:=h;exact ⟨rfl,fun m Hv a hh hx=>by cases hx;exact ⟨.Kd,Hv,rfl,.same hh (.Qh _ _ (.inr rfl))⟩⟩
  · have he:=nC ‹d+1=Nat.succ _›;subst he;split at h
    case isFalse=>simp at h
    rename_i uy;simp at uy;simp only [aa] at h;obtain ⟨l,hl,h⟩:=h;simp at h;obtain ⟨rfl,rfl⟩:=h;exact XJ uy.1 uy.2 hl (.inl ⟨_,_,rfl⟩)
  · have he:=nC ‹d+1=Nat.succ _›;subst he;split at h
    case isFalse=>simp at h
    rename_i uy;simp at uy;simp only [aa] at h;obtain ⟨l,hl,h⟩:=h;simp at h;obtain ⟨rfl,rfl⟩:=h;unfold S5 at hl;split at hl
    · rename_i c' l' hb;split at hl
      · rename_i hc;subst hc;injection hl with hl;subst hl
        exact XJ uy.1 uy.2 (by simp [rowsOf,hb]) (.inr rfl)
      · simp at hl
    · rename_i c' l' hb;split at hl
      · rename_i hc;obtain ⟨rfl,lJ⟩:=hc;injection hl with hl;subst hl
        exact NH lJ uy.2 hb
      · simp at hl
    · simp at hl
  · simp at h;obtain ⟨rfl,rfl⟩:=h;exact .same hc
  · simp at h;obtain ⟨rfl,rfl⟩:=h;simp [Nb,closed] at hc
  · simp at h;obtain ⟨rfl,rfl⟩:=h;simp [Nb,closed] at hc
  · split at h
    case h_2=>simp at h
    split at h
    case isFalse=>simp at h
    simp at h;obtain ⟨rfl,rfl⟩:=h;simp [Nb,closed] at hc
  · simp at h;obtain ⟨rfl,rfl⟩:=h;simp [Nb,closed] at hc
  · simp at h;obtain ⟨rfl,rfl⟩:=h;simp [Nb,closed] at hc
  · simp at h;obtain ⟨rfl,rfl⟩:=h;simp [Nb,closed] at hc
  · split at h
    case h_2=>simp at h
    simp at h;obtain ⟨rfl,rfl⟩:=h;simp [Nb,closed] at hc
  · simp at h;obtain ⟨rfl,rfl⟩:=h;simp [Nb,closed] at hc
  · simp at h;obtain ⟨rfl,rfl⟩:=h;simp [Nb,closed] at hc
  · simp at h;obtain ⟨rfl,rfl⟩:=h;simp [Nb,closed] at hc
  · simp at h;obtain ⟨rfl,rfl⟩:=h;simp [Nb,closed] at hc
  · split at h
    case h_2=>simp at h
    split at h
    case isFalse=>simp at h
    simp at h;obtain ⟨rfl,rfl⟩:=h;simp [Nb,closed] at hc
  · split at h
    · split at h
      · simp only [aa] at h;obtain ⟨l,hl,h⟩:=h;simp at h;obtain ⟨rfl,rfl⟩:=h;simp [Nb,closed] at hc
      · simp at h
    · simp at h;obtain ⟨rfl,rfl⟩:=h;simp [Nb,closed] at hc
    · simp at h
  · have he:=nC ‹d+1=Nat.succ _›;subst he;simp only [ia] at h;obtain ⟨⟨l,H1⟩,h1,h⟩:=h;simp at h;obtain ⟨rfl,rfl⟩:=h;obtain ⟨w,k⟩:=bA (fun sh x H x' H' h hc=>HE _ sh x H x' H' h hc) h1 (Yb.1 (by simpa [Nb] using hc));refine ⟨w,fun m Hv a hh ha=> ?_⟩;cases ha with
    |agg _ as hl hr=>
      obtain ⟨Wl,Ic,e1,m',e2,e3,e4,e5⟩:=k m Hv as hh ⟨hl,hr⟩;exact ⟨.agg Wl,Ic,by simp only [V.freeze,e1,da],m',e2,.agg _ _ e3.1 e3.2,e4,e5⟩
  · have he:=nC ‹d+1=Nat.succ _›;subst he;simp only [ia] at h;obtain ⟨⟨l,H1⟩,h1,h⟩:=h;simp at h;obtain ⟨rfl,rfl⟩:=h;obtain ⟨w,k⟩:=bA (fun sh x H x' H' h hc=>HE _ sh x H x' H' h hc) h1 (Yb.1 (by simpa [Nb] using hc));refine ⟨w,fun m Hv a hh ha=> ?_⟩;cases ha with
    |Rc _ as hl hr=>
      obtain ⟨Wl,Ic,e1,m',e2,e3,e4,e5⟩:=k m Hv as hh ⟨hl,hr⟩;exact ⟨.Rc Wl,Ic,by simp only [V.freeze,e1,da],m',e2,.Rc _ _ e3.1 e3.2,e4,e5⟩
  · simp at h
def Me (C:V.Callee) (f:FuncId) (spec:Spec):Prop:=
 ∀ (X:Type) (args:List UV) (H:UH) (K:UV->UH->Option X) (out:X),spec X args H K=some out->
  ∃ r H',K r H'=some out/\H'.wm=H.wm/\∀ (m:Mp) (Hv:V.AH) (as cs:List V.AV),RH m H Hv->RL m args (as++cs)->∃ r' Ic,C (.fn f cs) as Hv=some (r',Ic)/\Co m Hv r H' r' Ic
theorem Me.imp {C:V.Callee} {f:FuncId} {g g':Spec} (h:Me C f g) (hi:∀ X args H K out,g' X args H K=some out->g X args H K=some out):Me C f g':=
 fun X args H K out ho=>h X args H K out (hi X args H K out ho)
theorem rB {φ:Nat->Option Nat}:∀ {args:List UV} {as:List V.AV} {i:Nat},RL m args as->RE m φ (be args i) (V.be as i)
 |[],as,i,h=>by
  have:as=[]:=by have:=h.1;simpa using this
  subst this;exact fun t=>trivial
 |x::xs,as,i,h=>by
  cases as with
  |nil=>have:=h.1;simp at this
  |cons a as=>
   have hr:RL m xs as:=⟨by have:=h.1;simpa using this,fun i y b k1 k2=>h.2 (i+1) y b (by simpa using k1) (by simpa using k2)⟩;exact (rB (i:=i+1) hr).cons i (h.2 0 x a rfl rfl).rs
theorem rH {m:Mp} {Hv:V.AH}:∀ {l:List Nat} {H:UH},RH m H Hv->RH m (Zt l H) Hv
 |[],_,h=>h
 |b::l,_,h=>rH (l:=l) (h.kill b)
theorem qH:∀ {l:List Nat} {H:UH},(Zt l H).wm=H.wm
 |[],_=>rfl
 |b::l,H=>(qH (l:=l) (H:=Ma H b .dead)).trans rfl
theorem Co.kill {m:Mp} {Hv Ic:V.AH} {v:UV} {H':UH} {a:V.AV} (l:List Nat) (h:Co m Hv v H' a Ic):Co m Hv v (Zt l H') a Ic:=by
 obtain ⟨m1,e1,e2,e3,e4⟩:=h;exact ⟨m1,rH e1,e2,e3,e4⟩
theorem rU (hg:xe A La) {env:Env} {k:Nat} (hc:Sa (V.call A k) env.call) {f:FuncId} {fn:Func} {c:Code} {za:List Nat} {sh:Sh} {fz:Bool}
  (wo:A.ext f=none) (Lm:A.fns f=some fn) (sx:fn.body=some c) (vo:A.loc f=za) (MM:A.keep f=ua fn.ntmps) (Tk:A.jS f=fz)
  (hl:∀ c'∈loops env.join c,Va env.loop (V.code A (V.call A k) true za (ua fn.ntmps) fn.ntmps) c'):
  Me (V.call A (k+1)) f (fun X args H K=>QH A La env za fn sh fz args H K):=by
 intro X args H K out h;simp only [QH,sx] at h;split at h
 case isFalse=>simp at h
 rename_i hlen;obtain ⟨ex,s1,h1,h2⟩:=gg hg hc hl h;have hex:(∀ id,ex≠ .exit id)/\(results A s1 fn.results.toList).bind (fun l=>(Zf 8 fz sh.inner (result l) s1.H).bind fun (r,H1)=>if (!fz||Nb 8 r)&&decide (H1.wm<=H.bl.length) then K (gc H.bl.length r (Zt sh.gA H1)).1 (gc H.bl.length r (Zt sh.gA H1)).2 else none)=some out:=by
  cases ex with
  |exit id=>simp at h1
  |normal=>exact ⟨fun _=>by simp,h1⟩
  |ret=>exact ⟨fun _=>by simp,h1⟩
 obtain ⟨Nc,h3⟩:=hex;simp only [aa] at h3;obtain ⟨l,YC,⟨r,H0⟩,hmo,h3⟩:=h3;split at h3
 case isFalse=>simp at h3
 rename_i T9;simp only [Ia,decide_eq_true_eq] at T9;have tK:=T9.1;have sah:=T9.2;generalize hH':Zt sh.gA H0=H' at h3;have hwk:H'.wm=H0.wm:=by rw [<- hH'];exact qH
 have hgw:H'.wm<=H.bl.length:=by rw [hwk];exact sah
 have start:∀ (m:Mp) (Hv:V.AH) (as cs:List V.AV),RH m H Hv->RL m args (as++cs)->∃ Jj m1 rz l',V.code A (V.call A k) true za (ua fn.ntmps) fn.ntmps c ⟨V.be (as++cs) 0,[],Hv⟩=some (ex,Jj)/\Gl m1 rz s1 Jj/\Ej H.bl.length m Hv m1 Jj.H/\V.results A Jj fn.results.toList=some l'/\RL m1 l l':=fun m Hv as cs hh ha=>by
  obtain ⟨Jj,m1,rz,e1,e2,e3⟩:=h2.2.2 m (fun _=>none) ⟨V.be (as++cs) 0,[],Hv⟩ ⟨hh,⟨fun i j h=>by simp at h,fun i row h=>by simp at h,fun i i' j h=>by simp at h⟩,rB ha,oa _⟩;obtain ⟨l',e4,e5⟩:=Qo YC m1 rz Jj e2;exact ⟨Jj,m1,rz,l',e1,e2,e3,e4,e5⟩
 have Sf:∀ (Hv:V.AH) (as cs:List V.AV) (Jj:V.S) (l':List V.AV),(as++cs).length<=fn.ntmps->V.code A (V.call A k) true za (ua fn.ntmps) fn.ntmps c ⟨V.be (as++cs) 0,[],Hv⟩=some (ex,Jj)->V.results A Jj fn.results.toList=some l'->
   V.call A (k+1) (.fn f cs) as Hv=if fz then V.freeze 8 Jj.H (V.result l') else some (V.result l',Jj.H):=fun Hv as cs Jj l' hle e1 e2=>by
  simp only [V.call,wo,Lm,sx,vo,MM,Tk];rw [if_pos hle,e1];cases ex with
  |exit id=>exact (Nc id rfl).elim
  |normal=>simp only [da,e2]
  |ret=>simp only [da,e2]
 have fin:∀ {m m1:Mp} {Hv mS:V.AH} {r':V.AV} {Ic:V.AH},RH m H Hv->Ej H.bl.length m Hv m1 mS->Co m1 mS r H' r' Ic->H.bl.length<=m1.top->Co m Hv (gc H.bl.length r H').1 (gc H.bl.length r H').2 r' Ic:=fun {m m1 Hv mS r' Ic} hh Bo ⟨m20,aB,e20,e3,e4⟩ jy=>by
  have DH:Ej H.bl.length m Hv m20 Ic:=Bo.trans e4 jy;have Wb:Gl m20 (fun _=>none) ⟨[(0,.v r)],[],H',H.bl.length⟩ ⟨[(0,.v r')],[],Ic⟩:=⟨aB,⟨fun i j h=>by simp at h,fun i row h=>by simp at h,fun i i' j h=>by simp at h⟩,fun t=>by
   simp only [get,V.get];split
   · exact e20.rs
   · exact trivial,by have:=DH.gk.1;rw [aB.len] at this;exact this⟩
  obtain ⟨m2,Dy,c1,c2⟩:=Dl (keep:=[0]) (n:=1) (by simp) Wb hgw (.refl 1 _);have e1:RH m2 (gc H.bl.length r H').2 Ic:=c1.h;have e2:RV m2 (gc H.bl.length r H').1 r':=by
   have:=c1.e 0;simp only [gc]
   revert this
   simp only [V.get,if_true];cases get (compact [0] ⟨[(0,.v r)],[],H',H.bl.length⟩).e 0 with
   |loc i c=>exact fun h=>h.elim
   |v x=>intro h;cases x<;>first|exact .Qb _|exact h
  have YE:Ej m.top m Hv m2 Ic:=by rw [hh.len];exact DH.trans c2 (oa _)
  refine ⟨m2,e1,e2,⟨fun b _ x hb=> ?_,YE.gk.1,fun b hb=>(YE.gk.2 b hb).2⟩,YE⟩;have:=YE.gk.2 b (by rw [hh.len];exact (hh.Ae b x hb).1);exact ⟨by rw [this.1];exact hb,by rw [this.2]⟩
 cases fz with
 |true=>
  simp at tK;obtain ⟨w,hf⟩:=HE 8 sh.inner _ _ _ _ hmo tK;refine ⟨_,_,h3,by show H'.wm=_;rw [hwk,w,h2.2.1],fun m Hv as cs hh ha=> ?_⟩;obtain ⟨Jj,m1,rz,l',e1,e2,e3,e4,e5⟩:=start m Hv as cs hh ha;obtain ⟨r',Ic,k1,k2⟩:=hf m1 Jj.H _ e2.h (Pz e5);exact ⟨r',Ic,by rw [Sf Hv as cs Jj l' (by rw [ha.1];exact hlen) e1 e4];exact k1,fin hh e3 (hH' ▸ k2.kill sh.gA) e3.gk.1⟩
 |false=>
  have hmw:=bj.Aq 8 sh.inner _ _ _ _ hmo;refine ⟨_,_,h3,by show H'.wm=_;rw [hwk,hmw,h2.2.1],fun m Hv as cs hh ha=> ?_⟩;obtain ⟨Jj,m1,rz,l',e1,e2,e3,e4,e5⟩:=start m Hv as cs hh ha;obtain ⟨_,m2,k1,k2,k3,k4⟩:=jm 8 sh.inner _ _ _ _ hmo m1 e2.h;exact ⟨V.result l',Jj.H,by rw [Sf Hv as cs Jj l' (by rw [ha.1];exact hlen) e1 e4];rfl,fin hh e3 (hH' ▸ Co.kill sh.gA ⟨m2,k1,k4 _ (Pz e5),k2,k3⟩) e3.gk.1⟩
theorem mG {C:V.Callee}:∀ {l:List (FuncId×Spec)},(∀ p∈l,Me C p.1 p.2)->∀ f,Me C f (bB l f)
 |[],_,f,X,args,H,K,out,h=>by simp [bB] at h
 |(g,sp)::l,hl,f,X,args,H,K,out,h=>by
  simp only [bB] at h;split at h
  · rename_i e;subst e;exact hl (f,sp) (zc ..) X args H K out h
  · exact mG (fun p hp=>hl p (Gb _ hp)) f X args H K out h
theorem xY {C:V.Callee} {l:List (FuncId×Spec)} (hl:∀ p∈l,Me C p.1 p.2):Sa C (fun X fv args H K=>match fv with| .fn f cs=>bB l f X (args++cs) H K|_=>none):=by
 intro X fv args H K out h;simp only at h;split at h
 · rename_i f cs;obtain ⟨r,H',h1,h2,h3⟩:=mG hl f X _ H K out h;refine ⟨r,H',h1,h2,fun m Hv vZ Yg hh hf ha=> ?_⟩;cases hf with
   |fn _ _ as Pf hr=>exact h3 m Hv Yg as hh (ha.append ⟨Pf,hr⟩)
 · simp at h
theorem jB {C:V.Callee} {spec:(X:Type)->UV->List UV->UH->(UV->UH->Option X)->Option X} (hs:Sa C spec):Sa C (fun X fv args H K=>sG spec fv args H K):=by
 intro X fv args H K out h;simp only [sG] at h;generalize Aad:(reach H 64 ((fv::args).flatMap (ids 8)) []).filter (fun b=>Sd (H.bl.getD b .dead))=bs0 at h;have Zac:bs0.Nodup:=by rw [<- Aad];exact (aj List.nodup_nil).filter _
 have kah:∀ b∈bs0,live H b:=fun b hb=>by
   rw [<- Aad,th] at hb;have:=hb.2;cases h1:H.bl[b]? with
   |none=>rw [Ea,h1] at this;simp [Sd] at this
   |some y=>rw [Ea,h1] at this;exact ⟨y,h1,this⟩
 generalize ead:bs0.filter (fun b=>decide (b<H.wm))=lo at h;generalize N5:lo++bs0.filter (fun b=>decide (H.wm<=b))=bs at h;have s9:bs.Nodup:=by
   rw [<- N5,<- ead];refine By.2 ⟨Zac.filter _,Zac.filter _,fun x hx y hy=> ?_⟩;simp only [th,decide_eq_true_eq] at hx hy;omega
 have lK:∀ b∈bs,live H b:=fun b hb=>by
   rw [<- N5,<- ead,Tn,th,th] at hb;rcases hb with hb|hb<;>exact kah b hb.1
 have lad:∀ (j b:Nat),bs[j]?=some b->lo.length<=j->H.wm<=b:=fun j b hj hle=>by
   rw [<- N5,Ka hle] at hj;have:=jb hj
   simpa only [th,decide_eq_true_eq] using (th.1 this).2
 generalize IM:lo.length=w0 at h lad;obtain ⟨r,H1,h1,yT,h2⟩:=hs X _ _ _ _ out h;simp only at yT;generalize C5:(reach H1 64 (ua bs.length++ids 8 r) []).filter (fun b=>decide (bs.length<=b))=news at h1;have hnn:news.Nodup:=by rw [<- C5];exact (aj List.nodup_nil).filter _
 have Bj:∀ b∈news,bs.length<=b:=fun b hb=>by rw [<- C5,th] at hb;simpa using hb.2
 refine ⟨_,_,h1,rfl,fun m Hv vZ Yg hh hf ha=> ?_⟩
 let m0:Mp:={ ι:=fun j s=>(bs[j]?).bind fun c=>m.ι c s,len:=fun j=>m.len (bs.getD j 0),top:=bs.length }
 have gK:Ren m m0 (fun b=>pos b bs 0):=fun b b' hb=>by
   have:=iP hb;exact ⟨by simp [m0,this],by simp [m0,this],Ua this⟩
 have w9:∀ j {s} x,m0.ι j s=some x->∃ b,bs[j]?=some b/\m.ι b s=some x:=fun j s x hj=>by simpa [m0,aa] using hj
 have eaj:w0<=bs.length:=by rw [<- IM,<- N5];simp
 have Kag:RH m0 ⟨bs.map fun b=>Is (fun b=>pos b bs 0) (H.bl.getD b .dead),w0⟩ Hv:=by
   refine ⟨fun b _ x hb=> ?_,fun b' y hy=> ?_,fun b1 b2 _ _ x l1 l2 e1 e2=> ?_,fun b _ x hb WC=> ?_,hh.top,by simp [m0]⟩
   · obtain ⟨c,h1,h2⟩:=w9 b x hb;exact ⟨by simpa using Ua h1,(hh.Ae c x h2).2⟩
   · simp only [Ob,ia] at hy;obtain ⟨b,h1,rfl⟩:=hy;rw [Ea];cases h2:H.bl[b]? with
     |none=>trivial
     |some y=>exact RB.yj gK (hh.Oc b y h2) (by simp [m0,h1]) (by simp [m0,h1])
   · obtain ⟨c1,k1,k2⟩:=w9 b1 x e1;obtain ⟨c2,k3,k4⟩:=w9 b2 x e2;obtain ⟨this,h5⟩:=hh.zm c1 c2 x (lK c1 (jb k1)) (lK c2 (jb k3)) k2 k4;subst this;exact ⟨wq s9 k1 k3,h5⟩
   · obtain ⟨c,k1,k2⟩:=w9 b x hb;have nc:=Ua k1;simp only at WC;exact hh.wm c x k2 (lad b c k1 WC)
 have XB:RV m0 (yj (fun b=>pos b bs 0) 8 fv) vZ:=RV.yj gK 8 hf;have har:RL m0 (args.map (yj (fun b=>pos b bs 0) 8)) Yg:=ha.yj gK 8;obtain ⟨r',Ic,k1,m1,k2,k3,k4,k5⟩:=h2 m0 Hv vZ Yg Kag XB har;refine ⟨r',Ic,k1,?_⟩;have hold:∀ j,j<bs.length->m1.ι j=m0.ι j/\m1.len j=m0.len j:=fun j hj=>k5.gk.2 j hj
 let m':Mp:={ ι:=fun b=>if b<H.bl.length then m.ι b else fun s=>(news[b-H.bl.length]?).bind fun c=>m1.ι c s,len:=fun b=>if b<H.bl.length then m.len b else m1.len (news.getD (b-H.bl.length) 0),top:=H.bl.length+news.length }
 have nv:∀ b,b<H.bl.length->m'.ι b=m.ι b/\m'.len b=m.len b:=fun b hb=>by simp [m',hb]
 have OM:∀ i b,news[i]?=some b->m'.ι (H.bl.length+i)=m1.ι b/\m'.len (H.bl.length+i)=m1.len b:=fun i b hb=>by
   have:¬ H.bl.length+i<H.bl.length:=by omega
   simp [m',hb,this]
 have M5:∀ b∈bs,b<H.bl.length:=fun b hb=>by obtain ⟨y,hy,_⟩:=lK b hb;exact Ua hy
 let ψ:Nat->Option Nat:=fun b=>if b<bs.length then bs[b]? else (pos b news 0).map (H.bl.length+ ·)
 have hψ:Ren m1 m' ψ:=fun b b' hb=>by
   simp only [ψ] at hb;split at hb
   · rename_i nc;have hm:=jb hb;have h3:=hold b nc;obtain ⟨l1,l2⟩:=nv b' (M5 b' hm);rw [l1,l2,h3.1,h3.2];refine ⟨by simp [m0,hb],by simp [m0,hb],?_⟩;have:=M5 b' hm;show b'<H.bl.length+news.length;omega
   · simp only [ia] at hb;obtain ⟨i,hi,rfl⟩:=hb;have hni:=iP hi;obtain ⟨l1,l2⟩:=OM i b hni;rw [l1,l2];refine ⟨rfl,rfl,?_⟩;have:=Ua hni;show H.bl.length+i<H.bl.length+news.length;omega
 have hle:m.Le m':=⟨fun b _ x hb=>by
   have:=(hh.Ae b x hb).1;rw [(nv b this).1,(nv b this).2];exact ⟨hb,rfl⟩,by rw [hh.len];simp [m'],fun b hb=>(nv b (by rw [<- hh.len];exact hb)).2⟩
 have iK:∀ b {s} x,live H b->m.ι b s=some x->pos b bs 0=none->∀ j s',m0.ι j s'≠some x:=fun b s x hl hb hp j s' hj=>by
   obtain ⟨c,e1,e2⟩:=w9 j x hj;have hc:=jb e1;have:=hh.inj b c x hl (lK c hc) hb e2;subst this;obtain ⟨k,hk⟩:=qM (i:=0) hc;rw [hp] at hk;simp at hk
 generalize JH:(ua H.bl.length).map (fun b=>match pos b bs 0 with|some j=>Is ψ (H1.bl.getD j .dead)|none=>H.bl.getD b .dead)++news.map (fun b=>Is ψ (H1.bl.getD b .dead))=u4;have LM:u4.length=H.bl.length+news.length:=by rw [<- JH];simp
 have J5:∀ b,b<H.bl.length->u4[b]?=some (match pos b bs 0 with|some j=>Is ψ (H1.bl.getD j .dead)|none=>H.bl.getD b .dead):=fun b hb=>by
   rw [<- JH,Fa (by simpa using hb)];simp [hb]
 have hgh:∀ b y,H.bl.length<=b->u4[b]?=some y->∃ c,news[b-H.bl.length]?=some c/\y=Is ψ (H1.bl.getD c .dead):=fun b y hb hy=>by
   rw [<- JH,Ka (by simpa using hb)] at hy;simp only [Ec,List.length_range,Ob,ia] at hy;obtain ⟨c,e1,e2⟩:=hy;exact ⟨c,e1,e2.symm⟩
 have PT:∀ j,Sd (Is ψ (H1.bl.getD j .dead))=true->live H1 j:=fun j hj=>by
   rw [RC,Ea] at hj;cases h3:H1.bl[j]? with
   |none=>rw [h3] at hj;simp [Sd] at hj
   |some y=>rw [h3] at hj;exact ⟨y,h3,hj⟩
 have mK:∀ b,Sd (H.bl.getD b .dead)=true->live H b:=fun b hb=>by
   rw [Ea] at hb;cases h3:H.bl[b]? with
   |none=>rw [h3] at hb;simp [Sd] at hb
   |some y=>rw [h3] at hb;exact ⟨y,h3,hb⟩
 have E5:∀ b,live ⟨u4,H.wm⟩ b->(∃ j,live H1 j/\m'.ι b=m1.ι j/\((j<bs.length/\bs[j]?=some b)\/(bs.length<=j/\H.bl.length<=b/\news[b-H.bl.length]?=some j)))\/(b<H.bl.length/\live H b/\pos b bs 0=none):=fun b ⟨y,hy,hl⟩=>by
   have If:u4[b]?=some y:=hy;rcases Rb b H.bl.length with nc|Qr
   · rw [J5 b nc] at If;simp at If;cases hp:pos b bs 0 with
     |none=>rw [hp] at If;simp at If;subst If;exact .inr ⟨nc,mK b (by simpa using hl),rfl⟩
     |some j=>
       rw [hp] at If;simp only at If;subst If;have hj:=iP hp;have KP:=Ua hj;refine .inl ⟨j,PT j (by simpa using hl),?_,.inl ⟨KP,hj⟩⟩;rw [(nv b nc).1,(hold j KP).1];simp [m0,hj]
   · obtain ⟨c,e1,rfl⟩:=hgh b y Qr If;have he:H.bl.length+(b-H.bl.length)=b:=by omega
     refine .inl ⟨c,PT c hl,?_,.inr ⟨Bj c (jb e1),Qr,e1⟩⟩;have:=(OM _ c e1).1;rw [he] at this;exact this
 have Lag:RH m' ⟨u4,H.wm⟩ Ic:=by
   refine ⟨fun b _ x hb=> ?_,fun b y hy=> ?_,fun b1 b2 _ _ x l1 l2 e1 e2=> ?_,fun b _ x hb WC=> ?_,by rw [k5.wm];exact Ib hh.top k5.len,by simp [m',LM]⟩
   · show b<u4.length/\x<Ic.bl.length;rw [LM];rcases Rb b H.bl.length with nc|Qr
     · rw [(nv b nc).1] at hb;have:=hh.Ae b x hb;have:=k5.len;omega
     · simp only [m'] at hb;rw [if_neg (by omega)] at hb;simp only [aa] at hb;obtain ⟨c,e1,e2⟩:=hb;have:=Ua e1;exact ⟨by omega,(k2.Ae c x e2).2⟩
   · have If:u4[b]?=some y:=hy;rcases Rb b H.bl.length with nc|Qr
     · rw [J5 b nc] at If;simp only [yc] at If;cases hp:pos b bs 0 with
       |none=>
         rw [hp] at If;simp only at If;subst If;rw [Ea];cases h3:H.bl[b]? with
         |none=>trivial
         |some y=>
           refine (hh.Oc b y h3).keep hle (nv b nc).1 (nv b nc).2 fun hl _ x hx=> ?_
           exact k5.stay x (hh.Ae b x hx).2 fun j s hj=>iK b x ⟨y,h3,hl⟩ hx hp j s hj
       |some j=>
         rw [hp] at If;simp only at If;subst If;have hj:=iP hp;have KP:=Ua hj;rw [Ea];cases h3:H1.bl[j]? with
         |none=>trivial
         |some y=>exact RB.yj hψ (k2.Oc j y h3) (by rw [(nv b nc).1,(hold j KP).1];simp [m0,hj]) (by rw [(nv b nc).2,(hold j KP).2];simp [m0,hj])
     · obtain ⟨c,e1,rfl⟩:=hgh b y Qr If;have he:H.bl.length+(b-H.bl.length)=b:=by omega
       have h4:=OM _ c e1;rw [he] at h4;rw [Ea];cases h3:H1.bl[c]? with
       |none=>trivial
       |some y=>exact RB.yj hψ (k2.Oc c y h3) h4.1 h4.2
   · rcases E5 b1 l1 with ⟨j1,g1,g2,g3⟩|⟨g1,g2,g3⟩<;>rcases E5 b2 l2 with ⟨j2,f1,f2,f3⟩|⟨f1,f2,f3⟩
     · rw [g2] at e1;rw [f2] at e2;obtain ⟨this,h5⟩:=k2.zm j1 j2 x g1 f1 e1 e2;subst this;refine ⟨?_,h5⟩;rcases g3 with ⟨g3,g4⟩|⟨g3,g4,g5⟩<;>rcases f3 with ⟨f3,f4⟩|⟨f3,f4,f5⟩
       · rw [g4] at f4;simpa using f4
       · omega
       · omega
       · have:=wq hnn g5 f5;omega
     · exfalso;rw [g2] at e1;rw [(nv b2 f1).1] at e2;rcases g3 with ⟨g3,g4⟩|⟨g3,g4,g5⟩
       · rw [(hold j1 g3).1] at e1;exact iK b2 x f2 e2 f3 j1 _ e1
       · rcases k5.new j1 x e1 with ⟨b0,s0,tA⟩|Qr
         · exact iK b2 x f2 e2 f3 b0 s0 tA
         · have:=(hh.Ae b2 x e2).2;omega
     · exfalso;rw [f2] at e2;rw [(nv b1 g1).1] at e1;rcases f3 with ⟨f3,f4⟩|⟨f3,f4,f5⟩
       · rw [(hold j2 f3).1] at e2;exact iK b1 x g2 e1 g3 j2 _ e2
       · rcases k5.new j2 x e2 with ⟨b0,s0,tA⟩|Qr
         · exact iK b1 x g2 e1 g3 b0 s0 tA
         · have:=(hh.Ae b1 x e1).2;omega
     · rw [(nv b1 g1).1] at e1;rw [(nv b2 f1).1] at e2;exact hh.zm b1 b2 x g2 f2 e1 e2
   · have T8:H.wm<=b:=WC;rw [k5.wm];rcases Rb b H.bl.length with nc|Qr
     · rw [(nv b nc).1] at hb;exact hh.wm b x hb T8
     · simp only [m'] at hb;rw [if_neg (by omega)] at hb;simp only [aa] at hb;obtain ⟨c,e1,e2⟩:=hb;have:=Bj c (jb e1);have h5:=k2.wm c x e2 (by rw [yT];omega);rw [k5.wm] at h5;exact h5
 refine ⟨m',?_,RV.yj hψ 8 k3,hle,⟨⟨by rw [hh.len];simp [m'],fun b hb=>nv b (by rw [<- hh.len];exact hb)⟩,fun x hx hn=>k5.stay x hx fun j s hj=> ?_,fun b s x hb=> ?_,k5.len,k5.wm⟩⟩
 · exact Lag
 · obtain ⟨c,e1,e2⟩:=w9 j x hj;exact hn c s e2
 · rcases Rb b H.bl.length with nc|Qr
   · rw [(nv b nc).1] at hb;exact .inl ⟨b,s,hb⟩
   · simp only [m'] at hb;rw [if_neg (by omega)] at hb;simp only [aa] at hb;obtain ⟨c,e1,e2⟩:=hb;rcases k5.new c x e2 with ⟨b0,s0,tA⟩|Qr
     · obtain ⟨c0,_,e3⟩:=w9 b0 x tA;exact .inl ⟨c0,_,e3⟩
     · exact .inr Qr
theorem YI {C:V.Callee} {l:List (FuncId×Spec)} (hl:∀ p∈l,Me C p.1 p.2):Sa C (fun X fv args H K=>uO l X fv args H K):=jB (xY hl)
end
end Go.U
namespace Go.U
open Go
variable [TB:sB]
section
variable {A:V.oh} {C:V.Callee} {La:Nat->Option (List UV)} {za:List Nat} {n:Nat} {X:Type} {out:X}
theorem JD {e:List (Nat×V.SV)}:∀ (is:List Nat),∃ env,V.Px e is=some env/\∀ t,V.get (V.ve env) t=if t∈is then (match V.get e t with| .v a=> .v a|_=> .v .Qb) else .v .Qb
 |[]=>⟨[],rfl,fun t=>by simp [V.ve,V.get]⟩
 |i::is=>by
  obtain ⟨env,h1,h2⟩:=JD (e:=e) is;refine ⟨(i,match V.get e i with| .v a=>a|_=> .Qb)::env,?_,fun t=> ?_⟩
  · simp only [V.Px,h1];cases V.get e i<;>rfl
  · simp only [V.ve,V.get,h2 t];by_cases ht:t=i
    · subst ht;simp only [if_true,oc,true_or];cases V.get e t<;>rfl
    · simp only [if_neg ht,oc,ht,false_or,if_false]
theorem sY (e:List (Nat×US)) (ks:List Nat) (t:Nat):get (ve (LL e ks)) t=if t∈ks then .v (match get e t with| .v a=>a|_=> .Qb) else .v .Qb:=by
 have:ve (LL e ks)=ks.map fun i=>(i,US.v (match get e i with| .v a=>a|_=> .Qb)):=by unfold ve LL;rw [List.map_map];rfl
 rw [this,xA]
theorem P3 {m:Mp} {φ:Nat->Option Nat} {e:List (Nat×US)} {ev:List (Nat×V.SV)} {ks:List Nat} (h:RE m φ e ev) (hk:∀ t∈ks,t<n):
   ∃ env,V.Px ev (ua n)=some env/\∀ t,match get (ve (LL e ks)) t,V.get (V.ve env) t with
     | .v y,.v a=>RV m y a
     |_,_=>False:=by
 obtain ⟨env,h1,h2⟩:=JD (e:=ev) (ua n);refine ⟨env,h1,fun t=> ?_⟩;rw [h2 t,sY];by_cases ht:t∈ks
 · rw [if_pos ht,if_pos (List.mem_range.2 (hk t ht))];have:=h t
   revert this
   cases get e t with
   |loc i c=>
     cases V.get ev t with
     |loc j c'=>exact fun _=> .Qb _
     |v a=>exact fun h=>h.elim
   |v y=>
     cases hv:V.get ev t with
     |loc j c'=>intro h;cases y<;>first|exact .Qb _|exact h.elim
     |v a=>intro h;cases y<;>first|exact .Qb _|exact h
 · rw [if_neg ht];by_cases ht2:t∈ua n
   · rw [if_pos ht2];cases V.get ev t<;>exact .Qb _
   · rw [if_neg ht2];exact .Qb _
theorem KS (hg:xe A La) {env:Env} (hc:Sa C env.call) {id:Nat} {ks:List Nat} {g:Operand} {ps:Array Tmp} {a b:Code} (fK:TB.rf id=⟨n,ps.toList,a,b⟩) {s:St} {K:V.Ex->St->Option X}
   (h:WG A La env id n ks g s K=some out):∃ ex s',K ex s'=some out/\DO (V.code A C true za (ua n) n (.rangeFunc g ps a b)) s ex s':=by
 unfold WG at h;simp only [aa] at h;obtain ⟨fv,LP,h⟩:=h;split at h
 case h_2=>simp at h
 rename_i f cs;generalize hcd:((match A.fns f with|some fn=>fn.body.isSome|none=>false)&&ks.all (fun i=>decide (i<n)))=cd at h;cases cd
 case false=>simp at h
 have hif:=hcd;rw [if_pos rfl] at h;simp only [Ia,Yb,decide_eq_true_eq] at hif;obtain ⟨Lm,hks⟩:=hif;obtain ⟨r,H',h1,Of,h3⟩:=hc X _ _ _ _ _ h;split at h1
 case h_2=>simp at h1
 rename_i zB e' st pe hb;split at h1
 · simp at h1
 rename_i Wb;refine ⟨pe,_,h1,rfl,by show H'.wm=_;rw [Of];rfl,fun m φ sv hs=> ?_⟩;obtain ⟨vZ,e1,e2⟩:=Gc (m:=m) (φ:=φ) hg LP hs.e;cases e2 with
 |fn _ _ as hl hr=>
   obtain ⟨Ul,e3,e4⟩:=P3 (n:=n) (ks:=ks) hs.e hks;have hlen:=hs.h.len;obtain ⟨r1,r2,r3⟩:=RH.new (n:=0) (y:= .loop id (LL s.e ks) .ready .normal) (yv:= .loop n (ua n) Ul ps.toList a b .ready none) hs.h (by
     refine ⟨sv.H.bl.length,Ul,by rw [Vd],?_,fun t=> ?_⟩
     · rw [fK];simp [V.push,V.Ex.jump]
     · have:=e4 t
       revert this
       cases get (ve (LL s.e ks)) t<;>cases V.get (V.ve Ul) t<;>intro this<;>first|exact this.elim|exact RV.mono (dM hs.h _ _) this)
   have XB:RV (m.add s.H.bl.length (some sv.H.bl.length) 0) (.fn f cs) (.fn f as):=RV.mono r2 (.fn f cs as hl hr);obtain ⟨r',Ic,k1,m2,k2,k3,k4,k5⟩:=h3 _ _ (.fn f as) [.yl sv.H.bl.length] r1 XB (RL.cons (.yl _ _ (by rw [Vd])) .nil);have eo:m2.ι s.H.bl.length 0=some sv.H.bl.length:=(k4.of _ _ (by rw [Vd])).1;obtain ⟨x',gG,q1,q2,q3⟩:=k2.Oc _ _ hb;rw [eo] at q1;simp at q1;subst q1;have Td:live H' s.H.bl.length:=⟨_,hb,rfl⟩;obtain ⟨w1,w2⟩:=RH.set (yv:= .dead) k2 Td eo (y:= .dead) trivial;have hle:m.Le m2:=r2.trans k4;have Bo:Ej m.top m sv.H m2 (V.Ma Ic sv.H.bl.length .dead):=(r3.trans k5 r3.gk.1).trans w2 ((r3.trans k5 r3.gk.1).gk.1);refine ⟨{ sv with H:=V.Ma Ic sv.H.bl.length .dead },m2,φ,?_,⟨w1,hs.f.mono hle,hs.e.mono hle (.refl φ),?_⟩,Bo.less (by rw [hlen];exact hs.b)⟩
   · simp only [V.code,if_true,e1,e3,da];have hf2:∃ fn,A.fns f=some fn/\fn.body.isSome=true:=by
       cases hA:A.fns f with
       |none=>rw [hA] at Lm;simp at Lm
       |some fn=>rw [hA] at Lm;exact ⟨fn,rfl,Lm⟩
     obtain ⟨fn,hf3,hf4⟩:=hf2;simp only [hf3,hf4,if_true,da,k1,q2];have TE:Ic.wm<=sv.H.bl.length:=by rw [k5.wm];exact hs.h.top
     have hj:V.OE pe.jump=some pe:=by cases pe<;>rfl
     cases st with
     |busy=>exact (Wb rfl).elim
     |ready=>simp [TE,hj]
     |done=>simp [TE,hj]
     |exhausted=>simp [TE,hj]
   · show s.base<=(Ma H' _ _).bl.length;have:s.H.bl.length<=H'.bl.length:=by
       have:=Ua hb;omega
     simp only [Ma,fe];exact Ib hs.b this
def Ai (C:V.Callee) (spec:Spec):Prop:=
 ∀ (X:Type) (args:List UV) (H:UH) (K:UV->UH->Option X) (out:X),spec X args H K=some out->
  ∃ r H',K r H'=some out/\H'.wm=H.wm/\∀ (m:Mp) (Hv:V.AH) (a0:V.AV) (as:List V.AV),RH m H Hv->RL m args (a0::as)->∃ r' Ic,C a0 as Hv=some (r',Ic)/\Co m Hv r H' r' Ic
theorem Ai.imp {C:V.Callee} {g g':Spec} (h:Ai C g) (hi:∀ X args H K out,g' X args H K=some out->g X args H K=some out):Ai C g':=
 fun X args H K out ho=>h X args H K out (hi X args H K out ho)
theorem Tz {m:Mp} {φ:Nat->Option Nat}:∀ {ps:List Nat} {as:List UV} {Wl:List V.AV} {e:List (Nat×US)} {ev:List (Nat×V.SV)},RL m as Wl->RE m φ e ev->RE m φ (Ni ps as e) (V.Ni ps Wl ev)
 |[],as,Wl,e,ev,_,he=>by cases as<;>cases Wl<;>exact he
 |p::ps,[],Wl,e,ev,h,he=>by
  have:Wl=[]:=by have:=h.1;simpa using this
  subst this;exact he
 |p::ps,a::as,Wl,e,ev,h,he=>by
  cases Wl with
  |nil=>have:=h.1;simp at this
  |cons a' Wl=>
   have hr:RL m as Wl:=⟨by have:=h.1;simpa using this,fun i y b k1 k2=>h.2 (i+1) y b (by simpa using k1) (by simpa using k2)⟩;exact Tz (ps:=ps) hr (he.cons p (h.2 0 a a' rfl rfl).rs)
theorem AR {m:Mp} {φ:Nat->Option Nat} {e:List (Nat×UV)} {Ul:List (Nat×V.AV)} (h:∀ t,match get (ve e) t,V.get (V.ve Ul) t with
   | .v y,.v a=>RV m y a
   |_,_=>False):RE m φ (ve e) (V.ve Ul):=fun t=>by
 have:=h t
 revert this
 cases get (ve e) t<;>cases V.get (V.ve Ul) t<;>intro this
 · exact RV.rs this
 · exact this.elim
 · exact this.elim
 · exact this.elim
theorem Y' {m m1:Mp} {H H':UH} {Hv mS Ic:V.AH} {r:UV} {r':V.AV} (hgw:H'.wm<=H.bl.length) (hh:RH m H Hv) (Bo:Ej H.bl.length m Hv m1 mS) (hg:Co m1 mS r H' r' Ic) (jy:H.bl.length<=m1.top):
  Co m Hv (gc H.bl.length r H').1 (gc H.bl.length r H').2 r' Ic:=by
 obtain ⟨m20,aB,e20,e3,e4⟩:=hg;have DH:Ej H.bl.length m Hv m20 Ic:=Bo.trans e4 jy;have Wb:Gl m20 (fun _=>none) ⟨[(0,.v r)],[],H',H.bl.length⟩ ⟨[(0,.v r')],[],Ic⟩:=⟨aB,⟨fun i j h=>by simp at h,fun i row h=>by simp at h,fun i i' j h=>by simp at h⟩,fun t=>by
  simp only [get,V.get];split
  · exact e20.rs
  · exact trivial,by have:=DH.gk.1;rw [aB.len] at this;exact this⟩
 obtain ⟨m2,Dy,c1,c2⟩:=Dl (keep:=[0]) (n:=1) (by simp) Wb hgw (.refl 1 _);have e1:RH m2 (gc H.bl.length r H').2 Ic:=c1.h;have e2:RV m2 (gc H.bl.length r H').1 r':=by
  have:=c1.e 0;simp only [gc]
  revert this
  simp only [V.get,if_true];cases get (compact [0] ⟨[(0,.v r)],[],H',H.bl.length⟩).e 0 with
  |loc i c=>exact fun h=>h.elim
  |v x=>intro h;cases x<;>first|exact .Qb _|exact h
 have YE:Ej m.top m Hv m2 Ic:=by rw [hh.len];exact DH.trans c2 (oa _)
 refine ⟨m2,e1,e2,⟨fun b _ x hb=> ?_,YE.gk.1,fun b hb=>(YE.gk.2 b hb).2⟩,YE⟩;have:=YE.gk.2 b (by rw [hh.len];exact (hh.Ae b x hb).1);exact ⟨by rw [this.1];exact hb,by rw [this.2]⟩
theorem o4 {b:Bool} {base:Nat} {H:UH}:(gc base (.bool b) H).1= .bool b:=by
 simp [gc,compact,get,fP,yj]
theorem oS (hg:xe A La) {env:Env} {k:Nat} (hc:Sa (V.call A k) env.call) {id:Nat} {r:RFn} (fK:TB.rf id=r)
  (kJ:∀ c'∈loops env.join r.assign,Va env.loop (V.code A (V.call A k) false [] (ua r.n) r.n) c')
  (BH:∀ c'∈loops env.join r.body,Va env.loop (V.code A (V.call A k) false [] (ua r.n) r.n) c'):
  Ai (V.call A (k+1)) (fun X args H K=>lM A La env id r args H K):=by
 intro X args H K out h;unfold lM at h;simp only at h;split at h
 case h_2=>simp at h
 rename_i b as;split at h
 case h_2=>simp at h
 rename_i zB e pe0 hb;split at h
 case isFalse=>simp at h
 rename_i hif;obtain ⟨rfl,hlen,WC,pA⟩:=hif;obtain ⟨H7,s1,h1,c1⟩:=gg hg hc kJ h;split at h1
 case h_2=>simp at h1
 split at h1
 case h_2=>simp at h1
 rename_i GM e1 pe1 Om;obtain ⟨ex,s2,h2,c2⟩:=gg hg hc BH h1;split at h2
 case h_2=>simp at h2
 rename_i FM e2 st2 pe2 aD;split at h2
 case isFalse=>simp at h2
 rename_i I0;generalize Wb:(if ex.Fg=true then LoopState.ready else LoopState.done)=N4 at h2;have TE:s2.H.wm=H.wm:=c2.2.1.trans c1.2.1;refine ⟨_,_,h2,TE,fun m Hv a0 Wl hh ha=> ?_⟩;obtain ⟨a0',Pam,ha1,cU,ha3⟩:=ha.Oh;simp only [List.cons.injEq] at ha1;obtain ⟨rfl,rfl⟩:=ha1;cases cU with
 |yl _ x hx=>
  obtain ⟨x0,Ul,q1,q2,q3⟩:=hh.Oc b _ hb;rw [hx] at q1;simp at q1;subst q1;rw [fK] at q2;have JP:b<H.bl.length:=Ua hb;have lZ:Gl m (fun _=>none) ⟨Ni r.ps as (ve e),[],H,H.bl.length⟩ ⟨V.Ni r.ps Wl (V.ve Ul),[],Hv⟩:=
    ⟨hh,⟨fun i j h=>by simp at h,fun i row h=>by simp at h,fun i i' j h=>by simp at h⟩,Tz ha3 (AR q3),oa _⟩
  obtain ⟨Jj,m1,rz,k1,k2,k3⟩:=c1.2.2 m _ _ lZ;have dj:m1.ι b 0=some x:=by rw [(k3.gk.2 b JP).1];exact hx
  obtain ⟨x1,ML,p1,p2,p3⟩:=k2.h.Oc b _ Om;rw [dj] at p1;simp at p1;subst p1;have y9:x<Jj.H.bl.length:=(k2.h.Ae b x dj).2;obtain ⟨w1,w2⟩:=RH.set (y:= .loop GM e1 .busy pe1) (yv:= .loop (TB.rf GM).n (ua (TB.rf GM).n) ML (TB.rf GM).ps (TB.rf GM).assign (TB.rf GM).body .busy pe1.jump) k2.h ⟨_,Om,rfl⟩ dj ⟨x,ML,dj,by rw [Ac,if_pos rfl,if_pos y9],p3⟩;have kZ:Gl m1 rz { s1 with H:=Ma s1.H b (.loop GM e1 .busy pe1) } { Jj with H:=V.Ma Jj.H x (.loop (TB.rf GM).n (ua (TB.rf GM).n) ML (TB.rf GM).ps (TB.rf GM).assign (TB.rf GM).body .busy pe1.jump) }:=
    ⟨w1,k2.f,k2.e,by simpa [Ma] using k2.b⟩
  obtain ⟨xS,m2,Dy,l1,l2,l3⟩:=c2.2.2 m1 rz _ kZ;have Cad:s1.base=H.bl.length:=c1.1;have l3':=l3.less (n':=H.bl.length) (by show H.bl.length<=s1.base;omega);have cp:m2.ι b 0=some x:=by rw [(l3'.gk.2 b JP).1];exact dj
  obtain ⟨x2,gG,u1,u2,u3⟩:=l2.h.Oc b _ aD;rw [cp] at u1;simp at u1;subst u1;have IP:x<xS.H.bl.length:=(l2.h.Ae b x cp).2;obtain ⟨v1,v2⟩:=RH.set (y:= .loop FM e2 N4 ex) (yv:= .loop (TB.rf FM).n (ua (TB.rf FM).n) gG (TB.rf FM).ps (TB.rf FM).assign (TB.rf FM).body N4 ex.jump) l2.h ⟨_,aD,rfl⟩ cp ⟨x,gG,cp,by rw [Ac,if_pos rfl,if_pos IP],u3⟩;have XT:Ej H.bl.length m Hv m2 xS.H:=(k3.trans (w2.less (by rw [k2.h.len,<- Cad];exact k2.b)) (oa _)).trans l3' (oa _);refine ⟨.bool ex.Fg,V.Ma xS.H x (.loop (TB.rf FM).n (ua (TB.rf FM).n) gG (TB.rf FM).ps (TB.rf FM).assign (TB.rf FM).body N4 ex.jump),?_,?_⟩
  · have G0:Hv.wm<=x:=hh.wm b x hx WC;simp only [V.call,q2];rw [if_pos ⟨by rw [ha3.1];exact hlen,G0,pA⟩,k1];simp only [da,p2,l1,u2,Wb]
  · have D5:H.bl.length<=m2.top:=l3'.gk.1;have:=Y' (r:= .bool ex.Fg) (r':= .bool ex.Fg) (H':=Ma s2.H b (.loop FM e2 N4 ex)) I0 hh XT ⟨m2,v1,.bool _,.refl m2,v2⟩ D5;rw [o4] at this;exact this
theorem NI {C:V.Callee}:∀ {l:List (FuncId×Spec)},(∀ p∈l,Ai C p.2)->∀ f,Ai C (bB l f)
 |[],_,f,X,args,H,K,out,h=>by simp [bB] at h
 |(g,sp)::l,hl,f,X,args,H,K,out,h=>by
  simp only [bB] at h;split at h
  · rename_i e;subst e;exact hl (f,sp) (zc ..) X args H K out h
  · exact NI (fun p hp=>hl p (Gb _ hp)) f X args H K out h
theorem WL {C:V.Callee} {l ly:List (FuncId×Spec)} (hl:∀ p∈l,Me C p.1 p.2) (hy:∀ p∈ly,Ai C p.2):Sa C (fun X fv args H K=>LY l ly X fv args H K):=by
 refine jB (spec:=fun X fv args H K=>_) ?_;intro X fv args H K out h;simp only at h;split at h
 · rename_i f cs;obtain ⟨r,H',h1,h2,h3⟩:=mG hl f X _ H K out h;refine ⟨r,H',h1,h2,fun m Hv vZ Yg hh hf ha=> ?_⟩;cases hf with
   |fn _ _ as Pf hr=>exact h3 m Hv Yg as hh (ha.append ⟨Pf,hr⟩)
 · rename_i b;split at h
   case h_2=>simp at h
   obtain ⟨r,H',h1,h2,h3⟩:=NI hy _ X _ H K out h;exact ⟨r,H',h1,h2,fun m Hv vZ Yg hh hf ha=>h3 m Hv vZ Yg hh (.cons hf ha)⟩
 · simp at h
end
end Go.U
namespace Go.U
open Go
inductive Sk where
 |bool
 |int (k:IntKind)
 |str
 |lit (c:CT)
 |sl (b:Nat)
 |Ml (b c:Nat)
 |cr (b:Nat)
 |Ao (b c:Nat)
 |Qb
 |De
 |Wa
 |Kd
 |yf
 |Te
 |Cg
 |ptr (b c:Nat)
 |all (b:Nat)
 |mp (b:Nat)
 |yl (b:Nat)
 |Bd (l:Sk)
 |fn (f:FuncId) (l:Sk)
 |agg (l:Sk)
 |Rc (l:Sk)
 |nil
 |cons (a b:Sk)
def Sk.T:Sk->Type
 | .bool=>Bool
 | .int _=>Int
 | .str=>ByteArray
 | .lit c=>List (Eb c)
 | .sl _=>Nat×Nat
 | .Ml _ _=>Nat
 | .cr _=>Nat
 | .Ao _ _=>Nat×Nat
 | .Bd l=>l.T
 | .fn _ l=>l.T
 | .agg l=>l.T
 | .Rc l=>l.T
 | .cons a b=>a.T×b.T
 |_=>Unit
def Sk.fill:(k:Sk)->k.T->UV ⊕ List UV
 | .bool,b=> .inl (.bool b)
 | .int k,n=> .inl (.int k n)
 | .str,s=> .inl (.str s)
 | .lit c,l=> .inl (.lit c l)
 | .sl b,p=> .inl (.sl b p.1 p.2)
 | .Ml b c,r=> .inl (.Ml b r c)
 | .cr b,r=> .inl (.cr b r)
 | .Ao b c,p=> .inl (.Ao b p.1 p.2 c)
 | .Qb,_=> .inl .Qb
 | .De,_=> .inl .De
 | .Wa,_=> .inl .Wa
 | .Kd,_=> .inl .Kd
 | .yf,_=> .inl .yf
 | .Te,_=> .inl .Te
 | .Cg,_=> .inl .Cg
 | .ptr b c,_=> .inl (.ptr b c)
 | .all b,_=> .inl (.all b)
 | .mp b,_=> .inl (.mp b)
 | .yl b,_=> .inl (.yl b)
 | .Bd l,t=> .inl (.Bd ((l.fill t).elim (fun _=>[]) id))
 | .fn f l,t=> .inl (.fn f ((l.fill t).elim (fun _=>[]) id))
 | .agg l,t=> .inl (.agg ((l.fill t).elim (fun _=>[]) id))
 | .Rc l,t=> .inl (.Rc ((l.fill t).elim (fun _=>[]) id))
 | .nil,_=> .inr []
 | .cons a b,(x,y)=> .inr ((a.fill x).elim id (fun _=> .Qb)::(b.fill y).elim (fun _=>[]) id)
def Sk.take:(k:Sk)->UV ⊕ List UV->Option k.T
 | .bool=>fun x=>match x with| .inl (.bool b)=>some b|_=>none
 | .int k=>fun x=>match x with| .inl (.int k' n)=>if k'=k then some n else none|_=>none
 | .str=>fun x=>match x with| .inl (.str s)=>some s|_=>none
 | .lit c=>fun x=>match x with| .inl (.lit c' l)=>if h:c'=c then some (h ▸ l) else none|_=>none
 | .sl b=>fun x=>match x with| .inl (.sl b' r n)=>if b'=b then some (r,n) else none|_=>none
 | .Ml b c=>fun x=>match x with| .inl (.Ml b' r c')=>if b'=b/\c'=c then some r else none|_=>none
 | .cr b=>fun x=>match x with| .inl (.cr b' r)=>if b'=b then some r else none|_=>none
 | .Ao b c=>fun x=>match x with| .inl (.Ao b' r j c')=>if b'=b/\c'=c then some (r,j) else none|_=>none
 | .Qb=>fun x=>match x with| .inl .Qb=>some ()|_=>none
 | .De=>fun x=>match x with| .inl .De=>some ()|_=>none
 | .Wa=>fun x=>match x with| .inl .Wa=>some ()|_=>none
 | .Kd=>fun x=>match x with| .inl .Kd=>some ()|_=>none
 | .yf=>fun x=>match x with| .inl .yf=>some ()|_=>none
 | .Te=>fun x=>match x with| .inl .Te=>some ()|_=>none
 | .Cg=>fun x=>match x with| .inl .Cg=>some ()|_=>none
 | .ptr b c=>fun x=>match x with| .inl (.ptr b' c')=>if b'=b/\c'=c then some () else none|_=>none
 | .all b=>fun x=>match x with| .inl (.all b')=>if b'=b then some () else none|_=>none
 | .mp b=>fun x=>match x with| .inl (.mp b')=>if b'=b then some () else none|_=>none
 | .yl b=>fun x=>match x with| .inl (.yl b')=>if b'=b then some () else none|_=>none
 | .Bd l=>fun x=>match x with| .inl (.Bd cs)=>l.take (.inr cs)|_=>none
 | .fn f l=>fun x=>match x with| .inl (.fn f' cs)=>if f'=f then l.take (.inr cs) else none|_=>none
 | .agg l=>fun x=>match x with| .inl (.agg cs)=>l.take (.inr cs)|_=>none
 | .Rc l=>fun x=>match x with| .inl (.Rc cs)=>l.take (.inr cs)|_=>none
 | .nil=>fun x=>match x with| .inr []=>some ()|_=>none
 | .cons a b=>fun x=>match x with| .inr (y::ys)=>(a.take (.inl y)).bind fun u=>(b.take (.inr ys)).bind fun v=>some (u,v)|_=>none
theorem Mj {α:Type} {t:α} (h:(none:Option α)=some t):False:=by cases h
theorem T3 {a b:Int} (h:decide (a=b)=true):a=b:=of_decide_eq_true h
theorem Sk.sd:∀ (k:Sk) (x:UV ⊕ List UV) (t:k.T),k.take x=some t->k.fill t=x:=by
 intro k;induction k with
 |bool|str|Qb|De|Wa|Kd|yf|Te|Cg|nil=>
  intro x t h;simp only [Sk.take] at h;split at h
  · injection h with h;subst h;rfl
  · simp at h
 |int k=>
  intro x t h;simp only [Sk.take] at h;split at h
  · split at h
    · rename_i e;subst e;injection h with h;subst h;rfl
    · simp at h
  · simp at h
 |lit c=>
  intro x t h;simp only [Sk.take] at h;split at h
  · split at h
    · rename_i e;subst e;injection h with h;subst h;rfl
    · simp at h
  · simp at h
 |sl b|all b|mp b|yl b|cr b=>
  intro x t h;simp only [Sk.take] at h;split at h
  · split at h
    · rename_i e;subst e;injection h with h;subst h;rfl
    · simp at h
  · simp at h
 |Ml b c|ptr b c|Ao b c=>
  intro x t h;simp only [Sk.take] at h;split at h
  · split at h
    · rename_i e;obtain ⟨rfl,rfl⟩:=e;injection h with h;subst h;rfl
    · simp at h
  · simp at h
 |Bd l ih=>
  intro x t h;cases x with
  |inr _=>exact (Mj (α:=l.T) (t:=t) h).elim
  |inl v=>
    cases v with
    |Bd cs=>
      show Sum.inl (UV.Bd ((l.fill t).elim (fun _=>[]) id))=_;rw [ih (.inr cs) t h];rfl
    |_=>exact (Mj (α:=l.T) (t:=t) h).elim
 |agg l ih=>
  intro x t h;cases x with
  |inr _=>exact (Mj (α:=l.T) (t:=t) h).elim
  |inl v=>
    cases v with
    |agg cs=>
      show Sum.inl (UV.agg ((l.fill t).elim (fun _=>[]) id))=_;rw [ih (.inr cs) t h];rfl
    |_=>exact (Mj (α:=l.T) (t:=t) h).elim
 |Rc l ih=>
  intro x t h;cases x with
  |inr _=>exact (Mj (α:=l.T) (t:=t) h).elim
  |inl v=>
    cases v with
    |Rc cs=>
      show Sum.inl (UV.Rc ((l.fill t).elim (fun _=>[]) id))=_;rw [ih (.inr cs) t h];rfl
    |_=>exact (Mj (α:=l.T) (t:=t) h).elim
 |fn f l ih=>
  intro x t h;simp only [Sk.take] at h;split at h
  · rename_i f' cs;have h:(if f'=f then l.take (.inr cs) else none)=some (t:l.T):=h;split at h
    · rename_i e;subst e;show Sum.inl (UV.fn f' ((l.fill t).elim (fun _=>[]) id))=_;rw [ih _ _ h];rfl
    · simp at h
  · simp at h
 |cons a b iha ihb=>
  intro x t h;simp only [Sk.take] at h;split at h
  · simp only [aa] at h;obtain ⟨u,hu,v,hv,h⟩:=h;injection h with h
    subst h;simp only [Sk.fill,iha _ _ hu,ihb _ _ hv];rfl
  · simp at h
def Sk.v (k:Sk) (t:k.T):UV:=(k.fill t).elim id fun _=> .Qb
def Sk.l (k:Sk) (t:k.T):List UV:=(k.fill t).elim (fun _=>[]) id
inductive SkS where
 |v (k:Sk)
 |loc (i c:Nat)
inductive lC where
 |dead
 |fb (l:Sk)
 |cells (c:CT)
 |deep (c:CT)
 |Nj (k:KT) (es:List (jd k×Sk))
 |ah (k:KT) (g:Bool) (c:CT)
 |loop (id:Nat) (env:List (Nat×Sk)) (st:LoopState) (pe:V.Ex)
 |Fl (q:Sk)
 |ko
def W7:List (Nat×SkS)->Type
 |[]=>Unit
 |(_,.v k)::l=>k.T×W7 l
 |(_,.loc _ _)::l=>W7 l
def lD:(l:List (Nat×SkS))->W7 l->List (Nat×US)
 |[],_=>[]
 |(i,.v k)::l,(x,y)=>(i,.v (k.v x))::lD l y
 |(i,.loc j c)::l,y=>(i,.loc j c)::lD l y
def Sw:(l:List (Nat×SkS))->List (Nat×US)->Option (W7 l)
 |[]=>fun e=>match e with|[]=>some ()|_=>none
 |(i,.v k)::l=>fun e=>match e with|(i',.v x)::e=>if i'=i then (k.take (.inl x)).bind fun u=>(Sw l e).bind fun v=>some (u,v) else none|_=>none
 |(i,.loc j c)::l=>fun e=>match e with|(i',.loc j' c')::e=>if i'=i/\j'=j/\c'=c then Sw l e else none|_=>none
def tyF:List Sk->Type
 |[]=>Unit
 |k::l=>k.T×tyF l
def XM:(l:List Sk)->tyF l->List (List UV)
 |[],_=>[]
 |k::l,(x,y)=>k.l x::XM l y
def NG:(l:List Sk)->List (List UV)->Option (tyF l)
 |[]=>fun e=>match e with|[]=>some ()|_=>none
 |k::l=>fun e=>match e with|x::e=>(k.take (.inr x)).bind fun u=>(NG l e).bind fun v=>some (u,v)|_=>none
def tyM {k:KT}:List (jd k×Sk)->Type
 |[]=>Unit
 |p::l=>p.2.T×tyM l
def WH {k:KT}:(l:List (jd k×Sk))->tyM l->List (jd k×UV)
 |[],_=>[]
 |p::l,(x,y)=>(p.1,p.2.v x)::WH l y
def zC {k:KT}:(l:List (jd k×Sk))->List (jd k×UV)->Option (tyM l)
 |[]=>fun e=>match e with|[]=>some ()|_=>none
 |p::l=>fun e=>match e with|(i,x)::e=>cond (HG k p.1 i) ((p.2.take (.inl x)).bind fun u=>(zC l e).bind fun v=>some (u,v)) none|_=>none
def tyN:List (Nat×Sk)->Type
 |[]=>Unit
 |p::l=>p.2.T×tyN l
def VH:(l:List (Nat×Sk))->tyN l->List (Nat×UV)
 |[],_=>[]
 |p::l,(x,y)=>(p.1,p.2.v x)::VH l y
def takeN:(l:List (Nat×Sk))->List (Nat×UV)->Option (tyN l)
 |[]=>fun e=>match e with|[]=>some ()|_=>none
 |p::l=>fun e=>match e with|(i,x)::e=>if i=p.1 then ((p.2.take (.inl x)).bind fun u=>(takeN l e).bind fun v=>some (u,v)) else none|_=>none
def tE:LoopState->LoopState->Bool
 | .ready,.ready| .busy,.busy| .done,.done| .exhausted,.exhausted=>true
 |_,_=>false
theorem ZO {a b:LoopState} (h:tE a b=true):a=b:=by cases a<;>cases b<;>first|rfl|simp [tE] at h
def lC.T:lC->Type
 | .dead=>Unit
 | .fb l=>l.T
 | .cells c=>List (Eb c)
 | .deep c=>List (List (Eb c))
 | .Nj _ es=>tyM es
 | .ah k _ c=>List (jd k×Eb c)
 | .loop _ env _ _=>tyN env
 | .Fl q=>q.T
 | .ko=>ByteArray
def lC.fill:(b:lC)->b.T->UB
 | .dead,_=> .dead
 | .fb l,t=> .fb (l.l t)
 | .cells c,l=> .cells c l
 | .deep c,l=> .deep c l
 | .Nj k es,t=> .Nj k (WH es t)
 | .ah k g c,l=> .ah k g c l
 | .loop id env st pe,t=> .loop id (VH env t) st pe
 | .Fl q,t=> .Fl (q.v t)
 | .ko,s=> .ko s
def lC.take:(b:lC)->UB->Option b.T
 | .dead=>fun x=>match x with| .dead=>some ()|_=>none
 | .fb l=>fun x=>match x with| .fb row=>l.take (.inr row)|_=>none
 | .cells c=>fun x=>match x with| .cells c' l=>if h:c'=c then some (h ▸ l) else none|_=>none
 | .deep c=>fun x=>match x with| .deep c' l=>if h:c'=c then some (h ▸ l) else none|_=>none
 | .Nj k es=>fun x=>match x with| .Nj k' qd=>if h:k'=k then zC es (h ▸ qd) else none|_=>none
 | .ah k g c=>fun x=>match x with| .ah k' g' c' l=>if h:k'=k/\g'=g/\c'=c then some (h.1 ▸ h.2.2 ▸ l) else none|_=>none
 | .loop id env st pe=>fun x=>match x with| .loop zB Ul N4 pe'=>if zB=id/\tE N4 st=true/\pe'=pe then takeN env Ul else none|_=>none
 | .Fl q=>fun x=>match x with| .Fl y=>q.take (.inl y)|_=>none
 | .ko=>fun x=>match x with| .ko s=>some s|_=>none
def tyH:List lC->Type
 |[]=>Unit
 |b::l=>b.T×tyH l
def XH:(l:List lC)->tyH l->List UB
 |[],_=>[]
 |b::l,(x,y)=>b.fill x::XH l y
def BC:(l:List lC)->List UB->Option (tyH l)
 |[]=>fun e=>match e with|[]=>some ()|_=>none
 |b::l=>fun e=>match e with|x::e=>(b.take x).bind fun u=>(BC l e).bind fun v=>some (u,v)|_=>none
theorem Sk.mE {k:Sk} {x:UV} {t:k.T} (h:k.take (.inl x)=some t):k.v t=x:=by rw [Sk.v,k.sd _ _ h];rfl
theorem Sk.xJ {k:Sk} {x:List UV} {t:k.T} (h:k.take (.inr x)=some t):k.l t=x:=by rw [Sk.l,k.sd _ _ h];rfl
theorem Cs:∀ (l:List (Nat×SkS)) (e:List (Nat×US)) (t:W7 l),Sw l e=some t->lD l t=e
 |[],e,t,h=>by
  cases e with
  |nil=>rfl
  |cons _ _=>simp [Sw] at h
 |(i,.v k)::l,e,t,h=>by
  simp only [Sw] at h;split at h
  · split at h
    · rename_i e0;subst e0;simp only [aa] at h;obtain ⟨u,hu,v,hv,h⟩:=h;injection h with h;subst h
      simp only [lD,Sk.mE hu,Cs l _ v hv]
    · simp at h
  · simp at h
 |(i,.loc j c)::l,e,t,h=>by
  simp only [Sw] at h;split at h
  · rename_i i' j' c' e';have h:(if i'=i/\j'=j/\c'=c then Sw l e' else none)=some (t:W7 l):=h;split at h
    · rename_i e0;obtain ⟨rfl,rfl,rfl⟩:=e0;show (i',US.loc j' c')::lD l t=_;rw [Cs l _ t h]
    · simp at h
  · simp at h
theorem Jz:∀ (l:List Sk) (e:List (List UV)) (t:tyF l),NG l e=some t->XM l t=e
 |[],e,t,h=>by
  cases e with
  |nil=>rfl
  |cons _ _=>simp [NG] at h
 |k::l,e,t,h=>by
  simp only [NG] at h;split at h
  · simp only [aa] at h;obtain ⟨u,hu,v,hv,h⟩:=h;injection h with h;subst h
    simp only [XM,Sk.xJ hu,Jz l _ v hv]
  · simp at h
theorem Maa {k:KT} {i j:jd k} (h:HG k i j=true):i=j:=by
 cases k with
 |int k=>exact T3 (a:=i) (b:=j) h
 |str=>cases i;cases j;exact congrArg ByteArray.mk (eq_of_beq (α:=Array UInt8) h)
theorem Iz {k:KT}:∀ (l:List (jd k×Sk)) (e:List (jd k×UV)) (t:tyM l),zC l e=some t->WH l t=e
 |[],e,t,h=>by
  cases e with
  |nil=>rfl
  |cons _ _=>simp [zC] at h
 |p::l,e,t,h=>by
  simp only [zC] at h;split at h
  · rename_i i x e;cases he:HG k p.1 i with
    |false=>rw [he] at h;simp at h
    |true=>
     rw [he] at h;simp only [cond_true,aa] at h;obtain ⟨u,hu,v,hv,h⟩:=h;injection h with h;subst h
     simp only [WH,Sk.mE hu,Iz l _ v hv,Maa he]
  · simp at h
theorem Hz:∀ (l:List (Nat×Sk)) (e:List (Nat×UV)) (t:tyN l),takeN l e=some t->VH l t=e
 |[],e,t,h=>by
  cases e with
  |nil=>rfl
  |cons _ _=>simp [takeN] at h
 |p::l,e,t,h=>by
  simp only [takeN] at h;split at h
  · rename_i i x e;split at h
    · rename_i he;simp only [aa] at h;obtain ⟨u,hu,v,hv,h⟩:=h;injection h with h;subst h
      simp only [VH,Sk.mE hu,Hz l _ v hv,he]
    · simp at h
  · simp at h
theorem lC.sd:∀ (b:lC) (x:UB) (t:b.T),b.take x=some t->b.fill t=x
 | .dead,x,t,h=>by
  simp only [lC.take] at h;split at h
  · rfl
  · simp at h
 | .fb l,x,t,h=>by
  cases x with
  |fb row=>
    show UB.fb (l.l t)=_;rw [Sk.xJ (x:=row) h]
  |_=>exact (Mj (α:=l.T) (t:=t) h).elim
 | .cells c,x,t,h=>by
  simp only [lC.take] at h;split at h
  · split at h
    · rename_i e;subst e;injection h with h;subst h;rfl
    · simp at h
  · simp at h
 | .deep c,x,t,h=>by
  simp only [lC.take] at h;split at h
  · split at h
    · rename_i e;subst e;injection h with h;subst h;rfl
    · simp at h
  · simp at h
 | .Nj k es,x,t,h=>by
  simp only [lC.take] at h;split at h
  · rename_i k' qd;have h:(if h:k'=k then zC es (h ▸ qd) else none)=some (t:tyM es):=h;split at h
    · rename_i e;subst e;show UB.Nj k' (WH es t)=_;rw [Iz _ _ _ h]
    · simp at h
  · simp at h
 | .ah k g c,x,t,h=>by
  simp only [lC.take] at h;split at h
  · split at h
    · rename_i e;obtain ⟨rfl,rfl,rfl⟩:=e;injection h with h;subst h;rfl
    · simp at h
  · simp at h
 | .loop id env st pe,x,t,h=>by
  simp only [lC.take] at h;split at h
  · rename_i zB Ul N4 pe';have h:(if zB=id/\tE N4 st=true/\pe'=pe then takeN env Ul else none)=some (t:tyN env):=h;split at h
    · rename_i e;obtain ⟨rfl,e2,rfl⟩:=e;have:=ZO e2;subst this;show UB.loop zB (VH env t) _ pe'=_;rw [Hz _ _ _ h]
    · simp at h
  · simp at h
 | .Fl q,x,t,h=>by
  cases x with
  |Fl y=>
    show UB.Fl (q.v t)=_;rw [Sk.mE (x:=y) h]
  |_=>exact (Mj (α:=q.T) (t:=t) h).elim
 | .ko,x,t,h=>by
  cases x with
  |ko s=>injection h with h;subst h;rfl
  |_=>exact (Mj (α:=ByteArray) (t:=t) h).elim
theorem Bs:∀ (l:List lC) (e:List UB) (t:tyH l),BC l e=some t->XH l t=e
 |[],e,t,h=>by
  cases e with
  |nil=>rfl
  |cons _ _=>simp [BC] at h
 |b::l,e,t,h=>by
  simp only [BC] at h;split at h
  · simp only [aa] at h;obtain ⟨u,hu,v,hv,h⟩:=h;injection h with h;subst h
    simp only [XH,lC.sd b _ _ hu,Bs l _ v hv]
  · simp at h
structure ot where
 e:List (Nat×SkS)
 F:List Sk
 bl:List lC
 wm:Nat
 base:Nat
def ot.T (k:ot):Type:=W7 k.e×tyF k.F×tyH k.bl
def ot.fill (k:ot) (t:k.T):St:=⟨lD k.e t.1,XM k.F t.2.1,⟨XH k.bl t.2.2,k.wm⟩,k.base⟩
def ot.take (k:ot) (s:St):Option k.T:=
 if s.H.wm=k.wm/\s.base=k.base then (Sw k.e s.e).bind fun a=>(NG k.F s.F).bind fun b=>(BC k.bl s.H.bl).bind fun c=>some (a,b,c) else none
theorem ot.sd {k:ot} {s:St} {t:k.T} (h:k.take s=some t):k.fill t=s:=by
 unfold ot.take at h;split at h
 case isFalse=>simp at h
 rename_i hw;simp only [aa] at h;obtain ⟨a,ha,b,hb,c,hc,h⟩:=h;injection h with h;subst h
 simp only [ot.fill,Cs _ _ _ ha,Jz _ _ _ hb,Bs _ _ _ hc,<- hw.1,<- hw.2]
structure pz where
 l:Sk
 bl:List lC
 wm:Nat
def pz.T (k:pz):Type:=k.l.T×tyH k.bl
def pz.args (k:pz) (t:k.T):List UV:=k.l.l t.1
def pz.heap (k:pz) (t:k.T):UH:=⟨XH k.bl t.2,k.wm⟩
def pz.take (k:pz) (args:List UV) (H:UH):Option k.T:=
 if H.wm=k.wm then (k.l.take (.inr args)).bind fun a=>(BC k.bl H.bl).bind fun b=>some (a,b) else none
theorem pz.sd {k:pz} {args:List UV} {H:UH} {t:k.T} (h:k.take args H=some t):k.args t=args/\k.heap t=H:=by
 unfold pz.take at h;split at h
 case isFalse=>simp at h
 rename_i hw;simp only [aa] at h;obtain ⟨a,ha,b,hb,h⟩:=h;injection h with h;subst h
 exact ⟨Sk.xJ ha,by simp only [pz.heap,Bs _ _ _ hb,<- hw]⟩
theorem JR {α β:Type} (b:Bool) (x y:Option α) (k:α->Option β):(cond b x y).bind k=cond b (x.bind k) (y.bind k):=by cases b<;>rfl
theorem PY {α β:Type} (b:Bool) (x:Option α) (k:α->Option β):(ask b x).bind k=ask b (x.bind k):=by cases b<;>rfl
theorem BR {α β γ δ:Type} (e:α ⊕ β) (f:α->Option γ) (g:β->Option γ) (k:γ->Option δ):(e.elim f g).bind k=e.elim (fun a=>(f a).bind k) (fun a=>(g a).bind k):=by cases e<;>rfl
def sU (Je:ZD) (pe:V.Ex->ZD):V.Ex->St->Option (St ⊕ (V.Ex×St))
 | .normal,s=>(To Je s).bind fun s=>some (.inl s)
 |ex,s=>(To (pe ex) s).bind fun s=>some (.inr (ex,s))
section
variable [TB:sB] {rf:Bool}
variable {A:V.oh} {C:V.Callee} {La:Nat->Option (List UV)} {za:List Nat} {n:Nat}
theorem VJ (hg:xe A La) {env:Env} (hc:Sa C env.call) {c:Code} (hl:∀ c'∈loops env.join c,Va env.loop (V.code A C rf za (ua n) n) c')
  {P T E:Type} {enc:P->T->St} {Gm:P->E->V.Ex×St} {Je:ZD} {pe:V.Ex->ZD} (GP:yn n Je) (hpe:∀ ex,yn n (pe ex))
  {step:(Y:Type)->P->T->(T->Option Y)->(E->Option Y)->Option Y}
  (Ri:∀ Y p t ki ke,step Y p t ki ke=(step (T ⊕ E) p t (fun t=>some (.inl t)) (fun e=>some (.inr e))).bind (Sum.elim ki ke))
  (ij:∀ p t,code A La env za n c (enc p t) (sU Je pe)=step _ p t (fun t'=>some (.inl (enc p t'))) (fun e=>some (.inr (Gm p e))))
  {AE:(X:Type)->Nat->St->(V.Ex->St->Option X)->Option X}
  (JT:∀ (X:Type) (s:St) (K:V.Ex->St->Option X) (out:X),AE X (bf c) s K=some out->∃ p t e,To Je s=some (enc p t)/\Oa (fun t=>step (T ⊕ E) p t (fun t=>some (.inl t)) (fun e=>some (.inr e))) t=some e/\K (Gm p e).1 (Gm p e).2=some out):
  Va AE (V.code A C rf za (ua n) n) (.loop c):=by
 intro X s K out h;obtain ⟨p,t,e,h1,h2,h3⟩:=JT X s K out h;obtain ⟨p1,p2,p3⟩:=bj h1 GP;have main:∀ (N:Nat) (t:T) (e:E),Yn (fun t=>step (T ⊕ E) p t (fun t=>some (.inl t)) (fun e=>some (.inr e))) N t=some e->(Gm p e).2.base=(enc p t).base/\(Gm p e).2.H.wm=(enc p t).H.wm/\∀ (m:Mp) (φ:Nat->Option Nat) (sv:V.S),Gl m φ (enc p t) (V.clean (ua n) sv)->
   ∃ je m' zg,V.Nr (fun s=>V.code A C rf za (ua n) n c (V.clean (ua n) s)) N sv=some ((Gm p e).1,je)/\Gl m' zg (Gm p e).2 je/\Ej (enc p t).base m sv.H m' je.H:=by
  intro N;induction N with
  |zero=>intro t e h;simp [Yn] at h
  |succ N ih=>
   intro t e h;simp only [Yn,aa] at h;obtain ⟨r,hr,h⟩:=h;have kj:=ij p t;rw [Ri,hr] at kj;cases r with
   |inl t'=>
    simp only [da,Sum.elim_inl] at kj;obtain ⟨ex,s1,g1,g2⟩:=gg hg hc hl kj;have hex:ex= .normal/\To Je s1=some (enc p t'):=by
     cases ex<;>simp [sU,aa] at g1
     exact ⟨rfl,g1⟩
    obtain ⟨rfl,l9⟩:=hex;obtain ⟨q1,q2,q3⟩:=bj l9 GP;obtain ⟨i1,i2,i3⟩:=ih t' e h;refine ⟨by rw [i1,q1,g2.1],by rw [i2,q2,g2.2.1],fun m φ sv hs=> ?_⟩;obtain ⟨Jj,m1,rz,e1,e2,e3⟩:=g2.2.2 m φ _ hs;obtain ⟨m2,Dy,e4,e5⟩:=q3 m1 rz Jj _ e2 (.clean n Jj);obtain ⟨JB,m3,BZ,e6,e7,e8⟩:=i3 m2 Dy Jj e4;rw [g2.1] at e5;rw [q1,g2.1] at e8;refine ⟨JB,m3,BZ,by simp only [V.Nr,e1,da];exact e6,e7,?_⟩;exact (e3.trans e5 (oa _)).trans e8 (oa _)
   |inr e'=>
    simp at h;subst h;simp only [da,qt] at kj;obtain ⟨ex,s1,g1,g2⟩:=gg hg hc hl kj;have hex:ex≠ .normal/\(Gm p e').1=ex/\To (pe ex) s1=some (Gm p e').2:=by
     cases ex<;>simp [sU,aa] at g1
     · obtain ⟨a,ha,hb⟩:=g1;rw [<- hb];exact ⟨by simp,rfl,ha⟩
     · obtain ⟨a,ha,hb⟩:=g1;rw [<- hb];exact ⟨by simp,rfl,ha⟩
    obtain ⟨Nc,hex,l9⟩:=hex;obtain ⟨q1,q2,q3⟩:=bj l9 (hpe ex);refine ⟨by rw [q1,g2.1],by rw [q2,g2.2.1],fun m φ sv hs=> ?_⟩;obtain ⟨Jj,m1,rz,e1,e2,e3⟩:=g2.2.2 m φ _ hs;obtain ⟨m2,Dy,e4,e5⟩:=q3 m1 rz Jj Jj e2 (.refl n Jj);rw [g2.1] at e5;refine ⟨Jj,m2,Dy,?_,e4,e3.trans e5 (oa _)⟩;rw [hex];simp only [V.Nr,e1,da]
 obtain ⟨i1,i2,i3⟩:=main V.qm t e h2;refine ⟨_,_,h3,by rw [i1,p1],by rw [i2,p2],fun m φ sv hs=> ?_⟩;obtain ⟨m2,Dy,e4,e5⟩:=p3 m φ sv _ hs (.clean n sv);obtain ⟨JB,m3,BZ,e6,e7,e8⟩:=i3 m2 Dy sv e4;rw [p1] at e8;exact ⟨JB,m3,BZ,e6,e7,e5.trans e8 (oa _)⟩
theorem bH (hg:xe A La) {env:Env} (hc:Sa C env.call) {c:Code} {Lg:Env} (Sf:Lg.call=env.call)
  (hl:∀ c'∈loops Lg.join c,Va Lg.loop (V.code A C rf za (ua n) n) c')
  {P E:Type} {enc:P->St} {Gm:P->E->V.Ex×St} {Je:ZD} {pe:V.Ex->ZD} (GP:yn n Je) (hpe:∀ ex,yn n (pe ex))
  {step:(Y:Type)->P->(E->Option Y)->Option Y}
  (Ri:∀ Y p ke,step Y p ke=(step E p (fun e=>some e)).bind ke)
  (ij:∀ p,code A La Lg za n c (enc p) (fun ex s=>(To (pe ex) s).bind fun s=>some (ex,s))=step _ p (fun e=>some (Gm p e)))
  {AE:(X:Type)->Nat->St->(V.Ex->St->Option X)->Option X}
  (JT:∀ (X:Type) (s:St) (K:V.Ex->St->Option X) (out:X),AE X (keyOf c) s K=some out->∃ p e,To Je s=some (enc p)/\step E p (fun e=>some e)=some e/\K (Gm p e).1 (Gm p e).2=some out):
  Va AE (V.code A C rf za (ua n) n) c:=by
 intro X s K out h;obtain ⟨p,e,h1,h2,h3⟩:=JT X s K out h;obtain ⟨p1,p2,p3⟩:=bj h1 GP;have kj:=ij p;rw [Ri,h2] at kj;simp only [da] at kj;obtain ⟨ex,s1,g1,g2⟩:=gg hg (by rw [Sf];exact hc) hl kj;simp only [aa,yc] at g1;obtain ⟨s2,l9,g1⟩:=g1;obtain ⟨q1,q2,q3⟩:=bj l9 (hpe ex);rw [<- g1] at h3;refine ⟨ex,s2,h3,by rw [q1,g2.1,p1],by rw [q2,g2.2.1,p2],fun m φ sv hs=> ?_⟩;obtain ⟨m1,rz,e1,e2⟩:=p3 m φ sv sv hs (.refl n sv);obtain ⟨Jj,m2,Dy,e3,e4,e5⟩:=g2.2.2 m1 rz sv e1;obtain ⟨m3,BZ,e6,e7⟩:=q3 m2 Dy Jj Jj e4 (.refl n Jj);rw [p1] at e5;rw [g2.1,p1] at e7;exact ⟨Jj,m3,BZ,e3,e6,(e2.trans e5 (oa _)).trans e7 (oa _)⟩
theorem YG (hg:xe A La) {env:Env} (hc:Sa C env.call) {Lg:Env} (Sf:Lg.call=env.call) {id:Nat} {ks:List Nat} {g:Operand} {ps:Array Tmp} {a b:Code} (fK:TB.rf id=⟨n,ps.toList,a,b⟩)
  {P E:Type} {enc:P->St} {Gm:P->E->V.Ex×St} {Je:ZD} {pe:V.Ex->ZD} (GP:yn n Je) (hpe:∀ ex,yn n (pe ex))
  {step:(Y:Type)->P->(E->Option Y)->Option Y}
  (Ri:∀ Y p ke,step Y p ke=(step E p (fun e=>some e)).bind ke)
  (ij:∀ p,WG A La Lg id n ks g (enc p) (fun ex s=>(To (pe ex) s).bind fun s=>some (ex,s))=step _ p (fun e=>some (Gm p e)))
  {AE:(X:Type)->Nat->St->(V.Ex->St->Option X)->Option X}
  (JT:∀ (X:Type) (s:St) (K:V.Ex->St->Option X) (out:X),AE X (keyOf (.rangeFunc g ps a b)) s K=some out->∃ p e,To Je s=some (enc p)/\step E p (fun e=>some e)=some e/\K (Gm p e).1 (Gm p e).2=some out):
  Va AE (V.code A C true za (ua n) n) (.rangeFunc g ps a b):=by
 intro X s K out h;obtain ⟨p,e,h1,h2,h3⟩:=JT X s K out h;obtain ⟨p1,p2,p3⟩:=bj h1 GP;have kj:=ij p;rw [Ri,h2] at kj;simp only [da] at kj;obtain ⟨ex,s1,g1,g2⟩:=KS (za:=za) hg (by rw [Sf];exact hc) fK kj;simp only [aa,yc] at g1;obtain ⟨s2,l9,g1⟩:=g1;obtain ⟨q1,q2,q3⟩:=bj l9 (hpe ex);rw [<- g1] at h3;refine ⟨ex,s2,h3,by rw [q1,g2.1,p1],by rw [q2,g2.2.1,p2],fun m φ sv hs=> ?_⟩;obtain ⟨m1,rz,e1,e2⟩:=p3 m φ sv sv hs (.refl n sv);obtain ⟨Jj,m2,Dy,e3,e4,e5⟩:=g2.2.2 m1 rz sv e1;obtain ⟨m3,BZ,e6,e7⟩:=q3 m2 Dy Jj Jj e4 (.refl n Jj);rw [p1] at e5;rw [g2.1,p1] at e7;exact ⟨Jj,m3,BZ,e3,e6,(e2.trans e5 (oa _)).trans e7 (oa _)⟩
end
end Go.U
namespace Go.U
open Go
theorem n1 {α β:Type} (b:Bool) (x y:Option α) (k:α->Option β):(cond b x y).bind k=cond b (x.bind k) (y.bind k):=JR b x y k
theorem n2 {α β:Type} (b:Bool) (x:Option α) (k:α->Option β):(ask b x).bind k=ask b (x.bind k):=PY b x k
theorem n3 {α β γ δ:Type} (e:α ⊕ β) (f:α->Option γ) (g:β->Option γ) (k:γ->Option δ):(e.elim f g).bind k=e.elim (fun a=>(f a).bind k) (fun a=>(g a).bind k):=BR e f g k
theorem n4 {α β γ:Type} (x:Option α) (f:α->Option β) (g:β->Option γ):(x.bind f).bind g=x.bind fun a=>(f a).bind g:=Option.bind_assoc x f g
theorem n5 {α β:Type} (a:α) (f:α->Option β):(some a).bind f=f a:=rfl
theorem n6 {α β:Type} (f:α->Option β):(none:Option α).bind f=none:=rfl
theorem n7 {α β γ:Type} (f:α->γ) (g:β->γ) (a:α):Sum.elim f g (.inl a)=f a:=rfl
theorem n8 {α β γ:Type} (f:α->γ) (g:β->γ) (b:β):Sum.elim f g (.inr b)=g b:=rfl
def Qv:List (V.Ex×ZD)->V.Ex->ZD
 |[],_=>⟨[],[],[],[]⟩
 |(e,p)::l,ex=>if ex=e then p else Qv l ex
def Qk (n:Nat) (p:ZD):Bool:=p.keep.all fun t=>decide (t<n)
theorem bu {n:Nat} {p:ZD} (h:Qk n p=true):yn n p:=fun t ht=>by
 have:=Yb.1 h t ht;simpa using this
theorem yE {n:Nat}:∀ {l:List (V.Ex×ZD)},(l.all fun q=>Qk n q.2)=true->∀ ex,yn n (Qv l ex)
 |[],_,ex=>fun t ht=>by simp [Qv] at ht
 |(e,p)::l,h,ex=>by
  simp only [List.all_cons,Ia] at h;unfold Qv;split
  · exact bu h.1
  · exact yE h.2 ex
structure LD (P T E:Type) where
 sk:ot
 p:sk.T->P
 t:sk.T->T
 n:P->T->sk.T
 st:(Y:Type)->P->T->(T->Option Y)->(E->Option Y)->Option Y
 o:(Z:Type)->P->E->(V.Ex->St->Z)->Z
 Je:ZD
 pe:List (V.Ex×ZD)
def LD.m {P T E:Type} (L:LD P T E) (p:P) (t:T):Option (T ⊕ E):=L.st _ p t (fun t=>some (.inl t)) (fun e=>some (.inr e))
def LD.q {P T E:Type} (L:LD P T E) (X:Type) (s:St) (K:V.Ex->St->Option X):Option X:=
 (To L.Je s).bind fun s=>(L.sk.take s).bind fun u=>(Oa (L.m (L.p u)) (L.t u)).bind fun e=>L.o _ (L.p u) e K
structure PD (P E:Type) where
 sk:ot
 p:sk.T->P
 n:P->sk.T
 st:(Y:Type)->P->(E->Option Y)->Option Y
 o:(Z:Type)->P->E->(V.Ex->St->Z)->Z
 Je:ZD
 pe:List (V.Ex×ZD)
def PD.m {P E:Type} (L:PD P E) (p:P):Option E:=L.st _ p (fun e=>some e)
def PD.q {P E:Type} (L:PD P E) (X:Type) (s:St) (K:V.Ex->St->Option X):Option X:=
 (To L.Je s).bind fun s=>(L.sk.take s).bind fun u=>(L.m (L.p u)).bind fun e=>L.o _ (L.p u) e K
structure FS (A R:Type) where
 sk:pz
 a:sk.T->A
 n:A->sk.T
 o:(Z:Type)->A->R->(UV->UH->Z)->Z
def FS.sp {A R:Type} (S:FS A R) (m:A->Option R):Spec:=fun X args H K=>(S.sk.take args H).bind fun u=>(m (S.a u)).bind fun r=>S.o _ (S.a u) r K
section
variable [TB:sB] {rf:Bool}
variable {A:V.oh} {C:V.Callee} {La:Nat->Option (List UV)} {za:List Nat} {n:Nat}
noncomputable abbrev vc (A:V.oh) (C:V.Callee) (rf:Bool) (za:List Nat) (n:Nat):=V.code A C rf za (ua n) n
theorem qP (hg:xe A La) {env:Env} (hc:Sa C env.call) {c:Code} (hl:∀ c'∈loops env.join c,Va env.loop (vc A C rf za n) c') {P T E:Type} (L:LD P T E)
  (hk:(Qk n L.Je&&L.pe.all fun q=>Qk n q.2)=true)
  (Ri:∀ Y p t ki ke,L.st Y p t ki ke=(L.m p t).bind (Sum.elim ki ke))
  (ij:∀ p t,code A La env za n c (L.sk.fill (L.n p t)) (sU L.Je (Qv L.pe))=L.st _ p t (fun t=>some (.inl (L.sk.fill (L.n p t)))) (fun e=>some (.inr (L.o _ p e Prod.mk))))
  (gh:∀ u,L.n (L.p u) (L.t u)=u) (ho:∀ Z p e K,L.o Z p e K=K (L.o _ p e Prod.mk).1 (L.o _ p e Prod.mk).2)
  (hq:∀ X s K,env.loop X (bf c) s K=L.q X s K):Va env.loop (vc A C rf za n) (.loop c):=by
 simp only [Ia] at hk;refine VJ hg (env:=env) hc hl (enc:=fun p t=>L.sk.fill (L.n p t)) (Gm:=fun p e=>L.o _ p e Prod.mk) (Je:=L.Je) (pe:=Qv L.pe) (step:=L.st) (bu hk.1) (yE hk.2) Ri ij ?_;intro X s K out h;rw [hq] at h;unfold LD.q at h;obtain ⟨s',hs,h⟩:=aa.1 h;obtain ⟨u,hu,h⟩:=aa.1 h;obtain ⟨e,he,h⟩:=aa.1 h;refine ⟨L.p u,L.t u,e,?_,he,(ho _ _ _ _).symm.trans h⟩;rw [hs,gh,ot.sd hu]
theorem MJ (hg:xe A La) {env Lg:Env} (hc:Sa C env.call) (Sf:Lg.call=env.call) {c:Code} (hl:∀ c'∈loops Lg.join c,Va Lg.loop (vc A C rf za n) c') {P E:Type} (L:PD P E)
  (hk:(Qk n L.Je&&L.pe.all fun q=>Qk n q.2)=true)
  (Ri:∀ Y p ke,L.st Y p ke=(L.m p).bind ke)
  (ij:∀ p,code A La Lg za n c (L.sk.fill (L.n p)) (fun ex s=>(To (Qv L.pe ex) s).bind fun s=>some (ex,s))=L.st _ p (fun e=>some (L.o _ p e Prod.mk)))
  (gh:∀ u,L.n (L.p u)=u) (ho:∀ Z p e K,L.o Z p e K=K (L.o _ p e Prod.mk).1 (L.o _ p e Prod.mk).2)
  (hq:∀ X s K,env.loop X (keyOf c) s K=L.q X s K):Va env.loop (vc A C rf za n) c:=by
 simp only [Ia] at hk;refine bH hg (env:=env) (Lg:=Lg) hc Sf hl (enc:=fun p=>L.sk.fill (L.n p)) (Gm:=fun p e=>L.o _ p e Prod.mk) (Je:=L.Je) (pe:=Qv L.pe) (step:=L.st) (bu hk.1) (yE hk.2) Ri ij ?_;intro X s K out h;rw [hq] at h;unfold PD.q at h;obtain ⟨s',hs,h⟩:=aa.1 h;obtain ⟨u,hu,h⟩:=aa.1 h;obtain ⟨e,he,h⟩:=aa.1 h;refine ⟨L.p u,e,?_,he,(ho _ _ _ _).symm.trans h⟩;rw [hs,gh,ot.sd hu]
theorem LJ (hg:xe A La) {env Lg:Env} (hc:Sa C env.call) (Sf:Lg.call=env.call) {id:Nat} {ks:List Nat} {g:Operand} {ps:Array Tmp} {a b:Code} (fK:TB.rf id=⟨n,ps.toList,a,b⟩) {P E:Type} (L:PD P E)
  (hk:(Qk n L.Je&&L.pe.all fun q=>Qk n q.2)=true)
  (Ri:∀ Y p ke,L.st Y p ke=(L.m p).bind ke)
  (ij:∀ p,WG A La Lg id n ks g (L.sk.fill (L.n p)) (fun ex s=>(To (Qv L.pe ex) s).bind fun s=>some (ex,s))=L.st _ p (fun e=>some (L.o _ p e Prod.mk)))
  (gh:∀ u,L.n (L.p u)=u) (ho:∀ Z p e K,L.o Z p e K=K (L.o _ p e Prod.mk).1 (L.o _ p e Prod.mk).2)
  (hq:∀ X s K,env.loop X (keyOf (.rangeFunc g ps a b)) s K=L.q X s K):Va env.loop (vc A C true za n) (.rangeFunc g ps a b):=by
 simp only [Ia] at hk;refine YG hg (env:=env) (Lg:=Lg) hc Sf fK (enc:=fun p=>L.sk.fill (L.n p)) (Gm:=fun p e=>L.o _ p e Prod.mk) (Je:=L.Je) (pe:=Qv L.pe) (step:=L.st) (bu hk.1) (yE hk.2) Ri ij ?_;intro X s K out h;rw [hq] at h;unfold PD.q at h;obtain ⟨s',hs,h⟩:=aa.1 h;obtain ⟨u,hu,h⟩:=aa.1 h;obtain ⟨e,he,h⟩:=aa.1 h;refine ⟨L.p u,e,?_,he,(ho _ _ _ _).symm.trans h⟩;rw [hs,gh,ot.sd hu]
def Cb (l:List (FuncId×Spec)):(X:Type)->UV->List UV->UH->(UV->UH->Option X)->Option X:=fun X fv args H K=>uO l X fv args H K
def ir (l ly:List (FuncId×Spec)):(X:Type)->UV->List UV->UH->(UV->UH->Option X)->Option X:=fun X fv args H K=>LY l ly X fv args H K
theorem C8 {C:V.Callee}:∀ p∈([]:List (FuncId×Spec)),Me C p.1 p.2:=fun p h=>by cases h
theorem sM {C:V.Callee} {f:FuncId} {s:Spec} {l:List (FuncId×Spec)} (h:Me C f s) (hl:∀ p∈l,Me C p.1 p.2):∀ p∈(f,s)::l,Me C p.1 p.2:=fun p hp=>by
 rcases oc.1 hp with rfl|hp
 · exact h
 · exact hl p hp
theorem S7 {C:V.Callee}:∀ p∈([]:List (FuncId×Spec)),Ai C p.2:=fun p h=>by cases h
theorem DZ {C:V.Callee} {f:FuncId} {s:Spec} {l:List (FuncId×Spec)} (h:Ai C s) (hl:∀ p∈l,Ai C p.2):∀ p∈(f,s)::l,Ai C p.2:=fun p hp=>by
 rcases oc.1 hp with rfl|hp
 · exact h
 · exact hl p hp
theorem Bc {AE:(X:Type)->Nat->St->(V.Ex->St->Option X)->Option X} {Pw:Code->V.S->Option (V.Ex×V.S)}:∀ c∈([]:List Code),Va AE Pw c:=fun p h=>by cases h
theorem Db {AE:(X:Type)->Nat->St->(V.Ex->St->Option X)->Option X} {Pw:Code->V.S->Option (V.Ex×V.S)} {c:Code} {l:List Code} (h:Va AE Pw c) (hl:∀ c∈l,Va AE Pw c):∀ c'∈c::l,Va AE Pw c':=fun p hp=>by
 rcases oc.1 hp with rfl|hp
 · exact h
 · exact hl p hp
theorem Yc {AE:(X:Type)->Nat->St->(V.Ex->St->Option X)->Option X} {Pw:Code->V.S->Option (V.Ex×V.S)} {l l':List Code} (e:l=l') (h:∀ c∈l',Va AE Pw c):∀ c∈l,Va AE Pw c:=fun c hc=>h c (e ▸ hc)
theorem K1 (hg:xe A La) {env:Env} {k:Nat} (hc:Sa (V.call A k) env.call) {f:FuncId} {fn:Func} {c:Code} {sh:Sh} {fz:Bool}
  (h1:A.fns f=some fn) (h2:fn.body=some c) (h3:A.ext f=none) (h4:A.loc f=za) (h5:A.keep f=ua fn.ntmps) (h6:A.jS f=fz)
  (hl:∀ c'∈loops env.join c,Va env.loop (vc A (V.call A k) true za fn.ntmps) c') {A' R:Type} (S:FS A' R) {m:A'->Option R}
  {mc:(X:Type)->A'->(R->Option X)->Option X}
  (Wd:∀ X a K,QH A La env za fn sh fz (S.sk.args (S.n a)) (S.sk.heap (S.n a)) K=mc X a (fun r=>S.o _ a r K))
  (Ri:∀ X a K,mc X a K=(m a).bind K) (gh:∀ u,S.n (S.a u)=u):Me (V.call A (k+1)) f (S.sp m):=by
 refine (rU (sh:=sh) (fz:=fz) hg hc (f:=f) (fn:=fn) (c:=c) h3 h1 h2 (za:=za) h4 h5 h6 hl).imp ?_;intro X args H K out h;unfold FS.sp at h;obtain ⟨u,hu,h⟩:=aa.1 h;obtain ⟨g1,g2⟩:=pz.sd hu;rw [<- g1,<- g2];have:=Wd X (S.a u) K;rw [gh,Ri] at this;rw [this];exact h
theorem CZ (hg:xe A La) {env:Env} {k:Nat} (hc:Sa (V.call A k) env.call) {id:Nat} {r:RFn} (fK:TB.rf id=r)
  (h1:∀ c'∈loops env.join r.assign,Va env.loop (vc A (V.call A k) false [] r.n) c') (h2:∀ c'∈loops env.join r.body,Va env.loop (vc A (V.call A k) false [] r.n) c') {A' R:Type} (S:FS A' R) {m:A'->Option R}
  {mc:(X:Type)->A'->(R->Option X)->Option X}
  (Wd:∀ X a K,lM A La env id r (S.sk.args (S.n a)) (S.sk.heap (S.n a)) K=mc X a (fun r=>S.o _ a r K))
  (Ri:∀ X a K,mc X a K=(m a).bind K) (gh:∀ u,S.n (S.a u)=u):Ai (V.call A (k+1)) (S.sp m):=by
 refine (oS hg hc (id:=id) (r:=r) fK h1 h2).imp ?_;intro X args H K out h;unfold FS.sp at h;obtain ⟨u,hu,h⟩:=aa.1 h;obtain ⟨g1,g2⟩:=pz.sd hu;rw [<- g1,<- g2];have:=Wd X (S.a u) K;rw [gh,Ri] at this;rw [this];exact h
end
end Go.U
