/- A second evaluator, over rows of Lean values, and that it is right over the first. -/
import Derived.Test.YtjenflkegbmkkaaGreatDoorB2
import Derived.KernelRfl
set_option linter.unusedVariables false
set_option linter.unusedSimpArgs false
set_option linter.unusedSectionVars false
open Bool renaming and_eq_true→Va
open List renaming mem_cons→Yb,nodup_append→Sw,mem_append→Mw,mem_cons_self→Ad,mem_cons_of_mem→Wb,getElem?_eq_getElem→Ba,getElem?_map→Tb,map_cons→Pd,mem_of_getElem?→Nb,range→ua,mem_map→Ju,getD_eq_getElem?_getD→Ia,length_map→Qc,getElem?_append_left→Ka,getElem?_append_right→Na,getElem?_take→Db,length_take→ic,take_length→Af,all_eq_true→tc,mem_filter→Bh,length_set→qe
open Nat renaming le_refl→va,lt_or_ge→Vb,le_trans→Ib
open Nat.succ renaming inj→ZD
open Option renaming map_eq_some_iff→ia,bind_eq_some_iff→aa,bind_some→ga
open Option.some renaming injEq→Dc
namespace Go.U
open Go
variable [TB:GC]
theorem KI:∀{l:List Nat}{b i k:Nat},pos b l i=some k->∃j,k=i+j/\l[j]?=some b
 |[],b,i,k,h=>by simp[pos]at h
 |x::l,b,i,k,h=>by
  simp only[pos]at h;split at h
  ·rename_i e;simp at h;subst h;subst e;exact⟨0,rfl,rfl⟩
  ·obtain⟨j,h1,h2⟩:=KI h;exact⟨j+1,by omega,by simpa using h2⟩
theorem gR{l:List Nat}{b k:Nat}(h:pos b l 0=some k):l[k]?=some b:=by
 obtain⟨j,h1,h2⟩:=KI h;have:k=j:=by omega
 subst this;exact h2
theorem SN:∀{l:List Nat}{b i:Nat},b∈l->∃k,pos b l i=some k
 |[],b,i,h=>by simp at h
 |x::l,b,i,h=>by
  simp only[pos];split
  ·exact⟨i,rfl⟩
  ·rename_i e;rcases Yb.1 h with rfl|h
   ·exact(e rfl).elim
   ·exact SN h
theorem qj{H:UH}:∀{d:Nat}{w seen:List Nat},seen.Nodup->(reach H d w seen).Nodup
 |0,w,seen,h=>by simpa[reach]using h
 |d+1,[],seen,h=>by simpa[reach]using h
 |d+1,b::w,seen,h=>by
  simp only[reach];split
  ·exact qj h
  ·rename_i hb;refine qj (Sw.2 ⟨h,by simp,fun x hx y hy=> ?_⟩);simp at hy;subst hy
   rintro rfl
   exact hb (by simpa using hx)
theorem po:∀{e:List (Nat×US)}{l:List Nat},l.Nodup->(Em e l).Nodup
 |[],l,h=>h
 |(_,.loc i _)::e,l,h=>by
  simp only[Em];refine po ?_;split
  ·exact h
  ·rename_i hb;refine Sw.2 ⟨h,by simp,fun x hx y hy=> ?_⟩;simp at hy;subst hy
   rintro rfl
   exact hb (by simpa using hx)
 |(_,.v _)::e,l,h=>by simpa[Em]using po h
theorem ju:∀{e:List (Nat×US)}{l:List Nat}{i:Nat},i∈Em e l->i∈l\/∃t c,(t,US.loc i c)∈e
 |[],l,i,h=> .inl h
 |(t,.loc j c)::e,l,i,h=>by
  simp only[Em]at h;rcases ju h with h|⟨t',c',h⟩
  ·split at h
   ·exact .inl h
   ·rcases Mw.1 h with h|h
    ·exact .inl h
    ·simp at h;subst h;exact .inr ⟨t,c,Ad ..⟩
  ·exact .inr ⟨t',c',Wb _ h⟩
 |(t,.v _)::e,l,i,h=>by
  simp only[Em]at h;rcases ju h with h|⟨t',c',h⟩
  ·exact .inl h
  ·exact .inr ⟨t',c',Wb _ h⟩
theorem Gr{l:List Nat}(h:l.Nodup){i j x:Nat}(hi:l[i]?=some x)(hj:l[j]?=some x):i=j:=by
 have h1:=Za hi;have h2:=Za hj;rw[Ba h1]at hi;rw[Ba h2]at hj;simp at hi hj;exact(List.getElem_inj h).1 (by rw[hi,hj])
section
variable {m m':Mp}{Hv:V.AH}{φ:Nat->Option Nat}
def Ren(m m':Mp)(φ:Nat->Option Nat):Prop:=∀b b',φ b=some b'->m'.ι b'=m.ι b/\m'.len b'=m.len b/\b'<m'.top
theorem RL.Hj(h:Ren m m' φ)(d:Nat){xs:List UV}{as:List V.AV}(hx:RL m xs as):RL m' (xs.map (U.Hj φ d)) as:=
 ⟨by simp[hx.1],fun i x a h1 h2=>by
  rw[Tb,ia]at h1;obtain⟨y,hy,rfl⟩:=h1;exact RV.Hj h d (hx.2 i y a hy h2)⟩
theorem get_map(g:UV->UV)(hg:g .Sb= .Sb):∀(l:List (Nat×UV))(t:Nat),get ((l.map fun p=>(p.1,g p.2)).map fun p=>(p.1,US.v p.2)) t=match get (l.map fun p=>(p.1,US.v p.2)) t with| .v y=> .v (g y)|x=>x
 |[],t=>by simp[get,hg]
 |(i,x)::l,t=>by
  simp only[Pd,get];split
  ·rfl
  ·exact get_map g hg l t
theorem MR.free{k:KT}(m':Mp):∀{es:List (td k×UV)}{ud:List (V.AV×V.AV)},MR k m es ud->MR k m' es ud
 |[],[],_=>trivial
 |(_,_)::_,(_,_)::_,h=>⟨h.1,h.2.1.qW m' 8 h.2.2.1,h.2.2.1,h.2.2.2.free m'⟩
 |[],_::_,h=>h.elim
 |_::_,[],h=>h.elim
theorem RB.Hj(h:Ren m m' φ){b b':Nat}{y:UB}(hy:RB m Hv b y)(cp:m'.ι b'=m.ι b)(hl:m'.len b'=m.len b):RB m' Hv b' (gu φ y):=by
 cases y with
 |dead=>trivial
 |Ya row=>
  obtain⟨x,Lb,ty,h1,h2,h3⟩:=hy;exact⟨x,Lb,ty,by rw[cp];exact h1,h2,h3.Hj h 8⟩
 |um q=>
  obtain⟨x,p,q',h1,h2,h3,h4,h5⟩:=hy;exact⟨x,p,q',by rw[cp];exact h1,h2,h3,RV.Hj h 8 h4,h5⟩
 |yp s=>
  obtain⟨h1,h2⟩:=hy;refine⟨by rw[hl];exact h1,?_⟩;rcases h2 with⟨h2,h3⟩|⟨x,h2,h3,h4⟩
  ·exact .inl ⟨h2,by rw[cp];exact h3⟩
  ·exact .inr ⟨x,by rw[cp];exact h2,h3,h4⟩
 |cells c l=>
  obtain⟨h1,h2⟩:=hy;refine⟨by rw[hl];exact h1,?_⟩;rcases h2 with⟨h2,h3⟩|⟨x,rows,ty,h2,h3,h4,h5,h6,h7⟩
  ·exact .inl ⟨h2,by rw[cp];exact h3⟩
  ·exact .inr ⟨x,rows,ty,by rw[cp];exact h2,h3,h4,h5,h6,fun i row c y a k0 k1 k2 k3=>(h7 i row c y a k0 k1 k2 k3).free m' 8 ((h5 i k0).2 y (Nb k2))⟩
 |deep c l=>
  obtain⟨h1,h0,h2⟩:=hy;refine⟨by rw[hl];exact h1,fun r=>by rw[hl,cp];exact h0 r,?_⟩;rcases h2 with⟨h2,h3⟩|⟨x,rows,ty,h2,h3,h4,h5⟩
  ·exact .inl ⟨h2,by rw[cp];exact h3⟩
  ·refine .inr ⟨x,rows,ty,by rw[cp];exact h2,h3,h4,fun r hr=> ?_⟩;obtain⟨a,k1,k2⟩:=h5 r hr;rw[cp];exact⟨a,k1,k2.keep (fun _ _ hc h=>h.free m' 8 hc) fun _ _=>rfl⟩
 |Zj k es=>
  obtain⟨x,ud,h1,h2,h3⟩:=hy;exact⟨x,ud,by rw[cp];exact h1,h2,h3.free m'⟩
 |oh k g c l=>
  obtain⟨x,ud,h1,h2,h3⟩:=hy;exact⟨x,ud,by rw[cp];exact h1,h2,h3.free m'⟩
 |loop id env st pe=>
  obtain⟨x,Mm,h1,h2,h3⟩:=hy;refine⟨x,Mm,by rw[cp];exact h1,h2,fun t=> ?_⟩;have h4:=h3 t;unfold De at h4 ⊢;rw[get_map (U.Hj φ 8) rfl env t]
  revert h4
  cases get (env.map fun p=>(p.1,US.v p.2)) t with
  |loc i c=>exact fun h=>h.elim
  |v y=>
   cases V.get (V.De Mm) t with
   |loc i c=>exact fun h=>h.elim
   |v a=>exact fun hr=>RV.Hj h 8 hr
theorem IE(φ:Nat->Option Nat)(y:UB):Zd (gu φ y)=Zd y:=by cases y<;>rfl
theorem GB(g:Nat->US):∀(keep:List Nat)(t:Nat),get (keep.map fun i=>(i,g i)) t=if t∈keep then g t else .v .Sb
 |[],t=>by simp[get]
 |i::l,t=>by
  simp only[Pd,get,GB g l t];by_cases e:t=i
  ·subst e;simp
  ·simp[e]
def Alike(n:Nat)(sv xe:V.S):Prop:=xe.H=sv.H/\xe.F=sv.F/\∀t,t<n->V.get xe.e t=V.get sv.e t
theorem Alike.refl(n:Nat)(sv:V.S):Alike n sv sv:=⟨rfl,rfl,fun _ _=>rfl⟩
theorem gE(g:Nat->V.SV):∀(keep:List Nat)(t:Nat),V.get (keep.map fun i=>(i,g i)) t=if t∈keep then g t else .v .Sb
 |[],t=>by simp[V.get]
 |i::l,t=>by
  simp only[Pd,V.get,gE g l t];by_cases e:t=i
  ·subst e;simp
  ·simp[e]
theorem Alike.clean(n:Nat)(sv:V.S):Alike n sv (V.clean (ua n) sv):=⟨rfl,rfl,fun t ht=>by
 simp only[V.clean];rw[gE,if_pos (by simpa using ht)]⟩
theorem RS.Hj{ψ χ:Nat->Option Nat}{Og:Nat->Option Nat}(h:Ren m m' χ)(hp:∀i i' j,ψ i=some i'->φ i=some j->Og i'=some j){x:US}{a:V.SV}(hx:RS m φ x a):RS m' Og (eR χ ψ x) a:=by
 cases x with
 |v y=>
  by_cases hy:y= .Sb
  ·subst hy;exact trivial
  ·obtain⟨a,rfl,hr⟩:=hx.val hy;exact(RV.Hj h 8 hr).rs
 |loc i c=>
  cases a with
  |v a=>exact hx.elim
  |loc j c'=>
   simp only[eR];split
   ·rename_i i' hi;exact⟨hp i i' j hi hx.1,hx.2⟩
   ·exact trivial
theorem om{n:Nat}{keep:List Nat}{s:St}{sv xe:V.S}(hk:∀t∈keep,t<n)(hs:vm m φ s sv)(hw:s.H.wm<=s.base)(ha:Alike n sv xe):
  ∃m' Og,vm m' Og (compact keep s) xe/\Oj s.base m sv.H m' sv.H:=by
 obtain⟨a1,a2,a3⟩:=ha
 let e:=keep.map fun i=>(i,get s.e i)
 let fs:=Em e []
 let rows:=fs.map fun i=>s.F.getD i []
 let bs:=ua s.base++(reach s.H 64 (ua s.base++(e.flatMap fun p=>caf p.2)++rows.flatMap fun row=>row.flatMap (ids 8)) []).filter (fun b=>decide (s.base<=b))
 let χ:=fun b=>pos b bs 0
 let ψ:=fun i=>pos i fs 0
 have B8:bs.Nodup:=by
  refine Sw.2 ⟨List.nodup_range,(qj List.nodup_nil).filter _,fun x hx y hy=> ?_⟩;simp at hx hy;omega
 have hfs:fs.Nodup:=po List.nodup_nil
 let m':Mp:={ ι:=fun b s=>(bs[b]?).bind fun c=>m.ι c s,len:=fun b=>m.len (bs.getD b 0),top:=bs.length }
 let Og:Nat->Option Nat:=fun i=>(fs[i]?).bind φ
 have PL:Ren m m' χ:=fun b b' hb=>by
  have:=gR hb;exact⟨by simp[m',this],by simp[m',this],Za this⟩
 have Zaf:∀i,i∈fs->∃j,φ i=some j:=fun i hi=>by
  rcases ju hi with h|⟨t,c,h⟩
  ·simp at h
  ·obtain⟨i',PK,he⟩:=Ju.1 h;simp only[Prod.mk.injEq]at he;have:=hs.e t;rw[he.1]at he;rw[he.2]at this;cases hv:V.get sv.e t with
   |v a=>rw[hv]at this;exact this.elim
   |loc j c'=>rw[hv]at this;exact⟨j,this.1⟩
 have hblk:∀b' y,(bs.map fun b=>gu χ (s.H.bl.getD b .dead))[b']?=some y->∃b,bs[b']?=some b/\y=gu χ (s.H.bl.getD b .dead):=fun b' y hy=>by
  rw[Tb,ia]at hy;obtain⟨b,h1,h2⟩:=hy;exact⟨b,h1,h2.symm⟩
 have ae:∀b',live (compact keep s).H b'->∃b,bs[b']?=some b/\live s.H b:=fun b'⟨y,hy,hl⟩=>by
  obtain⟨b,h1,rfl⟩:=hblk b' y hy;rw[IE]at hl;refine⟨b,h1,?_⟩;rw[Ia]at hl;cases h2:s.H.bl[b]? with
  |none=>rw[h2]at hl;simp[Zd]at hl
  |some y=>rw[h2]at hl;exact⟨y,h2,hl⟩
 have Hu:(compact keep s).H.bl=bs.map fun b=>gu χ (s.H.bl.getD b .dead):=rfl
 have hlen:(compact keep s).H.bl.length=bs.length:=by rw[Hu,Qc]
 have hF:(compact keep s).F=fs.map fun i=>(s.F.getD i []).map (Hj χ 8):=List.map_map
 have OV:∀b,b<s.base->bs[b]?=some b:=fun b hb=>by
  simp only[bs];rw[Ka (by simpa using hb)];simp[hb]
 refine⟨m',Og,⟨⟨fun b _ x hb=> ?_,fun b' y hy=> ?_,fun b1 b2 _ _ x l1 l2 e1 e2=> ?_,fun b _ x hb OE=> ?_,by rw[a1];exact hs.h.top,by rw[hlen]⟩,⟨fun i j PC=> ?_,fun i row hi=> ?_,fun i i' j h1 h2=> ?_⟩,fun t=> ?_,?_⟩,⟨⟨?_,fun b hb=> ?_⟩,fun _ _ _=>rfl,fun b s0 x hb=> ?_,va _,rfl⟩⟩
 ·simp only[m',aa]at hb;obtain⟨b0,h1,h2⟩:=hb;have:=(hs.h.Ie b0 x h2).2;have h3:=Za h1;refine⟨by rw[hlen];exact h3,by rw[a1];exact this⟩
 ·obtain⟨b,h1,rfl⟩:=hblk b' y hy;have cp:m'.ι b'=m.ι b:=by simp[m',h1]
  have hl:m'.len b'=m.len b:=by simp[m',h1]
  rw[Ia];cases h2:s.H.bl[b]? with
  |none=>trivial
  |some y=>exact RB.Hj PL ((hs.h.Vc b y h2).bl (by rw[a1])) cp hl
 ·obtain⟨c1,h1,h2⟩:=ae b1 l1;obtain⟨c2,h3,h4⟩:=ae b2 l2;simp only[m',h1,ga]at e1;simp only[m',h3,ga]at e2;obtain⟨this,h5⟩:=hs.h.pn c1 c2 x h2 h4 e1 e2;subst this;exact⟨Gr B8 h1 h3,h5⟩
 ·simp only[m',aa]at hb;obtain⟨b0,h1,h2⟩:=hb;rw[a1];refine hs.h.wm b0 x h2 ?_;have eaa:s.H.wm<=b:=OE;rcases Vb b s.base with Ac|Jt
  ·rw[OV b Ac]at h1;simp at h1;subst h1;exact eaa
  ·simp only[bs]at h1;rw[Na (by simpa using Jt)]at h1;have:=Nb h1;simp at this;omega
 ·simp only[Og,aa]at PC;obtain⟨i0,h1,h2⟩:=PC;have:=(hs.f.Ie i0 j h2).2;have h3:=Za h1;refine⟨?_,by rw[a2];exact this⟩;have:(compact keep s).F=fs.map fun i=>(s.F.getD i []).map (Hj χ 8):=hF
  rw[this,Qc];exact h3
 ·have PK:(fs.map fun i=>(s.F.getD i []).map (Hj χ 8))[i]?=some row:=by
   rw[hF]at hi;exact hi
  rw[Tb,ia]at PK;obtain⟨i0,h1,h2⟩:=PK;obtain⟨j,hj⟩:=Zaf i0 (Nb h1);have Ac:=(hs.f.Ie i0 j hj).1;have S4:=Ba Ac;obtain⟨j',Lb,k1,k2,k3⟩:=hs.f.row i0 _ S4;rw[hj]at k1;simp at k1;subst k1;refine⟨j,Lb,by simp[Og,h1,hj],by rw[a2];exact k2,?_⟩;rw[<- h2,Ia,S4];exact k3.Hj PL 8
 ·simp only[Og,aa]at h1 h2;obtain⟨i0,k1,k2⟩:=h1;obtain⟨i1,k3,k4⟩:=h2;have:=hs.f.inj i0 i1 j k2 k4;subst this;exact Gr hfs k1 k3
 ·have he:get (compact keep s).e t=if t∈keep then eR χ ψ (get s.e t)else .v .Sb:=by
   have:(compact keep s).e=keep.map fun i=>(i,eR χ ψ (get s.e i)):=List.map_map
   rw[this];exact GB _ keep t
  rw[he];split
  ·rename_i ht;rw[a3 t (hk t ht)];refine RS.Hj PL (fun i i' j h1 h2=> ?_) (hs.e t);have:=gR h1;simp[Og,this,h2]
  ·exact trivial
 ·rw[hlen];show s.base<=bs.length;simp[bs]
 ·simp[m',bs]
 ·have:=OV b hb;exact⟨by simp[m',this],by simp[m',this]⟩
 ·simp only[m',aa]at hb;obtain⟨b0,h1,h2⟩:=hb;exact .inl ⟨b0,s0,h2⟩
end
end Go.U
namespace Go.U
open Go
variable [TB:GC]{rf:Bool}
section
variable {φ:Nat->Option Nat}{Hv:V.AH}
theorem Wm{f:Sh->UV->UH->Option (UV×UH)}(hf:∀sh x H x' H',f sh x H=some (x',H')->∀m,RH m H Hv->Mo m H H' Hv fun m'=>∀a,RV m x a->RV m' x' a):
  ∀{Fu:List Sh}{xs:List UV}{H:UH}{l:List UV}{H':UH},qg.Oh f Fu xs H=some (l,H')->∀m,RH m H Hv->Mo m H H' Hv fun m'=>∀ as,RL m xs as->RL m' l as
 |[],[],H,l,H',h,m,hh=>by
  simp[qg.Oh]at h;obtain⟨rfl,rfl⟩:=h;exact .same hh fun as h=>h
 |s::ss,x::xs,H,l,H',h,m,hh=>by
  simp only[qg.Oh,aa]at h;obtain⟨⟨x',H1⟩,h1,⟨Pp,H2⟩,h2,h⟩:=h;simp at h;obtain⟨rfl,rfl⟩:=h;refine(hf _ _ _ _ _ h1 m hh).trans fun m1 PE hle hp=>(Wm hf h2 m1 PE).imp fun m2 ZL hq as ha=> ?_
  cases as with
  |nil=>have:=ha.1;simp at this
  |cons a as=>
   have h0:=(hp a (ha.2 0 x a rfl rfl)).mono ZL;have hr:RL m xs as:=⟨by have:=ha.1;simpa using this,fun i y b k1 k2=>ha.2 (i+1) y b (by simpa using k1) (by simpa using k2)⟩;exact .cons h0 (hq as (hr.mono hle))
 |[],_::_,H,l,H',h,m,hh=>by simp[qg.Oh]at h
 |_::_,[],H,l,H',h,m,hh=>by simp[qg.Oh]at h
theorem yK{m:Mp}{k:KT}{g:Bool}{c:CT}:∀{es:List (td k×UV)}{l:List (td k×Gb c)}{ud:List (V.AV×V.AV)},O0 g c es=some l->MR k m es ud->MR k m (Qj g c l) ud
 |[],l,ud,h,hm=>by simp[O0]at h;subst h;exact hm
 |(i,x)::es,l,ud,h,hm=>by
  simp only[O0,aa]at h;obtain⟨y,hy,l',hl,h⟩:=h;simp at h;subst h;cases ud with
  |nil=>exact hm.elim
  |cons p ud=>
   obtain⟨h1,h2,h3,h4⟩:=hm;obtain⟨d1,d2⟩:=xK hy;exact⟨h1,d2 m _ h2,d1,yK hl h4⟩
theorem CE{m:Mp}{H:UH}(hh:RH m H Hv)(c:CT):Mo m H (push H (.deep c [])) Hv fun m'=>∀a,a= .Xa\/a= .Ud->RV m' (.all H.bl.length) a:=by
 have hp:=hh.push (Nc:=Hv) (y:= .deep c []) (x:=none) (n:=0) (fun _ _ _ _ _=>rfl) (va _) rfl (fun xv e=>by simp at e) ⟨zd _ _ _ _,fun r=>⟨by rw[Mp.add,Xq];rfl,fun _=>by rw[Mp.add,gh];rfl⟩,.inl ⟨rfl,be _ _ _ _⟩⟩;refine⟨rfl,_,hp.1,hp.2,⟨Mg hh _ _,fun _ _ _=>rfl,fun b _ xv hb=> ?_,va _,rfl⟩,fun a h=> .Yf _ _ (by simp[Mp.add,Mp.Ni]) (zd _ _ _ _) h⟩;by_cases e:b=H.bl.length
 ·subst e;obtain⟨_,e⟩:=Ki hb;simp at e
 ·rw[Gf _ _ _ e]at hb;exact .inl ⟨b,_,hb⟩
theorem SI{m:Mp}{H:UH}(hh:RH m H Hv)(c:CT):Mo m H (push H (.cells c [])) Hv fun m'=>∀a,a= .Xa\/a= .Ud->RV m' (.sl H.bl.length 0 0) a:=
 (Wu hh c).imp fun _ _ _ a h=> .Bt _ _ _ h
theorem pB{m:Mp}{H H':UH}{b n:Nat}{c:CT}{x':UV} (h:(match H.bl[b]? with
  |some (.cells c' l)=>if c'=c/\H.wm<=b then some (UV.all H.bl.length,push (Ra H b .dead) (.cells c' (l.take n)))else none
  |_=>none)=some (x',H')) (hh:RH m H Hv):Mo m H H' Hv fun m'=>∀a,RV m (.sl b 0 n) a->RV m' x' a:=by
 split at h
 case h_2=>simp at h
 rename_i c' l hb;split at h
 case isFalse=>simp at h
 rename_i hc;simp at h;obtain⟨rfl,rfl⟩:=h;have ae:live H b:=⟨_,hb,rfl⟩;have hk:=hh.kill b;have hlen:(Ra H b .dead).bl.length=H.bl.length:=by simp[Ra]
 have Lj:∀{b'},live (Ra H b .dead) b'->b'≠b/\live H b':=fun h=>by
  rcases sg h with⟨_,h'⟩|h'
  ·simp[Zd]at h'
  ·exact h'
 obtain⟨kb,kx⟩:=Cc (s:=⟨[],[],H,0⟩) (sv:=⟨[],[],Hv⟩) hh hb;have hrb:RB (m.add (Ra H b .dead).bl.length (m.ι b 0) (l.take n).length) Hv (Ra H b .dead).bl.length (.cells c' (l.take n)):=by
  refine⟨zd _ _ _ _,?_⟩;rw[be];cases hx:m.ι b 0 with
  |none=>
   have:=hh.Vc b _ hb;rcases this.2 with⟨h0,_⟩|⟨x,rows,_,h1,_⟩
   ·exact .inl ⟨by simp[h0],rfl⟩
   ·rw[hx]at h1;simp at h1
  |some x=>
   obtain⟨rows,ty,k2,k3,k4⟩:=kx x hx;refine .inr ⟨x,rows,ty,rfl,k2,by simp;omega,fun i _=>⟨Ef _ _ _,Xd _ _ _⟩,fun i row hi hr=> ?_,fun i row k y a hi hr h1 h2=> ?_⟩
   ·exact k4.2.1 i row (by simp at hi;omega) hr
   ·have e:vw c' (l.take n) i=vw c' l i:=by
     simp only[vw,Ia,Db];rw[if_pos (by simp at hi;omega)]
    rw[e]at h1;exact(k4.2.2 i row k y a (by simp at hi;omega) hr h1 h2).free _ 8 (Xd _ _ _ y (Nb h1))
 have hp:=hk.push (Nc:=Hv) (fun _ _ _ _ _=>rfl) (va _) rfl (fun xv e=>⟨(hh.Ie b xv e).2,hh.wm b xv e hc.2,fun b' s' bg e'=>(Lj bg).1 (hh.inj b' b xv (Lj bg).2 ae e' e)⟩) hrb;rw[hlen]at hp;refine⟨rfl,_,hp.1,hp.2,⟨by have:=Mg hk;simpa only[hlen]using this _ _,fun _ _ _=>rfl,fun b' _ xv Ld=> ?_,va _,rfl⟩,fun a ha=> ?_⟩
 ·by_cases e:b'=H.bl.length
  ·subst e;obtain⟨_,e⟩:=Ki Ld;exact .inl ⟨b,_,e⟩
  ·rw[Gf _ _ _ e]at Ld;exact .inl ⟨b',_,Ld⟩
 ·cases ha with
  |sl _ _ _ x hx hle=>
   have:=RV.all (m:=m.add H.bl.length (m.ι b 0) (l.take n).length) H.bl.length x (by rw[be];exact hx);have hk0:m.len b 0=l.length:=kb;rw[zd,ic,Nat.min_eq_left (by omega)]at this;rw[ic,Nat.min_eq_left (by omega)];exact this
  |Bt _ _ _ ha=>exact .Yf _ _ (by simp[Mp.add,Mp.Ni]) (by rw[zd];simp) ha
theorem nR{m:Mp}{H H':UH}{b:Nat}{c:CT}{x':UV} (h:(match H.bl[b]? with
  |some (.cells c' l)=>if c'=c/\H.wm<=b then some (UV.all H.bl.length,push (Ra H b .dead) (.cells c' l))else none
  |_=>none)=some (x',H')) (hh:RH m H Hv):Mo m H H' Hv fun m'=>∀a,RV m (.all b) a->RV m' x' a:=by
 cases hb:H.bl[b]? with
 |none=>rw[hb]at h;simp at h
 |some y=>
  rw[hb]at h;cases y with
  |cells c' l=>
   obtain⟨k0,_⟩:=Cc (s:=⟨[],[],H,0⟩) (sv:=⟨[],[],Hv⟩) hh hb;refine(pB (n:=l.length) (c:=c) (b:=b) (x':=x') (H':=H') (by rw[hb];simpa[Af]using h) hh).imp fun m' _ hp a ha=>hp a ?_
   cases ha with
   |all _ x hx=>rw[k0];exact .sl _ 0 _ x hx (by omega)
   |Yf _ _ _ hl ha=>
    have:l.length=0:=by omega
    rw[this];exact .Bt _ 0 _ ha
  |_=>simp at h
theorem Xm:∀(d:Nat)(sh:Sh)(x:UV)(H:UH)(x':UV)(H':UH),qg d false sh x H=some (x',H')->∀m,RH m H Hv->Mo m H H' Hv fun m'=>∀a,RV m x a->RV m' x' a
 |0,sh,x,H,x',H',h,m,hh=>by simp[qg]at h
 |d+1,sh,x,H,x',H',h,m,hh=>by
  unfold qg at h;split at h
  ·rename_i e;exact absurd e (by omega)
  ·simp at h;obtain⟨rfl,rfl⟩:=h;exact .same hh fun a h=>h
  ·simp at h;obtain⟨rfl,rfl⟩:=h;exact .same hh fun a h=> .Sb a
  ·simp at h;obtain⟨rfl,rfl⟩:=h;exact .same hh fun a h=>by cases h;exact .di _ _ (.inl rfl)
  ·simp at h;obtain⟨rfl,rfl⟩:=h;exact .same hh fun a h=>by cases h;exact .di _ _ (.inr rfl)
  ·simp at h
  ·simp at h
  ·simp at h;obtain⟨rfl,rfl⟩:=h;exact .same hh fun a h=>h
  ·simp at h;obtain⟨rfl,rfl⟩:=h;exact(Wu hh _).imp fun m1 _ hp a h=>by cases h;exact hp _ (.inl rfl)
  ·simp at h;obtain⟨rfl,rfl⟩:=h;exact(Wu hh _).imp fun m1 _ hp a h=>by cases h;exact hp _ (.inr rfl)
  ·exact pB h hh
  ·simp at h;obtain⟨rfl,rfl⟩:=h;exact(SI hh _).imp fun m1 _ hp a h=>by cases h;exact hp _ (.inl rfl)
  ·simp at h;obtain⟨rfl,rfl⟩:=h;exact(SI hh _).imp fun m1 _ hp a h=>by cases h;exact hp _ (.inr rfl)
  ·simp at h;obtain⟨rfl,rfl⟩:=h;exact .same hh fun a h=>h
  ·split at h
   case h_2=>simp at h
   rename_i c l hb;simp at h;obtain⟨rfl,rfl⟩:=h;obtain⟨k0,_⟩:=Cc (s:=⟨[],[],_,0⟩) (sv:=⟨[],[],Hv⟩) hh hb;refine .same hh fun a h=> ?_
   cases h with
   |all _ x hx=>rw[k0];exact .sl _ 0 _ x hx (by omega)
   |Yf _ _ _ hl ha=>
    have:l.length=0:=by omega
    rw[this];exact .Bt _ 0 _ ha
  ·simp at h;obtain⟨rfl,rfl⟩:=h;exact .same hh fun a h=>h
  ·simp at h;obtain⟨rfl,rfl⟩:=h;exact(CE hh _).imp fun m1 _ hp a h=>by cases h;exact hp _ (.inl rfl)
  ·simp at h;obtain⟨rfl,rfl⟩:=h;exact(CE hh _).imp fun m1 _ hp a h=>by cases h;exact hp _ (.inr rfl)
  ·simp at h;obtain⟨rfl,rfl⟩:=h;exact .same hh fun a h=>h
  ·exact nR h hh
  ·split at h
   ·rename_i k' es hb;split at h
    case isFalse=>simp at h
    rename_i hk;subst hk;simp only[aa]at h;obtain⟨l,hl,h⟩:=h;simp at h;obtain⟨rfl,rfl⟩:=h;refine⟨rfl,m,hh.B_ ⟨_,hb,rfl⟩ ?_,.refl m,.refl Hv (va _),fun a h=>h⟩;obtain⟨x,ud,k1,k2,k3⟩:=hh.Vc _ _ hb;exact⟨x,ud,k1,k2,yK hl k3⟩
   ·simp at h;obtain⟨rfl,rfl⟩:=h;exact .same hh fun a h=>h
   ·simp at h
  ·simp only[ia]at h;obtain⟨⟨l,H1⟩,h1,h⟩:=h;simp at h;obtain⟨rfl,rfl⟩:=h;refine(Wm (fun sh x H x' H' h m hh=>Xm _ sh x H x' H' h m hh) h1 m hh).imp fun m1 hle hp a ha=> ?_
   cases ha with
   |agg _ as hl hr=>have:=hp as ⟨hl,hr⟩;exact .agg _ _ this.1 this.2
  ·simp only[ia]at h;obtain⟨⟨l,H1⟩,h1,h⟩:=h;simp at h;obtain⟨rfl,rfl⟩:=h;refine(Wm (fun sh x H x' H' h m hh=>Xm _ sh x H x' H' h m hh) h1 m hh).imp fun m1 hle hp a ha=> ?_
   cases ha with
   |Sc _ as hl hr=>have:=hp as ⟨hl,hr⟩;exact .Sc _ _ this.1 this.2
  ·simp at h
theorem oR{d:Nat}{fz:Bool}{sh:Sh}{H H':UH}{x':UV}(h:qg d fz sh .Sb H=some (x',H')):x'= .Sb/\H'=H:=by
 cases d with
 |zero=>simp[qg]at h
 |succ d=>cases sh<;>simp[qg]at h<;>exact⟨h.1.symm,h.2.symm⟩
theorem Cx{Fu:List (Nat×Sh)}:∀{e:List (Nat×US)}{H:UH}{e':List (Nat×US)}{H':UH},kq Fu e H=some (e',H')->∀m,RH m H Hv->Mo m H H' Hv fun m'=>∀t vv,RS m φ (get e t) vv->RS m' φ (get e' t) vv
 |[],H,e',H',h,m,hh=>by
  simp[kq]at h;obtain⟨rfl,rfl⟩:=h;exact .same hh fun t vv h=>h
 |(i,.v x)::e,H,e',H',h,m,hh=>by
  simp only[kq,aa]at h;obtain⟨⟨x',H1⟩,h1,⟨e1,H2⟩,h2,h⟩:=h;simp at h;obtain⟨rfl,rfl⟩:=h;have key:Mo m H H1 Hv fun m'=>∀vv,RS m φ (.v x) vv->RS m' φ (.v x') vv:=by
   split at h1
   ·rename_i sh _;by_cases hx:x= .Sb
    ·subst hx;obtain⟨rfl,rfl⟩:=oR h1;exact .same hh fun vv h=>h
    ·refine(Xm _ _ _ _ _ _ h1 m hh).imp fun m1 _ hp vv hv=> ?_
     obtain⟨a,rfl,hr⟩:=hv.val hx;exact(hp a hr).rs
   ·simp at h1;obtain⟨rfl,rfl⟩:=h1;exact .same hh fun vv h=>h
  refine key.trans fun m1 PE hle hp=>(Cx h2 m1 PE).imp fun m2 ZL hq t vv ht=> ?_
  simp only[get]at ht ⊢;split at ht
  ·rename_i e;rw[if_pos e];exact(hp vv ht).mono ZL (.refl φ)
  ·rename_i e;rw[if_neg e];exact hq t vv (ht.mono hle (.refl φ))
 |(i,.loc j c)::e,H,e',H',h,m,hh=>by
  simp only[kq,aa]at h;obtain⟨⟨e1,H2⟩,h2,h⟩:=h;simp at h;obtain⟨rfl,rfl⟩:=h;refine(Cx h2 m hh).imp fun m2 ZL hq t vv ht=> ?_
  simp only[get]at ht ⊢;split at ht
  ·rename_i e;rw[if_pos e];exact ht.mono ZL (.refl φ)
  ·rename_i e;rw[if_neg e];exact hq t vv ht
theorem DE{Fu:List (Nat×List Sh)}:∀{i:Nat}{F:List (List UV)}{H:UH}{F':List (List UV)}{H':UH},Ny Fu i F H=some (F',H')->∀m,RH m H Hv->Mo m H H' Hv fun m'=>F'.length=F.length/\∀(k:Nat)(Lb:List UV),F'[k]?=some Lb->∃row:List UV,F[k]?=some row/\∀ as,RL m row as->RL m' Lb as
 |i,[],H,F',H',h,m,hh=>by
  simp[Ny]at h;obtain⟨rfl,rfl⟩:=h;exact .same hh ⟨rfl,fun k Lb h=>by simp at h⟩
 |i,row::F,H,F',H',h,m,hh=>by
  simp only[Ny,aa]at h;obtain⟨⟨Cf,H1⟩,h1,⟨F1,H2⟩,h2,h⟩:=h;simp at h;obtain⟨rfl,rfl⟩:=h;have key:Mo m H H1 Hv fun m'=>∀ as,RL m row as->RL m' Cf as:=by
   unfold rV at h1;split at h1
   ·exact Wm (fun sh x H x' H' h m hh=>Xm _ sh x H x' H' h m hh) h1 m hh
   ·simp at h1;obtain⟨rfl,rfl⟩:=h1;exact .same hh fun as h=>h
  refine key.trans fun m1 PE hle hp=>(DE h2 m1 PE).imp fun m2 ZL hq=>⟨by simp[hq.1],fun k Lb hk=> ?_⟩
  cases k with
  |zero=>simp at hk;subst hk;exact⟨row,rfl,fun as ha=>(hp as ha).mono ZL⟩
  |succ k=>
   obtain⟨r,k1,k2⟩:=hq.2 k Lb (by simpa using hk);exact⟨r,by simpa using k1,fun as ha=>k2 as (ha.mono hle)⟩
theorem EE:∀{l:List (Nat×List Sh)}{H H':UH},Oy l H=some H'->∀m,RH m H Hv->Mo m H H' Hv fun _=>True
 |[],H,H',h,m,hh=>by
  simp[Oy]at h;subst h;exact .same hh trivial
 |(b,Fu)::l,H,H',h,m,hh=>by
  simp only[Oy]at h;split at h
  case h_2=>simp at h
  rename_i row hb;simp only[aa]at h;obtain⟨⟨Cf,H1⟩,h1,h⟩:=h;simp only at h;split at h
  case h_2=>simp at h
  rename_i Mk uJ;obtain⟨x,Iae,ty,k1,k2,k3⟩:=hh.Vc b _ hb;refine(Wm (fun sh x H x' H' h m hh=>Xm _ sh x H x' H' h m hh) h1 m hh).trans fun m1 PE hle hp=> ?_
  have ht:RH m1 (Ra H1 b (.Ya Cf)) Hv:=PE.B_ ⟨_,uJ,rfl⟩ ⟨x,Iae,ty,(hle.of b x k1).1,k2,hp Iae k3⟩;obtain⟨w,m2,e1,e2,e3,e4⟩:=EE h m1 ht;exact⟨w,m2,e1,e2,e3,e4⟩
def qo(n:Nat)(p:NF):Prop:=∀t∈p.keep,t<n
theorem rj{n:Nat}{p:NF}{s s':St}(h:Bp p s=some s')(hk:qo n p):
   s'.base=s.base/\s'.H.wm=s.H.wm/\∀(m:Mp)(φ:Nat->Option Nat)(sv xe:V.S),vm m φ s sv->Alike n sv xe->∃m' Og,vm m' Og s' xe/\Oj s.base m sv.H m' xe.H:=by
  unfold Bp at h;split at h
  case isFalse=>simp at h
  rename_i hw;simp only[aa]at h;obtain⟨⟨e,H1⟩,h1,⟨F,H2⟩,h2,H3,h3,h⟩:=h;split at h
  case isFalse=>simp at h
  rename_i hw3;simp at h;subst h;have ag:H3.wm=s.H.wm:=by
   have hE:∀{Fu:List (Nat×Sh)}{e:List (Nat×US)}{H:UH}{e':List (Nat×US)}{H':UH},kq Fu e H=some (e',H')->H'.wm=H.wm:=by
    intro Fu e;have hm:∀(d:Nat)(sh:Sh)(x:UV)(H:UH)(x':UV)(H':UH),qg d false sh x H=some (x',H')->H'.wm=H.wm:=Jr;induction e with
    |nil=>intro H e' H' h;simp[kq]at h;rw[h.2]
    |cons p e ih=>
     intro H e' H' h;obtain⟨i,x⟩:=p;cases x with
     |v x=>
      simp only[kq,aa]at h;obtain⟨⟨x',H1⟩,h1,⟨e1,H2⟩,h2,h⟩:=h;simp at h;obtain⟨_,rfl⟩:=h;rw[ih h2];split at h1
      ·exact hm _ _ _ _ _ _ h1
      ·simp at h1;rw[h1.2]
     |loc j c=>
      simp only[kq,aa]at h;obtain⟨⟨e1,H2⟩,h2,h⟩:=h;simp at h;obtain⟨_,rfl⟩:=h;exact ih h2
   have hF:∀{Fu:List (Nat×List Sh)}{F:List (List UV)}{i:Nat}{H:UH}{F':List (List UV)}{H':UH},Ny Fu i F H=some (F',H')->H'.wm=H.wm:=by
    intro Fu F;induction F with
    |nil=>intro i H e' H' h;simp[Ny]at h;rw[h.2]
    |cons row F ih=>
     intro i H F' H' h;simp only[Ny,aa]at h;obtain⟨⟨x',H1⟩,h1,⟨e1,H2⟩,h2,h⟩:=h;simp at h;obtain⟨_,rfl⟩:=h;rw[ih h2];unfold rV at h1;split at h1
     ·exact jq (fun sh x H x' H' h=>Jr _ sh x H x' H' h) h1
     ·simp at h1;rw[h1.2]
   have hB:∀{l:List (Nat×List Sh)}{H H':UH},Oy l H=some H'->H'.wm=H.wm:=by
    intro l;induction l with
    |nil=>intro H H' h;simp[Oy]at h;rw[h]
    |cons p l ih=>
     intro H H' h;obtain⟨b,Fu⟩:=p;simp only[Oy]at h;split at h
     case h_2=>simp at h
     simp only[aa]at h;obtain⟨⟨Cf,H1⟩,h1,h⟩:=h;simp only at h;split at h
     case h_2=>simp at h
     rw[ih h];show H1.wm=_;exact jq (f:=qg 8 false) (fun sh x H x' H' h=>Jr _ sh x H x' H' h) h1
   rw[hB h3,hF h2,hE h1];rfl
  refine⟨rfl,ag,fun m φ sv xe hs ha=> ?_⟩;obtain⟨m0,φ0,k1,k2⟩:=om (keep:=p.keep) hk hs hw ha;obtain⟨_,m1,r1,r2,r3,r4⟩:=Cx (Hv:=xe.H) (φ:=φ0) h1 m0 k1.h;obtain⟨_,m2',q1',q2',q3',q4,q5'⟩:=DE (Hv:=xe.H) h2 m1 r1;obtain⟨_,m2,b1,b2,b3,_⟩:=EE (Hv:=xe.H) h3 m2' q1';have q1:=b1;have q2:=q2'.trans b2;have q3:=q3'.trans b3 q3'.Bk.1;rw[<- ha.1]at k2;have vR:Oj s.base m xe.H m0 xe.H:=k2;have FB:s.base<=m0.top:=by rw[k1.h.len];exact k1.b
  suffices Oaf:vm m2 φ0 { e,F,H:=H3,base:=s.base } xe/\Oj s.base m sv.H m2 xe.H by
   obtain⟨m3,C3,c1,c2⟩:=om (keep:=p.keep) hk Oaf.1 hw3 (.refl n xe);exact⟨m3,C3,c1,Oaf.2.trans c2 (va _)⟩
  refine⟨⟨q1,⟨fun i j PC=> ?_,fun i row hi=> ?_,k1.f.inj⟩,fun t=>(r4 t _ (k1.e t)).mono q2 (.refl φ0),?_⟩,?_⟩
  ·have:=k1.f.Ie i j PC;rw[q4];exact this
  ·obtain⟨bR,j1,j2⟩:=q5' i row hi;obtain⟨j,Lb,j3,j4,j5⟩:=k1.f.row i bR j1;exact⟨j,Lb,j3,j4,(j2 Lb (j5.mono r2)).mono b2⟩
  ·have e1:=r3.Bk.1;have e2:=q3.Bk.1;have e3:=q1.len;show s.base<=H3.bl.length;omega
  ·have:=(vR.trans r3 FB).trans q3 (by have:=r3.Bk.1;omega);rw[ha.1]at this ⊢;exact this
 where
  jq {f:Sh->UV->UH->Option (UV×UH)} (hf:∀sh x H x' H',f sh x H=some (x',H')->H'.wm=H.wm):∀{Fu:List Sh}{xs:List UV}{H:UH}{l:List UV}{H':UH},qg.Oh f Fu xs H=some (l,H')->H'.wm=H.wm
   |[],[],H,l,H',h=>by simp[qg.Oh]at h;rw[h.2]
   |s::ss,x::xs,H,l,H',h=>by
    simp only[qg.Oh,aa]at h;obtain⟨⟨x',H1⟩,h1,⟨Pp,H2⟩,h2,h⟩:=h;simp at h;obtain⟨_,rfl⟩:=h;rw[jq hf h2,hf _ _ _ _ _ h1]
   |[],_::_,H,l,H',h=>by simp[qg.Oh]at h
   |_::_,[],H,l,H',h=>by simp[qg.Oh]at h
  Jr:∀(d:Nat)(sh:Sh)(x:UV)(H:UH)(x':UV)(H':UH),qg d false sh x H=some (x',H')->H'.wm=H.wm
   |0,sh,x,H,x',H',h=>by simp[qg]at h
   |d+1,sh,x,H,x',H',h=>by
    unfold qg at h;split at h
    ·rename_i e;exact absurd e (by omega)
    ·simp at h;rw[h.2]
    ·simp at h;rw[h.2]
    ·simp at h;rw[h.2]
    ·simp at h;rw[h.2]
    ·simp at h
    ·simp at h
    ·simp at h;rw[h.2]
    ·simp at h;rw[<- h.2];rfl
    ·simp at h;rw[<- h.2];rfl
    ·split at h
     case h_2=>simp at h
     split at h
     case isFalse=>simp at h
     simp at h;rw[<- h.2];rfl
    ·simp at h;rw[<- h.2];rfl
    ·simp at h;rw[<- h.2];rfl
    ·simp at h;rw[h.2]
    ·split at h
     case h_2=>simp at h
     simp at h;rw[h.2]
    ·simp at h;rw[h.2]
    ·simp at h;rw[<- h.2];rfl
    ·simp at h;rw[<- h.2];rfl
    ·simp at h;rw[h.2]
    ·split at h
     case h_2=>simp at h
     split at h
     case isFalse=>simp at h
     simp at h;rw[<- h.2];rfl
    ·split at h
     ·split at h
      ·simp only[aa]at h;obtain⟨l,hl,h⟩:=h;simp at h;rw[<- h.2];rfl
      ·simp at h
     ·simp at h;rw[h.2]
     ·simp at h
    ·simp only[ia]at h;obtain⟨⟨l,H1⟩,h1,h⟩:=h;simp at h;rw[<- h.2];exact jq (fun sh x H x' H' h=>Jr _ sh x H x' H' h) h1
    ·simp only[ia]at h;obtain⟨⟨l,H1⟩,h1,h⟩:=h;simp at h;rw[<- h.2];exact jq (fun sh x H x' H' h=>Jr _ sh x H x' H' h) h1
    ·simp at h
end
def Pk{T E:Type}(step:T->Option (T ⊕ E)):Nat->T->Option E
 |0,_=>none
 |n+1,t=>(step t).bind fun
  | .inl t'=>Pk step n t'
  | .inr e=>some e
def Ma{T E:Type}(step:T->Option (T ⊕ E))(t:T):Option E:=Pk step V.Ym t
section
variable {A:V.yh}{C:V.Callee}{Pa:Nat->Option (List UV)}{Fa:List Nat}{n:Nat}
end
end Go.U
namespace Go.U
open Go
variable [TB:GC]
section
variable {A:V.yh}{Pa:Nat->Option (List UV)}{m:Mp}
theorem bq{s:St}:∀{rs:List ResultVar}{l:List UV},results A s rs=some l->∀(m:Mp)(φ:Nat->Option Nat)(sv:V.S),vm m φ s sv->∃l',V.results A sv rs=some l'/\RL m l l'
 |[],l,h,m,φ,sv,hs=>by simp[results]at h;subst h;exact⟨[],rfl,.nil⟩
 | .tmp t::rs,l,h,m,φ,sv,hs=>by
  simp only[results,aa]at h;obtain⟨a,ha,l1,hl,h⟩:=h;simp at h;subst h;obtain⟨l',k1,k2⟩:=bq hl m φ sv hs;split at ha
  ·simp at ha
  ·rename_i x Uc hx;simp at ha;subst ha;have:=hs.e t;rw[hx]at this;obtain⟨a',e1,e2⟩:=this.val Uc;exact⟨a'::l',by simp[V.results,e1,k1],.cons e2 k2⟩
  ·simp at ha
 | .cell p t::rs,l,h,m,φ,sv,hs=>by
  simp only[results,aa]at h;obtain⟨a,ha,l1,hl,h⟩:=h;simp at h;subst h;obtain⟨l',k1,k2⟩:=bq hl m φ sv hs;obtain⟨a',e1,e2⟩:=jv ha hs.h hs.f (hs.e p);exact⟨a'::l',by simp[V.results,e1,k1],.cons e2 k2⟩
theorem ZA{l:List UV}{l':List V.AV}(h:RL m l l'):RV m (result l) (V.result l'):=by
 unfold result V.result;split
 ·obtain⟨a,rfl,ha⟩:=h.one;exact ha
 ·rename_i Uc;split
  ·rename_i a;have:=h.1
   match l,Uc,this with
   |[x],Uc,_=>exact(Uc x rfl).elim
  ·exact .Sc _ _ h.1 h.2
theorem oB{d:Nat}{f:Sh->UV->UH->Option (UV×UH)}(hf:∀sh x H x' H',f sh x H=some (x',H')->Rb d x'=true->Fz d x H x' H'):
  ∀{Fu:List Sh}{xs:List UV}{H:UH}{l:List UV}{H':UH},qg.Oh f Fu xs H=some (l,H')->(∀x∈l,Rb d x=true)->H'.wm=H.wm/\∀(m:Mp)(Hv:V.AH)(as:List V.AV),RH m H Hv->RL m xs as->
   ∃Pm Nc,V.Xg (V.freeze d) Hv as=some (Pm,Nc)/\∃m',RH m' H' Nc/\RL m' l Pm/\m.Le m'/\Oj m.top m Hv m' Nc
 |[],[],H,l,H',h,hc=>by
  simp[qg.Oh]at h;obtain⟨rfl,rfl⟩:=h;refine⟨rfl,fun m Hv as hh ha=> ?_⟩;have:as=[]:=by have:=ha.1;simpa using this
  subst this;exact⟨[],Hv,rfl,m,hh,.nil,.refl m,.refl Hv (va _)⟩
 |s::ss,x::xs,H,l,H',h,hc=>by
  simp only[qg.Oh,aa]at h;obtain⟨⟨x',H1⟩,h1,⟨Pp,H2⟩,h2,h⟩:=h;simp at h;obtain⟨rfl,rfl⟩:=h;obtain⟨w1,k1⟩:=hf _ _ _ _ _ h1 (hc _ (Ad ..));obtain⟨w2,k2⟩:=oB hf h2 fun y hy=>hc y (Wb _ hy)
  refine⟨w2.trans w1,fun m Hv as hh ha=> ?_⟩;cases as with
  |nil=>have:=ha.1;simp at this
  |cons a as=>
   have hr:RL m xs as:=⟨by have:=ha.1;simpa using this,fun i y b k1 k2=>ha.2 (i+1) y b (by simpa using k1) (by simpa using k2)⟩;obtain⟨a',CU,e1,m1,e2,e3,e4,e5⟩:=k1 m Hv a hh (ha.2 0 x a rfl rfl);obtain⟨Pm,Hv2,e6,m2,e7,e8,e9,KD⟩:=k2 m1 CU as e2 (hr.mono e4);exact⟨a'::Pm,Hv2,by simp only[V.Xg,e1,ga,e6],m2,e7,.cons (e3.mono e9) e8,e4.trans e9,e5.trans KD e5.Bk.1⟩
 |[],_::_,H,l,H',h,hc=>by simp[qg.Oh]at h
 |_::_,[],H,l,H',h,hc=>by simp[qg.Oh]at h
theorem oG:∀(d:Nat)(sh:Sh)(x:UV)(H:UH)(x':UV)(H':UH),qg d true sh x H=some (x',H')->Rb d x'=true->Fz d x H x' H'
 |0,sh,x,H,x',H',h,hc=>by simp[qg]at h
 |d+1,sh,x,H,x',H',h,hc=>by
  have h0:=h;unfold qg at h;split at h
  ·rename_i e;exact absurd e (by omega)
  ·simp at h;obtain⟨rfl,rfl⟩:=h;exact .same hc
  ·simp at h;obtain⟨rfl,rfl⟩:=h;simp[Rb,closed]at hc
  ·simp at h;obtain⟨rfl,rfl⟩:=h;exact⟨rfl,fun m Hv a hh hx=>by cases hx;exact⟨.Xa,Hv,rfl,.same hh (.di _ _ (.inl rfl))⟩⟩
  ·simp at h;obtain⟨rfl,rfl⟩:=h;exact⟨rfl,fun m Hv a hh hx=>by cases hx;exact⟨.Ud,Hv,rfl,.same hh (.di _ _ (.inr rfl))⟩⟩
  ·have he:=ZD ‹d+1=Nat.succ _›;subst he;split at h
   case isFalse=>simp at h
   rename_i Kz;simp at Kz;simp only[aa]at h;obtain⟨l,hl,h⟩:=h;simp at h;obtain⟨rfl,rfl⟩:=h;exact IL Kz.1 Kz.2 hl (.inl ⟨_,_,rfl⟩)
  ·have he:=ZD ‹d+1=Nat.succ _›;subst he;split at h
   case isFalse=>simp at h
   rename_i Kz;simp at Kz;simp only[aa]at h;obtain⟨l,hl,h⟩:=h;simp at h;obtain⟨rfl,rfl⟩:=h;unfold H8 at hl;split at hl
   ·rename_i c' l' hb;split at hl
    ·rename_i hc;subst hc;injection hl with hl;subst hl
     exact IL Kz.1 Kz.2 (by simp[rowsOf,hb]) (.inr rfl)
    ·simp at hl
   ·rename_i c' l' hb;split at hl
    ·rename_i hc;obtain⟨rfl,QK⟩:=hc;injection hl with hl;subst hl
     exact zJ QK Kz.2 hb
    ·simp at hl
   ·simp at hl
  ·simp at h;obtain⟨rfl,rfl⟩:=h;exact .same hc
  ·simp at h;obtain⟨rfl,rfl⟩:=h;simp[Rb,closed]at hc
  ·simp at h;obtain⟨rfl,rfl⟩:=h;simp[Rb,closed]at hc
  ·split at h
   case h_2=>simp at h
   split at h
   case isFalse=>simp at h
   simp at h;obtain⟨rfl,rfl⟩:=h;simp[Rb,closed]at hc
  ·simp at h;obtain⟨rfl,rfl⟩:=h;simp[Rb,closed]at hc
  ·simp at h;obtain⟨rfl,rfl⟩:=h;simp[Rb,closed]at hc
  ·simp at h;obtain⟨rfl,rfl⟩:=h;simp[Rb,closed]at hc
  ·split at h
   case h_2=>simp at h
   simp at h;obtain⟨rfl,rfl⟩:=h;simp[Rb,closed]at hc
  ·simp at h;obtain⟨rfl,rfl⟩:=h;simp[Rb,closed]at hc
  ·simp at h;obtain⟨rfl,rfl⟩:=h;simp[Rb,closed]at hc
  ·simp at h;obtain⟨rfl,rfl⟩:=h;simp[Rb,closed]at hc
  ·simp at h;obtain⟨rfl,rfl⟩:=h;simp[Rb,closed]at hc
  ·split at h
   case h_2=>simp at h
   split at h
   case isFalse=>simp at h
   simp at h;obtain⟨rfl,rfl⟩:=h;simp[Rb,closed]at hc
  ·split at h
   ·split at h
    ·simp only[aa]at h;obtain⟨l,hl,h⟩:=h;simp at h;obtain⟨rfl,rfl⟩:=h;simp[Rb,closed]at hc
    ·simp at h
   ·simp at h;obtain⟨rfl,rfl⟩:=h;simp[Rb,closed]at hc
   ·simp at h
  ·have he:=ZD ‹d+1=Nat.succ _›;subst he;simp only[ia]at h;obtain⟨⟨l,H1⟩,h1,h⟩:=h;simp at h;obtain⟨rfl,rfl⟩:=h;obtain⟨w,k⟩:=oB (fun sh x H x' H' h hc=>oG _ sh x H x' H' h hc) h1 (tc.1 (by simpa[Rb]using hc));refine⟨w,fun m Hv a hh ha=> ?_⟩;cases ha with
   |agg _ as hl hr=>
    obtain⟨Pm,Nc,e1,m',e2,e3,e4,e5⟩:=k m Hv as hh ⟨hl,hr⟩;exact⟨.agg Pm,Nc,by simp only[V.freeze,e1,ga],m',e2,.agg _ _ e3.1 e3.2,e4,e5⟩
  ·have he:=ZD ‹d+1=Nat.succ _›;subst he;simp only[ia]at h;obtain⟨⟨l,H1⟩,h1,h⟩:=h;simp at h;obtain⟨rfl,rfl⟩:=h;obtain⟨w,k⟩:=oB (fun sh x H x' H' h hc=>oG _ sh x H x' H' h hc) h1 (tc.1 (by simpa[Rb]using hc));refine⟨w,fun m Hv a hh ha=> ?_⟩;cases ha with
   |Sc _ as hl hr=>
    obtain⟨Pm,Nc,e1,m',e2,e3,e4,e5⟩:=k m Hv as hh ⟨hl,hr⟩;exact⟨.Sc Pm,Nc,by simp only[V.freeze,e1,ga],m',e2,.Sc _ _ e3.1 e3.2,e4,e5⟩
  ·simp at h
def Xe(C:V.Callee)(f:FuncId)(spec:Spec):Prop:=
 ∀(X:Type)(args:List UV)(H:UH)(K:UV->UH->Option X)(out:X),spec X args H K=some out->
  ∃r H',K r H'=some out/\H'.wm=H.wm/\∀(m:Mp)(Hv:V.AH)(as cs:List V.AV),RH m H Hv->RL m args (as++cs)->∃r' Nc,C (.fn f cs) as Hv=some (r',Nc)/\Jp m Hv r H' r' Nc
theorem Xe.imp{C:V.Callee}{f:FuncId}{g g':Spec}(h:Xe C f g)(hi:∀X args H K out,g' X args H K=some out->g X args H K=some out):Xe C f g':=
 fun X args H K out ho=>h X args H K out (hi X args H K out ho)
theorem FC{φ:Nat->Option Nat}:∀{args:List UV}{as:List V.AV}{i:Nat},RL m args as->RE m φ (ve args i) (V.ve as i)
 |[],as,i,h=>by
  have:as=[]:=by have:=h.1;simpa using this
  subst this;exact fun t=>trivial
 |x::xs,as,i,h=>by
  cases as with
  |nil=>have:=h.1;simp at this
  |cons a as=>
   have hr:RL m xs as:=⟨by have:=h.1;simpa using this,fun i y b k1 k2=>h.2 (i+1) y b (by simpa using k1) (by simpa using k2)⟩;exact(FC (i:=i+1) hr).cons i (h.2 0 x a rfl rfl).rs
theorem cJ{m:Mp}{Hv:V.AH}:∀{l:List Nat}{H:UH},RH m H Hv->RH m (tv l H) Hv
 |[],_,h=>h
 |b::l,_,h=>cJ (l:=l) (h.kill b)
theorem bJ:∀{l:List Nat}{H:UH},(tv l H).wm=H.wm
 |[],_=>rfl
 |b::l,H=>(bJ (l:=l) (H:=Ra H b .dead)).trans rfl
theorem Jp.kill{m:Mp}{Hv Nc:V.AH}{v:UV}{H':UH}{a:V.AV}(l:List Nat)(h:Jp m Hv v H' a Nc):Jp m Hv v (tv l H') a Nc:=by
 obtain⟨m1,e1,e2,e3,e4⟩:=h;exact⟨m1,cJ e1,e2,e3,e4⟩
theorem uW(hg:Ge A Pa){env:Env}{k:Nat}(hc:Jc (V.call A k) env.call){f:FuncId}{fn:Func}{c:Code}{Fa:List Nat}{sh:Sh}{fz:Bool}
  (Ep:A.ext f=none) (Ln:A.fns f=some fn) (Ty:fn.body=some c) (Dp:A.loc f=Fa) (vO:A.keep f=ua fn.ntmps) (Rl:A.AU f=fz)
  (hl:∀c'∈loops env.join c,Mc env.loop (V.code A (V.call A k) true Fa (ua fn.ntmps) fn.ntmps) c'):
  Xe (V.call A (k+1)) f (fun X args H K=>AJ A Pa env Fa fn sh fz args H K):=by
 intro X args H K out h;simp only[AJ,Ty]at h;split at h
 case isFalse=>simp at h
 rename_i hlen;obtain⟨ex,s1,h1,h2⟩:=yg hg hc hl h;have hex:(∀ id,ex≠ .exit id)/\(results A s1 fn.results.toList).bind (fun l=>(qg 8 fz sh.inner (result l) s1.H).bind fun(r,H1)=>if(!fz||Rb 8 r)&&decide (H1.wm<=H.bl.length)then K (gc H.bl.length r (tv sh.sB H1)).1 (gc H.bl.length r (tv sh.sB H1)).2 else none)=some out:=by
  cases ex with
  |exit id=>simp at h1
  |normal=>exact⟨fun _=>by simp,h1⟩
  |ret=>exact⟨fun _=>by simp,h1⟩
 obtain⟨Uc,h3⟩:=hex;simp only[aa]at h3;obtain⟨l,wG,⟨r,H0⟩,hmo,h3⟩:=h3;split at h3
 case isFalse=>simp at h3
 rename_i Raa;simp only[Va,decide_eq_true_eq]at Raa;have OR:=Raa.1;have pak:=Raa.2;generalize hH':tv sh.sB H0=H' at h3;have hwk:H'.wm=H0.wm:=by rw[<- hH'];exact bJ
 have hgw:H'.wm<=H.bl.length:=by rw[hwk];exact pak
 have start:∀(m:Mp)(Hv:V.AH)(as cs:List V.AV),RH m H Hv->RL m args (as++cs)->∃Vj m1 GA l',V.code A (V.call A k) true Fa (ua fn.ntmps) fn.ntmps c ⟨V.ve (as++cs) 0,[],Hv⟩=some (ex,Vj)/\vm m1 GA s1 Vj/\Oj H.bl.length m Hv m1 Vj.H/\V.results A Vj fn.results.toList=some l'/\RL m1 l l':=fun m Hv as cs hh ha=>by
  obtain⟨Vj,m1,GA,e1,e2,e3⟩:=h2.2.2 m (fun _=>none) ⟨V.ve (as++cs) 0,[],Hv⟩ ⟨hh,⟨fun i j h=>by simp at h,fun i row h=>by simp at h,fun i i' j h=>by simp at h⟩,FC ha,va _⟩;obtain⟨l',e4,e5⟩:=bq wG m1 GA Vj e2;exact⟨Vj,m1,GA,l',e1,e2,e3,e4,e5⟩
 have Qf:∀(Hv:V.AH)(as cs:List V.AV)(Vj:V.S)(l':List V.AV),(as++cs).length<=fn.ntmps->V.code A (V.call A k) true Fa (ua fn.ntmps) fn.ntmps c ⟨V.ve (as++cs) 0,[],Hv⟩=some (ex,Vj)->V.results A Vj fn.results.toList=some l'->
   V.call A (k+1) (.fn f cs) as Hv=if fz then V.freeze 8 Vj.H (V.result l')else some (V.result l',Vj.H):=fun Hv as cs Vj l' hle e1 e2=>by
  simp only[V.call,Ep,Ln,Ty,Dp,vO,Rl];rw[if_pos hle,e1];cases ex with
  |exit id=>exact(Uc id rfl).elim
  |normal=>simp only[ga,e2]
  |ret=>simp only[ga,e2]
 have fin:∀{m m1:Mp}{Hv CU:V.AH}{r':V.AV}{Nc:V.AH},RH m H Hv->Oj H.bl.length m Hv m1 CU->Jp m1 CU r H' r' Nc->H.bl.length<=m1.top->Jp m Hv (gc H.bl.length r H').1 (gc H.bl.length r H').2 r' Nc:=fun{m m1 Hv CU r' Nc}hh Ip⟨m20,KD,e20,e3,e4⟩Ez=>by
  have nJ:Oj H.bl.length m Hv m20 Nc:=Ip.trans e4 Ez;have jc:vm m20 (fun _=>none) ⟨[(0,.v r)],[],H',H.bl.length⟩ ⟨[(0,.v r')],[],Nc⟩:=⟨KD,⟨fun i j h=>by simp at h,fun i row h=>by simp at h,fun i i' j h=>by simp at h⟩,fun t=>by
   simp only[get,V.get];split
   ·exact e20.rs
   ·exact trivial,by have:=nJ.Bk.1;rw[KD.len]at this;exact this⟩
  obtain⟨m2,Sz,c1,c2⟩:=om (keep:=[0]) (n:=1) (by simp) jc hgw (.refl 1 _);have e1:RH m2 (gc H.bl.length r H').2 Nc:=c1.h;have e2:RV m2 (gc H.bl.length r H').1 r':=by
   have:=c1.e 0;simp only[gc]
   revert this
   simp only[V.get,if_true];cases get (compact [0] ⟨[(0,.v r)],[],H',H.bl.length⟩).e 0 with
   |loc i c=>exact fun h=>h.elim
   |v x=>intro h;cases x<;>first|exact .Sb _|exact h
  have AG:Oj m.top m Hv m2 Nc:=by rw[hh.len];exact nJ.trans c2 (va _)
  refine⟨m2,e1,e2,⟨fun b _ x hb=> ?_,AG.Bk.1,fun b hb=>(AG.Bk.2 b hb).2⟩,AG⟩;have:=AG.Bk.2 b (by rw[hh.len];exact(hh.Ie b x hb).1);exact⟨by rw[this.1];exact hb,by rw[this.2]⟩
 cases fz with
 |true=>
  simp at OR;obtain⟨w,hf⟩:=oG 8 sh.inner _ _ _ _ hmo OR;refine⟨_,_,h3,by show H'.wm=_;rw[hwk,w,h2.2.1],fun m Hv as cs hh ha=> ?_⟩;obtain⟨Vj,m1,GA,l',e1,e2,e3,e4,e5⟩:=start m Hv as cs hh ha;obtain⟨r',Nc,k1,k2⟩:=hf m1 Vj.H _ e2.h (ZA e5);exact⟨r',Nc,by rw[Qf Hv as cs Vj l' (by rw[ha.1];exact hlen) e1 e4];exact k1,fin hh e3 (hH' ▸ k2.kill sh.sB) e3.Bk.1⟩
 |false=>
  have hmw:=rj.Jr 8 sh.inner _ _ _ _ hmo;refine⟨_,_,h3,by show H'.wm=_;rw[hwk,hmw,h2.2.1],fun m Hv as cs hh ha=> ?_⟩;obtain⟨Vj,m1,GA,l',e1,e2,e3,e4,e5⟩:=start m Hv as cs hh ha;obtain⟨_,m2,k1,k2,k3,k4⟩:=Xm 8 sh.inner _ _ _ _ hmo m1 e2.h;exact⟨V.result l',Vj.H,by rw[Qf Hv as cs Vj l' (by rw[ha.1];exact hlen) e1 e4];rfl,fin hh e3 (hH' ▸ Jp.kill sh.sB ⟨m2,k1,k4 _ (ZA e5),k2,k3⟩) e3.Bk.1⟩
theorem MH{C:V.Callee}:∀{l:List (FuncId×Spec)},(∀p∈l,Xe C p.1 p.2)->∀f,Xe C f (rC l f)
 |[],_,f,X,args,H,K,out,h=>by simp[rC]at h
 |(g,sp)::l,hl,f,X,args,H,K,out,h=>by
  simp only[rC]at h;split at h
  ·rename_i e;subst e;exact hl (f,sp) (Ad ..) X args H K out h
  ·exact MH (fun p hp=>hl p (Wb _ hp)) f X args H K out h
theorem J0{C:V.Callee}{l:List (FuncId×Spec)}(hl:∀p∈l,Xe C p.1 p.2):Jc C (fun X fv args H K=>match fv with| .fn f cs=>rC l f X (args++cs) H K|_=>none):=by
 intro X fv args H K out h;simp only at h;split at h
 ·rename_i f cs;obtain⟨r,H',h1,h2,h3⟩:=MH hl f X _ H K out h;refine⟨r,H',h1,h2,fun m Hv S2 mh hh hf ha=> ?_⟩;cases hf with
  |fn _ _ as bg hr=>exact h3 m Hv mh as hh (ha.append ⟨bg,hr⟩)
 ·simp at h
theorem xC{C:V.Callee}{spec:(X:Type)->UV->List UV->UH->(UV->UH->Option X)->Option X}(hs:Jc C spec):Jc C (fun X fv args H K=>VH spec fv args H K):=by
 intro X fv args H K out h;simp only[VH]at h;generalize lag:(reach H 64 ((fv::args).flatMap (ids 8)) []).filter (fun b=>Zd (H.bl.getD b .dead))=bs0 at h;have Jaf:bs0.Nodup:=by rw[<- lag];exact(qj List.nodup_nil).filter _
 have hak:∀b∈bs0,live H b:=fun b hb=>by
  rw[<- lag,Bh]at hb;have:=hb.2;cases h1:H.bl[b]? with
  |none=>rw[Ia,h1]at this;simp[Zd]at this
  |some y=>rw[Ia,h1]at this;exact⟨y,h1,this⟩
 generalize Paf:bs0.filter (fun b=>decide (b<H.wm))=lo at h;generalize B8:lo++bs0.filter (fun b=>decide (H.wm<=b))=bs at h;have hnd:bs.Nodup:=by
  rw[<- B8,<- Paf];refine Sw.2 ⟨Jaf.filter _,Jaf.filter _,fun x hx y hy=> ?_⟩;simp only[Bh,decide_eq_true_eq]at hx hy;omega
 have XL:∀b∈bs,live H b:=fun b hb=>by
  rw[<- B8,<- Paf,Mw,Bh,Bh]at hb;rcases hb with hb|hb<;>exact hak b hb.1
 have Waf:∀(j b:Nat),bs[j]?=some b->lo.length<=j->H.wm<=b:=fun j b hj hle=>by
  rw[<- B8,Na hle]at hj;have:=Nb hj
  simpa only[Bh,decide_eq_true_eq]using(Bh.1 this).2
 generalize qO:lo.length=w0 at h Waf;obtain⟨r,H1,h1,GV,h2⟩:=hs X _ _ _ _ out h;simp only at GV;generalize c8:(reach H1 64 (ua bs.length++ids 8 r) []).filter (fun b=>decide (bs.length<=b))=news at h1;have hnn:news.Nodup:=by rw[<- c8];exact(qj List.nodup_nil).filter _
 have Lj:∀b∈news,bs.length<=b:=fun b hb=>by rw[<- c8,Bh]at hb;simpa using hb.2
 refine⟨_,_,h1,rfl,fun m Hv S2 mh hh hf ha=> ?_⟩
 let m0:Mp:={ ι:=fun j s=>(bs[j]?).bind fun c=>m.ι c s,len:=fun j=>m.len (bs.getD j 0),top:=bs.length }
 have PL:Ren m m0 (fun b=>pos b bs 0):=fun b b' hb=>by
  have:=gR hb;exact⟨by simp[m0,this],by simp[m0,this],Za this⟩
 have hm0:∀j{s}x,m0.ι j s=some x->∃b,bs[j]?=some b/\m.ι b s=some x:=fun j s x hj=>by simpa[m0,aa]using hj
 have eam:w0<=bs.length:=by rw[<- qO,<- B8];simp
 have Jaj:RH m0 ⟨bs.map fun b=>gu (fun b=>pos b bs 0) (H.bl.getD b .dead),w0⟩ Hv:=by
  refine⟨fun b _ x hb=> ?_,fun b' y hy=> ?_,fun b1 b2 _ _ x l1 l2 e1 e2=> ?_,fun b _ x hb OE=> ?_,hh.top,by simp[m0]⟩
  ·obtain⟨c,h1,h2⟩:=hm0 b x hb;exact⟨by simpa using Za h1,(hh.Ie c x h2).2⟩
  ·simp only[Tb,ia]at hy;obtain⟨b,h1,rfl⟩:=hy;rw[Ia];cases h2:H.bl[b]? with
   |none=>trivial
   |some y=>exact RB.Hj PL (hh.Vc b y h2) (by simp[m0,h1]) (by simp[m0,h1])
  ·obtain⟨c1,k1,k2⟩:=hm0 b1 x e1;obtain⟨c2,k3,k4⟩:=hm0 b2 x e2;obtain⟨this,h5⟩:=hh.pn c1 c2 x (XL c1 (Nb k1)) (XL c2 (Nb k3)) k2 k4;subst this;exact⟨Gr hnd k1 k3,h5⟩
  ·obtain⟨c,k1,k2⟩:=hm0 b x hb;have Ac:=Za k1;simp only at OE;exact hh.wm c x k2 (Waf b c k1 OE)
 have mD:RV m0 (Hj (fun b=>pos b bs 0) 8 fv) S2:=RV.Hj PL 8 hf;have har:RL m0 (args.map (Hj (fun b=>pos b bs 0) 8)) mh:=ha.Hj PL 8;obtain⟨r',Nc,k1,m1,k2,k3,k4,k5⟩:=h2 m0 Hv S2 mh Jaj mD har;refine⟨r',Nc,k1,?_⟩;have hold:∀j,j<bs.length->m1.ι j=m0.ι j/\m1.len j=m0.len j:=fun j hj=>k5.Bk.2 j hj
 let m':Mp:={ ι:=fun b=>if b<H.bl.length then m.ι b else fun s=>(news[b-H.bl.length]?).bind fun c=>m1.ι c s,len:=fun b=>if b<H.bl.length then m.len b else m1.len (news.getD (b-H.bl.length) 0),top:=H.bl.length+news.length }
 have Pw:∀b,b<H.bl.length->m'.ι b=m.ι b/\m'.len b=m.len b:=fun b hb=>by simp[m',hb]
 have wO:∀i b,news[i]?=some b->m'.ι (H.bl.length+i)=m1.ι b/\m'.len (H.bl.length+i)=m1.len b:=fun i b hb=>by
  have:¬H.bl.length+i<H.bl.length:=by omega
  simp[m',hb,this]
 have y8:∀b∈bs,b<H.bl.length:=fun b hb=>by obtain⟨y,hy,_⟩:=XL b hb;exact Za hy
 let ψ:Nat->Option Nat:=fun b=>if b<bs.length then bs[b]? else(pos b news 0).map (H.bl.length+ ·)
 have hψ:Ren m1 m' ψ:=fun b b' hb=>by
  simp only[ψ]at hb;split at hb
  ·rename_i Ac;have hm:=Nb hb;have h3:=hold b Ac;obtain⟨l1,l2⟩:=Pw b' (y8 b' hm);rw[l1,l2,h3.1,h3.2];refine⟨by simp[m0,hb],by simp[m0,hb],?_⟩;have:=y8 b' hm;show b'<H.bl.length+news.length;omega
  ·simp only[ia]at hb;obtain⟨i,hi,rfl⟩:=hb;have hni:=gR hi;obtain⟨l1,l2⟩:=wO i b hni;rw[l1,l2];refine⟨rfl,rfl,?_⟩;have:=Za hni;show H.bl.length+i<H.bl.length+news.length;omega
 have hle:m.Le m':=⟨fun b _ x hb=>by
  have:=(hh.Ie b x hb).1;rw[(Pw b this).1,(Pw b this).2];exact⟨hb,rfl⟩,by rw[hh.len];simp[m'],fun b hb=>(Pw b (by rw[<- hh.len];exact hb)).2⟩
 have TL:∀b{s}x,live H b->m.ι b s=some x->pos b bs 0=none->∀j s',m0.ι j s'≠some x:=fun b s x hl hb hp j s' hj=>by
  obtain⟨c,e1,e2⟩:=hm0 j x hj;have hc:=Nb e1;have:=hh.inj b c x hl (XL c hc) hb e2;subst this;obtain⟨k,hk⟩:=SN (i:=0) hc;rw[hp]at hk;simp at hk
 generalize tJ:(ua H.bl.length).map (fun b=>match pos b bs 0 with|some j=>gu ψ (H1.bl.getD j .dead)|none=>H.bl.getD b .dead)++news.map (fun b=>gu ψ (H1.bl.getD b .dead))=l7;have uO:l7.length=H.bl.length+news.length:=by rw[<- tJ];simp
 have w8:∀b,b<H.bl.length->l7[b]?=some (match pos b bs 0 with|some j=>gu ψ (H1.bl.getD j .dead)|none=>H.bl.getD b .dead):=fun b hb=>by
  rw[<- tJ,Ka (by simpa using hb)];simp[hb]
 have hgh:∀b y,H.bl.length<=b->l7[b]?=some y->∃c,news[b-H.bl.length]?=some c/\y=gu ψ (H1.bl.getD c .dead):=fun b y hb hy=>by
  rw[<- tJ,Na (by simpa using hb)]at hy;simp only[Qc,List.length_range,Tb,ia]at hy;obtain⟨c,e1,e2⟩:=hy;exact⟨c,e1,e2.symm⟩
 have WV:∀j,Zd (gu ψ (H1.bl.getD j .dead))=true->live H1 j:=fun j hj=>by
  rw[IE,Ia]at hj;cases h3:H1.bl[j]? with
  |none=>rw[h3]at hj;simp[Zd]at hj
  |some y=>rw[h3]at hj;exact⟨y,h3,hj⟩
 have YL:∀b,Zd (H.bl.getD b .dead)=true->live H b:=fun b hb=>by
  rw[Ia]at hb;cases h3:H.bl[b]? with
  |none=>rw[h3]at hb;simp[Zd]at hb
  |some y=>rw[h3]at hb;exact⟨y,h3,hb⟩
 have j8:∀b,live ⟨l7,H.wm⟩ b->(∃j,live H1 j/\m'.ι b=m1.ι j/\((j<bs.length/\bs[j]?=some b)\/(bs.length<=j/\H.bl.length<=b/\news[b-H.bl.length]?=some j)))\/(b<H.bl.length/\live H b/\pos b bs 0=none):=fun b⟨y,hy,hl⟩=>by
  have Wf:l7[b]?=some y:=hy;rcases Vb b H.bl.length with Ac|Jt
  ·rw[w8 b Ac]at Wf;simp at Wf;cases hp:pos b bs 0 with
   |none=>rw[hp]at Wf;simp at Wf;subst Wf;exact .inr ⟨Ac,YL b (by simpa using hl),rfl⟩
   |some j=>
    rw[hp]at Wf;simp only at Wf;subst Wf;have hj:=gR hp;have hjl:=Za hj;refine .inl ⟨j,WV j (by simpa using hl),?_,.inl ⟨hjl,hj⟩⟩;rw[(Pw b Ac).1,(hold j hjl).1];simp[m0,hj]
  ·obtain⟨c,e1,rfl⟩:=hgh b y Jt Wf;have he:H.bl.length+(b-H.bl.length)=b:=by omega
   refine .inl ⟨c,WV c hl,?_,.inr ⟨Lj c (Nb e1),Jt,e1⟩⟩;have:=(wO _ c e1).1;rw[he]at this;exact this
 have Kaj:RH m' ⟨l7,H.wm⟩ Nc:=by
  refine⟨fun b _ x hb=> ?_,fun b y hy=> ?_,fun b1 b2 _ _ x l1 l2 e1 e2=> ?_,fun b _ x hb OE=> ?_,by rw[k5.wm];exact Ib hh.top k5.len,by simp[m',uO]⟩
  ·show b<l7.length/\x<Nc.bl.length;rw[uO];rcases Vb b H.bl.length with Ac|Jt
   ·rw[(Pw b Ac).1]at hb;have:=hh.Ie b x hb;have:=k5.len;omega
   ·simp only[m']at hb;rw[if_neg (by omega)]at hb;simp only[aa]at hb;obtain⟨c,e1,e2⟩:=hb;have:=Za e1;exact⟨by omega,(k2.Ie c x e2).2⟩
  ·have Wf:l7[b]?=some y:=hy;rcases Vb b H.bl.length with Ac|Jt
   ·rw[w8 b Ac]at Wf;simp only[Dc]at Wf;cases hp:pos b bs 0 with
    |none=>
     rw[hp]at Wf;simp only at Wf;subst Wf;rw[Ia];cases h3:H.bl[b]? with
     |none=>trivial
     |some y=>
      refine(hh.Vc b y h3).keep hle (Pw b Ac).1 (Pw b Ac).2 fun hl _ x hx=> ?_
      exact k5.stay x (hh.Ie b x hx).2 fun j s hj=>TL b x ⟨y,h3,hl⟩ hx hp j s hj
    |some j=>
     rw[hp]at Wf;simp only at Wf;subst Wf;have hj:=gR hp;have hjl:=Za hj;rw[Ia];cases h3:H1.bl[j]? with
     |none=>trivial
     |some y=>exact RB.Hj hψ (k2.Vc j y h3) (by rw[(Pw b Ac).1,(hold j hjl).1];simp[m0,hj]) (by rw[(Pw b Ac).2,(hold j hjl).2];simp[m0,hj])
   ·obtain⟨c,e1,rfl⟩:=hgh b y Jt Wf;have he:H.bl.length+(b-H.bl.length)=b:=by omega
    have h4:=wO _ c e1;rw[he]at h4;rw[Ia];cases h3:H1.bl[c]? with
    |none=>trivial
    |some y=>exact RB.Hj hψ (k2.Vc c y h3) h4.1 h4.2
  ·rcases j8 b1 l1 with⟨j1,g1,g2,g3⟩|⟨g1,g2,g3⟩<;>rcases j8 b2 l2 with⟨j2,f1,f2,f3⟩|⟨f1,f2,f3⟩
   ·rw[g2]at e1;rw[f2]at e2;obtain⟨this,h5⟩:=k2.pn j1 j2 x g1 f1 e1 e2;subst this;refine⟨?_,h5⟩;rcases g3 with⟨g3,g4⟩|⟨g3,g4,g5⟩<;>rcases f3 with⟨f3,f4⟩|⟨f3,f4,f5⟩
    ·rw[g4]at f4;simpa using f4
    ·omega
    ·omega
    ·have:=Gr hnn g5 f5;omega
   ·exfalso;rw[g2]at e1;rw[(Pw b2 f1).1]at e2;rcases g3 with⟨g3,g4⟩|⟨g3,g4,g5⟩
    ·rw[(hold j1 g3).1]at e1;exact TL b2 x f2 e2 f3 j1 _ e1
    ·rcases k5.new j1 x e1 with⟨b0,s0,FB⟩|Jt
     ·exact TL b2 x f2 e2 f3 b0 s0 FB
     ·have:=(hh.Ie b2 x e2).2;omega
   ·exfalso;rw[f2]at e2;rw[(Pw b1 g1).1]at e1;rcases f3 with⟨f3,f4⟩|⟨f3,f4,f5⟩
    ·rw[(hold j2 f3).1]at e2;exact TL b1 x g2 e1 g3 j2 _ e2
    ·rcases k5.new j2 x e2 with⟨b0,s0,FB⟩|Jt
     ·exact TL b1 x g2 e1 g3 b0 s0 FB
     ·have:=(hh.Ie b1 x e1).2;omega
   ·rw[(Pw b1 g1).1]at e1;rw[(Pw b2 f1).1]at e2;exact hh.pn b1 b2 x g2 f2 e1 e2
  ·have eaa:H.wm<=b:=OE;rw[k5.wm];rcases Vb b H.bl.length with Ac|Jt
   ·rw[(Pw b Ac).1]at hb;exact hh.wm b x hb eaa
   ·simp only[m']at hb;rw[if_neg (by omega)]at hb;simp only[aa]at hb;obtain⟨c,e1,e2⟩:=hb;have:=Lj c (Nb e1);have h5:=k2.wm c x e2 (by rw[GV];omega);rw[k5.wm]at h5;exact h5
 refine⟨m',?_,RV.Hj hψ 8 k3,hle,⟨⟨by rw[hh.len];simp[m'],fun b hb=>Pw b (by rw[<- hh.len];exact hb)⟩,fun x hx hn=>k5.stay x hx fun j s hj=> ?_,fun b s x hb=> ?_,k5.len,k5.wm⟩⟩
 ·exact Kaj
 ·obtain⟨c,e1,e2⟩:=hm0 j x hj;exact hn c s e2
 ·rcases Vb b H.bl.length with Ac|Jt
  ·rw[(Pw b Ac).1]at hb;exact .inl ⟨b,s,hb⟩
  ·simp only[m']at hb;rw[if_neg (by omega)]at hb;simp only[aa]at hb;obtain⟨c,e1,e2⟩:=hb;rcases k5.new c x e2 with⟨b0,s0,FB⟩|Jt
   ·obtain⟨c0,_,e3⟩:=hm0 b0 x FB;exact .inl ⟨c0,_,e3⟩
   ·exact .inr Jt
theorem DK{C:V.Callee}{l:List (FuncId×Spec)}(hl:∀p∈l,Xe C p.1 p.2):Jc C (fun X fv args H K=>qQ l X fv args H K):=xC (J0 hl)
end
end Go.U
namespace Go.U
open Go
variable [TB:GC]
section
variable {A:V.yh}{C:V.Callee}{Pa:Nat->Option (List UV)}{Fa:List Nat}{n:Nat}{X:Type}{out:X}
theorem AF{e:List (Nat×V.SV)}:∀(is:List Nat),∃env,V.oz e is=some env/\∀t,V.get (V.De env) t=if t∈is then(match V.get e t with| .v a=> .v a|_=> .v .Sb)else .v .Sb
 |[]=>⟨[],rfl,fun t=>by simp[V.De,V.get]⟩
 |i::is=>by
  obtain⟨env,h1,h2⟩:=AF (e:=e) is;refine⟨(i,match V.get e i with| .v a=>a|_=> .Sb)::env,?_,fun t=> ?_⟩
  ·simp only[V.oz,h1];cases V.get e i<;>rfl
  ·simp only[V.De,V.get,h2 t];by_cases ht:t=i
   ·subst ht;simp only[if_true,Yb,true_or];cases V.get e t<;>rfl
   ·simp only[if_neg ht,Yb,ht,false_or,if_false]
theorem D0(e:List (Nat×US))(ks:List Nat)(t:Nat):get (De (nN e ks)) t=if t∈ks then .v (match get e t with| .v a=>a|_=> .Sb)else .v .Sb:=by
 have:De (nN e ks)=ks.map fun i=>(i,US.v (match get e i with| .v a=>a|_=> .Sb)):=by unfold De nN;rw[List.map_map];rfl
 rw[this,GB]
theorem R6{m:Mp}{φ:Nat->Option Nat}{e:List (Nat×US)}{ev:List (Nat×V.SV)}{ks:List Nat}(h:RE m φ e ev)(hk:∀t∈ks,t<n):
  ∃env,V.oz ev (ua n)=some env/\∀t,match get (De (nN e ks)) t,V.get (V.De env) t with
   | .v y,.v a=>RV m y a
   |_,_=>False:=by
 obtain⟨env,h1,h2⟩:=AF (e:=ev) (ua n);refine⟨env,h1,fun t=> ?_⟩;rw[h2 t,D0];by_cases ht:t∈ks
 ·rw[if_pos ht,if_pos (List.mem_range.2 (hk t ht))];have:=h t
  revert this
  cases get e t with
  |loc i c=>
   cases V.get ev t with
   |loc j c'=>exact fun _=> .Sb _
   |v a=>exact fun h=>h.elim
  |v y=>
   cases hv:V.get ev t with
   |loc j c'=>intro h;cases y<;>first|exact .Sb _|exact h.elim
   |v a=>intro h;cases y<;>first|exact .Sb _|exact h
 ·rw[if_neg ht];by_cases ht2:t∈ua n
  ·rw[if_pos ht2];cases V.get ev t<;>exact .Sb _
  ·rw[if_neg ht2];exact .Sb _
theorem ZU(hg:Ge A Pa){env:Env}(hc:Jc C env.call){id:Nat}{ks:List Nat}{g:Operand}{ps:Array Tmp}{a b:Code}(OL:TB.rf id=⟨n,ps.toList,a,b⟩){s:St}{K:V.Ex->St->Option X}
  (h:EI A Pa env id n ks g s K=some out):∃ex s',K ex s'=some out/\zQ (V.code A C true Fa (ua n) n (.rangeFunc g ps a b)) s ex s':=by
 unfold EI at h;simp only[aa]at h;obtain⟨fv,NR,h⟩:=h;split at h
 case h_2=>simp at h
 rename_i f cs;generalize hcd:((match A.fns f with|some fn=>fn.body.isSome|none=>false)&&ks.all (fun i=>decide (i<n)))=cd at h;cases cd
 case false=>simp at h
 have hif:=hcd;rw[if_pos rfl]at h;simp only[Va,tc,decide_eq_true_eq]at hif;obtain⟨Ln,hks⟩:=hif;obtain⟨r,H',h1,ag,h3⟩:=hc X _ _ _ _ _ h;split at h1
 case h_2=>simp at h1
 rename_i NC e' st pe hb;split at h1
 ·simp at h1
 rename_i jc;refine⟨pe,_,h1,rfl,by show H'.wm=_;rw[ag];rfl,fun m φ sv hs=> ?_⟩;obtain⟨S2,e1,e2⟩:=Lc (m:=m) (φ:=φ) hg NR hs.e;cases e2 with
 |fn _ _ as hl hr=>
  obtain⟨Mm,e3,e4⟩:=R6 (n:=n) (ks:=ks) hs.e hks;have hlen:=hs.h.len;obtain⟨r1,r2,r3⟩:=RH.new (n:=0) (y:= .loop id (nN s.e ks) .ready .normal) (yv:= .loop n (ua n) Mm ps.toList a b .ready none) hs.h (by
   refine⟨sv.H.bl.length,Mm,by rw[be],?_,fun t=> ?_⟩
   ·rw[OL];simp[V.push,V.Ex.jump]
   ·have:=e4 t
    revert this
    cases get (De (nN s.e ks)) t<;>cases V.get (V.De Mm) t<;>intro this<;>first|exact this.elim|exact RV.mono (DN hs.h _ _) this)
  have mD:RV (m.add s.H.bl.length (some sv.H.bl.length) 0) (.fn f cs) (.fn f as):=RV.mono r2 (.fn f cs as hl hr);obtain⟨r',Nc,k1,m2,k2,k3,k4,k5⟩:=h3 _ _ (.fn f as) [.yl sv.H.bl.length] r1 mD (RL.cons (.yl _ _ (by rw[be])) .nil);have cp:m2.ι s.H.bl.length 0=some sv.H.bl.length:=(k4.of _ _ (by rw[be])).1;obtain⟨x',KH,q1,q2,q3⟩:=k2.Vc _ _ hb;rw[cp]at q1;simp at q1;subst q1;have ae:live H' s.H.bl.length:=⟨_,hb,rfl⟩;obtain⟨w1,w2⟩:=RH.set (yv:= .dead) k2 ae cp (y:= .dead) trivial;have hle:m.Le m2:=r2.trans k4;have Ip:Oj m.top m sv.H m2 (V.Ra Nc sv.H.bl.length .dead):=(r3.trans k5 r3.Bk.1).trans w2 ((r3.trans k5 r3.Bk.1).Bk.1);refine⟨{ sv with H:=V.Ra Nc sv.H.bl.length .dead },m2,φ,?_,⟨w1,hs.f.mono hle,hs.e.mono hle (.refl φ),?_⟩,Ip.less (by rw[hlen];exact hs.b)⟩
  ·simp only[V.code,if_true,e1,e3,ga];have hf2:∃fn,A.fns f=some fn/\fn.body.isSome=true:=by
    cases hA:A.fns f with
    |none=>rw[hA]at Ln;simp at Ln
    |some fn=>rw[hA]at Ln;exact⟨fn,rfl,Ln⟩
   obtain⟨fn,hf3,hf4⟩:=hf2;simp only[hf3,hf4,if_true,ga,k1,q2];have uG:Nc.wm<=sv.H.bl.length:=by rw[k5.wm];exact hs.h.top
   have hj:V.sG pe.jump=some pe:=by cases pe<;>rfl
   cases st with
   |busy=>exact(jc rfl).elim
   |ready=>simp[uG,hj]
   |done=>simp[uG,hj]
   |exhausted=>simp[uG,hj]
  ·show s.base<=(Ra H' _ _).bl.length;have:s.H.bl.length<=H'.bl.length:=by
    have:=Za hb;omega
   simp only[Ra,qe];exact Ib hs.b this
def Li(C:V.Callee)(spec:Spec):Prop:=
 ∀(X:Type)(args:List UV)(H:UH)(K:UV->UH->Option X)(out:X),spec X args H K=some out->
  ∃r H',K r H'=some out/\H'.wm=H.wm/\∀(m:Mp)(Hv:V.AH)(a0:V.AV)(as:List V.AV),RH m H Hv->RL m args (a0::as)->∃r' Nc,C a0 as Hv=some (r',Nc)/\Jp m Hv r H' r' Nc
theorem Li.imp{C:V.Callee}{g g':Spec}(h:Li C g)(hi:∀X args H K out,g' X args H K=some out->g X args H K=some out):Li C g':=
 fun X args H K out ho=>h X args H K out (hi X args H K out ho)
theorem eB{m:Mp}{φ:Nat->Option Nat}:∀{ps:List Nat}{as:List UV}{Pm:List V.AV}{e:List (Nat×US)}{ev:List (Nat×V.SV)},RL m as Pm->RE m φ e ev->RE m φ (Yi ps as e) (V.Yi ps Pm ev)
 |[],as,Pm,e,ev,_,he=>by cases as<;>cases Pm<;>exact he
 |p::ps,[],Pm,e,ev,h,he=>by
  have:Pm=[]:=by have:=h.1;simpa using this
  subst this;exact he
 |p::ps,a::as,Pm,e,ev,h,he=>by
  cases Pm with
  |nil=>have:=h.1;simp at this
  |cons a' Pm=>
   have hr:RL m as Pm:=⟨by have:=h.1;simpa using this,fun i y b k1 k2=>h.2 (i+1) y b (by simpa using k1) (by simpa using k2)⟩;exact eB (ps:=ps) hr (he.cons p (h.2 0 a a' rfl rfl).rs)
theorem UT{m:Mp}{φ:Nat->Option Nat}{e:List (Nat×UV)}{Mm:List (Nat×V.AV)} (h:∀t,match get (De e) t,V.get (V.De Mm) t with
  | .v y,.v a=>RV m y a
  |_,_=>False):RE m φ (De e) (V.De Mm):=fun t=>by
 have:=h t
 revert this
 cases get (De e) t<;>cases V.get (V.De Mm) t<;>intro this
 ·exact RV.rs this
 ·exact this.elim
 ·exact this.elim
 ·exact this.elim
theorem gab{m m1:Mp}{H H':UH}{Hv CU Nc:V.AH}{r:UV}{r':V.AV}(hgw:H'.wm<=H.bl.length)(hh:RH m H Hv)(Ip:Oj H.bl.length m Hv m1 CU)(hg:Jp m1 CU r H' r' Nc)(Ez:H.bl.length<=m1.top):
  Jp m Hv (gc H.bl.length r H').1 (gc H.bl.length r H').2 r' Nc:=by
 obtain⟨m20,KD,e20,e3,e4⟩:=hg;have nJ:Oj H.bl.length m Hv m20 Nc:=Ip.trans e4 Ez;have jc:vm m20 (fun _=>none) ⟨[(0,.v r)],[],H',H.bl.length⟩ ⟨[(0,.v r')],[],Nc⟩:=⟨KD,⟨fun i j h=>by simp at h,fun i row h=>by simp at h,fun i i' j h=>by simp at h⟩,fun t=>by
  simp only[get,V.get];split
  ·exact e20.rs
  ·exact trivial,by have:=nJ.Bk.1;rw[KD.len]at this;exact this⟩
 obtain⟨m2,Sz,c1,c2⟩:=om (keep:=[0]) (n:=1) (by simp) jc hgw (.refl 1 _);have e1:RH m2 (gc H.bl.length r H').2 Nc:=c1.h;have e2:RV m2 (gc H.bl.length r H').1 r':=by
  have:=c1.e 0;simp only[gc]
  revert this
  simp only[V.get,if_true];cases get (compact [0] ⟨[(0,.v r)],[],H',H.bl.length⟩).e 0 with
  |loc i c=>exact fun h=>h.elim
  |v x=>intro h;cases x<;>first|exact .Sb _|exact h
 have AG:Oj m.top m Hv m2 Nc:=by rw[hh.len];exact nJ.trans c2 (va _)
 refine⟨m2,e1,e2,⟨fun b _ x hb=> ?_,AG.Bk.1,fun b hb=>(AG.Bk.2 b hb).2⟩,AG⟩;have:=AG.Bk.2 b (by rw[hh.len];exact(hh.Ie b x hb).1);exact⟨by rw[this.1];exact hb,by rw[this.2]⟩
theorem j7{b:Bool}{base:Nat}{H:UH}:(gc base (.bool b) H).1= .bool b:=by
 simp[gc,compact,get,eR,Hj]
theorem EU(hg:Ge A Pa){env:Env}{k:Nat}(hc:Jc (V.call A k) env.call){id:Nat}{r:RFn}(OL:TB.rf id=r)
  (NK:∀c'∈loops env.join r.assign,Mc env.loop (V.code A (V.call A k) false [] (ua r.n) r.n) c')
  (lJ:∀c'∈loops env.join r.body,Mc env.loop (V.code A (V.call A k) false [] (ua r.n) r.n) c'):
  Li (V.call A (k+1)) (fun X args H K=>KN A Pa env id r args H K):=by
 intro X args H K out h;unfold KN at h;simp only at h;split at h
 case h_2=>simp at h
 rename_i b as;split at h
 case h_2=>simp at h
 rename_i NC e pe0 hb;split at h
 case isFalse=>simp at h
 rename_i hif;obtain⟨rfl,hlen,OE,BB⟩:=hif;obtain⟨h_,s1,h1,c1⟩:=yg hg hc NK h;split at h1
 case h_2=>simp at h1
 split at h1
 case h_2=>simp at h1
 rename_i nO e1 pe1 ep;obtain⟨ex,s2,h2,c2⟩:=yg hg hc lJ h1;split at h2
 case h_2=>simp at h2
 rename_i mO e2 st2 pe2 uJ;split at h2
 case isFalse=>simp at h2
 rename_i M4;generalize jc:(if ex.Ug=true then LoopState.ready else LoopState.done)=I7 at h2;have uG:s2.H.wm=H.wm:=c2.2.1.trans c1.2.1;refine⟨_,_,h2,uG,fun m Hv a0 Pm hh ha=> ?_⟩;obtain⟨a0',oaq,ha1,gW,ha3⟩:=ha.Wh;simp only[List.cons.injEq]at ha1;obtain⟨rfl,rfl⟩:=ha1;cases gW with
 |yl _ x hx=>
  obtain⟨x0,Mm,q1,q2,q3⟩:=hh.Vc b _ hb;rw[hx]at q1;simp at q1;subst q1;rw[OL]at q2;have LR:b<H.bl.length:=Za hb;have G2:vm m (fun _=>none) ⟨Yi r.ps as (De e),[],H,H.bl.length⟩ ⟨V.Yi r.ps Pm (V.De Mm),[],Hv⟩:=
   ⟨hh,⟨fun i j h=>by simp at h,fun i row h=>by simp at h,fun i i' j h=>by simp at h⟩,eB ha3 (UT q3),va _⟩
  obtain⟨Vj,m1,GA,k1,k2,k3⟩:=c1.2.2 m _ _ G2;have xj:m1.ι b 0=some x:=by rw[(k3.Bk.2 b LR).1];exact hx
  obtain⟨x1,oN,p1,p2,p3⟩:=k2.h.Vc b _ ep;rw[xj]at p1;simp at p1;subst p1;have waa:x<Vj.H.bl.length:=(k2.h.Ie b x xj).2;obtain⟨w1,w2⟩:=RH.set (y:= .loop nO e1 .busy pe1) (yv:= .loop (TB.rf nO).n (ua (TB.rf nO).n) oN (TB.rf nO).ps (TB.rf nO).assign (TB.rf nO).body .busy pe1.jump) k2.h ⟨_,ep,rfl⟩ xj ⟨x,oN,xj,by rw[Ec,if_pos rfl,if_pos waa],p3⟩;have E2:vm m1 GA { s1 with H:=Ra s1.H b (.loop nO e1 .busy pe1) } { Vj with H:=V.Ra Vj.H x (.loop (TB.rf nO).n (ua (TB.rf nO).n) oN (TB.rf nO).ps (TB.rf nO).assign (TB.rf nO).body .busy pe1.jump) }:=
   ⟨w1,k2.f,k2.e,by simpa[Ra]using k2.b⟩
  obtain⟨NU,m2,Sz,l1,l2,l3⟩:=c2.2.2 m1 GA _ E2;have oag:s1.base=H.bl.length:=c1.1;have l3':=l3.less (n':=H.bl.length) (by show H.bl.length<=s1.base;omega);have oq:m2.ι b 0=some x:=by rw[(l3'.Bk.2 b LR).1];exact xj
  obtain⟨x2,KH,u1,u2,u3⟩:=l2.h.Vc b _ uJ;rw[oq]at u1;simp at u1;subst u1;have KR:x<NU.H.bl.length:=(l2.h.Ie b x oq).2;obtain⟨v1,v2⟩:=RH.set (y:= .loop mO e2 I7 ex) (yv:= .loop (TB.rf mO).n (ua (TB.rf mO).n) KH (TB.rf mO).ps (TB.rf mO).assign (TB.rf mO).body I7 ex.jump) l2.h ⟨_,uJ,rfl⟩ oq ⟨x,KH,oq,by rw[Ec,if_pos rfl,if_pos KR],u3⟩;have cW:Oj H.bl.length m Hv m2 NU.H:=(k3.trans (w2.less (by rw[k2.h.len,<- oag];exact k2.b)) (va _)).trans l3' (va _);refine⟨.bool ex.Ug,V.Ra NU.H x (.loop (TB.rf mO).n (ua (TB.rf mO).n) KH (TB.rf mO).ps (TB.rf mO).assign (TB.rf mO).body I7 ex.jump),?_,?_⟩
  ·have L4:Hv.wm<=x:=hh.wm b x hx OE;simp only[V.call,q2];rw[if_pos ⟨by rw[ha3.1];exact hlen,L4,BB⟩,k1];simp only[ga,p2,l1,u2,jc]
  ·have Raf:H.bl.length<=m2.top:=l3'.Bk.1;have:=gab (r:= .bool ex.Ug) (r':= .bool ex.Ug) (H':=Ra s2.H b (.loop mO e2 I7 ex)) M4 hh cW ⟨m2,v1,.bool _,.refl m2,v2⟩ Raf;rw[j7]at this;exact this
theorem uK{C:V.Callee}:∀{l:List (FuncId×Spec)},(∀p∈l,Li C p.2)->∀f,Li C (rC l f)
 |[],_,f,X,args,H,K,out,h=>by simp[rC]at h
 |(g,sp)::l,hl,f,X,args,H,K,out,h=>by
  simp only[rC]at h;split at h
  ·rename_i e;subst e;exact hl (f,sp) (Ad ..) X args H K out h
  ·exact uK (fun p hp=>hl p (Wb _ hp)) f X args H K out h
theorem xN{C:V.Callee}{l ly:List (FuncId×Spec)}(hl:∀p∈l,Xe C p.1 p.2)(hy:∀p∈ly,Li C p.2):Jc C (fun X fv args H K=>Z0 l ly X fv args H K):=by
 refine xC (spec:=fun X fv args H K=>_) ?_;intro X fv args H K out h;simp only at h;split at h
 ·rename_i f cs;obtain⟨r,H',h1,h2,h3⟩:=MH hl f X _ H K out h;refine⟨r,H',h1,h2,fun m Hv S2 mh hh hf ha=> ?_⟩;cases hf with
  |fn _ _ as bg hr=>exact h3 m Hv mh as hh (ha.append ⟨bg,hr⟩)
 ·rename_i b;split at h
  case h_2=>simp at h
  obtain⟨r,H',h1,h2,h3⟩:=uK hy _ X _ H K out h;exact⟨r,H',h1,h2,fun m Hv S2 mh hh hf ha=>h3 m Hv S2 mh hh (.cons hf ha)⟩
 ·simp at h
end
end Go.U
namespace Go.U
open Go
inductive Sk where
 |bool
 |int (k:IntKind)
 |str
 |lit (c:CT)
 |sl (b:Nat)
 |Dm (b c:Nat)
 |xp (b:Nat)
 |Hp (b c:Nat)
 |Sb
 |Oe
 |Xa
 |Ud
 |Jf
 |bf
 |Rg
 |ptr (b c:Nat)
 |all (b:Nat)
 |mp (b:Nat)
 |yl (b:Nat)
 |Ed (l:Sk)
 |fn (f:FuncId) (l:Sk)
 |agg (l:Sk)
 |Sc (l:Sk)
 |nil
 |cons (a b:Sk)
def Sk.T:Sk->Type
 | .bool=>Bool
 | .int _=>Int
 | .str=>ByteArray
 | .lit c=>List (Gb c)
 | .sl _=>Nat×Nat
 | .Dm _ _=>Nat
 | .xp _=>Nat
 | .Hp _ _=>Nat×Nat
 | .Ed l=>l.T
 | .fn _ l=>l.T
 | .agg l=>l.T
 | .Sc l=>l.T
 | .cons a b=>a.T×b.T
 |_=>Unit
def Sk.fill:(k:Sk)->k.T->UV ⊕ List UV
 | .bool,b=> .inl (.bool b)
 | .int k,n=> .inl (.int k n)
 | .str,s=> .inl (.str s)
 | .lit c,l=> .inl (.lit c l)
 | .sl b,p=> .inl (.sl b p.1 p.2)
 | .Dm b c,r=> .inl (.Dm b r c)
 | .xp b,r=> .inl (.xp b r)
 | .Hp b c,p=> .inl (.Hp b p.1 p.2 c)
 | .Sb,_=> .inl .Sb
 | .Oe,_=> .inl .Oe
 | .Xa,_=> .inl .Xa
 | .Ud,_=> .inl .Ud
 | .Jf,_=> .inl .Jf
 | .bf,_=> .inl .bf
 | .Rg,_=> .inl .Rg
 | .ptr b c,_=> .inl (.ptr b c)
 | .all b,_=> .inl (.all b)
 | .mp b,_=> .inl (.mp b)
 | .yl b,_=> .inl (.yl b)
 | .Ed l,t=> .inl (.Ed ((l.fill t).elim (fun _=>[]) id))
 | .fn f l,t=> .inl (.fn f ((l.fill t).elim (fun _=>[]) id))
 | .agg l,t=> .inl (.agg ((l.fill t).elim (fun _=>[]) id))
 | .Sc l,t=> .inl (.Sc ((l.fill t).elim (fun _=>[]) id))
 | .nil,_=> .inr []
 | .cons a b,(x,y)=> .inr ((a.fill x).elim id (fun _=> .Sb)::(b.fill y).elim (fun _=>[]) id)
def Sk.take:(k:Sk)->UV ⊕ List UV->Option k.T
 | .bool=>fun x=>match x with| .inl (.bool b)=>some b|_=>none
 | .int k=>fun x=>match x with| .inl (.int k' n)=>if k'=k then some n else none|_=>none
 | .str=>fun x=>match x with| .inl (.str s)=>some s|_=>none
 | .lit c=>fun x=>match x with| .inl (.lit c' l)=>if h:c'=c then some (h ▸ l)else none|_=>none
 | .sl b=>fun x=>match x with| .inl (.sl b' r n)=>if b'=b then some (r,n)else none|_=>none
 | .Dm b c=>fun x=>match x with| .inl (.Dm b' r c')=>if b'=b/\c'=c then some r else none|_=>none
 | .xp b=>fun x=>match x with| .inl (.xp b' r)=>if b'=b then some r else none|_=>none
 | .Hp b c=>fun x=>match x with| .inl (.Hp b' r j c')=>if b'=b/\c'=c then some (r,j)else none|_=>none
 | .Sb=>fun x=>match x with| .inl .Sb=>some ()|_=>none
 | .Oe=>fun x=>match x with| .inl .Oe=>some ()|_=>none
 | .Xa=>fun x=>match x with| .inl .Xa=>some ()|_=>none
 | .Ud=>fun x=>match x with| .inl .Ud=>some ()|_=>none
 | .Jf=>fun x=>match x with| .inl .Jf=>some ()|_=>none
 | .bf=>fun x=>match x with| .inl .bf=>some ()|_=>none
 | .Rg=>fun x=>match x with| .inl .Rg=>some ()|_=>none
 | .ptr b c=>fun x=>match x with| .inl (.ptr b' c')=>if b'=b/\c'=c then some ()else none|_=>none
 | .all b=>fun x=>match x with| .inl (.all b')=>if b'=b then some ()else none|_=>none
 | .mp b=>fun x=>match x with| .inl (.mp b')=>if b'=b then some ()else none|_=>none
 | .yl b=>fun x=>match x with| .inl (.yl b')=>if b'=b then some ()else none|_=>none
 | .Ed l=>fun x=>match x with| .inl (.Ed cs)=>l.take (.inr cs)|_=>none
 | .fn f l=>fun x=>match x with| .inl (.fn f' cs)=>if f'=f then l.take (.inr cs)else none|_=>none
 | .agg l=>fun x=>match x with| .inl (.agg cs)=>l.take (.inr cs)|_=>none
 | .Sc l=>fun x=>match x with| .inl (.Sc cs)=>l.take (.inr cs)|_=>none
 | .nil=>fun x=>match x with| .inr []=>some ()|_=>none
 | .cons a b=>fun x=>match x with| .inr (y::ys)=>(a.take (.inl y)).bind fun u=>(b.take (.inr ys)).bind fun v=>some (u,v)|_=>none
theorem Yj{α:Type}{t:α}(h:(none:Option α)=some t):False:=by cases h
theorem U6{a b:Int}(h:decide (a=b)=true):a=b:=of_decide_eq_true h
theorem Sk.yd:∀(k:Sk)(x:UV ⊕ List UV)(t:k.T),k.take x=some t->k.fill t=x:=by
 intro k;induction k with
 |bool|str|Sb|Oe|Xa|Ud|Jf|bf|Rg|nil=>
  intro x t h;simp only[Sk.take]at h;split at h
  ·injection h with h;subst h;rfl
  ·simp at h
 |int k=>
  intro x t h;simp only[Sk.take]at h;split at h
  ·split at h
   ·rename_i e;subst e;injection h with h;subst h;rfl
   ·simp at h
  ·simp at h
 |lit c=>
  intro x t h;simp only[Sk.take]at h;split at h
  ·split at h
   ·rename_i e;subst e;injection h with h;subst h;rfl
   ·simp at h
  ·simp at h
 |sl b|all b|mp b|yl b|xp b=>
  intro x t h;simp only[Sk.take]at h;split at h
  ·split at h
   ·rename_i e;subst e;injection h with h;subst h;rfl
   ·simp at h
  ·simp at h
 |Dm b c|ptr b c|Hp b c=>
  intro x t h;simp only[Sk.take]at h;split at h
  ·split at h
   ·rename_i e;obtain⟨rfl,rfl⟩:=e;injection h with h;subst h;rfl
   ·simp at h
  ·simp at h
 |Ed l ih=>
  intro x t h;cases x with
  |inr _=>exact(Yj (α:=l.T) (t:=t) h).elim
  |inl v=>
   cases v with
   |Ed cs=>
    show Sum.inl (UV.Ed ((l.fill t).elim (fun _=>[]) id))=_;rw[ih (.inr cs) t h];rfl
   |_=>exact(Yj (α:=l.T) (t:=t) h).elim
 |agg l ih=>
  intro x t h;cases x with
  |inr _=>exact(Yj (α:=l.T) (t:=t) h).elim
  |inl v=>
   cases v with
   |agg cs=>
    show Sum.inl (UV.agg ((l.fill t).elim (fun _=>[]) id))=_;rw[ih (.inr cs) t h];rfl
   |_=>exact(Yj (α:=l.T) (t:=t) h).elim
 |Sc l ih=>
  intro x t h;cases x with
  |inr _=>exact(Yj (α:=l.T) (t:=t) h).elim
  |inl v=>
   cases v with
   |Sc cs=>
    show Sum.inl (UV.Sc ((l.fill t).elim (fun _=>[]) id))=_;rw[ih (.inr cs) t h];rfl
   |_=>exact(Yj (α:=l.T) (t:=t) h).elim
 |fn f l ih=>
  intro x t h;simp only[Sk.take]at h;split at h
  ·rename_i f' cs;have h:(if f'=f then l.take (.inr cs)else none)=some (t:l.T):=h;split at h
   ·rename_i e;subst e;show Sum.inl (UV.fn f' ((l.fill t).elim (fun _=>[]) id))=_;rw[ih _ _ h];rfl
   ·simp at h
  ·simp at h
 |cons a b iha ihb=>
  intro x t h;simp only[Sk.take]at h;split at h
  ·simp only[aa]at h;obtain⟨u,hu,v,hv,h⟩:=h;injection h with h
   subst h;simp only[Sk.fill,iha _ _ hu,ihb _ _ hv];rfl
  ·simp at h
def Sk.v(k:Sk)(t:k.T):UV:=(k.fill t).elim id fun _=> .Sb
def Sk.l(k:Sk)(t:k.T):List UV:=(k.fill t).elim (fun _=>[]) id
inductive w7 where
 |v (k:Sk)
 |loc (i c:Nat)
inductive UC where
 |dead
 |Ya (l:Sk)
 |cells (c:CT)
 |deep (c:CT)
 |Zj (k:KT) (es:List (td k×Sk))
 |oh (k:KT) (g:Bool) (c:CT)
 |loop (id:Nat) (env:List (Nat×Sk)) (st:LoopState) (pe:V.Ex)
 |um (q:Sk)
 |yp
def A_:List (Nat×w7)->Type
 |[]=>Unit
 |(_,.v k)::l=>k.T×A_ l
 |(_,.loc _ _)::l=>A_ l
def ZE:(l:List (Nat×w7))->A_ l->List (Nat×US)
 |[],_=>[]
 |(i,.v k)::l,(x,y)=>(i,.v (k.v x))::ZE l y
 |(i,.loc j c)::l,y=>(i,.loc j c)::ZE l y
def Hy:(l:List (Nat×w7))->List (Nat×US)->Option (A_ l)
 |[]=>fun e=>match e with|[]=>some ()|_=>none
 |(i,.v k)::l=>fun e=>match e with|(i',.v x)::e=>if i'=i then(k.take (.inl x)).bind fun u=>(Hy l e).bind fun v=>some (u,v)else none|_=>none
 |(i,.loc j c)::l=>fun e=>match e with|(i',.loc j' c')::e=>if i'=i/\j'=j/\c'=c then Hy l e else none|_=>none
def tyF:List Sk->Type
 |[]=>Unit
 |k::l=>k.T×tyF l
def FO:(l:List Sk)->tyF l->List (List UV)
 |[],_=>[]
 |k::l,(x,y)=>k.l x::FO l y
def tI:(l:List Sk)->List (List UV)->Option (tyF l)
 |[]=>fun e=>match e with|[]=>some ()|_=>none
 |k::l=>fun e=>match e with|x::e=>(k.take (.inr x)).bind fun u=>(tI l e).bind fun v=>some (u,v)|_=>none
def tyM{k:KT}:List (td k×Sk)->Type
 |[]=>Unit
 |p::l=>p.2.T×tyM l
def EJ{k:KT}:(l:List (td k×Sk))->tyM l->List (td k×UV)
 |[],_=>[]
 |p::l,(x,y)=>(p.1,p.2.v x)::EJ l y
def qE{k:KT}:(l:List (td k×Sk))->List (td k×UV)->Option (tyM l)
 |[]=>fun e=>match e with|[]=>some ()|_=>none
 |p::l=>fun e=>match e with|(i,x)::e=>cond (nI k p.1 i) ((p.2.take (.inl x)).bind fun u=>(qE l e).bind fun v=>some (u,v)) none|_=>none
def tyN:List (Nat×Sk)->Type
 |[]=>Unit
 |p::l=>p.2.T×tyN l
def DJ:(l:List (Nat×Sk))->tyN l->List (Nat×UV)
 |[],_=>[]
 |p::l,(x,y)=>(p.1,p.2.v x)::DJ l y
def takeN:(l:List (Nat×Sk))->List (Nat×UV)->Option (tyN l)
 |[]=>fun e=>match e with|[]=>some ()|_=>none
 |p::l=>fun e=>match e with|(i,x)::e=>if i=p.1 then((p.2.take (.inl x)).bind fun u=>(takeN l e).bind fun v=>some (u,v))else none|_=>none
def dG:LoopState->LoopState->Bool
 | .ready,.ready| .busy,.busy| .done,.done| .exhausted,.exhausted=>true
 |_,_=>false
theorem ZQ{a b:LoopState}(h:dG a b=true):a=b:=by cases a<;>cases b<;>first|rfl|simp[dG]at h
def UC.T:UC->Type
 | .dead=>Unit
 | .Ya l=>l.T
 | .cells c=>List (Gb c)
 | .deep c=>List (List (Gb c))
 | .Zj _ es=>tyM es
 | .oh k _ c=>List (td k×Gb c)
 | .loop _ env _ _=>tyN env
 | .um q=>q.T
 | .yp=>ByteArray
def UC.fill:(b:UC)->b.T->UB
 | .dead,_=> .dead
 | .Ya l,t=> .Ya (l.l t)
 | .cells c,l=> .cells c l
 | .deep c,l=> .deep c l
 | .Zj k es,t=> .Zj k (EJ es t)
 | .oh k g c,l=> .oh k g c l
 | .loop id env st pe,t=> .loop id (DJ env t) st pe
 | .um q,t=> .um (q.v t)
 | .yp,s=> .yp s
def UC.take:(b:UC)->UB->Option b.T
 | .dead=>fun x=>match x with| .dead=>some ()|_=>none
 | .Ya l=>fun x=>match x with| .Ya row=>l.take (.inr row)|_=>none
 | .cells c=>fun x=>match x with| .cells c' l=>if h:c'=c then some (h ▸ l)else none|_=>none
 | .deep c=>fun x=>match x with| .deep c' l=>if h:c'=c then some (h ▸ l)else none|_=>none
 | .Zj k es=>fun x=>match x with| .Zj k' ud=>if h:k'=k then qE es (h ▸ ud)else none|_=>none
 | .oh k g c=>fun x=>match x with| .oh k' g' c' l=>if h:k'=k/\g'=g/\c'=c then some (h.1 ▸ h.2.2 ▸ l)else none|_=>none
 | .loop id env st pe=>fun x=>match x with| .loop NC Mm I7 pe'=>if NC=id/\dG I7 st=true/\pe'=pe then takeN env Mm else none|_=>none
 | .um q=>fun x=>match x with| .um y=>q.take (.inl y)|_=>none
 | .yp=>fun x=>match x with| .yp s=>some s|_=>none
def z_:List UC->Type
 |[]=>Unit
 |b::l=>b.T×z_ l
def XE:(l:List UC)->z_ l->List UB
 |[],_=>[]
 |b::l,(x,y)=>b.fill x::XE l y
def rE:(l:List UC)->List UB->Option (z_ l)
 |[]=>fun e=>match e with|[]=>some ()|_=>none
 |b::l=>fun e=>match e with|x::e=>(b.take x).bind fun u=>(rE l e).bind fun v=>some (u,v)|_=>none
theorem Sk.VF{k:Sk}{x:UV}{t:k.T}(h:k.take (.inl x)=some t):k.v t=x:=by rw[Sk.v,k.yd _ _ h];rfl
theorem Sk.eL{k:Sk}{x:List UV}{t:k.T}(h:k.take (.inr x)=some t):k.l t=x:=by rw[Sk.l,k.yd _ _ h];rfl
theorem Xt:∀(l:List (Nat×w7))(e:List (Nat×US))(t:A_ l),Hy l e=some t->ZE l t=e
 |[],e,t,h=>by
  cases e with
  |nil=>rfl
  |cons _ _=>simp[Hy]at h
 |(i,.v k)::l,e,t,h=>by
  simp only[Hy]at h;split at h
  ·split at h
   ·rename_i e0;subst e0;simp only[aa]at h;obtain⟨u,hu,v,hv,h⟩:=h;injection h with h;subst h
    simp only[ZE,Sk.VF hu,Xt l _ v hv]
   ·simp at h
  ·simp at h
 |(i,.loc j c)::l,e,t,h=>by
  simp only[Hy]at h;split at h
  ·rename_i i' j' c' e';have h:(if i'=i/\j'=j/\c'=c then Hy l e' else none)=some (t:A_ l):=h;split at h
   ·rename_i e0;obtain⟨rfl,rfl,rfl⟩:=e0;show(i',US.loc j' c')::ZE l t=_;rw[Xt l _ t h]
   ·simp at h
  ·simp at h
theorem UA:∀(l:List Sk)(e:List (List UV))(t:tyF l),tI l e=some t->FO l t=e
 |[],e,t,h=>by
  cases e with
  |nil=>rfl
  |cons _ _=>simp[tI]at h
 |k::l,e,t,h=>by
  simp only[tI]at h;split at h
  ·simp only[aa]at h;obtain⟨u,hu,v,hv,h⟩:=h;injection h with h;subst h
   simp only[FO,Sk.eL hu,UA l _ v hv]
  ·simp at h
theorem zad{k:KT}{i j:td k}(h:nI k i j=true):i=j:=by
 cases k with
 |int k=>exact U6 (a:=i) (b:=j) h
 |str=>cases i;cases j;exact congrArg ByteArray.mk (eq_of_beq (α:=Array UInt8) h)
theorem TA{k:KT}:∀(l:List (td k×Sk))(e:List (td k×UV))(t:tyM l),qE l e=some t->EJ l t=e
 |[],e,t,h=>by
  cases e with
  |nil=>rfl
  |cons _ _=>simp[qE]at h
 |p::l,e,t,h=>by
  simp only[qE]at h;split at h
  ·rename_i i x e;cases he:nI k p.1 i with
   |false=>rw[he]at h;simp at h
   |true=>
    rw[he]at h;simp only[cond_true,aa]at h;obtain⟨u,hu,v,hv,h⟩:=h;injection h with h;subst h
    simp only[EJ,Sk.VF hu,TA l _ v hv,zad he]
  ·simp at h
theorem SA:∀(l:List (Nat×Sk))(e:List (Nat×UV))(t:tyN l),takeN l e=some t->DJ l t=e
 |[],e,t,h=>by
  cases e with
  |nil=>rfl
  |cons _ _=>simp[takeN]at h
 |p::l,e,t,h=>by
  simp only[takeN]at h;split at h
  ·rename_i i x e;split at h
   ·rename_i he;simp only[aa]at h;obtain⟨u,hu,v,hv,h⟩:=h;injection h with h;subst h
    simp only[DJ,Sk.VF hu,SA l _ v hv,he]
   ·simp at h
  ·simp at h
theorem UC.yd:∀(b:UC)(x:UB)(t:b.T),b.take x=some t->b.fill t=x
 | .dead,x,t,h=>by
  simp only[UC.take]at h;split at h
  ·rfl
  ·simp at h
 | .Ya l,x,t,h=>by
  cases x with
  |Ya row=>
   show UB.Ya (l.l t)=_;rw[Sk.eL (x:=row) h]
  |_=>exact(Yj (α:=l.T) (t:=t) h).elim
 | .cells c,x,t,h=>by
  simp only[UC.take]at h;split at h
  ·split at h
   ·rename_i e;subst e;injection h with h;subst h;rfl
   ·simp at h
  ·simp at h
 | .deep c,x,t,h=>by
  simp only[UC.take]at h;split at h
  ·split at h
   ·rename_i e;subst e;injection h with h;subst h;rfl
   ·simp at h
  ·simp at h
 | .Zj k es,x,t,h=>by
  simp only[UC.take]at h;split at h
  ·rename_i k' ud;have h:(if h:k'=k then qE es (h ▸ ud)else none)=some (t:tyM es):=h;split at h
   ·rename_i e;subst e;show UB.Zj k' (EJ es t)=_;rw[TA _ _ _ h]
   ·simp at h
  ·simp at h
 | .oh k g c,x,t,h=>by
  simp only[UC.take]at h;split at h
  ·split at h
   ·rename_i e;obtain⟨rfl,rfl,rfl⟩:=e;injection h with h;subst h;rfl
   ·simp at h
  ·simp at h
 | .loop id env st pe,x,t,h=>by
  simp only[UC.take]at h;split at h
  ·rename_i NC Mm I7 pe';have h:(if NC=id/\dG I7 st=true/\pe'=pe then takeN env Mm else none)=some (t:tyN env):=h;split at h
   ·rename_i e;obtain⟨rfl,e2,rfl⟩:=e;have:=ZQ e2;subst this;show UB.loop NC (DJ env t) _ pe'=_;rw[SA _ _ _ h]
   ·simp at h
  ·simp at h
 | .um q,x,t,h=>by
  cases x with
  |um y=>
   show UB.um (q.v t)=_;rw[Sk.VF (x:=y) h]
  |_=>exact(Yj (α:=q.T) (t:=t) h).elim
 | .yp,x,t,h=>by
  cases x with
  |yp s=>injection h with h;subst h;rfl
  |_=>exact(Yj (α:=ByteArray) (t:=t) h).elim
theorem Vt:∀(l:List UC)(e:List UB)(t:z_ l),rE l e=some t->XE l t=e
 |[],e,t,h=>by
  cases e with
  |nil=>rfl
  |cons _ _=>simp[rE]at h
 |b::l,e,t,h=>by
  simp only[rE]at h;split at h
  ·simp only[aa]at h;obtain⟨u,hu,v,hv,h⟩:=h;injection h with h;subst h
   simp only[XE,UC.yd b _ _ hu,Vt l _ v hv]
  ·simp at h
structure jt where
 e:List (Nat×w7)
 F:List Sk
 bl:List UC
 wm:Nat
 base:Nat
def jt.T(k:jt):Type:=A_ k.e×tyF k.F×z_ k.bl
def jt.fill(k:jt)(t:k.T):St:=⟨ZE k.e t.1,FO k.F t.2.1,⟨XE k.bl t.2.2,k.wm⟩,k.base⟩
def jt.take(k:jt)(s:St):Option k.T:=
 if s.H.wm=k.wm/\s.base=k.base then(Hy k.e s.e).bind fun a=>(tI k.F s.F).bind fun b=>(rE k.bl s.H.bl).bind fun c=>some (a,b,c)else none
theorem jt.yd{k:jt}{s:St}{t:k.T}(h:k.take s=some t):k.fill t=s:=by
 unfold jt.take at h;split at h
 case isFalse=>simp at h
 rename_i hw;simp only[aa]at h;obtain⟨a,ha,b,hb,c,hc,h⟩:=h;injection h with h;subst h
 simp only[jt.fill,Xt _ _ _ ha,UA _ _ _ hb,Vt _ _ _ hc,<- hw.1,<- hw.2]
structure DA where
 l:Sk
 bl:List UC
 wm:Nat
def DA.T(k:DA):Type:=k.l.T×z_ k.bl
def DA.args(k:DA)(t:k.T):List UV:=k.l.l t.1
def DA.heap(k:DA)(t:k.T):UH:=⟨XE k.bl t.2,k.wm⟩
def DA.take(k:DA)(args:List UV)(H:UH):Option k.T:=
 if H.wm=k.wm then(k.l.take (.inr args)).bind fun a=>(rE k.bl H.bl).bind fun b=>some (a,b)else none
theorem DA.yd{k:DA}{args:List UV}{H:UH}{t:k.T}(h:k.take args H=some t):k.args t=args/\k.heap t=H:=by
 unfold DA.take at h;split at h
 case isFalse=>simp at h
 rename_i hw;simp only[aa]at h;obtain⟨a,ha,b,hb,h⟩:=h;injection h with h;subst h
 exact⟨Sk.eL ha,by simp only[DA.heap,Vt _ _ _ hb,<- hw]⟩
theorem aU{α β:Type}(b:Bool)(x y:Option α)(k:α->Option β):(cond b x y).bind k=cond b (x.bind k) (y.bind k):=by cases b<;>rfl
theorem E1{α β:Type}(b:Bool)(x:Option α)(k:α->Option β):(ask b x).bind k=ask b (x.bind k):=by cases b<;>rfl
theorem VT{α β γ δ:Type}(e:α ⊕ β)(f:α->Option γ)(g:β->Option γ)(k:γ->Option δ):(e.elim f g).bind k=e.elim (fun a=>(f a).bind k) (fun a=>(g a).bind k):=by cases e<;>rfl
def vW(Dd:NF)(pe:V.Ex->NF):V.Ex->St->Option (St ⊕ (V.Ex×St))
 | .normal,s=>(Bp Dd s).bind fun s=>some (.inl s)
 |ex,s=>(Bp (pe ex) s).bind fun s=>some (.inr (ex,s))
section
variable [TB:GC]{rf:Bool}
variable {A:V.yh}{C:V.Callee}{Pa:Nat->Option (List UV)}{Fa:List Nat}{n:Nat}
theorem GL(hg:Ge A Pa){env:Env}(hc:Jc C env.call){c:Code}(hl:∀c'∈loops env.join c,Mc env.loop (V.code A C rf Fa (ua n) n) c')
  {P T E:Type} {enc:P->T->St} {Dn:P->E->V.Ex×St} {Dd:NF} {pe:V.Ex->NF} (GR:qo n Dd) (hpe:∀ex,qo n (pe ex))
  {step:(Y:Type)->P->T->(T->Option Y)->(E->Option Y)->Option Y}
  (Bi:∀Y p t ki ke,step Y p t ki ke=(step (T ⊕ E) p t (fun t=>some (.inl t)) (fun e=>some (.inr e))).bind (Sum.elim ki ke))
  (Ai:∀p t,code A Pa env Fa n c (enc p t) (vW Dd pe)=step _ p t (fun t'=>some (.inl (enc p t'))) (fun e=>some (.inr (Dn p e))))
  {jG:(X:Type)->Nat->St->(V.Ex->St->Option X)->Option X}
  (QV:∀(X:Type)(s:St)(K:V.Ex->St->Option X)(out:X),jG X (vf c) s K=some out->∃p t e,Bp Dd s=some (enc p t)/\Ma (fun t=>step (T ⊕ E) p t (fun t=>some (.inl t)) (fun e=>some (.inr e))) t=some e/\K (Dn p e).1 (Dn p e).2=some out):
  Mc jG (V.code A C rf Fa (ua n) n) (.loop c):=by
 intro X s K out h;obtain⟨p,t,e,h1,h2,h3⟩:=QV X s K out h;obtain⟨p1,p2,p3⟩:=rj h1 GR;have main:∀(N:Nat)(t:T)(e:E),Pk (fun t=>step (T ⊕ E) p t (fun t=>some (.inl t)) (fun e=>some (.inr e))) N t=some e->(Dn p e).2.base=(enc p t).base/\(Dn p e).2.H.wm=(enc p t).H.wm/\∀(m:Mp)(φ:Nat->Option Nat)(sv:V.S),vm m φ (enc p t) (V.clean (ua n) sv)->
   ∃xe m' Og,V.Gt (fun s=>V.code A C rf Fa (ua n) n c (V.clean (ua n) s)) N sv=some ((Dn p e).1,xe)/\vm m' Og (Dn p e).2 xe/\Oj (enc p t).base m sv.H m' xe.H:=by
  intro N;induction N with
  |zero=>intro t e h;simp[Pk]at h
  |succ N ih=>
   intro t e h;simp only[Pk,aa]at h;obtain⟨r,hr,h⟩:=h;have zj:=Ai p t;rw[Bi,hr]at zj;cases r with
   |inl t'=>
    simp only[ga,Sum.elim_inl]at zj;obtain⟨ex,s1,g1,g2⟩:=yg hg hc hl zj;have hex:ex= .normal/\Bp Dd s1=some (enc p t'):=by
     cases ex<;>simp[vW,aa]at g1
     exact⟨rfl,g1⟩
    obtain⟨rfl,hpr⟩:=hex;obtain⟨q1,q2,q3⟩:=rj hpr GR;obtain⟨i1,i2,i3⟩:=ih t' e h;refine⟨by rw[i1,q1,g2.1],by rw[i2,q2,g2.2.1],fun m φ sv hs=> ?_⟩;obtain⟨Vj,m1,GA,e1,e2,e3⟩:=g2.2.2 m φ _ hs;obtain⟨m2,Sz,e4,e5⟩:=q3 m1 GA Vj _ e2 (.clean n Vj);obtain⟨XC,m3,C3,e6,e7,e8⟩:=i3 m2 Sz Vj e4;rw[g2.1]at e5;rw[q1,g2.1]at e8;refine⟨XC,m3,C3,by simp only[V.Gt,e1,ga];exact e6,e7,?_⟩;exact(e3.trans e5 (va _)).trans e8 (va _)
   |inr e'=>
    simp at h;subst h;simp only[ga,Sum.elim_inr]at zj;obtain⟨ex,s1,g1,g2⟩:=yg hg hc hl zj;have hex:ex≠ .normal/\(Dn p e').1=ex/\Bp (pe ex) s1=some (Dn p e').2:=by
     cases ex<;>simp[vW,aa]at g1
     ·obtain⟨a,ha,hb⟩:=g1;rw[<- hb];exact⟨by simp,rfl,ha⟩
     ·obtain⟨a,ha,hb⟩:=g1;rw[<- hb];exact⟨by simp,rfl,ha⟩
    obtain⟨Uc,hex,hpr⟩:=hex;obtain⟨q1,q2,q3⟩:=rj hpr (hpe ex);refine⟨by rw[q1,g2.1],by rw[q2,g2.2.1],fun m φ sv hs=> ?_⟩;obtain⟨Vj,m1,GA,e1,e2,e3⟩:=g2.2.2 m φ _ hs;obtain⟨m2,Sz,e4,e5⟩:=q3 m1 GA Vj Vj e2 (.refl n Vj);rw[g2.1]at e5;refine⟨Vj,m2,Sz,?_,e4,e3.trans e5 (va _)⟩;rw[hex];simp only[V.Gt,e1,ga]
 obtain⟨i1,i2,i3⟩:=main V.Ym t e h2;refine⟨_,_,h3,by rw[i1,p1],by rw[i2,p2],fun m φ sv hs=> ?_⟩;obtain⟨m2,Sz,e4,e5⟩:=p3 m φ sv _ hs (.clean n sv);obtain⟨XC,m3,C3,e6,e7,e8⟩:=i3 m2 Sz sv e4;rw[p1]at e8;exact⟨XC,m3,C3,e6,e7,e5.trans e8 (va _)⟩
theorem MI(hg:Ge A Pa){env:Env}(hc:Jc C env.call){c:Code}{Jd:Env}(Qf:Jd.call=env.call)
  (hl:∀c'∈loops Jd.join c,Mc Jd.loop (V.code A C rf Fa (ua n) n) c')
  {P E:Type} {enc:P->St} {Dn:P->E->V.Ex×St} {Dd:NF} {pe:V.Ex->NF} (GR:qo n Dd) (hpe:∀ex,qo n (pe ex))
  {step:(Y:Type)->P->(E->Option Y)->Option Y}
  (Bi:∀Y p ke,step Y p ke=(step E p (fun e=>some e)).bind ke)
  (Ai:∀p,code A Pa Jd Fa n c (enc p) (fun ex s=>(Bp (pe ex) s).bind fun s=>some (ex,s))=step _ p (fun e=>some (Dn p e)))
  {jG:(X:Type)->Nat->St->(V.Ex->St->Option X)->Option X}
  (QV:∀(X:Type)(s:St)(K:V.Ex->St->Option X)(out:X),jG X (keyOf c) s K=some out->∃p e,Bp Dd s=some (enc p)/\step E p (fun e=>some e)=some e/\K (Dn p e).1 (Dn p e).2=some out):
  Mc jG (V.code A C rf Fa (ua n) n) c:=by
 intro X s K out h;obtain⟨p,e,h1,h2,h3⟩:=QV X s K out h;obtain⟨p1,p2,p3⟩:=rj h1 GR;have zj:=Ai p;rw[Bi,h2]at zj;simp only[ga]at zj;obtain⟨ex,s1,g1,g2⟩:=yg hg (by rw[Qf];exact hc) hl zj;simp only[aa,Dc]at g1;obtain⟨s2,hpr,g1⟩:=g1;obtain⟨q1,q2,q3⟩:=rj hpr (hpe ex);rw[<- g1]at h3;refine⟨ex,s2,h3,by rw[q1,g2.1,p1],by rw[q2,g2.2.1,p2],fun m φ sv hs=> ?_⟩;obtain⟨m1,GA,e1,e2⟩:=p3 m φ sv sv hs (.refl n sv);obtain⟨Vj,m2,Sz,e3,e4,e5⟩:=g2.2.2 m1 GA sv e1;obtain⟨m3,C3,e6,e7⟩:=q3 m2 Sz Vj Vj e4 (.refl n Vj);rw[p1]at e5;rw[g2.1,p1]at e7;exact⟨Vj,m3,C3,e3,e6,(e2.trans e5 (va _)).trans e7 (va _)⟩
theorem HI(hg:Ge A Pa){env:Env}(hc:Jc C env.call){Jd:Env}(Qf:Jd.call=env.call){id:Nat}{ks:List Nat}{g:Operand}{ps:Array Tmp}{a b:Code}(OL:TB.rf id=⟨n,ps.toList,a,b⟩)
  {P E:Type} {enc:P->St} {Dn:P->E->V.Ex×St} {Dd:NF} {pe:V.Ex->NF} (GR:qo n Dd) (hpe:∀ex,qo n (pe ex))
  {step:(Y:Type)->P->(E->Option Y)->Option Y}
  (Bi:∀Y p ke,step Y p ke=(step E p (fun e=>some e)).bind ke)
  (Ai:∀p,EI A Pa Jd id n ks g (enc p) (fun ex s=>(Bp (pe ex) s).bind fun s=>some (ex,s))=step _ p (fun e=>some (Dn p e)))
  {jG:(X:Type)->Nat->St->(V.Ex->St->Option X)->Option X}
  (QV:∀(X:Type)(s:St)(K:V.Ex->St->Option X)(out:X),jG X (keyOf (.rangeFunc g ps a b)) s K=some out->∃p e,Bp Dd s=some (enc p)/\step E p (fun e=>some e)=some e/\K (Dn p e).1 (Dn p e).2=some out):
  Mc jG (V.code A C true Fa (ua n) n) (.rangeFunc g ps a b):=by
 intro X s K out h;obtain⟨p,e,h1,h2,h3⟩:=QV X s K out h;obtain⟨p1,p2,p3⟩:=rj h1 GR;have zj:=Ai p;rw[Bi,h2]at zj;simp only[ga]at zj;obtain⟨ex,s1,g1,g2⟩:=ZU (Fa:=Fa) hg (by rw[Qf];exact hc) OL zj;simp only[aa,Dc]at g1;obtain⟨s2,hpr,g1⟩:=g1;obtain⟨q1,q2,q3⟩:=rj hpr (hpe ex);rw[<- g1]at h3;refine⟨ex,s2,h3,by rw[q1,g2.1,p1],by rw[q2,g2.2.1,p2],fun m φ sv hs=> ?_⟩;obtain⟨m1,GA,e1,e2⟩:=p3 m φ sv sv hs (.refl n sv);obtain⟨Vj,m2,Sz,e3,e4,e5⟩:=g2.2.2 m1 GA sv e1;obtain⟨m3,C3,e6,e7⟩:=q3 m2 Sz Vj Vj e4 (.refl n Vj);rw[p1]at e5;rw[g2.1,p1]at e7;exact⟨Vj,m3,C3,e3,e6,(e2.trans e5 (va _)).trans e7 (va _)⟩
end
end Go.U
namespace Go.U
open Go
theorem n1{α β:Type}(b:Bool)(x y:Option α)(k:α->Option β):(cond b x y).bind k=cond b (x.bind k) (y.bind k):=aU b x y k
theorem n2{α β:Type}(b:Bool)(x:Option α)(k:α->Option β):(ask b x).bind k=ask b (x.bind k):=E1 b x k
theorem n3{α β γ δ:Type}(e:α ⊕ β)(f:α->Option γ)(g:β->Option γ)(k:γ->Option δ):(e.elim f g).bind k=e.elim (fun a=>(f a).bind k) (fun a=>(g a).bind k):=VT e f g k
theorem n4{α β γ:Type}(x:Option α)(f:α->Option β)(g:β->Option γ):(x.bind f).bind g=x.bind fun a=>(f a).bind g:=Option.bind_assoc x f g
theorem n5{α β:Type}(a:α)(f:α->Option β):(some a).bind f=f a:=rfl
theorem n6{α β:Type}(f:α->Option β):(none:Option α).bind f=none:=rfl
theorem n7{α β γ:Type}(f:α->γ)(g:β->γ)(a:α):Sum.elim f g (.inl a)=f a:=rfl
theorem n8{α β γ:Type}(f:α->γ)(g:β->γ)(b:β):Sum.elim f g (.inr b)=g b:=rfl
def Su:List (V.Ex×NF)->V.Ex->NF
 |[],_=>⟨[],[],[],[]⟩
 |(e,p)::l,ex=>if ex=e then p else Su l ex
def Rj(n:Nat)(p:NF):Bool:=p.keep.all fun t=>decide (t<n)
theorem wv{n:Nat}{p:NF}(h:Rj n p=true):qo n p:=fun t ht=>by
 have:=tc.1 h t ht;simpa using this
theorem iG{n:Nat}:∀{l:List (V.Ex×NF)},(l.all fun q=>Rj n q.2)=true->∀ex,qo n (Su l ex)
 |[],_,ex=>fun t ht=>by simp[Su]at ht
 |(e,p)::l,h,ex=>by
  simp only[List.all_cons,Va]at h;unfold Su;split
  ·exact wv h.1
  ·exact iG h.2 ex
structure LD(P T E:Type) where
 sk:jt
 p:sk.T->P
 t:sk.T->T
 n:P->T->sk.T
 st:(Y:Type)->P->T->(T->Option Y)->(E->Option Y)->Option Y
 o:(Z:Type)->P->E->(V.Ex->St->Z)->Z
 Dd:NF
 pe:List (V.Ex×NF)
def LD.m{P T E:Type}(L:LD P T E)(p:P)(t:T):Option (T ⊕ E):=L.st _ p t (fun t=>some (.inl t)) (fun e=>some (.inr e))
def LD.q{P T E:Type}(L:LD P T E)(X:Type)(s:St)(K:V.Ex->St->Option X):Option X:=
 (Bp L.Dd s).bind fun s=>(L.sk.take s).bind fun u=>(Ma (L.m (L.p u)) (L.t u)).bind fun e=>L.o _ (L.p u) e K
structure PD(P E:Type) where
 sk:jt
 p:sk.T->P
 st:(Y:Type)->P->(E->Option Y)->Option Y
 o:(Z:Type)->P->E->(V.Ex->St->Z)->Z
 Dd:NF
 pe:List (V.Ex×NF)
def PD.m{P E:Type}(L:PD P E)(p:P):Option E:=L.st _ p (fun e=>some e)
def PD.q{P E:Type}(L:PD P E)(X:Type)(s:St)(K:V.Ex->St->Option X):Option X:=
 (Bp L.Dd s).bind fun s=>(L.sk.take s).bind fun u=>(L.m (L.p u)).bind fun e=>L.o _ (L.p u) e K
structure FS(A R:Type) where
 sk:DA
 a:sk.T->A
 o:(Z:Type)->A->R->(UV->UH->Z)->Z
def FS.sp{A R:Type}(S:FS A R)(m:A->Option R):Spec:=fun X args H K=>(S.sk.take args H).bind fun u=>(m (S.a u)).bind fun r=>S.o _ (S.a u) r K
def kv{Z:Type}(K:UV->UH->Z)(k:Sk)(bl:List UC)(w:Nat)(x:k.T)(y:z_ bl):Z:=K ((k.fill x).elim id fun _=> .Sb) ⟨XE bl y,w⟩
def so{Z:Type}(K:V.Ex->St->Z)(ex:V.Ex)(k:jt)(t:k.T):Z:=K ex (k.fill t)
section
variable [TB:GC]{rf:Bool}
variable {A:V.yh}{C:V.Callee}{Pa:Nat->Option (List UV)}{Fa:List Nat}{n:Nat}
noncomputable abbrev vc(A:V.yh)(C:V.Callee)(rf:Bool)(Fa:List Nat)(n:Nat):=V.code A C rf Fa (ua n) n
theorem qR(hg:Ge A Pa){env:Env}(hc:Jc C env.call){c:Code}(hl:∀c'∈loops env.join c,Mc env.loop (vc A C rf Fa n) c'){P T E:Type}(L:LD P T E)
  (hk:(Rj n L.Dd&&L.pe.all fun q=>Rj n q.2)=true)
  (Bi:∀Y p t ki ke,L.st Y p t ki ke=(L.m p t).bind (Sum.elim ki ke))
  (Ai:∀p t,code A Pa env Fa n c (L.sk.fill (L.n p t)) (vW L.Dd (Su L.pe))=L.st _ p t (fun t=>some (.inl (L.sk.fill (L.n p t)))) (fun e=>some (.inr (L.o _ p e Prod.mk))))
  (oJ:∀u,L.n (L.p u) (L.t u)=u) (ho:∀Z p e K,L.o Z p e K=K (L.o _ p e Prod.mk).1 (L.o _ p e Prod.mk).2)
  (hq:∀X s K,env.loop X (vf c) s K=L.q X s K):Mc env.loop (vc A C rf Fa n) (.loop c):=by
 simp only[Va]at hk;refine GL hg (env:=env) hc hl (enc:=fun p t=>L.sk.fill (L.n p t)) (Dn:=fun p e=>L.o _ p e Prod.mk) (Dd:=L.Dd) (pe:=Su L.pe) (step:=L.st) (wv hk.1) (iG hk.2) Bi Ai ?_;intro X s K out h;rw[hq]at h;unfold LD.q at h;obtain⟨s',hs,h⟩:=aa.1 h;obtain⟨u,hu,h⟩:=aa.1 h;obtain⟨e,he,h⟩:=aa.1 h;refine⟨L.p u,L.t u,e,?_,he,(ho _ _ _ _).symm.trans h⟩;rw[hs,oJ,jt.yd hu]
theorem iB(hg:Ge A Pa){env Jd:Env}(hc:Jc C env.call)(Qf:Jd.call=env.call){c:Code}(hl:∀c'∈loops Jd.join c,Mc Jd.loop (vc A C rf Fa n) c'){P E:Type}(L:PD P E)
  (hk:(Rj n L.Dd&&L.pe.all fun q=>Rj n q.2)=true)
  (Bi:∀Y p ke,L.st Y p ke=(L.m p).bind ke)
  (Ai:∀u,code A Pa Jd Fa n c (L.sk.fill u) (fun ex s=>(Bp (Su L.pe ex) s).bind fun s=>some (ex,s))=L.st _ (L.p u) (fun e=>some (L.o _ (L.p u) e Prod.mk)))
  (ho:∀Z p e K,L.o Z p e K=K (L.o _ p e Prod.mk).1 (L.o _ p e Prod.mk).2)
  (hq:∀X s K,env.loop X (keyOf c) s K=L.q X s K):Mc env.loop (vc A C rf Fa n) c:=by
 simp only[Va]at hk;refine MI hg (env:=env) (Jd:=Jd) hc Qf hl (enc:=fun u=>L.sk.fill u) (Dn:=fun u e=>L.o _ (L.p u) e Prod.mk) (Dd:=L.Dd) (pe:=Su L.pe) (step:=fun Y u=>L.st Y (L.p u)) (wv hk.1) (iG hk.2) (fun Y u=>Bi Y (L.p u)) Ai ?_;intro X s K out h;rw[hq]at h;unfold PD.q at h;obtain⟨s',hs,h⟩:=aa.1 h;obtain⟨u,hu,h⟩:=aa.1 h;obtain⟨e,he,h⟩:=aa.1 h;refine⟨u,e,?_,he,(ho _ _ _ _).symm.trans h⟩;rw[hs,jt.yd hu]
theorem yL(hg:Ge A Pa){env Jd:Env}(hc:Jc C env.call)(Qf:Jd.call=env.call){id:Nat}{ks:List Nat}{g:Operand}{ps:Array Tmp}{a b:Code}(OL:TB.rf id=⟨n,ps.toList,a,b⟩){P E:Type}(L:PD P E)
  (hk:(Rj n L.Dd&&L.pe.all fun q=>Rj n q.2)=true)
  (Bi:∀Y p ke,L.st Y p ke=(L.m p).bind ke)
  (Ai:∀u,EI A Pa Jd id n ks g (L.sk.fill u) (fun ex s=>(Bp (Su L.pe ex) s).bind fun s=>some (ex,s))=L.st _ (L.p u) (fun e=>some (L.o _ (L.p u) e Prod.mk)))
  (ho:∀Z p e K,L.o Z p e K=K (L.o _ p e Prod.mk).1 (L.o _ p e Prod.mk).2)
  (hq:∀X s K,env.loop X (keyOf (.rangeFunc g ps a b)) s K=L.q X s K):Mc env.loop (vc A C true Fa n) (.rangeFunc g ps a b):=by
 simp only[Va]at hk;refine HI hg (env:=env) (Jd:=Jd) hc Qf OL (enc:=fun u=>L.sk.fill u) (Dn:=fun u e=>L.o _ (L.p u) e Prod.mk) (Dd:=L.Dd) (pe:=Su L.pe) (step:=fun Y u=>L.st Y (L.p u)) (wv hk.1) (iG hk.2) (fun Y u=>Bi Y (L.p u)) Ai ?_;intro X s K out h;rw[hq]at h;unfold PD.q at h;obtain⟨s',hs,h⟩:=aa.1 h;obtain⟨u,hu,h⟩:=aa.1 h;obtain⟨e,he,h⟩:=aa.1 h;refine⟨u,e,?_,he,(ho _ _ _ _).symm.trans h⟩;rw[hs,jt.yd hu]
def yb(l:List (FuncId×Spec)):(X:Type)->UV->List UV->UH->(UV->UH->Option X)->Option X:=fun X fv args H K=>qQ l X fv args H K
def Rs(l ly:List (FuncId×Spec)):(X:Type)->UV->List UV->UH->(UV->UH->Option X)->Option X:=fun X fv args H K=>Z0 l ly X fv args H K
theorem Q_{C:V.Callee}:∀p∈([]:List (FuncId×Spec)),Xe C p.1 p.2:=fun p h=>by cases h
theorem UN{C:V.Callee}{f:FuncId}{s:Spec}{l:List (FuncId×Spec)}(h:Xe C f s)(hl:∀p∈l,Xe C p.1 p.2):∀p∈(f,s)::l,Xe C p.1 p.2:=fun p hp=>by
 rcases Yb.1 hp with rfl|hp
 ·exact h
 ·exact hl p hp
theorem v_{C:V.Callee}:∀p∈([]:List (FuncId×Spec)),Li C p.2:=fun p h=>by cases h
theorem F3{C:V.Callee}{f:FuncId}{s:Spec}{l:List (FuncId×Spec)}(h:Li C s)(hl:∀p∈l,Li C p.2):∀p∈(f,s)::l,Li C p.2:=fun p hp=>by
 rcases Yb.1 hp with rfl|hp
 ·exact h
 ·exact hl p hp
theorem Kb{jG:(X:Type)->Nat->St->(V.Ex->St->Option X)->Option X}{Dy:Code->V.S->Option (V.Ex×V.S)}:∀c∈([]:List Code),Mc jG Dy c:=fun p h=>by cases h
theorem Ua{jG:(X:Type)->Nat->St->(V.Ex->St->Option X)->Option X}{Dy:Code->V.S->Option (V.Ex×V.S)}{c:Code}{l:List Code}(h:Mc jG Dy c)(hl:∀c∈l,Mc jG Dy c):∀c'∈c::l,Mc jG Dy c':=fun p hp=>by
 rcases Yb.1 hp with rfl|hp
 ·exact h
 ·exact hl p hp
theorem nc{jG:(X:Type)->Nat->St->(V.Ex->St->Option X)->Option X}{Dy:Code->V.S->Option (V.Ex×V.S)}{l l':List Code}(e:l=l')(h:∀c∈l',Mc jG Dy c):∀c∈l,Mc jG Dy c:=fun c hc=>h c (e ▸ hc)
theorem B5(hg:Ge A Pa){env:Env}{k:Nat}(hc:Jc (V.call A k) env.call){f:FuncId}{fn:Func}{c:Code}{sh:Sh}{fz:Bool}
  (h1:A.fns f=some fn) (h2:fn.body=some c) (h3:A.ext f=none) (h4:A.loc f=Fa) (h5:A.keep f=ua fn.ntmps) (h6:A.AU f=fz)
  (hl:∀c'∈loops env.join c,Mc env.loop (vc A (V.call A k) true Fa fn.ntmps) c') {A' R:Type} (S:FS A' R) {m:A'->Option R}
  {mc:(X:Type)->A'->(R->Option X)->Option X}
  (ee:∀X u K,AJ A Pa env Fa fn sh fz (S.sk.args u) (S.sk.heap u) K=mc X (S.a u) (fun r=>S.o _ (S.a u) r K))
  (Bi:∀X a K,mc X a K=(m a).bind K):Xe (V.call A (k+1)) f (S.sp m):=by
 refine(uW (sh:=sh) (fz:=fz) hg hc (f:=f) (fn:=fn) (c:=c) h3 h1 h2 (Fa:=Fa) h4 h5 h6 hl).imp ?_;intro X args H K out h;unfold FS.sp at h;obtain⟨u,hu,h⟩:=aa.1 h;obtain⟨g1,g2⟩:=DA.yd hu;rw[<- g1,<- g2];rw[ee X u K,Bi];exact h
theorem D3(hg:Ge A Pa){env:Env}{k:Nat}(hc:Jc (V.call A k) env.call){id:Nat}{r:RFn}(OL:TB.rf id=r)
  (h1:∀c'∈loops env.join r.assign,Mc env.loop (vc A (V.call A k) false [] r.n) c') (h2:∀c'∈loops env.join r.body,Mc env.loop (vc A (V.call A k) false [] r.n) c') {A' R:Type} (S:FS A' R) {m:A'->Option R}
  {mc:(X:Type)->A'->(R->Option X)->Option X}
  (ee:∀X u K,KN A Pa env id r (S.sk.args u) (S.sk.heap u) K=mc X (S.a u) (fun r=>S.o _ (S.a u) r K))
  (Bi:∀X a K,mc X a K=(m a).bind K):Li (V.call A (k+1)) (S.sp m):=by
 refine(EU hg hc (id:=id) (r:=r) OL h1 h2).imp ?_;intro X args H K out h;unfold FS.sp at h;obtain⟨u,hu,h⟩:=aa.1 h;obtain⟨g1,g2⟩:=DA.yd hu;rw[<- g1,<- g2];rw[ee X u K,Bi];exact h
end
end Go.U
