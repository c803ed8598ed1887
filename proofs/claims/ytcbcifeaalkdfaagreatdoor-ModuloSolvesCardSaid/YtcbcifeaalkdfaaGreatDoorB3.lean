/- A second evaluator, over rows of Lean values, and that it is right over the first. -/
import Derived.Test.YtcbcifeaalkdfaaGreatDoorB2
import Derived.KernelRfl
set_option linter.unusedVariables false
set_option linter.unusedSimpArgs false
set_option linter.unusedSectionVars false
open Bool renaming and_eq_true→Ab
open List renaming mem_cons→me,nodup_append→Mv,mem_append→jh,mem_cons_self→Dd,mem_cons_of_mem→Rb,getElem?_eq_getElem→Da,getElem?_map→xe,map_cons→He,mem_of_getElem?→Eb,range→mb,nodup_nil→IF,getD_eq_getElem?_getD→Fb,length_map→Qh,getElem?_append_left→Ja,getElem?_append_right→Oa,getElem?_take→Jb,length_take→je,all_eq_true→ec,mem_filter→Fi,mem_range→jg,length_set→Wa
open Nat renaming le_refl→ya,lt_or_ge→dc,le_trans→Db
open Nat.succ renaming inj→sG
open Option renaming map_eq_some_iff→ja,bind_eq_some_iff→aa,bind_some→da
open Option.some renaming injEq→Wc
open Prod.mk renaming injEq→Qe
open Sum renaming elim_inr→zi
namespace Go.U
open Go
variable [TB:Uv]
theorem kL:∀{l:List Nat}{b i k:Nat},pos b l i=some k->∃j,k=i+j/\l[j]?=some b
 |[],b,i,k,h=>by simp[pos]at h
 |x::l,b,i,k,h=>by
  simp only[pos]at h;split at h
  ·rename_i e;simp at h;subst h;subst e;exact⟨0,rfl,rfl⟩
  ·obtain⟨j,h1,h2⟩:=kL h;exact⟨j+1,by omega,by simpa using h2⟩
theorem uV{l:List Nat}{b k:Nat}(h:pos b l 0=some k):l[k]?=some b:=by
 obtain⟨j,h1,h2⟩:=kL h;have:k=j:=by omega
 subst this;exact h2
theorem JR:∀{l:List Nat}{b i:Nat},b∈l->∃k,pos b l i=some k
 |[],b,i,h=>by simp at h
 |x::l,b,i,h=>by
  simp only[pos];split
  ·exact⟨i,rfl⟩
  ·rename_i e;rcases me.1 h with rfl|h
   ·exact(e rfl).elim
   ·exact JR h
theorem uk{H:UH}:∀{d:Nat}{w seen:List Nat},seen.Nodup->(reach H d w seen).Nodup
 |0,w,seen,h=>by simpa[reach]using h
 |d+1,[],seen,h=>by simpa[reach]using h
 |d+1,b::w,seen,h=>by
  simp only[reach];split
  ·exact uk h
  ·rename_i hb;refine uk (Mv.2 ⟨h,by simp,λx hx y hy=> ?_⟩);simp at hy;subst hy
   rintro rfl
   exact hb (by simpa using hx)
theorem Hp:∀{e:List (Nat×US)}{l:List Nat},l.Nodup->(En e l).Nodup
 |[],l,h=>h
 |(_,.loc i _)::e,l,h=>by
  simp only[En];refine Hp ?_;split
  ·exact h
  ·rename_i hb;refine Mv.2 ⟨h,by simp,λx hx y hy=> ?_⟩;simp at hy;subst hy
   rintro rfl
   exact hb (by simpa using hx)
 |(_,.v _)::e,l,h=>by simpa[En]using Hp h
theorem Tu:∀{e:List (Nat×US)}{l:List Nat}{i:Nat},i∈En e l->i∈l\/∃t c,(t,US.loc i c)∈e
 |[],l,i,h=> .inl h
 |(t,.loc j c)::e,l,i,h=>by
  simp only[En]at h;rcases Tu h with h|⟨t',c',h⟩
  ·split at h
   ·exact .inl h
   ·rcases jh.1 h with h|h
    ·exact .inl h
    ·simp at h;subst h;exact .inr ⟨t,c,Dd ..⟩
  ·exact .inr ⟨t',c',Rb _ h⟩
 |(t,.v _)::e,l,i,h=>by
  simp only[En]at h;rcases Tu h with h|⟨t',c',h⟩
  ·exact .inl h
  ·exact .inr ⟨t',c',Rb _ h⟩
theorem Ss{l:List Nat}(h:l.Nodup){i j x:Nat}(hi:l[i]?=some x)(hj:l[j]?=some x):i=j:=by
 have h1:=Za hi;have h2:=Za hj;rw[Da h1]at hi;rw[Da h2]at hj;simp at hi hj;exact(List.getElem_inj h).1 (by rw[hi,hj])
section
variable {m m':Mp}{Hv:V.AH}{φ:Nat->Option Nat}
def Ren(m m':Mp)(φ:Nat->Option Nat):Prop:=∀b b',φ b=some b'->m'.ι b'=m.ι b/\m'.len b'=m.len b/\b'<m'.top
theorem RL.Kk(h:Ren m m' φ)(d:Nat){xs:List UV}{as:List V.AV}(hx:RL m xs as):RL m' (xs.map (U.Kk φ d)) as:=
 ⟨by simp[hx.1],λi x a h1 h2=>by
  rw[xe,ja]at h1;obtain⟨y,hy,rfl⟩:=h1;exact RV.Kk h d (hx.2 i y a hy h2)⟩
theorem get_map(g:UV->UV)(hg:g .Dc= .Dc):∀(l:List (Nat×UV))(t:Nat),get ((l.map λp=>(p.1,g p.2)).map λp=>(p.1,US.v p.2)) t=match get (l.map λp=>(p.1,US.v p.2)) t with| .v y=> .v (g y)|x=>x
 |[],t=>by simp[get,hg]
 |(i,x)::l,t=>by
  simp only[He,get];split
  ·rfl
  ·exact get_map g hg l t
theorem MR.free{k:KT}(m':Mp):∀{es:List (Zd k×UV)}{ie:List (V.AV×V.AV)},MR k m es ie->MR k m' es ie
 |[],[],_=>trivial
 |(_,_)::_,(_,_)::_,h=>⟨h.1,h.2.1.O0 m' 8 h.2.2.1,h.2.2.1,h.2.2.2.free m'⟩
 |[],_::_,h=>h.elim
 |_::_,[],h=>h.elim
theorem RB.Kk(h:Ren m m' φ){b b':Nat}{y:UB}(hy:RB m Hv b y)(oq:m'.ι b'=m.ι b)(hl:m'.len b'=m.len b):RB m' Hv b' (Pu φ y):=by
 cases y with
 |dead=>trivial
 |Ee row=>
  obtain⟨x,Vb,ty,h1,h2,h3⟩:=hy;exact⟨x,Vb,ty,by rw[oq];exact h1,h2,h3.Kk h 8⟩
 |Un q=>
  obtain⟨x,p,q',h1,h2,h3,h4,h5⟩:=hy;exact⟨x,p,q',by rw[oq];exact h1,h2,h3,RV.Kk h 8 h4,h5⟩
 |Fq s=>
  obtain⟨h1,h2⟩:=hy;refine⟨by rw[hl];exact h1,?_⟩;rcases h2 with⟨h2,h3⟩|⟨x,h2,h3,h4⟩
  ·exact .inl ⟨h2,by rw[oq];exact h3⟩
  ·exact .inr ⟨x,by rw[oq];exact h2,h3,h4⟩
 |cells c l=>
  obtain⟨h1,h2⟩:=hy;refine⟨by rw[hl];exact h1,?_⟩;rcases h2 with⟨h2,h3⟩|⟨x,rows,ty,h2,h3,h4,h5,h6,h7⟩
  ·exact .inl ⟨h2,by rw[oq];exact h3⟩
  ·exact .inr ⟨x,rows,ty,by rw[oq];exact h2,h3,h4,h5,h6,λi row c y a k0 k1 k2 k3=>(h7 i row c y a k0 k1 k2 k3).free m' 8 ((h5 i k0).2 y (Eb k2))⟩
 |deep c l=>
  obtain⟨h1,h0,h2⟩:=hy;refine⟨by rw[hl];exact h1,λr=>by rw[hl,oq];exact h0 r,?_⟩;rcases h2 with⟨h2,h3⟩|⟨x,rows,ty,h2,h3,h4,h5⟩
  ·exact .inl ⟨h2,by rw[oq];exact h3⟩
  ·refine .inr ⟨x,rows,ty,by rw[oq];exact h2,h3,h4,λr hr=> ?_⟩;obtain⟨a,k1,k2⟩:=h5 r hr;rw[oq];exact⟨a,k1,k2.keep (λ_ _ hc h=>h.free m' 8 hc) λ_ _=>rfl⟩
 |Jg k es=>
  obtain⟨x,ie,h1,h2,h3⟩:=hy;exact⟨x,ie,by rw[oq];exact h1,h2,h3.free m'⟩
 |Pe k g c l=>
  obtain⟨x,ie,h1,h2,h3⟩:=hy;exact⟨x,ie,by rw[oq];exact h1,h2,h3.free m'⟩
 |loop id env st pe=>
  obtain⟨x,On,h1,h2,h3⟩:=hy;refine⟨x,On,by rw[oq];exact h1,h2,λt=> ?_⟩;have h4:=h3 t;unfold kf at h4 ⊢;rw[get_map (U.Kk φ 8) rfl env t]
  revert h4
  cases get (env.map λp=>(p.1,US.v p.2)) t with
  |loc i c=>exact λh=>h.elim
  |v y=>
   cases V.get (V.kf On) t with
   |loc i c=>exact λh=>h.elim
   |v a=>exact λhr=>RV.Kk h 8 hr
theorem RG(φ:Nat->Option Nat)(y:UB):Me (Pu φ y)=Me y:=by cases y<;>rfl
theorem kD(g:Nat->US):∀(keep:List Nat)(t:Nat),get (keep.map λi=>(i,g i)) t=if t∈keep then g t else .v .Dc
 |[],t=>by simp[get]
 |i::l,t=>by
  simp only[He,get,kD g l t];by_cases e:t=i
  ·subst e;simp
  ·simp[e]
def Alike(n:Nat)(sv bf:V.S):Prop:=bf.H=sv.H/\bf.F=sv.F/\∀t,t<n->V.get bf.e t=V.get sv.e t
theorem Alike.refl(n:Nat)(sv:V.S):Alike n sv sv:=⟨rfl,rfl,λ_ _=>rfl⟩
theorem vG(g:Nat->V.SV):∀(keep:List Nat)(t:Nat),V.get (keep.map λi=>(i,g i)) t=if t∈keep then g t else .v .Dc
 |[],t=>by simp[V.get]
 |i::l,t=>by
  simp only[He,V.get,vG g l t];by_cases e:t=i
  ·subst e;simp
  ·simp[e]
theorem Alike.clean(n:Nat)(sv:V.S):Alike n sv (V.clean (mb n) sv):=⟨rfl,rfl,λt ht=>by
 simp only[V.clean];rw[vG,if_pos (by simpa using ht)]⟩
theorem RS.Kk{ψ χ:Nat->Option Nat}{wh:Nat->Option Nat}(h:Ren m m' χ)(hp:∀i i' j,ψ i=some i'->φ i=some j->wh i'=some j){x:US}{a:V.SV}(hx:RS m φ x a):RS m' wh (qV χ ψ x) a:=by
 cases x with
 |v y=>
  by_cases hy:y= .Dc
  ·subst hy;exact trivial
  ·obtain⟨a,rfl,hr⟩:=hx.val hy;exact(RV.Kk h 8 hr).rs
 |loc i c=>
  cases a with
  |v a=>exact hx.elim
  |loc j c'=>
   simp only[qV];split
   ·rename_i i' hi;exact⟨hp i i' j hi hx.1,hx.2⟩
   ·exact trivial
theorem jn{n:Nat}{keep:List Nat}{s:St}{sv bf:V.S}(hk:∀t∈keep,t<n)(hs:xn m φ s sv)(hw:s.H.wm<=s.base)(ha:Alike n sv bf):
  ∃m' wh,xn m' wh (yg keep s) bf/\gm s.base m sv.H m' sv.H:=by
 obtain⟨a1,a2,a3⟩:=ha
 let e:=keep.map λi=>(i,get s.e i)
 let fs:=En e []
 let rows:=fs.map λi=>s.F.getD i []
 let bs:=mb s.base++(reach s.H 64 (mb s.base++(e.flatMap λp=>eam p.2)++rows.flatMap λrow=>row.flatMap (ids 8)) []).filter (λb=>decide (s.base<=b))
 let χ:=λb=>pos b bs 0
 let ψ:=λi=>pos i fs 0
 have hbs:bs.Nodup:=by
  refine Mv.2 ⟨List.nodup_range,(uk IF).filter _,λx hx y hy=> ?_⟩;simp at hx hy;omega
 have hfs:fs.Nodup:=Hp IF
 let m':Mp:={ ι:=λb s=>(bs[b]?).bind λc=>m.ι c s,len:=λb=>m.len (bs.getD b 0),top:=bs.length }
 let wh:Nat->Option Nat:=λi=>(fs[i]?).bind φ
 have FO:Ren m m' χ:=λb b' hb=>by
  have:=uV hb;exact⟨by simp[m',this],by simp[m',this],Za this⟩
 have oan:∀i,i∈fs->∃j,φ i=some j:=λi hi=>by
  rcases Tu hi with h|⟨t,c,h⟩
  ·simp at h
  ·obtain⟨i',BA,he⟩:=List.mem_map.1 h;simp only[Qe]at he;have:=hs.e t;rw[he.1]at he;rw[he.2]at this;cases hv:V.get sv.e t with
   |v a=>rw[hv]at this;exact this.elim
   |loc j c'=>rw[hv]at this;exact⟨j,this.1⟩
 have XO:∀b' y,(bs.map λb=>Pu χ (s.H.bl.getD b .dead))[b']?=some y->∃b,bs[b']?=some b/\y=Pu χ (s.H.bl.getD b .dead):=λb' y hy=>by
  rw[xe,ja]at hy;obtain⟨b,h1,h2⟩:=hy;exact⟨b,h1,h2.symm⟩
 have Oe:∀b',live (yg keep s).H b'->∃b,bs[b']?=some b/\live s.H b:=λb'⟨y,hy,hl⟩=>by
  obtain⟨b,h1,rfl⟩:=XO b' y hy;rw[RG]at hl;refine⟨b,h1,?_⟩;rw[Fb]at hl;cases h2:s.H.bl[b]? with
  |none=>rw[h2]at hl;simp[Me]at hl
  |some y=>rw[h2]at hl;exact⟨y,h2,hl⟩
 have Tv:(yg keep s).H.bl=bs.map λb=>Pu χ (s.H.bl.getD b .dead):=rfl
 have hlen:(yg keep s).H.bl.length=bs.length:=by rw[Tv,Qh]
 have hF:(yg keep s).F=fs.map λi=>(s.F.getD i []).map (Kk χ 8):=List.map_map
 have FZ:∀b,b<s.base->bs[b]?=some b:=λb hb=>by
  simp only[bs];rw[Ja (by simpa using hb)];simp[hb]
 refine⟨m',wh,⟨⟨λb _ x hb=> ?_,λb' y hy=> ?_,λb1 b2 _ _ x l1 l2 e1 e2=> ?_,λb _ x hb UG=> ?_,by rw[a1];exact hs.h.top,by rw[hlen]⟩,⟨λi j KK=> ?_,λi row hi=> ?_,λi i' j h1 h2=> ?_⟩,λt=> ?_,?_⟩,⟨⟨?_,λb hb=> ?_⟩,λ_ _ _=>rfl,λb s0 x hb=> ?_,ya _,rfl⟩⟩
 ·simp only[m',aa]at hb;obtain⟨b0,h1,h2⟩:=hb;have:=(hs.h.Ff b0 x h2).2;have h3:=Za h1;refine⟨by rw[hlen];exact h3,by rw[a1];exact this⟩
 ·obtain⟨b,h1,rfl⟩:=XO b' y hy;have oq:m'.ι b'=m.ι b:=by simp[m',h1]
  have hl:m'.len b'=m.len b:=by simp[m',h1]
  rw[Fb];cases h2:s.H.bl[b]? with
  |none=>trivial
  |some y=>exact RB.Kk FO ((hs.h.Kf b y h2).bl (by rw[a1])) oq hl
 ·obtain⟨c1,h1,h2⟩:=Oe b1 l1;obtain⟨c2,h3,h4⟩:=Oe b2 l2;simp only[m',h1,da]at e1;simp only[m',h3,da]at e2;obtain⟨this,h5⟩:=hs.h.Ao c1 c2 x h2 h4 e1 e2;subst this;exact⟨Ss hbs h1 h3,h5⟩
 ·simp only[m',aa]at hb;obtain⟨b0,h1,h2⟩:=hb;rw[a1];refine hs.h.wm b0 x h2 ?_;have Caf:s.H.wm<=b:=UG;rcases dc b s.base with Mc|vu
  ·rw[FZ b Mc]at h1;simp at h1;subst h1;exact Caf
  ·simp only[bs]at h1;rw[Oa (by simpa using vu)]at h1;have:=Eb h1;simp at this;omega
 ·simp only[wh,aa]at KK;obtain⟨i0,h1,h2⟩:=KK;have:=(hs.f.Ff i0 j h2).2;have h3:=Za h1;refine⟨?_,by rw[a2];exact this⟩;have:(yg keep s).F=fs.map λi=>(s.F.getD i []).map (Kk χ 8):=hF
  rw[this,Qh];exact h3
 ·have BA:(fs.map λi=>(s.F.getD i []).map (Kk χ 8))[i]?=some row:=by
   rw[hF]at hi;exact hi
  rw[xe,ja]at BA;obtain⟨i0,h1,h2⟩:=BA;obtain⟨j,hj⟩:=oan i0 (Eb h1);have Mc:=(hs.f.Ff i0 j hj).1;have i_:=Da Mc;obtain⟨j',Vb,k1,k2,k3⟩:=hs.f.row i0 _ i_;rw[hj]at k1;simp at k1;subst k1;refine⟨j,Vb,by simp[wh,h1,hj],by rw[a2];exact k2,?_⟩;rw[<- h2,Fb,i_];exact k3.Kk FO 8
 ·simp only[wh,aa]at h1 h2;obtain⟨i0,k1,k2⟩:=h1;obtain⟨i1,k3,k4⟩:=h2;have:=hs.f.inj i0 i1 j k2 k4;subst this;exact Ss hfs k1 k3
 ·have he:get (yg keep s).e t=if t∈keep then qV χ ψ (get s.e t)else .v .Dc:=by
   have:(yg keep s).e=keep.map λi=>(i,qV χ ψ (get s.e i)):=List.map_map
   rw[this];exact kD _ keep t
  rw[he];split
  ·rename_i ht;rw[a3 t (hk t ht)];refine RS.Kk FO (λi i' j h1 h2=> ?_) (hs.e t);have:=uV h1;simp[wh,this,h2]
  ·exact trivial
 ·rw[hlen];show s.base<=bs.length;simp[bs]
 ·simp[m',bs]
 ·have:=FZ b hb;exact⟨by simp[m',this],by simp[m',this]⟩
 ·simp only[m',aa]at hb;obtain⟨b0,h1,h2⟩:=hb;exact .inl ⟨b0,s0,h2⟩
end
end Go.U
namespace Go.U
open Go
variable [TB:Uv]{rf:Bool}
section
variable {φ:Nat->Option Nat}{Hv:V.AH}
theorem ko{f:Sh->UV->UH->Option (UV×UH)}(hf:∀sh x H x' H',f sh x H=some (x',H')->∀m,RH m H Hv->Mo m H H' Hv λm'=>∀a,RV m x a->RV m' x' a):
  ∀{Rv:List Sh}{xs:List UV}{H:UH}{l:List UV}{H':UH},Pg.Ui f Rv xs H=some (l,H')->∀m,RH m H Hv->Mo m H H' Hv λm'=>∀ as,RL m xs as->RL m' l as
 |[],[],H,l,H',h,m,hh=>by
  simp[Pg.Ui]at h;obtain⟨rfl,rfl⟩:=h;exact .same hh λas h=>h
 |s::ss,x::xs,H,l,H',h,m,hh=>by
  simp only[Pg.Ui,aa]at h;obtain⟨⟨x',H1⟩,h1,⟨Hq,H2⟩,h2,h⟩:=h;simp at h;obtain⟨rfl,rfl⟩:=h;refine(hf _ _ _ _ _ h1 m hh).trans λm1 XG hle hp=>(ko hf h2 m1 XG).imp λm2 NO hq as ha=> ?_
  cases as with
  |nil=>have:=ha.1;simp at this
  |cons a as=>
   have h0:=(hp a (ha.2 0 x a rfl rfl)).mono NO;have hr:RL m xs as:=⟨by have:=ha.1;simpa using this,λi y b k1 k2=>ha.2 (i+1) y b (by simpa using k1) (by simpa using k2)⟩;exact .cons h0 (hq as (hr.mono hle))
 |[],_::_,H,l,H',h,m,hh=>by simp[Pg.Ui]at h
 |_::_,[],H,l,H',h,m,hh=>by simp[Pg.Ui]at h
theorem iN{m:Mp}{k:KT}{g:Bool}{c:CT}:∀{es:List (Zd k×UV)}{l:List (Zd k×Ib c)}{ie:List (V.AV×V.AV)},b8 g c es=some l->MR k m es ie->MR k m (nl g c l) ie
 |[],l,ie,h,hm=>by simp[b8]at h;subst h;exact hm
 |(i,x)::es,l,ie,h,hm=>by
  simp only[b8,aa]at h;obtain⟨y,hy,l',hl,h⟩:=h;simp at h;subst h;cases ie with
  |nil=>exact hm.elim
  |cons p ie=>
   obtain⟨h1,h2,h3,h4⟩:=hm;obtain⟨d1,d2⟩:=gN hy;exact⟨h1,d2 m _ h2,d1,iN hl h4⟩
theorem OG{m:Mp}{H:UH}(hh:RH m H Hv)(c:CT):Mo m H (push H (.deep c [])) Hv λm'=>∀a,a= .Xa\/a= .Ef->RV m' (.all H.bl.length) a:=by
 have hp:=hh.push (zd:=Hv) (y:= .deep c []) (x:=none) (n:=0) (λ_ _ _ _ _=>rfl) (ya _) rfl (λxv e=>by simp at e) ⟨Xe _ _ _ _,λr=>⟨by rw[Mp.add,Vr];rfl,λ_=>by rw[Mp.add,Nh];rfl⟩,.inl ⟨rfl,lf _ _ _ _⟩⟩;refine⟨rfl,_,hp.1,hp.2,⟨Gj hh _ _,λ_ _ _=>rfl,λb _ xv hb=> ?_,ya _,rfl⟩,λa h=> .Ug _ _ (by simp[Mp.add,Mp.Fk]) (Xe _ _ _ _) h⟩;by_cases e:b=H.bl.length
 ·subst e;obtain⟨_,e⟩:=tn hb;simp at e
 ·rw[Mh _ _ _ e]at hb;exact .inl ⟨b,_,hb⟩
theorem tL{m:Mp}{H:UH}(hh:RH m H Hv)(c:CT):Mo m H (push H (.cells c [])) Hv λm'=>∀a,a= .Xa\/a= .Ef->RV m' (.sl H.bl.length 0 0) a:=
 (Bw hh c).imp λ_ _ _ a h=> .iw _ _ _ h
theorem OC{m:Mp}{H H':UH}{b n:Nat}{c:CT}{x':UV} (h:(match H.bl[b]? with
  |some (.cells c' l)=>if c'=c/\H.wm<=b then some (UV.all H.bl.length,push (Qa H b .dead) (.cells c' (l.take n)))else none
  |_=>none)=some (x',H')) (hh:RH m H Hv):Mo m H H' Hv λm'=>∀a,RV m (.sl b 0 n) a->RV m' x' a:=by
 split at h
 case h_2=>simp at h
 rename_i c' l hb;split at h
 case isFalse=>simp at h
 rename_i hc;simp at h;obtain⟨rfl,rfl⟩:=h;have Oe:live H b:=⟨_,hb,rfl⟩;have hk:=hh.kill b;have hlen:(Qa H b .dead).bl.length=H.bl.length:=by simp[Qa]
 have Vk:∀{b'},live (Qa H b .dead) b'->b'≠b/\live H b':=λh=>by
  rcases Qg h with⟨_,h'⟩|h'
  ·simp[Me]at h'
  ·exact h'
 obtain⟨kb,kx⟩:=jd (s:=⟨[],[],H,0⟩) (sv:=⟨[],[],Hv⟩) hh hb;have hrb:RB (m.add (Qa H b .dead).bl.length (m.ι b 0) (l.take n).length) Hv (Qa H b .dead).bl.length (.cells c' (l.take n)):=by
  refine⟨Xe _ _ _ _,?_⟩;rw[lf];cases hx:m.ι b 0 with
  |none=>
   have:=hh.Kf b _ hb;rcases this.2 with⟨h0,_⟩|⟨x,rows,_,h1,_⟩
   ·exact .inl ⟨by simp[h0],rfl⟩
   ·rw[hx]at h1;simp at h1
  |some x=>
   obtain⟨rows,ty,k2,k3,k4⟩:=kx x hx;refine .inr ⟨x,rows,ty,rfl,k2,by simp;omega,λi _=>⟨kg _ _ _,Te _ _ _⟩,λi row hi hr=> ?_,λi row k y a hi hr h1 h2=> ?_⟩
   ·exact k4.2.1 i row (by simp at hi;omega) hr
   ·have e:vw c' (l.take n) i=vw c' l i:=by
     simp only[vw,Fb,Jb];rw[if_pos (by simp at hi;omega)]
    rw[e]at h1;exact(k4.2.2 i row k y a (by simp at hi;omega) hr h1 h2).free _ 8 (Te _ _ _ y (Eb h1))
 have hp:=hk.push (zd:=Hv) (λ_ _ _ _ _=>rfl) (ya _) rfl (λxv e=>⟨(hh.Ff b xv e).2,hh.wm b xv e hc.2,λb' s' Fg e'=>(Vk Fg).1 (hh.inj b' b xv (Vk Fg).2 Oe e' e)⟩) hrb;rw[hlen]at hp;refine⟨rfl,_,hp.1,hp.2,⟨by have:=Gj hk;simpa only[hlen]using this _ _,λ_ _ _=>rfl,λb' _ xv Wd=> ?_,ya _,rfl⟩,λa ha=> ?_⟩
 ·by_cases e:b'=H.bl.length
  ·subst e;obtain⟨_,e⟩:=tn Wd;exact .inl ⟨b,_,e⟩
  ·rw[Mh _ _ _ e]at Wd;exact .inl ⟨b',_,Wd⟩
 ·cases ha with
  |sl _ _ _ x hx hle=>
   have:=RV.all (m:=m.add H.bl.length (m.ι b 0) (l.take n).length) H.bl.length x (by rw[lf];exact hx);have dY:m.len b 0=l.length:=kb;rw[Xe,je,Nat.min_eq_left (by omega)]at this;rw[je,Nat.min_eq_left (by omega)];exact this
  |iw _ _ _ ha=>exact .Ug _ _ (by simp[Mp.add,Mp.Fk]) (by rw[Xe];simp) ha
theorem zV{m:Mp}{H H':UH}{b:Nat}{c:CT}{x':UV} (h:(match H.bl[b]? with
  |some (.cells c' l)=>if c'=c/\H.wm<=b then some (UV.all H.bl.length,push (Qa H b .dead) (.cells c' l))else none
  |_=>none)=some (x',H')) (hh:RH m H Hv):Mo m H H' Hv λm'=>∀a,RV m (.all b) a->RV m' x' a:=by
 cases hb:H.bl[b]? with
 |none=>rw[hb]at h;simp at h
 |some y=>
  rw[hb]at h;cases y with
  |cells c' l=>
   obtain⟨k0,_⟩:=jd (s:=⟨[],[],H,0⟩) (sv:=⟨[],[],Hv⟩) hh hb;refine(OC (n:=l.length) (c:=c) (b:=b) (x':=x') (H':=H') (by rw[hb];simpa[List.take_length]using h) hh).imp λm' _ hp a ha=>hp a ?_
   cases ha with
   |all _ x hx=>rw[k0];exact .sl _ 0 _ x hx (by omega)
   |Ug _ _ _ hl ha=>
    have:l.length=0:=by omega
    rw[this];exact .iw _ 0 _ ha
  |_=>simp at h
theorem mo:∀(d:Nat)(sh:Sh)(x:UV)(H:UH)(x':UV)(H':UH),Pg d false sh x H=some (x',H')->∀m,RH m H Hv->Mo m H H' Hv λm'=>∀a,RV m x a->RV m' x' a
 |0,sh,x,H,x',H',h,m,hh=>by simp[Pg]at h
 |d+1,sh,x,H,x',H',h,m,hh=>by
  unfold Pg at h;split at h
  ·rename_i e;exact absurd e (by omega)
  ·simp at h;obtain⟨rfl,rfl⟩:=h;exact .same hh λa h=>h
  ·simp at h;obtain⟨rfl,rfl⟩:=h;exact .same hh λa h=> .Dc a
  ·simp at h;obtain⟨rfl,rfl⟩:=h;exact .same hh λa h=>by cases h;exact .bh _ _ (.inl rfl)
  ·simp at h;obtain⟨rfl,rfl⟩:=h;exact .same hh λa h=>by cases h;exact .bh _ _ (.inr rfl)
  ·simp at h
  ·simp at h
  ·simp at h;obtain⟨rfl,rfl⟩:=h;exact .same hh λa h=>h
  ·simp at h;obtain⟨rfl,rfl⟩:=h;exact(Bw hh _).imp λm1 _ hp a h=>by cases h;exact hp _ (.inl rfl)
  ·simp at h;obtain⟨rfl,rfl⟩:=h;exact(Bw hh _).imp λm1 _ hp a h=>by cases h;exact hp _ (.inr rfl)
  ·exact OC h hh
  ·simp at h;obtain⟨rfl,rfl⟩:=h;exact(tL hh _).imp λm1 _ hp a h=>by cases h;exact hp _ (.inl rfl)
  ·simp at h;obtain⟨rfl,rfl⟩:=h;exact(tL hh _).imp λm1 _ hp a h=>by cases h;exact hp _ (.inr rfl)
  ·simp at h;obtain⟨rfl,rfl⟩:=h;exact .same hh λa h=>h
  ·split at h
   case h_2=>simp at h
   rename_i c l hb;simp at h;obtain⟨rfl,rfl⟩:=h;obtain⟨k0,_⟩:=jd (s:=⟨[],[],_,0⟩) (sv:=⟨[],[],Hv⟩) hh hb;refine .same hh λa h=> ?_
   cases h with
   |all _ x hx=>rw[k0];exact .sl _ 0 _ x hx (by omega)
   |Ug _ _ _ hl ha=>
    have:l.length=0:=by omega
    rw[this];exact .iw _ 0 _ ha
  ·simp at h;obtain⟨rfl,rfl⟩:=h;exact .same hh λa h=>h
  ·simp at h;obtain⟨rfl,rfl⟩:=h;exact(OG hh _).imp λm1 _ hp a h=>by cases h;exact hp _ (.inl rfl)
  ·simp at h;obtain⟨rfl,rfl⟩:=h;exact(OG hh _).imp λm1 _ hp a h=>by cases h;exact hp _ (.inr rfl)
  ·simp at h;obtain⟨rfl,rfl⟩:=h;exact .same hh λa h=>h
  ·exact zV h hh
  ·split at h
   ·rename_i k' es hb;split at h
    case isFalse=>simp at h
    rename_i hk;subst hk;simp only[aa]at h;obtain⟨l,hl,h⟩:=h;simp at h;obtain⟨rfl,rfl⟩:=h;refine⟨rfl,m,hh.Wae ⟨_,hb,rfl⟩ ?_,.refl m,.refl Hv (ya _),λa h=>h⟩;obtain⟨x,ie,k1,k2,k3⟩:=hh.Kf _ _ hb;exact⟨x,ie,k1,k2,iN hl k3⟩
   ·simp at h;obtain⟨rfl,rfl⟩:=h;exact .same hh λa h=>h
   ·simp at h
  ·simp only[ja]at h;obtain⟨⟨l,H1⟩,h1,h⟩:=h;simp at h;obtain⟨rfl,rfl⟩:=h;refine(ko (λsh x H x' H' h m hh=>mo _ sh x H x' H' h m hh) h1 m hh).imp λm1 hle hp a ha=> ?_
   cases ha with
   |agg _ as hl hr=>have:=hp as ⟨hl,hr⟩;exact .agg _ _ this.1 this.2
  ·simp only[ja]at h;obtain⟨⟨l,H1⟩,h1,h⟩:=h;simp at h;obtain⟨rfl,rfl⟩:=h;refine(ko (λsh x H x' H' h m hh=>mo _ sh x H x' H' h m hh) h1 m hh).imp λm1 hle hp a ha=> ?_
   cases ha with
   |Re _ as hl hr=>have:=hp as ⟨hl,hr⟩;exact .Re _ _ this.1 this.2
  ·simp at h
theorem BV{d:Nat}{fz:Bool}{sh:Sh}{H H':UH}{x':UV}(h:Pg d fz sh .Dc H=some (x',H')):x'= .Dc/\H'=H:=by
 cases d with
 |zero=>simp[Pg]at h
 |succ d=>cases sh<;>simp[Pg]at h<;>exact⟨h.1.symm,h.2.symm⟩
theorem Sy{Rv:List (Nat×Sh)}:∀{e:List (Nat×US)}{H:UH}{e':List (Nat×US)}{H':UH},Zq Rv e H=some (e',H')->∀m,RH m H Hv->Mo m H H' Hv λm'=>∀t vv,RS m φ (get e t) vv->RS m' φ (get e' t) vv
 |[],H,e',H',h,m,hh=>by
  simp[Zq]at h;obtain⟨rfl,rfl⟩:=h;exact .same hh λt vv h=>h
 |(i,.v x)::e,H,e',H',h,m,hh=>by
  simp only[Zq,aa]at h;obtain⟨⟨x',H1⟩,h1,⟨e1,H2⟩,h2,h⟩:=h;simp at h;obtain⟨rfl,rfl⟩:=h;have key:Mo m H H1 Hv λm'=>∀vv,RS m φ (.v x) vv->RS m' φ (.v x') vv:=by
   split at h1
   ·rename_i sh _;by_cases hx:x= .Dc
    ·subst hx;obtain⟨rfl,rfl⟩:=BV h1;exact .same hh λvv h=>h
    ·refine(mo _ _ _ _ _ _ h1 m hh).imp λm1 _ hp vv hv=> ?_
     obtain⟨a,rfl,hr⟩:=hv.val hx;exact(hp a hr).rs
   ·simp at h1;obtain⟨rfl,rfl⟩:=h1;exact .same hh λvv h=>h
  refine key.trans λm1 XG hle hp=>(Sy h2 m1 XG).imp λm2 NO hq t vv ht=> ?_
  simp only[get]at ht ⊢;split at ht
  ·rename_i e;rw[if_pos e];exact(hp vv ht).mono NO (.refl φ)
  ·rename_i e;rw[if_neg e];exact hq t vv (ht.mono hle (.refl φ))
 |(i,.loc j c)::e,H,e',H',h,m,hh=>by
  simp only[Zq,aa]at h;obtain⟨⟨e1,H2⟩,h2,h⟩:=h;simp at h;obtain⟨rfl,rfl⟩:=h;refine(Sy h2 m hh).imp λm2 NO hq t vv ht=> ?_
  simp only[get]at ht ⊢;split at ht
  ·rename_i e;rw[if_pos e];exact ht.mono NO (.refl φ)
  ·rename_i e;rw[if_neg e];exact hq t vv ht
theorem PG{Rv:List (Nat×List Sh)}:∀{i:Nat}{F:List (List UV)}{H:UH}{F':List (List UV)}{H':UH},rA Rv i F H=some (F',H')->∀m,RH m H Hv->Mo m H H' Hv λm'=>F'.length=F.length/\∀(k:Nat)(Vb:List UV),F'[k]?=some Vb->∃row:List UV,F[k]?=some row/\∀ as,RL m row as->RL m' Vb as
 |i,[],H,F',H',h,m,hh=>by
  simp[rA]at h;obtain⟨rfl,rfl⟩:=h;exact .same hh ⟨rfl,λk Vb h=>by simp at h⟩
 |i,row::F,H,F',H',h,m,hh=>by
  simp only[rA,aa]at h;obtain⟨⟨vp,H1⟩,h1,⟨F1,H2⟩,h2,h⟩:=h;simp at h;obtain⟨rfl,rfl⟩:=h;have key:Mo m H H1 Hv λm'=>∀ as,RL m row as->RL m' vp as:=by
   unfold cZ at h1;split at h1
   ·exact ko (λsh x H x' H' h m hh=>mo _ sh x H x' H' h m hh) h1 m hh
   ·simp at h1;obtain⟨rfl,rfl⟩:=h1;exact .same hh λas h=>h
  refine key.trans λm1 XG hle hp=>(PG h2 m1 XG).imp λm2 NO hq=>⟨by simp[hq.1],λk Vb hk=> ?_⟩
  cases k with
  |zero=>simp at hk;subst hk;exact⟨row,rfl,λas ha=>(hp as ha).mono NO⟩
  |succ k=>
   obtain⟨r,k1,k2⟩:=hq.2 k Vb (by simpa using hk);exact⟨r,by simpa using k1,λas ha=>k2 as (ha.mono hle)⟩
theorem QG:∀{l:List (Nat×List Sh)}{H H':UH},sA l H=some H'->∀m,RH m H Hv->Mo m H H' Hv λ_=>True
 |[],H,H',h,m,hh=>by
  simp[sA]at h;subst h;exact .same hh trivial
 |(b,Rv)::l,H,H',h,m,hh=>by
  simp only[sA]at h;split at h
  case h_2=>simp at h
  rename_i row hb;simp only[aa]at h;obtain⟨⟨vp,H1⟩,h1,h⟩:=h;simp only at h;split at h
  case h_2=>simp at h
  rename_i IY Dy;obtain⟨x,Fal,ty,k1,k2,k3⟩:=hh.Kf b _ hb;refine(ko (λsh x H x' H' h m hh=>mo _ sh x H x' H' h m hh) h1 m hh).trans λm1 XG hle hp=> ?_
  have ht:RH m1 (Qa H1 b (.Ee vp)) Hv:=XG.Wae ⟨_,Dy,rfl⟩ ⟨x,Fal,ty,(hle.of b x k1).1,k2,hp Fal k3⟩;obtain⟨w,m2,e1,e2,e3,e4⟩:=QG h m1 ht;exact⟨w,m2,e1,e2,e3,e4⟩
def Kp(n:Nat)(p:TH):Prop:=∀t∈p.keep,t<n
theorem vk{n:Nat}{p:TH}{s s':St}(h:wq p s=some s')(hk:Kp n p):
   s'.base=s.base/\s'.H.wm=s.H.wm/\∀(m:Mp)(φ:Nat->Option Nat)(sv bf:V.S),xn m φ s sv->Alike n sv bf->∃m' wh,xn m' wh s' bf/\gm s.base m sv.H m' bf.H:=by
  unfold wq at h;split at h
  case isFalse=>simp at h
  rename_i hw;simp only[aa]at h;obtain⟨⟨e,H1⟩,h1,⟨F,H2⟩,h2,H3,h3,h⟩:=h;split at h
  case isFalse=>simp at h
  rename_i hw3;simp at h;subst h;have Th:H3.wm=s.H.wm:=by
   have hE:∀{Rv:List (Nat×Sh)}{e:List (Nat×US)}{H:UH}{e':List (Nat×US)}{H':UH},Zq Rv e H=some (e',H')->H'.wm=H.wm:=by
    intro Rv e;have hm:∀(d:Nat)(sh:Sh)(x:UV)(H:UH)(x':UV)(H':UH),Pg d false sh x H=some (x',H')->H'.wm=H.wm:=Ws;induction e with
    |nil=>intro H e' H' h;simp[Zq]at h;rw[h.2]
    |cons p e ih=>
     intro H e' H' h;obtain⟨i,x⟩:=p;cases x with
     |v x=>
      simp only[Zq,aa]at h;obtain⟨⟨x',H1⟩,h1,⟨e1,H2⟩,h2,h⟩:=h;simp at h;obtain⟨_,rfl⟩:=h;rw[ih h2];split at h1
      ·exact hm _ _ _ _ _ _ h1
      ·simp at h1;rw[h1.2]
     |loc j c=>
      simp only[Zq,aa]at h;obtain⟨⟨e1,H2⟩,h2,h⟩:=h;simp at h;obtain⟨_,rfl⟩:=h;exact ih h2
   have hF:∀{Rv:List (Nat×List Sh)}{F:List (List UV)}{i:Nat}{H:UH}{F':List (List UV)}{H':UH},rA Rv i F H=some (F',H')->H'.wm=H.wm:=by
    intro Rv F;induction F with
    |nil=>intro i H e' H' h;simp[rA]at h;rw[h.2]
    |cons row F ih=>
     intro i H F' H' h;simp only[rA,aa]at h;obtain⟨⟨x',H1⟩,h1,⟨e1,H2⟩,h2,h⟩:=h;simp at h;obtain⟨_,rfl⟩:=h;rw[ih h2];unfold cZ at h1;split at h1
     ·exact Yq (λsh x H x' H' h=>Ws _ sh x H x' H' h) h1
     ·simp at h1;rw[h1.2]
   have hB:∀{l:List (Nat×List Sh)}{H H':UH},sA l H=some H'->H'.wm=H.wm:=by
    intro l;induction l with
    |nil=>intro H H' h;simp[sA]at h;rw[h]
    |cons p l ih=>
     intro H H' h;obtain⟨b,Rv⟩:=p;simp only[sA]at h;split at h
     case h_2=>simp at h
     simp only[aa]at h;obtain⟨⟨vp,H1⟩,h1,h⟩:=h;simp only at h;split at h
     case h_2=>simp at h
     rw[ih h];show H1.wm=_;exact Yq (f:=Pg 8 false) (λsh x H x' H' h=>Ws _ sh x H x' H' h) h1
   rw[hB h3,hF h2,hE h1];rfl
  refine⟨rfl,Th,λm φ sv bf hs ha=> ?_⟩;obtain⟨m0,φ0,k1,k2⟩:=jn (keep:=p.keep) hk hs hw ha;obtain⟨_,m1,r1,r2,r3,r4⟩:=Sy (Hv:=bf.H) (φ:=φ0) h1 m0 k1.h;obtain⟨_,m2',OY,q2',q3',q4,q5'⟩:=PG (Hv:=bf.H) h2 m1 r1;obtain⟨_,m2,b1,b2,b3,_⟩:=QG (Hv:=bf.H) h3 m2' OY;have q1:=b1;have q2:=q2'.trans b2;have q3:=q3'.trans b3 q3'.Mk.1;rw[<- ha.1]at k2;have GV:gm s.base m bf.H m0 bf.H:=k2;have EB:s.base<=m0.top:=by rw[k1.h.len];exact k1.b
  suffices Xam:xn m2 φ0 { e,F,H:=H3,base:=s.base } bf/\gm s.base m sv.H m2 bf.H by
   obtain⟨m3,C9,c1,c2⟩:=jn (keep:=p.keep) hk Xam.1 hw3 (.refl n bf);exact⟨m3,C9,c1,Xam.2.trans c2 (ya _)⟩
  refine⟨⟨q1,⟨λi j KK=> ?_,λi row hi=> ?_,k1.f.inj⟩,λt=>(r4 t _ (k1.e t)).mono q2 (.refl φ0),?_⟩,?_⟩
  ·have:=k1.f.Ff i j KK;rw[q4];exact this
  ·obtain⟨lV,j1,j2⟩:=q5' i row hi;obtain⟨j,Vb,j3,j4,j5⟩:=k1.f.row i lV j1;exact⟨j,Vb,j3,j4,(j2 Vb (j5.mono r2)).mono b2⟩
  ·have e1:=r3.Mk.1;have e2:=q3.Mk.1;have e3:=q1.len;show s.base<=H3.bl.length;omega
  ·have:=(GV.trans r3 EB).trans q3 (by have:=r3.Mk.1;omega);rw[ha.1]at this ⊢;exact this
 where
  Yq {f:Sh->UV->UH->Option (UV×UH)} (hf:∀sh x H x' H',f sh x H=some (x',H')->H'.wm=H.wm):∀{Rv:List Sh}{xs:List UV}{H:UH}{l:List UV}{H':UH},Pg.Ui f Rv xs H=some (l,H')->H'.wm=H.wm
   |[],[],H,l,H',h=>by simp[Pg.Ui]at h;rw[h.2]
   |s::ss,x::xs,H,l,H',h=>by
    simp only[Pg.Ui,aa]at h;obtain⟨⟨x',H1⟩,h1,⟨Hq,H2⟩,h2,h⟩:=h;simp at h;obtain⟨_,rfl⟩:=h;rw[Yq hf h2,hf _ _ _ _ _ h1]
   |[],_::_,H,l,H',h=>by simp[Pg.Ui]at h
   |_::_,[],H,l,H',h=>by simp[Pg.Ui]at h
  Ws:∀(d:Nat)(sh:Sh)(x:UV)(H:UH)(x':UV)(H':UH),Pg d false sh x H=some (x',H')->H'.wm=H.wm
   |0,sh,x,H,x',H',h=>by simp[Pg]at h
   |d+1,sh,x,H,x',H',h=>by
    unfold Pg at h;split at h
    ·rename_i e;exact absurd e (by omega)
    ·simp at h;rw[h.2]
    ·simp at h;rw[h.2]
    ·simp at h;rw[h.2]
    ·simp at h;rw[h.2]
    ·simp at h
    ·simp at h
    ·simp at h;rw[h.2]
    ·simp at h;rw[<- h.2];rfl
    ·simp at h;rw[<- h.2];rfl
    ·split at h
     case h_2=>simp at h
     split at h
     case isFalse=>simp at h
     simp at h;rw[<- h.2];rfl
    ·simp at h;rw[<- h.2];rfl
    ·simp at h;rw[<- h.2];rfl
    ·simp at h;rw[h.2]
    ·split at h
     case h_2=>simp at h
     simp at h;rw[h.2]
    ·simp at h;rw[h.2]
    ·simp at h;rw[<- h.2];rfl
    ·simp at h;rw[<- h.2];rfl
    ·simp at h;rw[h.2]
    ·split at h
     case h_2=>simp at h
     split at h
     case isFalse=>simp at h
     simp at h;rw[<- h.2];rfl
    ·split at h
     ·split at h
      ·simp only[aa]at h;obtain⟨l,hl,h⟩:=h;simp at h;rw[<- h.2];rfl
      ·simp at h
     ·simp at h;rw[h.2]
     ·simp at h
    ·simp only[ja]at h;obtain⟨⟨l,H1⟩,h1,h⟩:=h;simp at h;rw[<- h.2];exact Yq (λsh x H x' H' h=>Ws _ sh x H x' H' h) h1
    ·simp only[ja]at h;obtain⟨⟨l,H1⟩,h1,h⟩:=h;simp at h;rw[<- h.2];exact Yq (λsh x H x' H' h=>Ws _ sh x H x' H' h) h1
    ·simp at h
end
def uA{T E:Type}(step:T->Option (T ⊕ E)):Nat->T->Option E
 |0,_=>none
 |n+1,t=>(step t).bind λ
  | .inl t'=>uA step n t'
  | .inr e=>some e
def Ua{T E:Type}(step:T->Option (T ⊕ E))(t:T):Option E:=uA step V.qo t
section
variable {A:V.Oi}{C:V.Callee}{Na:Nat->Option (List UV)}{Ca:List Nat}{n:Nat}
end
end Go.U
namespace Go.U
open Go
variable [TB:Uv]
section
variable {A:V.Oi}{Na:Nat->Option (List UV)}{m:Mp}
theorem Uq{s:St}:∀{rs:List ResultVar}{l:List UV},results A s rs=some l->∀(m:Mp)(φ:Nat->Option Nat)(sv:V.S),xn m φ s sv->∃l',V.results A sv rs=some l'/\RL m l l'
 |[],l,h,m,φ,sv,hs=>by simp[results]at h;subst h;exact⟨[],rfl,.nil⟩
 | .tmp t::rs,l,h,m,φ,sv,hs=>by
  simp only[results,aa]at h;obtain⟨a,ha,l1,hl,h⟩:=h;simp at h;subst h;obtain⟨l',k1,k2⟩:=Uq hl m φ sv hs;split at ha
  ·simp at ha
  ·rename_i x td hx;simp at ha;subst ha;have:=hs.e t;rw[hx]at this;obtain⟨a',e1,e2⟩:=this.val td;exact⟨a'::l',by simp[V.results,e1,k1],.cons e2 k2⟩
  ·simp at ha
 | .cell p t::rs,l,h,m,φ,sv,hs=>by
  simp only[results,aa]at h;obtain⟨a,ha,l1,hl,h⟩:=h;simp at h;subst h;obtain⟨l',k1,k2⟩:=Uq hl m φ sv hs;obtain⟨a',e1,e2⟩:=Ew ha hs.h hs.f (hs.e p);exact⟨a'::l',by simp[V.results,e1,k1],.cons e2 k2⟩
theorem CC{l:List UV}{l':List V.AV}(h:RL m l l'):RV m (result l) (V.result l'):=by
 unfold result V.result;split
 ·obtain⟨a,rfl,ha⟩:=h.one;exact ha
 ·rename_i td;split
  ·rename_i a;have:=h.1
   match l,td,this with
   |[x],td,_=>exact(td x rfl).elim
  ·exact .Re _ _ h.1 h.2
theorem NC{d:Nat}{f:Sh->UV->UH->Option (UV×UH)}(hf:∀sh x H x' H',f sh x H=some (x',H')->yc d x'=true->Fz d x H x' H'):
  ∀{Rv:List Sh}{xs:List UV}{H:UH}{l:List UV}{H':UH},Pg.Ui f Rv xs H=some (l,H')->(∀x∈l,yc d x=true)->H'.wm=H.wm/\∀(m:Mp)(Hv:V.AH)(as:List V.AV),RH m H Hv->RL m xs as->
   ∃Vn zd,V.Eh (V.freeze d) Hv as=some (Vn,zd)/\∃m',RH m' H' zd/\RL m' l Vn/\m.Le m'/\gm m.top m Hv m' zd
 |[],[],H,l,H',h,hc=>by
  simp[Pg.Ui]at h;obtain⟨rfl,rfl⟩:=h;refine⟨rfl,λm Hv as hh ha=> ?_⟩;have:as=[]:=by have:=ha.1;simpa using this
  subst this;exact⟨[],Hv,rfl,m,hh,.nil,.refl m,.refl Hv (ya _)⟩
 |s::ss,x::xs,H,l,H',h,hc=>by
  simp only[Pg.Ui,aa]at h;obtain⟨⟨x',H1⟩,h1,⟨Hq,H2⟩,h2,h⟩:=h;simp at h;obtain⟨rfl,rfl⟩:=h;obtain⟨w1,k1⟩:=hf _ _ _ _ _ h1 (hc _ (Dd ..));obtain⟨w2,k2⟩:=NC hf h2 λy hy=>hc y (Rb _ hy)
  refine⟨w2.trans w1,λm Hv as hh ha=> ?_⟩;cases as with
  |nil=>have:=ha.1;simp at this
  |cons a as=>
   have hr:RL m xs as:=⟨by have:=ha.1;simpa using this,λi y b k1 k2=>ha.2 (i+1) y b (by simpa using k1) (by simpa using k2)⟩;obtain⟨a',nY,e1,m1,e2,e3,e4,e5⟩:=k1 m Hv a hh (ha.2 0 x a rfl rfl);obtain⟨Vn,Hv2,e6,m2,e7,e8,e9,Cu⟩:=k2 m1 nY as e2 (hr.mono e4);exact⟨a'::Vn,Hv2,by simp only[V.Eh,e1,da,e6],m2,e7,.cons (e3.mono e9) e8,e4.trans e9,e5.trans Cu e5.Mk.1⟩
 |[],_::_,H,l,H',h,hc=>by simp[Pg.Ui]at h
 |_::_,[],H,l,H',h,hc=>by simp[Pg.Ui]at h
theorem wI:∀(d:Nat)(sh:Sh)(x:UV)(H:UH)(x':UV)(H':UH),Pg d true sh x H=some (x',H')->yc d x'=true->Fz d x H x' H'
 |0,sh,x,H,x',H',h,hc=>by simp[Pg]at h
 |d+1,sh,x,H,x',H',h,hc=>by
  have h0:=h;unfold Pg at h;split at h
  ·rename_i e;exact absurd e (by omega)
  ·simp at h;obtain⟨rfl,rfl⟩:=h;exact .same hc
  ·simp at h;obtain⟨rfl,rfl⟩:=h;simp[yc,closed]at hc
  ·simp at h;obtain⟨rfl,rfl⟩:=h;exact⟨rfl,λm Hv a hh hx=>by cases hx;exact⟨.Xa,Hv,rfl,.same hh (.bh _ _ (.inl rfl))⟩⟩
  ·simp at h;obtain⟨rfl,rfl⟩:=h;exact⟨rfl,λm Hv a hh hx=>by cases hx;exact⟨.Ef,Hv,rfl,.same hh (.bh _ _ (.inr rfl))⟩⟩
  ·have he:=sG ‹d+1=Nat.succ _›;subst he;split at h
   case isFalse=>simp at h
   rename_i DB;simp at DB;simp only[aa]at h;obtain⟨l,hl,h⟩:=h;simp at h;obtain⟨rfl,rfl⟩:=h;exact tO DB.1 DB.2 hl (.inl ⟨_,_,rfl⟩)
  ·have he:=sG ‹d+1=Nat.succ _›;subst he;split at h
   case isFalse=>simp at h
   rename_i DB;simp at DB;simp only[aa]at h;obtain⟨l,hl,h⟩:=h;simp at h;obtain⟨rfl,rfl⟩:=h;unfold Mac at hl;split at hl
   ·rename_i c' l' hb;split at hl
    ·rename_i hc;subst hc;injection hl with hl;subst hl
     exact tO DB.1 DB.2 (by simp[rowsOf,hb]) (.inr rfl)
    ·simp at hl
   ·rename_i c' l' hb;split at hl
    ·rename_i hc;obtain⟨rfl,FN⟩:=hc;injection hl with hl;subst hl
     exact nM FN DB.2 hb
    ·simp at hl
   ·simp at hl
  ·simp at h;obtain⟨rfl,rfl⟩:=h;exact .same hc
  ·simp at h;obtain⟨rfl,rfl⟩:=h;simp[yc,closed]at hc
  ·simp at h;obtain⟨rfl,rfl⟩:=h;simp[yc,closed]at hc
  ·split at h
   case h_2=>simp at h
   split at h
   case isFalse=>simp at h
   simp at h;obtain⟨rfl,rfl⟩:=h;simp[yc,closed]at hc
  ·simp at h;obtain⟨rfl,rfl⟩:=h;simp[yc,closed]at hc
  ·simp at h;obtain⟨rfl,rfl⟩:=h;simp[yc,closed]at hc
  ·simp at h;obtain⟨rfl,rfl⟩:=h;simp[yc,closed]at hc
  ·split at h
   case h_2=>simp at h
   simp at h;obtain⟨rfl,rfl⟩:=h;simp[yc,closed]at hc
  ·simp at h;obtain⟨rfl,rfl⟩:=h;simp[yc,closed]at hc
  ·simp at h;obtain⟨rfl,rfl⟩:=h;simp[yc,closed]at hc
  ·simp at h;obtain⟨rfl,rfl⟩:=h;simp[yc,closed]at hc
  ·simp at h;obtain⟨rfl,rfl⟩:=h;simp[yc,closed]at hc
  ·split at h
   case h_2=>simp at h
   split at h
   case isFalse=>simp at h
   simp at h;obtain⟨rfl,rfl⟩:=h;simp[yc,closed]at hc
  ·split at h
   ·split at h
    ·simp only[aa]at h;obtain⟨l,hl,h⟩:=h;simp at h;obtain⟨rfl,rfl⟩:=h;simp[yc,closed]at hc
    ·simp at h
   ·simp at h;obtain⟨rfl,rfl⟩:=h;simp[yc,closed]at hc
   ·simp at h
  ·have he:=sG ‹d+1=Nat.succ _›;subst he;simp only[ja]at h;obtain⟨⟨l,H1⟩,h1,h⟩:=h;simp at h;obtain⟨rfl,rfl⟩:=h;obtain⟨w,k⟩:=NC (λsh x H x' H' h hc=>wI _ sh x H x' H' h hc) h1 (ec.1 (by simpa[yc]using hc));refine⟨w,λm Hv a hh ha=> ?_⟩;cases ha with
   |agg _ as hl hr=>
    obtain⟨Vn,zd,e1,m',e2,e3,e4,e5⟩:=k m Hv as hh ⟨hl,hr⟩;exact⟨.agg Vn,zd,by simp only[V.freeze,e1,da],m',e2,.agg _ _ e3.1 e3.2,e4,e5⟩
  ·have he:=sG ‹d+1=Nat.succ _›;subst he;simp only[ja]at h;obtain⟨⟨l,H1⟩,h1,h⟩:=h;simp at h;obtain⟨rfl,rfl⟩:=h;obtain⟨w,k⟩:=NC (λsh x H x' H' h hc=>wI _ sh x H x' H' h hc) h1 (ec.1 (by simpa[yc]using hc));refine⟨w,λm Hv a hh ha=> ?_⟩;cases ha with
   |Re _ as hl hr=>
    obtain⟨Vn,zd,e1,m',e2,e3,e4,e5⟩:=k m Hv as hh ⟨hl,hr⟩;exact⟨.Re Vn,zd,by simp only[V.freeze,e1,da],m',e2,.Re _ _ e3.1 e3.2,e4,e5⟩
  ·simp at h
def Df(C:V.Callee)(f:FuncId)(spec:Spec):Prop:=
 ∀(X:Type)(args:List UV)(H:UH)(K:UV->UH->Option X)(out:X),spec X args H K=some out->
  ∃r H',K r H'=some out/\H'.wm=H.wm/\∀(m:Mp)(Hv:V.AH)(as cs:List V.AV),RH m H Hv->RL m args (as++cs)->∃r' zd,C (.fn f cs) as Hv=some (r',zd)/\Yr m Hv r H' r' zd
theorem Df.imp{C:V.Callee}{f:FuncId}{g g':Spec}(h:Df C f g)(hi:∀X args H K out,g' X args H K=some out->g X args H K=some out):Df C f g':=
 λX args H K out ho=>h X args H K out (hi X args H K out ho)
theorem oF{φ:Nat->Option Nat}:∀{args:List UV}{as:List V.AV}{i:Nat},RL m args as->RE m φ (Uh args i) (V.Uh as i)
 |[],as,i,h=>by
  have:as=[]:=by have:=h.1;simpa using this
  subst this;exact λt=>trivial
 |x::xs,as,i,h=>by
  cases as with
  |nil=>have:=h.1;simp at this
  |cons a as=>
   have hr:RL m xs as:=⟨by have:=h.1;simpa using this,λi y b k1 k2=>h.2 (i+1) y b (by simpa using k1) (by simpa using k2)⟩;exact(oF (i:=i+1) hr).cons i (h.2 0 x a rfl rfl).rs
theorem FL{m:Mp}{Hv:V.AH}:∀{l:List Nat}{H:UH},RH m H Hv->RH m (Hw l H) Hv
 |[],_,h=>h
 |b::l,_,h=>FL (l:=l) (h.kill b)
theorem EL:∀{l:List Nat}{H:UH},(Hw l H).wm=H.wm
 |[],_=>rfl
 |b::l,H=>(EL (l:=l) (H:=Qa H b .dead)).trans rfl
theorem Yr.kill{m:Mp}{Hv zd:V.AH}{v:UV}{H':UH}{a:V.AV}(l:List Nat)(h:Yr m Hv v H' a zd):Yr m Hv v (Hw l H') a zd:=by
 obtain⟨m1,e1,e2,e3,e4⟩:=h;exact⟨m1,FL e1,e2,e3,e4⟩
theorem Q0(hg:tf A Na){env:Env}{k:Nat}(hc:xd (V.call A k) env.call){f:FuncId}{fn:Func}{c:Code}{Ca:List Nat}{sh:Sh}{fz:Bool}
  (iag:A.ext f=none) (BB:A.fns f=some fn) (FA:fn.body=some c) (Saf:A.loc f=Ca) (oS:A.keep f=mb fn.ntmps) (Tn:A.G_ f=fz)
  (hl:∀c'∈loops env.join c,od env.loop (V.code A (V.call A k) true Ca (mb fn.ntmps) fn.ntmps) c'):
  Df (V.call A (k+1)) f (λX args H K=>oM A Na env Ca fn sh fz args H K):=by
 intro X args H K out h;simp only[oM,FA]at h;split at h
 case isFalse=>simp at h
 rename_i hlen;obtain⟨ex,s1,h1,h2⟩:=Tg hg hc hl h;have hex:(∀ id,ex≠ .exit id)/\(results A s1 fn.results.toList).bind (λl=>(Pg 8 fz sh.inner (result l) s1.H).bind λ(r,H1)=>if(!fz||yc 8 r)&&decide (H1.wm<=H.bl.length)then K (gc H.bl.length r (Hw sh.SC H1)).1 (gc H.bl.length r (Hw sh.SC H1)).2 else none)=some out:=by
  cases ex with
  |exit id=>simp at h1
  |normal=>exact⟨λ_=>by simp,h1⟩
  |ret=>exact⟨λ_=>by simp,h1⟩
 obtain⟨td,h3⟩:=hex;simp only[aa]at h3;obtain⟨l,aD,⟨r,H0⟩,hmo,h3⟩:=h3;split at h3
 case isFalse=>simp at h3
 rename_i oag;simp only[Ab,decide_eq_true_eq]at oag;have eW:=oag.1;have Iar:=oag.2;generalize hH':Hw sh.SC H0=H' at h3;have hwk:H'.wm=H0.wm:=by rw[<- hH'];exact EL
 have hgw:H'.wm<=H.bl.length:=by rw[hwk];exact Iar
 have start:∀(m:Mp)(Hv:V.AH)(as cs:List V.AV),RH m H Hv->RL m args (as++cs)->∃jm m1 NF l',V.code A (V.call A k) true Ca (mb fn.ntmps) fn.ntmps c ⟨V.Uh (as++cs) 0,[],Hv⟩=some (ex,jm)/\xn m1 NF s1 jm/\gm H.bl.length m Hv m1 jm.H/\V.results A jm fn.results.toList=some l'/\RL m1 l l':=λm Hv as cs hh ha=>by
  obtain⟨jm,m1,NF,e1,e2,e3⟩:=h2.2.2 m (λ_=>none) ⟨V.Uh (as++cs) 0,[],Hv⟩ ⟨hh,⟨λi j h=>by simp at h,λi row h=>by simp at h,λi i' j h=>by simp at h⟩,oF ha,ya _⟩;obtain⟨l',e4,e5⟩:=Uq aD m1 NF jm e2;exact⟨jm,m1,NF,l',e1,e2,e3,e4,e5⟩
 have Hg:∀(Hv:V.AH)(as cs:List V.AV)(jm:V.S)(l':List V.AV),(as++cs).length<=fn.ntmps->V.code A (V.call A k) true Ca (mb fn.ntmps) fn.ntmps c ⟨V.Uh (as++cs) 0,[],Hv⟩=some (ex,jm)->V.results A jm fn.results.toList=some l'->
   V.call A (k+1) (.fn f cs) as Hv=if fz then V.freeze 8 jm.H (V.result l')else some (V.result l',jm.H):=λHv as cs jm l' hle e1 e2=>by
  simp only[V.call,iag,BB,FA,Saf,oS,Tn];rw[if_pos hle,e1];cases ex with
  |exit id=>exact(td id rfl).elim
  |normal=>simp only[da,e2]
  |ret=>simp only[da,e2]
 have fin:∀{m m1:Mp}{Hv nY:V.AH}{r':V.AV}{zd:V.AH},RH m H Hv->gm H.bl.length m Hv m1 nY->Yr m1 nY r H' r' zd->H.bl.length<=m1.top->Yr m Hv (gc H.bl.length r H').1 (gc H.bl.length r H').2 r' zd:=λ{m m1 Hv nY r' zd}hh Mw⟨m20,Cu,e20,e3,e4⟩vB=>by
  have aM:gm H.bl.length m Hv m20 zd:=Mw.trans e4 vB;have Ec:xn m20 (λ_=>none) ⟨[(0,.v r)],[],H',H.bl.length⟩ ⟨[(0,.v r')],[],zd⟩:=⟨Cu,⟨λi j h=>by simp at h,λi row h=>by simp at h,λi i' j h=>by simp at h⟩,λt=>by
   simp only[get,V.get];split
   ·exact e20.rs
   ·exact trivial,by have:=aM.Mk.1;rw[Cu.len]at this;exact this⟩
  obtain⟨m2,xF,c1,c2⟩:=jn (keep:=[0]) (n:=1) (by simp) Ec hgw (.refl 1 _);have e1:RH m2 (gc H.bl.length r H').2 zd:=c1.h;have e2:RV m2 (gc H.bl.length r H').1 r':=by
   have:=c1.e 0;simp only[gc]
   revert this
   simp only[V.get,if_true];cases get (yg [0] ⟨[(0,.v r)],[],H',H.bl.length⟩).e 0 with
   |loc i c=>exact λh=>h.elim
   |v x=>intro h;cases x<;>first|exact .Dc _|exact h
  have LI:gm m.top m Hv m2 zd:=by rw[hh.len];exact aM.trans c2 (ya _)
  refine⟨m2,e1,e2,⟨λb _ x hb=> ?_,LI.Mk.1,λb hb=>(LI.Mk.2 b hb).2⟩,LI⟩;have:=LI.Mk.2 b (by rw[hh.len];exact(hh.Ff b x hb).1);exact⟨by rw[this.1];exact hb,by rw[this.2]⟩
 cases fz with
 |true=>
  simp at eW;obtain⟨w,hf⟩:=wI 8 sh.inner _ _ _ _ hmo eW;refine⟨_,_,h3,by show H'.wm=_;rw[hwk,w,h2.2.1],λm Hv as cs hh ha=> ?_⟩;obtain⟨jm,m1,NF,l',e1,e2,e3,e4,e5⟩:=start m Hv as cs hh ha;obtain⟨r',zd,k1,k2⟩:=hf m1 jm.H _ e2.h (CC e5);exact⟨r',zd,by rw[Hg Hv as cs jm l' (by rw[ha.1];exact hlen) e1 e4];exact k1,fin hh e3 (hH' ▸ k2.kill sh.SC) e3.Mk.1⟩
 |false=>
  have hmw:=vk.Ws 8 sh.inner _ _ _ _ hmo;refine⟨_,_,h3,by show H'.wm=_;rw[hwk,hmw,h2.2.1],λm Hv as cs hh ha=> ?_⟩;obtain⟨jm,m1,NF,l',e1,e2,e3,e4,e5⟩:=start m Hv as cs hh ha;obtain⟨_,m2,k1,k2,k3,k4⟩:=mo 8 sh.inner _ _ _ _ hmo m1 e2.h;exact⟨V.result l',jm.H,by rw[Hg Hv as cs jm l' (by rw[ha.1];exact hlen) e1 e4];rfl,fin hh e3 (hH' ▸ Yr.kill sh.SC ⟨m2,k1,k4 _ (CC e5),k2,k3⟩) e3.Mk.1⟩
theorem rK{C:V.Callee}:∀{l:List (FuncId×Spec)},(∀p∈l,Df C p.1 p.2)->∀f,Df C f (bF l f)
 |[],_,f,X,args,H,K,out,h=>by simp[bF]at h
 |(g,sp)::l,hl,f,X,args,H,K,out,h=>by
  simp only[bF]at h;split at h
  ·rename_i e;subst e;exact hl (f,sp) (Dd ..) X args H K out h
  ·exact rK (λp hp=>hl p (Rb _ hp)) f X args H K out h
theorem V7{C:V.Callee}{l:List (FuncId×Spec)}(hl:∀p∈l,Df C p.1 p.2):xd C (λX fv args H K=>match fv with| .fn f cs=>bF l f X (args++cs) H K|_=>none):=by
 intro X fv args H K out h;simp only at h;split at h
 ·rename_i f cs;obtain⟨r,H',h1,h2,h3⟩:=rK hl f X _ H K out h;refine⟨r,H',h1,h2,λm Hv o9 Ph hh hf ha=> ?_⟩;cases hf with
  |fn _ _ as Fg hr=>exact h3 m Hv Ph as hh (ha.append ⟨Fg,hr⟩)
 ·simp at h
theorem jF{C:V.Callee}{spec:(X:Type)->UV->List UV->UH->(UV->UH->Option X)->Option X}(hs:xd C spec):xd C (λX fv args H K=>AK spec fv args H K):=by
 intro X fv args H K out h;simp only[AK]at h;generalize zan:(reach H 64 ((fv::args).flatMap (ids 8)) []).filter (λb=>Me (H.bl.getD b .dead))=bs0 at h;have Tam:bs0.Nodup:=by rw[<- zan];exact(uk IF).filter _
 have yar:∀b∈bs0,live H b:=λb hb=>by
  rw[<- zan,Fi]at hb;have:=hb.2;cases h1:H.bl[b]? with
  |none=>rw[Fb,h1]at this;simp[Me]at this
  |some y=>rw[Fb,h1]at this;exact⟨y,h1,this⟩
 generalize Zam:bs0.filter (λb=>decide (b<H.wm))=lo at h;generalize hbs:lo++bs0.filter (λb=>decide (H.wm<=b))=bs at h;have hnd:bs.Nodup:=by
  rw[<- hbs,<- Zam];refine Mv.2 ⟨Tam.filter _,Tam.filter _,λx hx y hy=> ?_⟩;simp only[Fi,decide_eq_true_eq]at hx hy;omega
 have LO:∀b∈bs,live H b:=λb hb=>by
  rw[<- hbs,<- Zam,jh,Fi,Fi]at hb;rcases hb with hb|hb<;>exact yar b hb.1
 have jan:∀(j b:Nat),bs[j]?=some b->lo.length<=j->H.wm<=b:=λj b hj hle=>by
  rw[<- hbs,Oa hle]at hj;have:=Eb hj
  simpa only[Fi,decide_eq_true_eq]using(Fi.1 this).2
 generalize jS:lo.length=w0 at h jan;obtain⟨r,H1,h1,vZ,h2⟩:=hs X _ _ _ _ out h;simp only at vZ;generalize yac:(reach H1 64 (mb bs.length++ids 8 r) []).filter (λb=>decide (bs.length<=b))=news at h1;have WV:news.Nodup:=by rw[<- yac];exact(uk IF).filter _
 have Vk:∀b∈news,bs.length<=b:=λb hb=>by rw[<- yac,Fi]at hb;simpa using hb.2
 refine⟨_,_,h1,rfl,λm Hv o9 Ph hh hf ha=> ?_⟩
 let m0:Mp:={ ι:=λj s=>(bs[j]?).bind λc=>m.ι c s,len:=λj=>m.len (bs.getD j 0),top:=bs.length }
 have FO:Ren m m0 (λb=>pos b bs 0):=λb b' hb=>by
  have:=uV hb;exact⟨by simp[m0,this],by simp[m0,this],Za this⟩
 have YV:∀j{s}x,m0.ι j s=some x->∃b,bs[j]?=some b/\m.ι b s=some x:=λj s x hj=>by simpa[m0,aa]using hj
 have rau:w0<=bs.length:=by rw[<- jS,<- hbs];simp
 have aar:RH m0 ⟨bs.map λb=>Pu (λb=>pos b bs 0) (H.bl.getD b .dead),w0⟩ Hv:=by
  refine⟨λb _ x hb=> ?_,λb' y hy=> ?_,λb1 b2 _ _ x l1 l2 e1 e2=> ?_,λb _ x hb UG=> ?_,hh.top,by simp[m0]⟩
  ·obtain⟨c,h1,h2⟩:=YV b x hb;exact⟨by simpa using Za h1,(hh.Ff c x h2).2⟩
  ·simp only[xe,ja]at hy;obtain⟨b,h1,rfl⟩:=hy;rw[Fb];cases h2:H.bl[b]? with
   |none=>trivial
   |some y=>exact RB.Kk FO (hh.Kf b y h2) (by simp[m0,h1]) (by simp[m0,h1])
  ·obtain⟨c1,k1,k2⟩:=YV b1 x e1;obtain⟨c2,k3,k4⟩:=YV b2 x e2;obtain⟨this,h5⟩:=hh.Ao c1 c2 x (LO c1 (Eb k1)) (LO c2 (Eb k3)) k2 k4;subst this;exact⟨Ss hnd k1 k3,h5⟩
  ·obtain⟨c,k1,k2⟩:=YV b x hb;have Mc:=Za k1;simp only at UG;exact hh.wm c x k2 (jan b c k1 UG)
 have cG:RV m0 (Kk (λb=>pos b bs 0) 8 fv) o9:=RV.Kk FO 8 hf;have har:RL m0 (args.map (Kk (λb=>pos b bs 0) 8)) Ph:=ha.Kk FO 8;obtain⟨r',zd,k1,m1,k2,k3,k4,k5⟩:=h2 m0 Hv o9 Ph aar cG har;refine⟨r',zd,k1,?_⟩;have hold:∀j,j<bs.length->m1.ι j=m0.ι j/\m1.len j=m0.len j:=λj hj=>k5.Mk.2 j hj
 let m':Mp:={ ι:=λb=>if b<H.bl.length then m.ι b else λs=>(news[b-H.bl.length]?).bind λc=>m1.ι c s,len:=λb=>if b<H.bl.length then m.len b else m1.len (news.getD (b-H.bl.length) 0),top:=H.bl.length+news.length }
 have Sv:∀b,b<H.bl.length->m'.ι b=m.ι b/\m'.len b=m.len b:=λb hb=>by simp[m',hb]
 have qS:∀i b,news[i]?=some b->m'.ι (H.bl.length+i)=m1.ι b/\m'.len (H.bl.length+i)=m1.len b:=λi b hb=>by
  have:¬H.bl.length+i<H.bl.length:=by omega
  simp[m',hb,this]
 have Fac:∀b∈bs,b<H.bl.length:=λb hb=>by obtain⟨y,hy,_⟩:=LO b hb;exact Za hy
 let ψ:Nat->Option Nat:=λb=>if b<bs.length then bs[b]? else(pos b news 0).map (H.bl.length+ ·)
 have hψ:Ren m1 m' ψ:=λb b' hb=>by
  simp only[ψ]at hb;split at hb
  ·rename_i Mc;have hm:=Eb hb;have h3:=hold b Mc;obtain⟨l1,l2⟩:=Sv b' (Fac b' hm);rw[l1,l2,h3.1,h3.2];refine⟨by simp[m0,hb],by simp[m0,hb],?_⟩;have:=Fac b' hm;show b'<H.bl.length+news.length;omega
  ·simp only[ja]at hb;obtain⟨i,hi,rfl⟩:=hb;have hni:=uV hi;obtain⟨l1,l2⟩:=qS i b hni;rw[l1,l2];refine⟨rfl,rfl,?_⟩;have:=Za hni;show H.bl.length+i<H.bl.length+news.length;omega
 have hle:m.Le m':=⟨λb _ x hb=>by
  have:=(hh.Ff b x hb).1;rw[(Sv b this).1,(Sv b this).2];exact⟨hb,rfl⟩,by rw[hh.len];simp[m'],λb hb=>(Sv b (by rw[<- hh.len];exact hb)).2⟩
 have dD:∀b{s}x,live H b->m.ι b s=some x->pos b bs 0=none->∀j s',m0.ι j s'≠some x:=λb s x hl hb hp j s' hj=>by
  obtain⟨c,e1,e2⟩:=YV j x hj;have hc:=Eb e1;have:=hh.inj b c x hl (LO c hc) hb e2;subst this;obtain⟨k,hk⟩:=JR (i:=0) hc;rw[hp]at hk;simp at hk
 generalize iM:(mb H.bl.length).map (λb=>match pos b bs 0 with|some j=>Pu ψ (H1.bl.getD j .dead)|none=>H.bl.getD b .dead)++news.map (λb=>Pu ψ (H1.bl.getD b .dead))=bl';have mS:bl'.length=H.bl.length+news.length:=by rw[<- iM];simp
 have c9:∀b,b<H.bl.length->bl'[b]?=some (match pos b bs 0 with|some j=>Pu ψ (H1.bl.getD j .dead)|none=>H.bl.getD b .dead):=λb hb=>by
  rw[<- iM,Ja (by simpa using hb)];simp[hb]
 have hgh:∀b y,H.bl.length<=b->bl'[b]?=some y->∃c,news[b-H.bl.length]?=some c/\y=Pu ψ (H1.bl.getD c .dead):=λb y hb hy=>by
  rw[<- iM,Oa (by simpa using hb)]at hy;simp only[Qh,List.length_range,xe,ja]at hy;obtain⟨c,e1,e2⟩:=hy;exact⟨c,e1,e2.symm⟩
 have OZ:∀j,Me (Pu ψ (H1.bl.getD j .dead))=true->live H1 j:=λj hj=>by
  rw[RG,Fb]at hj;cases h3:H1.bl[j]? with
  |none=>rw[h3]at hj;simp[Me]at hj
  |some y=>rw[h3]at hj;exact⟨y,h3,hj⟩
 have MO:∀b,Me (H.bl.getD b .dead)=true->live H b:=λb hb=>by
  rw[Fb]at hb;cases h3:H.bl[b]? with
  |none=>rw[h3]at hb;simp[Me]at hb
  |some y=>rw[h3]at hb;exact⟨y,h3,hb⟩
 have zac:∀b,live ⟨bl',H.wm⟩ b->(∃j,live H1 j/\m'.ι b=m1.ι j/\((j<bs.length/\bs[j]?=some b)\/(bs.length<=j/\H.bl.length<=b/\news[b-H.bl.length]?=some j)))\/(b<H.bl.length/\live H b/\pos b bs 0=none):=λb⟨y,hy,hl⟩=>by
  have Ze:bl'[b]?=some y:=hy;rcases dc b H.bl.length with Mc|vu
  ·rw[c9 b Mc]at Ze;simp at Ze;cases hp:pos b bs 0 with
   |none=>rw[hp]at Ze;simp at Ze;subst Ze;exact .inr ⟨Mc,MO b (by simpa using hl),rfl⟩
   |some j=>
    rw[hp]at Ze;simp only at Ze;subst Ze;have hj:=uV hp;have hjl:=Za hj;refine .inl ⟨j,OZ j (by simpa using hl),?_,.inl ⟨hjl,hj⟩⟩;rw[(Sv b Mc).1,(hold j hjl).1];simp[m0,hj]
  ·obtain⟨c,e1,rfl⟩:=hgh b y vu Ze;have he:H.bl.length+(b-H.bl.length)=b:=by omega
   refine .inl ⟨c,OZ c hl,?_,.inr ⟨Vk c (Eb e1),vu,e1⟩⟩;have:=(qS _ c e1).1;rw[he]at this;exact this
 have bar:RH m' ⟨bl',H.wm⟩ zd:=by
  refine⟨λb _ x hb=> ?_,λb y hy=> ?_,λb1 b2 _ _ x l1 l2 e1 e2=> ?_,λb _ x hb UG=> ?_,by rw[k5.wm];exact Db hh.top k5.len,by simp[m',mS]⟩
  ·show b<bl'.length/\x<zd.bl.length;rw[mS];rcases dc b H.bl.length with Mc|vu
   ·rw[(Sv b Mc).1]at hb;have:=hh.Ff b x hb;have:=k5.len;omega
   ·simp only[m']at hb;rw[if_neg (by omega)]at hb;simp only[aa]at hb;obtain⟨c,e1,e2⟩:=hb;have:=Za e1;exact⟨by omega,(k2.Ff c x e2).2⟩
  ·have Ze:bl'[b]?=some y:=hy;rcases dc b H.bl.length with Mc|vu
   ·rw[c9 b Mc]at Ze;simp only[Wc]at Ze;cases hp:pos b bs 0 with
    |none=>
     rw[hp]at Ze;simp only at Ze;subst Ze;rw[Fb];cases h3:H.bl[b]? with
     |none=>trivial
     |some y=>
      refine(hh.Kf b y h3).keep hle (Sv b Mc).1 (Sv b Mc).2 λhl _ x hx=> ?_
      exact k5.stay x (hh.Ff b x hx).2 λj s hj=>dD b x ⟨y,h3,hl⟩ hx hp j s hj
    |some j=>
     rw[hp]at Ze;simp only at Ze;subst Ze;have hj:=uV hp;have hjl:=Za hj;rw[Fb];cases h3:H1.bl[j]? with
     |none=>trivial
     |some y=>exact RB.Kk hψ (k2.Kf j y h3) (by rw[(Sv b Mc).1,(hold j hjl).1];simp[m0,hj]) (by rw[(Sv b Mc).2,(hold j hjl).2];simp[m0,hj])
   ·obtain⟨c,e1,rfl⟩:=hgh b y vu Ze;have he:H.bl.length+(b-H.bl.length)=b:=by omega
    have h4:=qS _ c e1;rw[he]at h4;rw[Fb];cases h3:H1.bl[c]? with
    |none=>trivial
    |some y=>exact RB.Kk hψ (k2.Kf c y h3) h4.1 h4.2
  ·rcases zac b1 l1 with⟨j1,g1,g2,g3⟩|⟨g1,g2,g3⟩<;>rcases zac b2 l2 with⟨j2,f1,f2,f3⟩|⟨f1,f2,f3⟩
   ·rw[g2]at e1;rw[f2]at e2;obtain⟨this,h5⟩:=k2.Ao j1 j2 x g1 f1 e1 e2;subst this;refine⟨?_,h5⟩;rcases g3 with⟨g3,g4⟩|⟨g3,g4,g5⟩<;>rcases f3 with⟨f3,f4⟩|⟨f3,f4,f5⟩
    ·rw[g4]at f4;simpa using f4
    ·omega
    ·omega
    ·have:=Ss WV g5 f5;omega
   ·exfalso;rw[g2]at e1;rw[(Sv b2 f1).1]at e2;rcases g3 with⟨g3,g4⟩|⟨g3,g4,g5⟩
    ·rw[(hold j1 g3).1]at e1;exact dD b2 x f2 e2 f3 j1 _ e1
    ·rcases k5.new j1 x e1 with⟨b0,s0,EB⟩|vu
     ·exact dD b2 x f2 e2 f3 b0 s0 EB
     ·have:=(hh.Ff b2 x e2).2;omega
   ·exfalso;rw[f2]at e2;rw[(Sv b1 g1).1]at e1;rcases f3 with⟨f3,f4⟩|⟨f3,f4,f5⟩
    ·rw[(hold j2 f3).1]at e2;exact dD b1 x g2 e1 g3 j2 _ e2
    ·rcases k5.new j2 x e2 with⟨b0,s0,EB⟩|vu
     ·exact dD b1 x g2 e1 g3 b0 s0 EB
     ·have:=(hh.Ff b1 x e1).2;omega
   ·rw[(Sv b1 g1).1]at e1;rw[(Sv b2 f1).1]at e2;exact hh.Ao b1 b2 x g2 f2 e1 e2
  ·have Caf:H.wm<=b:=UG;rw[k5.wm];rcases dc b H.bl.length with Mc|vu
   ·rw[(Sv b Mc).1]at hb;exact hh.wm b x hb Caf
   ·simp only[m']at hb;rw[if_neg (by omega)]at hb;simp only[aa]at hb;obtain⟨c,e1,e2⟩:=hb;have:=Vk c (Eb e1);have h5:=k2.wm c x e2 (by rw[vZ];omega);rw[k5.wm]at h5;exact h5
 refine⟨m',?_,RV.Kk hψ 8 k3,hle,⟨⟨by rw[hh.len];simp[m'],λb hb=>Sv b (by rw[<- hh.len];exact hb)⟩,λx hx hn=>k5.stay x hx λj s hj=> ?_,λb s x hb=> ?_,k5.len,k5.wm⟩⟩
 ·exact bar
 ·obtain⟨c,e1,e2⟩:=YV j x hj;exact hn c s e2
 ·rcases dc b H.bl.length with Mc|vu
  ·rw[(Sv b Mc).1]at hb;exact .inl ⟨b,s,hb⟩
  ·simp only[m']at hb;rw[if_neg (by omega)]at hb;simp only[aa]at hb;obtain⟨c,e1,e2⟩:=hb;rcases k5.new c x e2 with⟨b0,s0,EB⟩|vu
   ·obtain⟨c0,_,e3⟩:=YV b0 x EB;exact .inl ⟨c0,_,e3⟩
   ·exact .inr vu
theorem rN{C:V.Callee}{l:List (FuncId×Spec)}(hl:∀p∈l,Df C p.1 p.2):xd C (λX fv args H K=>GU l X fv args H K):=jF (V7 hl)
end
end Go.U
namespace Go.U
open Go
variable [TB:Uv]
section
variable {A:V.Oi}{C:V.Callee}{Na:Nat->Option (List UV)}{Ca:List Nat}{n:Nat}{X:Type}{out:X}
theorem EH{e:List (Nat×V.SV)}:∀(is:List Nat),∃env,V.gB e is=some env/\∀t,V.get (V.kf env) t=if t∈is then(match V.get e t with| .v a=> .v a|_=> .v .Dc)else .v .Dc
 |[]=>⟨[],rfl,λt=>by simp[V.kf,V.get]⟩
 |i::is=>by
  obtain⟨env,h1,h2⟩:=EH (e:=e) is;refine⟨(i,match V.get e i with| .v a=>a|_=> .Dc)::env,?_,λt=> ?_⟩
  ·simp only[V.gB,h1];cases V.get e i<;>rfl
  ·simp only[V.kf,V.get,h2 t];by_cases ht:t=i
   ·subst ht;simp only[if_true,me,true_or];cases V.get e t<;>rfl
   ·simp only[if_neg ht,me,ht,false_or,if_false]
theorem Q7(e:List (Nat×US))(ks:List Nat)(t:Nat):get (kf (RQ e ks)) t=if t∈ks then .v (match get e t with| .v a=>a|_=> .Dc)else .v .Dc:=by
 have:kf (RQ e ks)=ks.map λi=>(i,US.v (match get e i with| .v a=>a|_=> .Dc)):=by unfold kf RQ;rw[List.map_map];rfl
 rw[this,kD]
theorem Dab{m:Mp}{φ:Nat->Option Nat}{e:List (Nat×US)}{ev:List (Nat×V.SV)}{ks:List Nat}(h:RE m φ e ev)(hk:∀t∈ks,t<n):
  ∃env,V.gB ev (mb n)=some env/\∀t,match get (kf (RQ e ks)) t,V.get (V.kf env) t with
   | .v y,.v a=>RV m y a
   |_,_=>False:=by
 obtain⟨env,h1,h2⟩:=EH (e:=ev) (mb n);refine⟨env,h1,λt=> ?_⟩;rw[h2 t,Q7];by_cases ht:t∈ks
 ·rw[if_pos ht,if_pos (jg.2 (hk t ht))];have:=h t
  revert this
  cases get e t with
  |loc i c=>
   cases V.get ev t with
   |loc j c'=>exact λ_=> .Dc _
   |v a=>exact λh=>h.elim
  |v y=>
   cases hv:V.get ev t with
   |loc j c'=>intro h;cases y<;>first|exact .Dc _|exact h.elim
   |v a=>intro h;cases y<;>first|exact .Dc _|exact h
 ·rw[if_neg ht];by_cases ht2:t∈mb n
  ·rw[if_pos ht2];cases V.get ev t<;>exact .Dc _
  ·rw[if_neg ht2];exact .Dc _
theorem MY(hg:tf A Na){env:Env}(hc:xd C env.call){id:Nat}{ks:List Nat}{g:Operand}{ps:Array Tmp}{a b:Code}(EO:TB.rf id=⟨n,ps.toList,a,b⟩){s:St}{K:V.Ex->St->Option X}
  (h:eL A Na env id n ks g s K=some out):∃ex s',K ex s'=some out/\OU (V.code A C true Ca (mb n) n (.rangeFunc g ps a b)) s ex s':=by
 unfold eL at h;simp only[aa]at h;obtain⟨fv,cW,h⟩:=h;split at h
 case h_2=>simp at h
 rename_i f cs;generalize hcd:((match A.fns f with|some fn=>fn.body.isSome|none=>false)&&ks.all (λi=>decide (i<n)))=cd at h;cases cd
 case false=>simp at h
 have hif:=hcd;rw[if_pos rfl]at h;simp only[Ab,ec,decide_eq_true_eq]at hif;obtain⟨BB,hks⟩:=hif;obtain⟨r,H',h1,Th,h3⟩:=hc X _ _ _ _ _ h;split at h1
 case h_2=>simp at h1
 rename_i CF e' st pe hb;split at h1
 ·simp at h1
 rename_i Ec;refine⟨pe,_,h1,rfl,by show H'.wm=_;rw[Th];rfl,λm φ sv hs=> ?_⟩;obtain⟨o9,e1,e2⟩:=yd (m:=m) (φ:=φ) hg cW hs.e;cases e2 with
 |fn _ _ as hl hr=>
  obtain⟨On,e3,e4⟩:=Dab (n:=n) (ks:=ks) hs.e hks;have hlen:=hs.h.len;obtain⟨r1,r2,r3⟩:=RH.new (n:=0) (y:= .loop id (RQ s.e ks) .ready .normal) (yv:= .loop n (mb n) On ps.toList a b .ready none) hs.h (by
   refine⟨sv.H.bl.length,On,by rw[lf],?_,λt=> ?_⟩
   ·rw[EO];simp[V.push,V.Ex.jump]
   ·have:=e4 t
    revert this
    cases get (kf (RQ s.e ks)) t<;>cases V.get (V.kf On) t<;>intro this<;>first|exact this.elim|exact RV.mono (iR hs.h _ _) this)
  have cG:RV (m.add s.H.bl.length (some sv.H.bl.length) 0) (.fn f cs) (.fn f as):=RV.mono r2 (.fn f cs as hl hr);obtain⟨r',zd,k1,m2,k2,k3,k4,k5⟩:=h3 _ _ (.fn f as) [.yl sv.H.bl.length] r1 cG (RL.cons (.yl _ _ (by rw[lf])) .nil);have oq:m2.ι s.H.bl.length 0=some sv.H.bl.length:=(k4.of _ _ (by rw[lf])).1;obtain⟨x',pK,q1,q2,q3⟩:=k2.Kf _ _ hb;rw[oq]at q1;simp at q1;subst q1;have Oe:live H' s.H.bl.length:=⟨_,hb,rfl⟩;obtain⟨w1,w2⟩:=RH.set (yv:= .dead) k2 Oe oq (y:= .dead) trivial;have hle:m.Le m2:=r2.trans k4;have Mw:gm m.top m sv.H m2 (V.Qa zd sv.H.bl.length .dead):=(r3.trans k5 r3.Mk.1).trans w2 ((r3.trans k5 r3.Mk.1).Mk.1);refine⟨{ sv with H:=V.Qa zd sv.H.bl.length .dead },m2,φ,?_,⟨w1,hs.f.mono hle,hs.e.mono hle (.refl φ),?_⟩,Mw.less (by rw[hlen];exact hs.b)⟩
  ·simp only[V.code,if_true,e1,e3,da];have hf2:∃fn,A.fns f=some fn/\fn.body.isSome=true:=by
    cases hA:A.fns f with
    |none=>rw[hA]at BB;simp at BB
    |some fn=>rw[hA]at BB;exact⟨fn,rfl,BB⟩
   obtain⟨fn,hf3,hf4⟩:=hf2;simp only[hf3,hf4,if_true,da,k1,q2];have II:zd.wm<=sv.H.bl.length:=by rw[k5.wm];exact hs.h.top
   have hj:V.EI pe.jump=some pe:=by cases pe<;>rfl
   cases st with
   |busy=>exact(Ec rfl).elim
   |ready=>simp[II,hj]
   |done=>simp[II,hj]
   |exhausted=>simp[II,hj]
  ·show s.base<=(Qa H' _ _).bl.length;have:s.H.bl.length<=H'.bl.length:=by
    have:=Za hb;omega
   simp only[Qa,Wa];exact Db hs.b this
def Hj(C:V.Callee)(spec:Spec):Prop:=
 ∀(X:Type)(args:List UV)(H:UH)(K:UV->UH->Option X)(out:X),spec X args H K=some out->
  ∃r H',K r H'=some out/\H'.wm=H.wm/\∀(m:Mp)(Hv:V.AH)(a0:V.AV)(as:List V.AV),RH m H Hv->RL m args (a0::as)->∃r' zd,C a0 as Hv=some (r',zd)/\Yr m Hv r H' r' zd
theorem Hj.imp{C:V.Callee}{g g':Spec}(h:Hj C g)(hi:∀X args H K out,g' X args H K=some out->g X args H K=some out):Hj C g':=
 λX args H K out ho=>h X args H K out (hi X args H K out ho)
theorem GC{m:Mp}{φ:Nat->Option Nat}:∀{ps:List Nat}{as:List UV}{Vn:List V.AV}{e:List (Nat×US)}{ev:List (Nat×V.SV)},RL m as Vn->RE m φ e ev->RE m φ (Sj ps as e) (V.Sj ps Vn ev)
 |[],as,Vn,e,ev,_,he=>by cases as<;>cases Vn<;>exact he
 |p::ps,[],Vn,e,ev,h,he=>by
  have:Vn=[]:=by have:=h.1;simpa using this
  subst this;exact he
 |p::ps,a::as,Vn,e,ev,h,he=>by
  cases Vn with
  |nil=>have:=h.1;simp at this
  |cons a' Vn=>
   have hr:RL m as Vn:=⟨by have:=h.1;simpa using this,λi y b k1 k2=>h.2 (i+1) y b (by simpa using k1) (by simpa using k2)⟩;exact GC (ps:=ps) hr (he.cons p (h.2 0 a a' rfl rfl).rs)
theorem DX{m:Mp}{φ:Nat->Option Nat}{e:List (Nat×UV)}{On:List (Nat×V.AV)} (h:∀t,match get (kf e) t,V.get (V.kf On) t with
  | .v y,.v a=>RV m y a
  |_,_=>False):RE m φ (kf e) (V.kf On):=λt=>by
 have:=h t
 revert this
 cases get (kf e) t<;>cases V.get (V.kf On) t<;>intro this
 ·exact RV.rs this
 ·exact this.elim
 ·exact this.elim
 ·exact this.elim
theorem Eag{m m1:Mp}{H H':UH}{Hv nY zd:V.AH}{r:UV}{r':V.AV}(hgw:H'.wm<=H.bl.length)(hh:RH m H Hv)(Mw:gm H.bl.length m Hv m1 nY)(hg:Yr m1 nY r H' r' zd)(vB:H.bl.length<=m1.top):
  Yr m Hv (gc H.bl.length r H').1 (gc H.bl.length r H').2 r' zd:=by
 obtain⟨m20,Cu,e20,e3,e4⟩:=hg;have aM:gm H.bl.length m Hv m20 zd:=Mw.trans e4 vB;have Ec:xn m20 (λ_=>none) ⟨[(0,.v r)],[],H',H.bl.length⟩ ⟨[(0,.v r')],[],zd⟩:=⟨Cu,⟨λi j h=>by simp at h,λi row h=>by simp at h,λi i' j h=>by simp at h⟩,λt=>by
  simp only[get,V.get];split
  ·exact e20.rs
  ·exact trivial,by have:=aM.Mk.1;rw[Cu.len]at this;exact this⟩
 obtain⟨m2,xF,c1,c2⟩:=jn (keep:=[0]) (n:=1) (by simp) Ec hgw (.refl 1 _);have e1:RH m2 (gc H.bl.length r H').2 zd:=c1.h;have e2:RV m2 (gc H.bl.length r H').1 r':=by
  have:=c1.e 0;simp only[gc]
  revert this
  simp only[V.get,if_true];cases get (yg [0] ⟨[(0,.v r)],[],H',H.bl.length⟩).e 0 with
  |loc i c=>exact λh=>h.elim
  |v x=>intro h;cases x<;>first|exact .Dc _|exact h
 have LI:gm m.top m Hv m2 zd:=by rw[hh.len];exact aM.trans c2 (ya _)
 refine⟨m2,e1,e2,⟨λb _ x hb=> ?_,LI.Mk.1,λb hb=>(LI.Mk.2 b hb).2⟩,LI⟩;have:=LI.Mk.2 b (by rw[hh.len];exact(hh.Ff b x hb).1);exact⟨by rw[this.1];exact hb,by rw[this.2]⟩
theorem Lab{b:Bool}{base:Nat}{H:UH}:(gc base (.bool b) H).1= .bool b:=by
 simp[gc,yg,get,qV,Kk]
theorem oY(hg:tf A Na){env:Env}{k:Nat}(hc:xd (V.call A k) env.call){id:Nat}{r:RFn}(EO:TB.rf id=r)
  (nS:∀c'∈loops env.join r.assign,od env.loop (V.code A (V.call A k) false [] (mb r.n) r.n) c')
  (XL:∀c'∈loops env.join r.body,od env.loop (V.code A (V.call A k) false [] (mb r.n) r.n) c'):
  Hj (V.call A (k+1)) (λX args H K=>nR A Na env id r args H K):=by
 intro X args H K out h;unfold nR at h;simp only at h;split at h
 case h_2=>simp at h
 rename_i b as;split at h
 case h_2=>simp at h
 rename_i CF e pe0 hb;split at h
 case isFalse=>simp at h
 rename_i hif;obtain⟨rfl,hlen,UG,cD⟩:=hif;obtain⟨ex1,s1,h1,c1⟩:=Tg hg hc nS h;split at h1
 case h_2=>simp at h1
 split at h1
 case h_2=>simp at h1
 rename_i gS e1 pe1 nr;obtain⟨ex,s2,h2,c2⟩:=Tg hg hc XL h1;split at h2
 case h_2=>simp at h2
 rename_i fS e2 st2 pe2 Dy;split at h2
 case isFalse=>simp at h2
 rename_i CO;generalize Ec:(if ex.Bh=true then LoopState.ready else LoopState.done)=st' at h2;have II:s2.H.wm=H.wm:=c2.2.1.trans c1.2.1;refine⟨_,_,h2,II,λm Hv a0 Vn hh ha=> ?_⟩;obtain⟨a0',Gay,ha1,EF,ha3⟩:=ha.To;simp only[List.cons.injEq]at ha1;obtain⟨rfl,rfl⟩:=ha1;cases EF with
 |yl _ x hx=>
  obtain⟨x0,On,q1,q2,q3⟩:=hh.Kf b _ hb;rw[hx]at q1;simp at q1;subst q1;rw[EO]at q2;have aW:b<H.bl.length:=Za hb;have BZ:xn m (λ_=>none) ⟨Sj r.ps as (kf e),[],H,H.bl.length⟩ ⟨V.Sj r.ps Vn (V.kf On),[],Hv⟩:=
   ⟨hh,⟨λi j h=>by simp at h,λi row h=>by simp at h,λi i' j h=>by simp at h⟩,GC ha3 (DX q3),ya _⟩
  obtain⟨jm,m1,NF,k1,k2,k3⟩:=c1.2.2 m _ _ BZ;have aj:m1.ι b 0=some x:=by rw[(k3.Mk.2 b aW).1];exact hx
  obtain⟨x1,SQ,p1,p2,p3⟩:=k2.h.Kf b _ nr;rw[aj]at p1;simp at p1;subst p1;have Qaf:x<jm.H.bl.length:=(k2.h.Ff b x aj).2;obtain⟨w1,w2⟩:=RH.set (y:= .loop gS e1 .busy pe1) (yv:= .loop (TB.rf gS).n (mb (TB.rf gS).n) SQ (TB.rf gS).ps (TB.rf gS).assign (TB.rf gS).body .busy pe1.jump) k2.h ⟨_,nr,rfl⟩ aj ⟨x,SQ,aj,by rw[Cd,if_pos rfl,if_pos Qaf],p3⟩;have AZ:xn m1 NF { s1 with H:=Qa s1.H b (.loop gS e1 .busy pe1) } { jm with H:=V.Qa jm.H x (.loop (TB.rf gS).n (mb (TB.rf gS).n) SQ (TB.rf gS).ps (TB.rf gS).assign (TB.rf gS).body .busy pe1.jump) }:=
   ⟨w1,k2.f,k2.e,by simpa[Qa]using k2.b⟩
  obtain⟨O9,m2,xF,l1,l2,l3⟩:=c2.2.2 m1 NF _ AZ;have Aan:s1.base=H.bl.length:=c1.1;have l3':=l3.less (n':=H.bl.length) (by show H.bl.length<=s1.base;omega);have jr:m2.ι b 0=some x:=by rw[(l3'.Mk.2 b aW).1];exact aj
  obtain⟨x2,pK,u1,u2,u3⟩:=l2.h.Kf b _ Dy;rw[jr]at u1;simp at u1;subst u1;have ZV:x<O9.H.bl.length:=(l2.h.Ff b x jr).2;obtain⟨v1,v2⟩:=RH.set (y:= .loop fS e2 st' ex) (yv:= .loop (TB.rf fS).n (mb (TB.rf fS).n) pK (TB.rf fS).ps (TB.rf fS).assign (TB.rf fS).body st' ex.jump) l2.h ⟨_,Dy,rfl⟩ jr ⟨x,pK,jr,by rw[Cd,if_pos rfl,if_pos ZV],u3⟩;have UZ:gm H.bl.length m Hv m2 O9.H:=(k3.trans (w2.less (by rw[k2.h.len,<- Aan];exact k2.b)) (ya _)).trans l3' (ya _);refine⟨.bool ex.Bh,V.Qa O9.H x (.loop (TB.rf fS).n (mb (TB.rf fS).n) pK (TB.rf fS).ps (TB.rf fS).assign (TB.rf fS).body st' ex.jump),?_,?_⟩
  ·have e_:Hv.wm<=x:=hh.wm b x hx UG;simp only[V.call,q2];rw[if_pos ⟨by rw[ha3.1];exact hlen,e_,cD⟩,k1];simp only[da,p2,l1,u2,Ec]
  ·have fan:H.bl.length<=m2.top:=l3'.Mk.1;have:=Eag (r:= .bool ex.Bh) (r':= .bool ex.Bh) (H':=Qa s2.H b (.loop fS e2 st' ex)) CO hh UZ ⟨m2,v1,.bool _,.refl m2,v2⟩ fan;rw[Lab]at this;exact this
theorem dN{C:V.Callee}:∀{l:List (FuncId×Spec)},(∀p∈l,Hj C p.2)->∀f,Hj C (bF l f)
 |[],_,f,X,args,H,K,out,h=>by simp[bF]at h
 |(g,sp)::l,hl,f,X,args,H,K,out,h=>by
  simp only[bF]at h;split at h
  ·rename_i e;subst e;exact hl (f,sp) (Dd ..) X args H K out h
  ·exact dN (λp hp=>hl p (Rb _ hp)) f X args H K out h
theorem aR{C:V.Callee}{l ly:List (FuncId×Spec)}(hl:∀p∈l,Df C p.1 p.2)(hy:∀p∈ly,Hj C p.2):xd C (λX fv args H K=>x8 l ly X fv args H K):=by
 refine jF (spec:=λX fv args H K=>_) ?_;intro X fv args H K out h;simp only at h;split at h
 ·rename_i f cs;obtain⟨r,H',h1,h2,h3⟩:=rK hl f X _ H K out h;refine⟨r,H',h1,h2,λm Hv o9 Ph hh hf ha=> ?_⟩;cases hf with
  |fn _ _ as Fg hr=>exact h3 m Hv Ph as hh (ha.append ⟨Fg,hr⟩)
 ·rename_i b;split at h
  case h_2=>simp at h
  obtain⟨r,H',h1,h2,h3⟩:=dN hy _ X _ H K out h;exact⟨r,H',h1,h2,λm Hv o9 Ph hh hf ha=>h3 m Hv o9 Ph hh (.cons hf ha)⟩
 ·simp at h
end
end Go.U
namespace Go.U
open Go
inductive Sk where
 |bool
 |int (k:IntKind)
 |str
 |lit (c:CT)
 |sl (b:Nat)
 |Lm (b c:Nat)
 |Rt (b:Nat)
 |Dq (b c:Nat)
 |Dc
 |Hf
 |Xa
 |Ef
 |ig
 |og
 |zh
 |ptr (b c:Nat)
 |all (b:Nat)
 |mp (b:Nat)
 |yl (b:Nat)
 |ee (l:Sk)
 |fn (f:FuncId) (l:Sk)
 |agg (l:Sk)
 |Re (l:Sk)
 |nil
 |cons (a b:Sk)
def Sk.T:Sk->Type
 | .bool=>Bool
 | .int _=>Int
 | .str=>ByteArray
 | .lit c=>List (Ib c)
 | .sl _=>Nat×Nat
 | .Lm _ _=>Nat
 | .Rt _=>Nat
 | .Dq _ _=>Nat×Nat
 | .ee l=>l.T
 | .fn _ l=>l.T
 | .agg l=>l.T
 | .Re l=>l.T
 | .cons a b=>a.T×b.T
 |_=>Unit
def Sk.fill:(k:Sk)->k.T->UV ⊕ List UV
 | .bool,b=> .inl (.bool b)
 | .int k,n=> .inl (.int k n)
 | .str,s=> .inl (.str s)
 | .lit c,l=> .inl (.lit c l)
 | .sl b,p=> .inl (.sl b p.1 p.2)
 | .Lm b c,r=> .inl (.Lm b r c)
 | .Rt b,r=> .inl (.Rt b r)
 | .Dq b c,p=> .inl (.Dq b p.1 p.2 c)
 | .Dc,_=> .inl .Dc
 | .Hf,_=> .inl .Hf
 | .Xa,_=> .inl .Xa
 | .Ef,_=> .inl .Ef
 | .ig,_=> .inl .ig
 | .og,_=> .inl .og
 | .zh,_=> .inl .zh
 | .ptr b c,_=> .inl (.ptr b c)
 | .all b,_=> .inl (.all b)
 | .mp b,_=> .inl (.mp b)
 | .yl b,_=> .inl (.yl b)
 | .ee l,t=> .inl (.ee ((l.fill t).elim (λ_=>[]) id))
 | .fn f l,t=> .inl (.fn f ((l.fill t).elim (λ_=>[]) id))
 | .agg l,t=> .inl (.agg ((l.fill t).elim (λ_=>[]) id))
 | .Re l,t=> .inl (.Re ((l.fill t).elim (λ_=>[]) id))
 | .nil,_=> .inr []
 | .cons a b,(x,y)=> .inr ((a.fill x).elim id (λ_=> .Dc)::(b.fill y).elim (λ_=>[]) id)
def Sk.take:(k:Sk)->UV ⊕ List UV->Option k.T
 | .bool=>λx=>match x with| .inl (.bool b)=>some b|_=>none
 | .int k=>λx=>match x with| .inl (.int k' n)=>if k'=k then some n else none|_=>none
 | .str=>λx=>match x with| .inl (.str s)=>some s|_=>none
 | .lit c=>λx=>match x with| .inl (.lit c' l)=>if h:c'=c then some (h ▸ l)else none|_=>none
 | .sl b=>λx=>match x with| .inl (.sl b' r n)=>if b'=b then some (r,n)else none|_=>none
 | .Lm b c=>λx=>match x with| .inl (.Lm b' r c')=>if b'=b/\c'=c then some r else none|_=>none
 | .Rt b=>λx=>match x with| .inl (.Rt b' r)=>if b'=b then some r else none|_=>none
 | .Dq b c=>λx=>match x with| .inl (.Dq b' r j c')=>if b'=b/\c'=c then some (r,j)else none|_=>none
 | .Dc=>λx=>match x with| .inl .Dc=>some ()|_=>none
 | .Hf=>λx=>match x with| .inl .Hf=>some ()|_=>none
 | .Xa=>λx=>match x with| .inl .Xa=>some ()|_=>none
 | .Ef=>λx=>match x with| .inl .Ef=>some ()|_=>none
 | .ig=>λx=>match x with| .inl .ig=>some ()|_=>none
 | .og=>λx=>match x with| .inl .og=>some ()|_=>none
 | .zh=>λx=>match x with| .inl .zh=>some ()|_=>none
 | .ptr b c=>λx=>match x with| .inl (.ptr b' c')=>if b'=b/\c'=c then some ()else none|_=>none
 | .all b=>λx=>match x with| .inl (.all b')=>if b'=b then some ()else none|_=>none
 | .mp b=>λx=>match x with| .inl (.mp b')=>if b'=b then some ()else none|_=>none
 | .yl b=>λx=>match x with| .inl (.yl b')=>if b'=b then some ()else none|_=>none
 | .ee l=>λx=>match x with| .inl (.ee cs)=>l.take (.inr cs)|_=>none
 | .fn f l=>λx=>match x with| .inl (.fn f' cs)=>if f'=f then l.take (.inr cs)else none|_=>none
 | .agg l=>λx=>match x with| .inl (.agg cs)=>l.take (.inr cs)|_=>none
 | .Re l=>λx=>match x with| .inl (.Re cs)=>l.take (.inr cs)|_=>none
 | .nil=>λx=>match x with| .inr []=>some ()|_=>none
 | .cons a b=>λx=>match x with| .inr (y::ys)=>(a.take (.inl y)).bind λu=>(b.take (.inr ys)).bind λv=>some (u,v)|_=>none
theorem El{α:Type}{t:α}(h:(none:Option α)=some t):False:=by cases h
theorem Fab{a b:Int}(h:decide (a=b)=true):a=b:=of_decide_eq_true h
theorem Sk.vf:∀(k:Sk)(x:UV ⊕ List UV)(t:k.T),k.take x=some t->k.fill t=x:=by
 intro k;induction k with
 |bool|str|Dc|Hf|Xa|Ef|ig|og|zh|nil=>
  intro x t h;simp only[Sk.take]at h;split at h
  ·injection h with h;subst h;rfl
  ·simp at h
 |int k=>
  intro x t h;simp only[Sk.take]at h;split at h
  ·split at h
   ·rename_i e;subst e;injection h with h;subst h;rfl
   ·simp at h
  ·simp at h
 |lit c=>
  intro x t h;simp only[Sk.take]at h;split at h
  ·split at h
   ·rename_i e;subst e;injection h with h;subst h;rfl
   ·simp at h
  ·simp at h
 |sl b|all b|mp b|yl b|Rt b=>
  intro x t h;simp only[Sk.take]at h;split at h
  ·split at h
   ·rename_i e;subst e;injection h with h;subst h;rfl
   ·simp at h
  ·simp at h
 |Lm b c|ptr b c|Dq b c=>
  intro x t h;simp only[Sk.take]at h;split at h
  ·split at h
   ·rename_i e;obtain⟨rfl,rfl⟩:=e;injection h with h;subst h;rfl
   ·simp at h
  ·simp at h
 |ee l ih=>
  intro x t h;cases x with
  |inr _=>exact(El (α:=l.T) (t:=t) h).elim
  |inl v=>
   cases v with
   |ee cs=>
    show Sum.inl (UV.ee ((l.fill t).elim (λ_=>[]) id))=_;rw[ih (.inr cs) t h];rfl
   |_=>exact(El (α:=l.T) (t:=t) h).elim
 |agg l ih=>
  intro x t h;cases x with
  |inr _=>exact(El (α:=l.T) (t:=t) h).elim
  |inl v=>
   cases v with
   |agg cs=>
    show Sum.inl (UV.agg ((l.fill t).elim (λ_=>[]) id))=_;rw[ih (.inr cs) t h];rfl
   |_=>exact(El (α:=l.T) (t:=t) h).elim
 |Re l ih=>
  intro x t h;cases x with
  |inr _=>exact(El (α:=l.T) (t:=t) h).elim
  |inl v=>
   cases v with
   |Re cs=>
    show Sum.inl (UV.Re ((l.fill t).elim (λ_=>[]) id))=_;rw[ih (.inr cs) t h];rfl
   |_=>exact(El (α:=l.T) (t:=t) h).elim
 |fn f l ih=>
  intro x t h;simp only[Sk.take]at h;split at h
  ·rename_i f' cs;have h:(if f'=f then l.take (.inr cs)else none)=some (t:l.T):=h;split at h
   ·rename_i e;subst e;show Sum.inl (UV.fn f' ((l.fill t).elim (λ_=>[]) id))=_;rw[ih _ _ h];rfl
   ·simp at h
  ·simp at h
 |cons a b iha ihb=>
  intro x t h;simp only[Sk.take]at h;split at h
  ·simp only[aa]at h;obtain⟨u,hu,v,hv,h⟩:=h;injection h with h
   subst h;simp only[Sk.fill,iha _ _ hu,ihb _ _ hv];rfl
  ·simp at h
def Sk.v(k:Sk)(t:k.T):UV:=(k.fill t).elim id λ_=> .Dc
def Sk.l(k:Sk)(t:k.T):List UV:=(k.fill t).elim (λ_=>[]) id
inductive SkS where
 |v (k:Sk)
 |loc (i c:Nat)
inductive HF where
 |dead
 |Ee (l:Sk)
 |cells (c:CT)
 |deep (c:CT)
 |Jg (k:KT) (es:List (Zd k×Sk))
 |Pe (k:KT) (g:Bool) (c:CT)
 |loop (id:Nat) (env:List (Nat×Sk)) (st:LoopState) (pe:V.Ex)
 |Un (q:Sk)
 |Fq
def tyE:List (Nat×SkS)->Type
 |[]=>Unit
 |(_,.v k)::l=>k.T×tyE l
 |(_,.loc _ _)::l=>tyE l
def fH:(l:List (Nat×SkS))->tyE l->List (Nat×US)
 |[],_=>[]
 |(i,.v k)::l,(x,y)=>(i,.v (k.v x))::fH l y
 |(i,.loc j c)::l,y=>(i,.loc j c)::fH l y
def lA:(l:List (Nat×SkS))->List (Nat×US)->Option (tyE l)
 |[]=>λe=>match e with|[]=>some ()|_=>none
 |(i,.v k)::l=>λe=>match e with|(i',.v x)::e=>if i'=i then(k.take (.inl x)).bind λu=>(lA l e).bind λv=>some (u,v)else none|_=>none
 |(i,.loc j c)::l=>λe=>match e with|(i',.loc j' c')::e=>if i'=i/\j'=j/\c'=c then lA l e else none|_=>none
def tyF:List Sk->Type
 |[]=>Unit
 |k::l=>k.T×tyF l
def zS:(l:List Sk)->tyF l->List (List UV)
 |[],_=>[]
 |k::l,(x,y)=>k.l x::zS l y
def XK:(l:List Sk)->List (List UV)->Option (tyF l)
 |[]=>λe=>match e with|[]=>some ()|_=>none
 |k::l=>λe=>match e with|x::e=>(k.take (.inr x)).bind λu=>(XK l e).bind λv=>some (u,v)|_=>none
def tyM{k:KT}:List (Zd k×Sk)->Type
 |[]=>Unit
 |p::l=>p.2.T×tyM l
def tM{k:KT}:(l:List (Zd k×Sk))->tyM l->List (Zd k×UV)
 |[],_=>[]
 |p::l,(x,y)=>(p.1,p.2.v x)::tM l y
def EG{k:KT}:(l:List (Zd k×Sk))->List (Zd k×UV)->Option (tyM l)
 |[]=>λe=>match e with|[]=>some ()|_=>none
 |p::l=>λe=>match e with|(i,x)::e=>cond (NK k p.1 i) ((p.2.take (.inl x)).bind λu=>(EG l e).bind λv=>some (u,v)) none|_=>none
def tyN:List (Nat×Sk)->Type
 |[]=>Unit
 |p::l=>p.2.T×tyN l
def sM:(l:List (Nat×Sk))->tyN l->List (Nat×UV)
 |[],_=>[]
 |p::l,(x,y)=>(p.1,p.2.v x)::sM l y
def takeN:(l:List (Nat×Sk))->List (Nat×UV)->Option (tyN l)
 |[]=>λe=>match e with|[]=>some ()|_=>none
 |p::l=>λe=>match e with|(i,x)::e=>if i=p.1 then((p.2.take (.inl x)).bind λu=>(takeN l e).bind λv=>some (u,v))else none|_=>none
def gI:LoopState->LoopState->Bool
 | .ready,.ready| .busy,.busy| .done,.done| .exhausted,.exhausted=>true
 |_,_=>false
theorem kV{a b:LoopState}(h:gI a b=true):a=b:=by cases a<;>cases b<;>first|rfl|simp[gI]at h
def HF.T:HF->Type
 | .dead=>Unit
 | .Ee l=>l.T
 | .cells c=>List (Ib c)
 | .deep c=>List (List (Ib c))
 | .Jg _ es=>tyM es
 | .Pe k _ c=>List (Zd k×Ib c)
 | .loop _ env _ _=>tyN env
 | .Un q=>q.T
 | .Fq=>ByteArray
def HF.fill:(b:HF)->b.T->UB
 | .dead,_=> .dead
 | .Ee l,t=> .Ee (l.l t)
 | .cells c,l=> .cells c l
 | .deep c,l=> .deep c l
 | .Jg k es,t=> .Jg k (tM es t)
 | .Pe k g c,l=> .Pe k g c l
 | .loop id env st pe,t=> .loop id (sM env t) st pe
 | .Un q,t=> .Un (q.v t)
 | .Fq,s=> .Fq s
def HF.take:(b:HF)->UB->Option b.T
 | .dead=>λx=>match x with| .dead=>some ()|_=>none
 | .Ee l=>λx=>match x with| .Ee row=>l.take (.inr row)|_=>none
 | .cells c=>λx=>match x with| .cells c' l=>if h:c'=c then some (h ▸ l)else none|_=>none
 | .deep c=>λx=>match x with| .deep c' l=>if h:c'=c then some (h ▸ l)else none|_=>none
 | .Jg k es=>λx=>match x with| .Jg k' ie=>if h:k'=k then EG es (h ▸ ie)else none|_=>none
 | .Pe k g c=>λx=>match x with| .Pe k' g' c' l=>if h:k'=k/\g'=g/\c'=c then some (h.1 ▸ h.2.2 ▸ l)else none|_=>none
 | .loop id env st pe=>λx=>match x with| .loop CF On st' pe'=>if CF=id/\gI st' st=true/\pe'=pe then takeN env On else none|_=>none
 | .Un q=>λx=>match x with| .Un y=>q.take (.inl y)|_=>none
 | .Fq=>λx=>match x with| .Fq s=>some s|_=>none
def tyH:List HF->Type
 |[]=>Unit
 |b::l=>b.T×tyH l
def eH:(l:List HF)->tyH l->List UB
 |[],_=>[]
 |b::l,(x,y)=>b.fill x::eH l y
def FG:(l:List HF)->List UB->Option (tyH l)
 |[]=>λe=>match e with|[]=>some ()|_=>none
 |b::l=>λe=>match e with|x::e=>(b.take x).bind λu=>(FG l e).bind λv=>some (u,v)|_=>none
theorem Sk.cI{k:Sk}{x:UV}{t:k.T}(h:k.take (.inl x)=some t):k.v t=x:=by rw[Sk.v,k.vf _ _ h];rfl
theorem Sk.QN{k:Sk}{x:List UV}{t:k.T}(h:k.take (.inr x)=some t):k.l t=x:=by rw[Sk.l,k.vf _ _ h];rfl
theorem Iu:∀(l:List (Nat×SkS))(e:List (Nat×US))(t:tyE l),lA l e=some t->fH l t=e
 |[],e,t,h=>by
  cases e with
  |nil=>rfl
  |cons _ _=>simp[lA]at h
 |(i,.v k)::l,e,t,h=>by
  simp only[lA]at h;split at h
  ·split at h
   ·rename_i e0;subst e0;simp only[aa]at h;obtain⟨u,hu,v,hv,h⟩:=h;injection h with h;subst h
    simp only[fH,Sk.cI hu,Iu l _ v hv]
   ·simp at h
  ·simp at h
 |(i,.loc j c)::l,e,t,h=>by
  simp only[lA]at h;split at h
  ·rename_i i' j' c' e';have h:(if i'=i/\j'=j/\c'=c then lA l e' else none)=some (t:tyE l):=h;split at h
   ·rename_i e0;obtain⟨rfl,rfl,rfl⟩:=e0;show(i',US.loc j' c')::fH l t=_;rw[Iu l _ t h]
   ·simp at h
  ·simp at h
theorem wC:∀(l:List Sk)(e:List (List UV))(t:tyF l),XK l e=some t->zS l t=e
 |[],e,t,h=>by
  cases e with
  |nil=>rfl
  |cons _ _=>simp[XK]at h
 |k::l,e,t,h=>by
  simp only[XK]at h;split at h
  ·simp only[aa]at h;obtain⟨u,hu,v,hv,h⟩:=h;injection h with h;subst h
   simp only[zS,Sk.QN hu,wC l _ v hv]
  ·simp at h
theorem gak{k:KT}{i j:Zd k}(h:NK k i j=true):i=j:=by
 cases k with
 |int k=>exact Fab (a:=i) (b:=j) h
 |str=>cases i;cases j;exact congrArg ByteArray.mk (eq_of_beq (α:=Array UInt8) h)
theorem vC{k:KT}:∀(l:List (Zd k×Sk))(e:List (Zd k×UV))(t:tyM l),EG l e=some t->tM l t=e
 |[],e,t,h=>by
  cases e with
  |nil=>rfl
  |cons _ _=>simp[EG]at h
 |p::l,e,t,h=>by
  simp only[EG]at h;split at h
  ·rename_i i x e;cases he:NK k p.1 i with
   |false=>rw[he]at h;simp at h
   |true=>
    rw[he]at h;simp only[cond_true,aa]at h;obtain⟨u,hu,v,hv,h⟩:=h;injection h with h;subst h
    simp only[tM,Sk.cI hu,vC l _ v hv,gak he]
  ·simp at h
theorem uC:∀(l:List (Nat×Sk))(e:List (Nat×UV))(t:tyN l),takeN l e=some t->sM l t=e
 |[],e,t,h=>by
  cases e with
  |nil=>rfl
  |cons _ _=>simp[takeN]at h
 |p::l,e,t,h=>by
  simp only[takeN]at h;split at h
  ·rename_i i x e;split at h
   ·rename_i he;simp only[aa]at h;obtain⟨u,hu,v,hv,h⟩:=h;injection h with h;subst h
    simp only[sM,Sk.cI hu,uC l _ v hv,he]
   ·simp at h
  ·simp at h
theorem HF.vf:∀(b:HF)(x:UB)(t:b.T),b.take x=some t->b.fill t=x
 | .dead,x,t,h=>by
  simp only[HF.take]at h;split at h
  ·rfl
  ·simp at h
 | .Ee l,x,t,h=>by
  cases x with
  |Ee row=>
   show UB.Ee (l.l t)=_;rw[Sk.QN (x:=row) h]
  |_=>exact(El (α:=l.T) (t:=t) h).elim
 | .cells c,x,t,h=>by
  simp only[HF.take]at h;split at h
  ·split at h
   ·rename_i e;subst e;injection h with h;subst h;rfl
   ·simp at h
  ·simp at h
 | .deep c,x,t,h=>by
  simp only[HF.take]at h;split at h
  ·split at h
   ·rename_i e;subst e;injection h with h;subst h;rfl
   ·simp at h
  ·simp at h
 | .Jg k es,x,t,h=>by
  simp only[HF.take]at h;split at h
  ·rename_i k' ie;have h:(if h:k'=k then EG es (h ▸ ie)else none)=some (t:tyM es):=h;split at h
   ·rename_i e;subst e;show UB.Jg k' (tM es t)=_;rw[vC _ _ _ h]
   ·simp at h
  ·simp at h
 | .Pe k g c,x,t,h=>by
  simp only[HF.take]at h;split at h
  ·split at h
   ·rename_i e;obtain⟨rfl,rfl,rfl⟩:=e;injection h with h;subst h;rfl
   ·simp at h
  ·simp at h
 | .loop id env st pe,x,t,h=>by
  simp only[HF.take]at h;split at h
  ·rename_i CF On st' pe';have h:(if CF=id/\gI st' st=true/\pe'=pe then takeN env On else none)=some (t:tyN env):=h;split at h
   ·rename_i e;obtain⟨rfl,e2,rfl⟩:=e;have:=kV e2;subst this;show UB.loop CF (sM env t) _ pe'=_;rw[uC _ _ _ h]
   ·simp at h
  ·simp at h
 | .Un q,x,t,h=>by
  cases x with
  |Un y=>
   show UB.Un (q.v t)=_;rw[Sk.cI (x:=y) h]
  |_=>exact(El (α:=q.T) (t:=t) h).elim
 | .Fq,x,t,h=>by
  cases x with
  |Fq s=>injection h with h;subst h;rfl
  |_=>exact(El (α:=ByteArray) (t:=t) h).elim
theorem Hu:∀(l:List HF)(e:List UB)(t:tyH l),FG l e=some t->eH l t=e
 |[],e,t,h=>by
  cases e with
  |nil=>rfl
  |cons _ _=>simp[FG]at h
 |b::l,e,t,h=>by
  simp only[FG]at h;split at h
  ·simp only[aa]at h;obtain⟨u,hu,v,hv,h⟩:=h;injection h with h;subst h
   simp only[eH,HF.vf b _ _ hu,Hu l _ v hv]
  ·simp at h
structure fu where
 e:List (Nat×SkS)
 F:List Sk
 bl:List HF
 wm:Nat
 base:Nat
def fu.T(k:fu):Type:=tyE k.e×tyF k.F×tyH k.bl
def fu.fill(k:fu)(t:k.T):St:=⟨fH k.e t.1,zS k.F t.2.1,⟨eH k.bl t.2.2,k.wm⟩,k.base⟩
def fu.take(k:fu)(s:St):Option k.T:=
 if s.H.wm=k.wm/\s.base=k.base then(lA k.e s.e).bind λa=>(XK k.F s.F).bind λb=>(FG k.bl s.H.bl).bind λc=>some (a,b,c)else none
theorem fu.vf{k:fu}{s:St}{t:k.T}(h:k.take s=some t):k.fill t=s:=by
 unfold fu.take at h;split at h
 case isFalse=>simp at h
 rename_i hw;simp only[aa]at h;obtain⟨a,ha,b,hb,c,hc,h⟩:=h;injection h with h;subst h
 simp only[fu.fill,Iu _ _ _ ha,wC _ _ _ hb,Hu _ _ _ hc,<- hw.1,<- hw.2]
structure QK where
 l:Sk
 bl:List HF
 wm:Nat
def QK.T(k:QK):Type:=k.l.T×tyH k.bl
def QK.args(k:QK)(t:k.T):List UV:=k.l.l t.1
def QK.heap(k:QK)(t:k.T):UH:=⟨eH k.bl t.2,k.wm⟩
def QK.take(k:QK)(args:List UV)(H:UH):Option k.T:=
 if H.wm=k.wm then(k.l.take (.inr args)).bind λa=>(FG k.bl H.bl).bind λb=>some (a,b)else none
theorem QK.vf{k:QK}{args:List UV}{H:UH}{t:k.T}(h:k.take args H=some t):k.args t=args/\k.heap t=H:=by
 unfold QK.take at h;split at h
 case isFalse=>simp at h
 rename_i hw;simp only[aa]at h;obtain⟨a,ha,b,hb,h⟩:=h;injection h with h;subst h
 exact⟨Sk.QN ha,by simp only[QK.heap,Hu _ _ _ hb,<- hw]⟩
theorem JX{α β:Type}(b:Bool)(x y:Option α)(k:α->Option β):(cond b x y).bind k=cond b (x.bind k) (y.bind k):=by cases b<;>rfl
theorem C8{α β:Type}(b:Bool)(x:Option α)(k:α->Option β):(ask b x).bind k=ask b (x.bind k):=by cases b<;>rfl
theorem EX{α β γ δ:Type}(e:α ⊕ β)(f:α->Option γ)(g:β->Option γ)(k:γ->Option δ):(e.elim f g).bind k=e.elim (λa=>(f a).bind k) (λa=>(g a).bind k):=by cases e<;>rfl
def R0(ve:TH)(pe:V.Ex->TH):V.Ex->St->Option (St ⊕ (V.Ex×St))
 | .normal,s=>(wq ve s).bind λs=>some (.inl s)
 |ex,s=>(wq (pe ex) s).bind λs=>some (.inr (ex,s))
section
variable [TB:Uv]{rf:Bool}
variable {A:V.Oi}{C:V.Callee}{Na:Nat->Option (List UV)}{Ca:List Nat}{n:Nat}
theorem qO(hg:tf A Na){env:Env}(hc:xd C env.call){c:Code}(hl:∀c'∈loops env.join c,od env.loop (V.code A C rf Ca (mb n) n) c')
  {P T E:Type} {enc:P->T->St} {Qo:P->E->V.Ex×St} {ve:TH} {pe:V.Ex->TH} (VV:Kp n ve) (j_:∀ex,Kp n (pe ex))
  {step:(Y:Type)->P->T->(T->Option Y)->(E->Option Y)->Option Y}
  (nj:∀Y p t ki ke,step Y p t ki ke=(step (T ⊕ E) p t (λt=>some (.inl t)) (λe=>some (.inr e))).bind (Sum.elim ki ke))
  (mj:∀p t,code A Na env Ca n c (enc p t) (R0 ve pe)=step _ p t (λt'=>some (.inl (enc p t'))) (λe=>some (.inr (Qo p e))))
  {BF:(X:Type)->Nat->St->(V.Ex->St->Option X)->Option X}
  (HZ:∀(X:Type)(s:St)(K:V.Ex->St->Option X)(out:X),BF X (Wf c) s K=some out->∃p t e,wq ve s=some (enc p t)/\Ua (λt=>step (T ⊕ E) p t (λt=>some (.inl t)) (λe=>some (.inr e))) t=some e/\K (Qo p e).1 (Qo p e).2=some out):
  od BF (V.code A C rf Ca (mb n) n) (.loop c):=by
 intro X s K out h;obtain⟨p,t,e,h1,h2,h3⟩:=HZ X s K out h;obtain⟨p1,p2,p3⟩:=vk h1 VV;have main:∀(N:Nat)(t:T)(e:E),uA (λt=>step (T ⊕ E) p t (λt=>some (.inl t)) (λe=>some (.inr e))) N t=some e->(Qo p e).2.base=(enc p t).base/\(Qo p e).2.H.wm=(enc p t).H.wm/\∀(m:Mp)(φ:Nat->Option Nat)(sv:V.S),xn m φ (enc p t) (V.clean (mb n) sv)->
   ∃bf m' wh,V.su (λs=>V.code A C rf Ca (mb n) n c (V.clean (mb n) s)) N sv=some ((Qo p e).1,bf)/\xn m' wh (Qo p e).2 bf/\gm (enc p t).base m sv.H m' bf.H:=by
  intro N;induction N with
  |zero=>intro t e h;simp[uA]at h
  |succ N ih=>
   intro t e h;simp only[uA,aa]at h;obtain⟨r,hr,h⟩:=h;have zk:=mj p t;rw[nj,hr]at zk;cases r with
   |inl t'=>
    simp only[da,Sum.elim_inl]at zk;obtain⟨ex,s1,g1,g2⟩:=Tg hg hc hl zk;have hex:ex= .normal/\wq ve s1=some (enc p t'):=by
     cases ex<;>simp[R0,aa]at g1
     exact⟨rfl,g1⟩
    obtain⟨rfl,hpr⟩:=hex;obtain⟨q1,q2,q3⟩:=vk hpr VV;obtain⟨i1,i2,i3⟩:=ih t' e h;refine⟨by rw[i1,q1,g2.1],by rw[i2,q2,g2.2.1],λm φ sv hs=> ?_⟩;obtain⟨jm,m1,NF,e1,e2,e3⟩:=g2.2.2 m φ _ hs;obtain⟨m2,xF,e4,e5⟩:=q3 m1 NF jm _ e2 (.clean n jm);obtain⟨QF,m3,C9,e6,e7,e8⟩:=i3 m2 xF jm e4;rw[g2.1]at e5;rw[q1,g2.1]at e8;refine⟨QF,m3,C9,by simp only[V.su,e1,da];exact e6,e7,?_⟩;exact(e3.trans e5 (ya _)).trans e8 (ya _)
   |inr e'=>
    simp at h;subst h;simp only[da,zi]at zk;obtain⟨ex,s1,g1,g2⟩:=Tg hg hc hl zk;have hex:ex≠ .normal/\(Qo p e').1=ex/\wq (pe ex) s1=some (Qo p e').2:=by
     cases ex<;>simp[R0,aa]at g1
     ·obtain⟨a,ha,hb⟩:=g1;rw[<- hb];exact⟨by simp,rfl,ha⟩
     ·obtain⟨a,ha,hb⟩:=g1;rw[<- hb];exact⟨by simp,rfl,ha⟩
    obtain⟨td,hex,hpr⟩:=hex;obtain⟨q1,q2,q3⟩:=vk hpr (j_ ex);refine⟨by rw[q1,g2.1],by rw[q2,g2.2.1],λm φ sv hs=> ?_⟩;obtain⟨jm,m1,NF,e1,e2,e3⟩:=g2.2.2 m φ _ hs;obtain⟨m2,xF,e4,e5⟩:=q3 m1 NF jm jm e2 (.refl n jm);rw[g2.1]at e5;refine⟨jm,m2,xF,?_,e4,e3.trans e5 (ya _)⟩;rw[hex];simp only[V.su,e1,da]
 obtain⟨i1,i2,i3⟩:=main V.qo t e h2;refine⟨_,_,h3,by rw[i1,p1],by rw[i2,p2],λm φ sv hs=> ?_⟩;obtain⟨m2,xF,e4,e5⟩:=p3 m φ sv _ hs (.clean n sv);obtain⟨QF,m3,C9,e6,e7,e8⟩:=i3 m2 xF sv e4;rw[p1]at e8;exact⟨QF,m3,C9,e6,e7,e5.trans e8 (ya _)⟩
theorem nL(hg:tf A Na){env:Env}(hc:xd C env.call){c:Code}{Nn:Env}(Hg:Nn.call=env.call)
  (hl:∀c'∈loops Nn.join c,od Nn.loop (V.code A C rf Ca (mb n) n) c')
  {P E:Type} {enc:P->St} {Qo:P->E->V.Ex×St} {ve:TH} {pe:V.Ex->TH} (VV:Kp n ve) (j_:∀ex,Kp n (pe ex))
  {step:(Y:Type)->P->(E->Option Y)->Option Y}
  (nj:∀Y p ke,step Y p ke=(step E p (λe=>some e)).bind ke)
  (mj:∀p,code A Na Nn Ca n c (enc p) (λex s=>(wq (pe ex) s).bind λs=>some (ex,s))=step _ p (λe=>some (Qo p e)))
  {BF:(X:Type)->Nat->St->(V.Ex->St->Option X)->Option X}
  (HZ:∀(X:Type)(s:St)(K:V.Ex->St->Option X)(out:X),BF X (keyOf c) s K=some out->∃p e,wq ve s=some (enc p)/\step E p (λe=>some e)=some e/\K (Qo p e).1 (Qo p e).2=some out):
  od BF (V.code A C rf Ca (mb n) n) c:=by
 intro X s K out h;obtain⟨p,e,h1,h2,h3⟩:=HZ X s K out h;obtain⟨p1,p2,p3⟩:=vk h1 VV;have zk:=mj p;rw[nj,h2]at zk;simp only[da]at zk;obtain⟨ex,s1,g1,g2⟩:=Tg hg (by rw[Hg];exact hc) hl zk;simp only[aa,Wc]at g1;obtain⟨s2,hpr,g1⟩:=g1;obtain⟨q1,q2,q3⟩:=vk hpr (j_ ex);rw[<- g1]at h3;refine⟨ex,s2,h3,by rw[q1,g2.1,p1],by rw[q2,g2.2.1,p2],λm φ sv hs=> ?_⟩;obtain⟨m1,NF,e1,e2⟩:=p3 m φ sv sv hs (.refl n sv);obtain⟨jm,m2,xF,e3,e4,e5⟩:=g2.2.2 m1 NF sv e1;obtain⟨m3,C9,e6,e7⟩:=q3 m2 xF jm jm e4 (.refl n jm);rw[p1]at e5;rw[g2.1,p1]at e7;exact⟨jm,m3,C9,e3,e6,(e2.trans e5 (ya _)).trans e7 (ya _)⟩
theorem jL(hg:tf A Na){env:Env}(hc:xd C env.call){Nn:Env}(Hg:Nn.call=env.call){id:Nat}{ks:List Nat}{g:Operand}{ps:Array Tmp}{a b:Code}(EO:TB.rf id=⟨n,ps.toList,a,b⟩)
  {P E:Type} {enc:P->St} {Qo:P->E->V.Ex×St} {ve:TH} {pe:V.Ex->TH} (VV:Kp n ve) (j_:∀ex,Kp n (pe ex))
  {step:(Y:Type)->P->(E->Option Y)->Option Y}
  (nj:∀Y p ke,step Y p ke=(step E p (λe=>some e)).bind ke)
  (mj:∀p,eL A Na Nn id n ks g (enc p) (λex s=>(wq (pe ex) s).bind λs=>some (ex,s))=step _ p (λe=>some (Qo p e)))
  {BF:(X:Type)->Nat->St->(V.Ex->St->Option X)->Option X}
  (HZ:∀(X:Type)(s:St)(K:V.Ex->St->Option X)(out:X),BF X (keyOf (.rangeFunc g ps a b)) s K=some out->∃p e,wq ve s=some (enc p)/\step E p (λe=>some e)=some e/\K (Qo p e).1 (Qo p e).2=some out):
  od BF (V.code A C true Ca (mb n) n) (.rangeFunc g ps a b):=by
 intro X s K out h;obtain⟨p,e,h1,h2,h3⟩:=HZ X s K out h;obtain⟨p1,p2,p3⟩:=vk h1 VV;have zk:=mj p;rw[nj,h2]at zk;simp only[da]at zk;obtain⟨ex,s1,g1,g2⟩:=MY (Ca:=Ca) hg (by rw[Hg];exact hc) EO zk;simp only[aa,Wc]at g1;obtain⟨s2,hpr,g1⟩:=g1;obtain⟨q1,q2,q3⟩:=vk hpr (j_ ex);rw[<- g1]at h3;refine⟨ex,s2,h3,by rw[q1,g2.1,p1],by rw[q2,g2.2.1,p2],λm φ sv hs=> ?_⟩;obtain⟨m1,NF,e1,e2⟩:=p3 m φ sv sv hs (.refl n sv);obtain⟨jm,m2,xF,e3,e4,e5⟩:=g2.2.2 m1 NF sv e1;obtain⟨m3,C9,e6,e7⟩:=q3 m2 xF jm jm e4 (.refl n jm);rw[p1]at e5;rw[g2.1,p1]at e7;exact⟨jm,m3,C9,e3,e6,(e2.trans e5 (ya _)).trans e7 (ya _)⟩
end
end Go.U
namespace Go.U
open Go
theorem n1{α β:Type}(b:Bool)(x y:Option α)(k:α->Option β):(cond b x y).bind k=cond b (x.bind k) (y.bind k):=JX b x y k
theorem n2{α β:Type}(b:Bool)(x:Option α)(k:α->Option β):(ask b x).bind k=ask b (x.bind k):=C8 b x k
theorem n3{α β γ δ:Type}(e:α ⊕ β)(f:α->Option γ)(g:β->Option γ)(k:γ->Option δ):(e.elim f g).bind k=e.elim (λa=>(f a).bind k) (λa=>(g a).bind k):=EX e f g k
theorem n4{α β γ:Type}(x:Option α)(f:α->Option β)(g:β->Option γ):(x.bind f).bind g=x.bind λa=>(f a).bind g:=Option.bind_assoc x f g
theorem n5{α β:Type}(a:α)(f:α->Option β):(some a).bind f=f a:=rfl
theorem n6{α β:Type}(f:α->Option β):(none:Option α).bind f=none:=rfl
theorem n7{α β γ:Type}(f:α->γ)(g:β->γ)(a:α):Sum.elim f g (.inl a)=f a:=rfl
theorem n8{α β γ:Type}(f:α->γ)(g:β->γ)(b:β):Sum.elim f g (.inr b)=g b:=rfl
def tw:List (V.Ex×TH)->V.Ex->TH
 |[],_=>⟨[],[],[],[]⟩
 |(e,p)::l,ex=>if ex=e then p else tw l ex
def ql(n:Nat)(p:TH):Bool:=p.keep.all λt=>decide (t<n)
theorem Jw{n:Nat}{p:TH}(h:ql n p=true):Kp n p:=λt ht=>by
 have:=ec.1 h t ht;simpa using this
theorem nI{n:Nat}:∀{l:List (V.Ex×TH)},(l.all λq=>ql n q.2)=true->∀ex,Kp n (tw l ex)
 |[],_,ex=>λt ht=>by simp[tw]at ht
 |(e,p)::l,h,ex=>by
  simp only[List.all_cons,Ab]at h;unfold tw;split
  ·exact Jw h.1
  ·exact nI h.2 ex
structure LD(P T E:Type) where
 sk:fu
 p:sk.T->P
 t:sk.T->T
 n:P->T->sk.T
 st:(Y:Type)->P->T->(T->Option Y)->(E->Option Y)->Option Y
 o:(Z:Type)->P->E->(V.Ex->St->Z)->Z
 ve:TH
 pe:List (V.Ex×TH)
def LD.m{P T E:Type}(L:LD P T E)(p:P)(t:T):Option (T ⊕ E):=L.st _ p t (λt=>some (.inl t)) (λe=>some (.inr e))
def LD.q{P T E:Type}(L:LD P T E)(X:Type)(s:St)(K:V.Ex->St->Option X):Option X:=
 (wq L.ve s).bind λs=>(L.sk.take s).bind λu=>(Ua (L.m (L.p u)) (L.t u)).bind λe=>L.o _ (L.p u) e K
structure PD(P E:Type) where
 sk:fu
 p:sk.T->P
 st:(Y:Type)->P->(E->Option Y)->Option Y
 o:(Z:Type)->P->E->(V.Ex->St->Z)->Z
 ve:TH
 pe:List (V.Ex×TH)
def PD.m{P E:Type}(L:PD P E)(p:P):Option E:=L.st _ p (λe=>some e)
def PD.q{P E:Type}(L:PD P E)(X:Type)(s:St)(K:V.Ex->St->Option X):Option X:=
 (wq L.ve s).bind λs=>(L.sk.take s).bind λu=>(L.m (L.p u)).bind λe=>L.o _ (L.p u) e K
structure FS(A R:Type) where
 sk:QK
 a:sk.T->A
 o:(Z:Type)->A->R->(UV->UH->Z)->Z
def FS.sp{A R:Type}(S:FS A R)(m:A->Option R):Spec:=λX args H K=>(S.sk.take args H).bind λu=>(m (S.a u)).bind λr=>S.o _ (S.a u) r K
def kv{Z:Type}(K:UV->UH->Z)(k:Sk)(bl:List HF)(w:Nat)(x:k.T)(y:tyH bl):Z:=K ((k.fill x).elim id λ_=> .Dc) ⟨eH bl y,w⟩
def so{Z:Type}(K:V.Ex->St->Z)(ex:V.Ex)(k:fu)(t:k.T):Z:=K ex (k.fill t)
section
variable [TB:Uv]{rf:Bool}
variable {A:V.Oi}{C:V.Callee}{Na:Nat->Option (List UV)}{Ca:List Nat}{n:Nat}
noncomputable abbrev vc(A:V.Oi)(C:V.Callee)(rf:Bool)(Ca:List Nat)(n:Nat):=V.code A C rf Ca (mb n) n
theorem DV(hg:tf A Na){env:Env}(hc:xd C env.call){c:Code}(hl:∀c'∈loops env.join c,od env.loop (vc A C rf Ca n) c'){P T E:Type}(L:LD P T E)
  (hk:(ql n L.ve&&L.pe.all λq=>ql n q.2)=true)
  (nj:∀Y p t ki ke,L.st Y p t ki ke=(L.m p t).bind (Sum.elim ki ke))
  (mj:∀p t,code A Na env Ca n c (L.sk.fill (L.n p t)) (R0 L.ve (tw L.pe))=L.st _ p t (λt=>some (.inl (L.sk.fill (L.n p t)))) (λe=>some (.inr (L.o _ p e Prod.mk))))
  (bM:∀u,L.n (L.p u) (L.t u)=u) (ho:∀Z p e K,L.o Z p e K=K (L.o _ p e Prod.mk).1 (L.o _ p e Prod.mk).2)
  (hq:∀X s K,env.loop X (Wf c) s K=L.q X s K):od env.loop (vc A C rf Ca n) (.loop c):=by
 simp only[Ab]at hk;refine qO hg (env:=env) hc hl (enc:=λp t=>L.sk.fill (L.n p t)) (Qo:=λp e=>L.o _ p e Prod.mk) (ve:=L.ve) (pe:=tw L.pe) (step:=L.st) (Jw hk.1) (nI hk.2) nj mj ?_;intro X s K out h;rw[hq]at h;unfold LD.q at h;obtain⟨s',hs,h⟩:=aa.1 h;obtain⟨u,hu,h⟩:=aa.1 h;obtain⟨e,he,h⟩:=aa.1 h;refine⟨L.p u,L.t u,e,?_,he,(ho _ _ _ _).symm.trans h⟩;rw[hs,bM,fu.vf hu]
theorem HC(hg:tf A Na){env Nn:Env}(hc:xd C env.call)(Hg:Nn.call=env.call){c:Code}(hl:∀c'∈loops Nn.join c,od Nn.loop (vc A C rf Ca n) c'){P E:Type}(L:PD P E)
  (hk:(ql n L.ve&&L.pe.all λq=>ql n q.2)=true)
  (nj:∀Y p ke,L.st Y p ke=(L.m p).bind ke)
  (mj:∀u,code A Na Nn Ca n c (L.sk.fill u) (λex s=>(wq (tw L.pe ex) s).bind λs=>some (ex,s))=L.st _ (L.p u) (λe=>some (L.o _ (L.p u) e Prod.mk)))
  (ho:∀Z p e K,L.o Z p e K=K (L.o _ p e Prod.mk).1 (L.o _ p e Prod.mk).2)
  (hq:∀X s K,env.loop X (keyOf c) s K=L.q X s K):od env.loop (vc A C rf Ca n) c:=by
 simp only[Ab]at hk;refine nL hg (env:=env) (Nn:=Nn) hc Hg hl (enc:=λu=>L.sk.fill u) (Qo:=λu e=>L.o _ (L.p u) e Prod.mk) (ve:=L.ve) (pe:=tw L.pe) (step:=λY u=>L.st Y (L.p u)) (Jw hk.1) (nI hk.2) (λY u=>nj Y (L.p u)) mj ?_;intro X s K out h;rw[hq]at h;unfold PD.q at h;obtain⟨s',hs,h⟩:=aa.1 h;obtain⟨u,hu,h⟩:=aa.1 h;obtain⟨e,he,h⟩:=aa.1 h;refine⟨u,e,?_,he,(ho _ _ _ _).symm.trans h⟩;rw[hs,fu.vf hu]
theorem jO(hg:tf A Na){env Nn:Env}(hc:xd C env.call)(Hg:Nn.call=env.call){id:Nat}{ks:List Nat}{g:Operand}{ps:Array Tmp}{a b:Code}(EO:TB.rf id=⟨n,ps.toList,a,b⟩){P E:Type}(L:PD P E)
  (hk:(ql n L.ve&&L.pe.all λq=>ql n q.2)=true)
  (nj:∀Y p ke,L.st Y p ke=(L.m p).bind ke)
  (mj:∀u,eL A Na Nn id n ks g (L.sk.fill u) (λex s=>(wq (tw L.pe ex) s).bind λs=>some (ex,s))=L.st _ (L.p u) (λe=>some (L.o _ (L.p u) e Prod.mk)))
  (ho:∀Z p e K,L.o Z p e K=K (L.o _ p e Prod.mk).1 (L.o _ p e Prod.mk).2)
  (hq:∀X s K,env.loop X (keyOf (.rangeFunc g ps a b)) s K=L.q X s K):od env.loop (vc A C true Ca n) (.rangeFunc g ps a b):=by
 simp only[Ab]at hk;refine jL hg (env:=env) (Nn:=Nn) hc Hg EO (enc:=λu=>L.sk.fill u) (Qo:=λu e=>L.o _ (L.p u) e Prod.mk) (ve:=L.ve) (pe:=tw L.pe) (step:=λY u=>L.st Y (L.p u)) (Jw hk.1) (nI hk.2) (λY u=>nj Y (L.p u)) mj ?_;intro X s K out h;rw[hq]at h;unfold PD.q at h;obtain⟨s',hs,h⟩:=aa.1 h;obtain⟨u,hu,h⟩:=aa.1 h;obtain⟨e,he,h⟩:=aa.1 h;refine⟨u,e,?_,he,(ho _ _ _ _).symm.trans h⟩;rw[hs,fu.vf hu]
def Ra(l:List (FuncId×Spec)):(X:Type)->UV->List UV->UH->(UV->UH->Option X)->Option X:=λX fv args H K=>GU l X fv args H K
def yK(l ly:List (FuncId×Spec)):(X:Type)->UV->List UV->UH->(UV->UH->Option X)->Option X:=λX fv args H K=>x8 l ly X fv args H K
theorem laf{C:V.Callee}:∀p∈([]:List (FuncId×Spec)),Df C p.1 p.2:=λp h=>by cases h
theorem Z9{C:V.Callee}{f:FuncId}{s:Spec}{l:List (FuncId×Spec)}(h:Df C f s)(hl:∀p∈l,Df C p.1 p.2):∀p∈(f,s)::l,Df C p.1 p.2:=λp hp=>by
 rcases me.1 hp with rfl|hp
 ·exact h
 ·exact hl p hp
theorem Pae{C:V.Callee}:∀p∈([]:List (FuncId×Spec)),Hj C p.2:=λp h=>by cases h
theorem E9{C:V.Callee}{f:FuncId}{s:Spec}{l:List (FuncId×Spec)}(h:Hj C s)(hl:∀p∈l,Hj C p.2):∀p∈(f,s)::l,Hj C p.2:=λp hp=>by
 rcases me.1 hp with rfl|hp
 ·exact h
 ·exact hl p hp
theorem fc{BF:(X:Type)->Nat->St->(V.Ex->St->Option X)->Option X}{Iq:Code->V.S->Option (V.Ex×V.S)}:∀c∈([]:List Code),od BF Iq c:=λp h=>by cases h
theorem Ta{BF:(X:Type)->Nat->St->(V.Ex->St->Option X)->Option X}{Iq:Code->V.S->Option (V.Ex×V.S)}{c:Code}{l:List Code}(h:od BF Iq c)(hl:∀c∈l,od BF Iq c):∀c'∈c::l,od BF Iq c':=λp hp=>by
 rcases me.1 hp with rfl|hp
 ·exact h
 ·exact hl p hp
theorem yL{BF:(X:Type)->Nat->St->(V.Ex->St->Option X)->Option X}{Iq:Code->V.S->Option (V.Ex×V.S)}{l l':List Code}(e:l=l')(h:∀c∈l',od BF Iq c):∀c∈l,od BF Iq c:=λc hc=>h c (e ▸ hc)
theorem H_(hg:tf A Na){env:Env}{k:Nat}(hc:xd (V.call A k) env.call){f:FuncId}{fn:Func}{c:Code}{sh:Sh}{fz:Bool}
  (h1:A.fns f=some fn) (h2:fn.body=some c) (h3:A.ext f=none) (h4:A.loc f=Ca) (h5:A.keep f=mb fn.ntmps) (h6:A.G_ f=fz)
  (hl:∀c'∈loops env.join c,od env.loop (vc A (V.call A k) true Ca fn.ntmps) c') {A' R:Type} (S:FS A' R) {m:A'->Option R}
  {mc:(X:Type)->A'->(R->Option X)->Option X}
  (ue:∀X u K,oM A Na env Ca fn sh fz (S.sk.args u) (S.sk.heap u) K=mc X (S.a u) (λr=>S.o _ (S.a u) r K))
  (nj:∀X a K,mc X a K=(m a).bind K):Df (V.call A (k+1)) f (S.sp m):=by
 refine(Q0 (sh:=sh) (fz:=fz) hg hc (f:=f) (fn:=fn) (c:=c) h3 h1 h2 (Ca:=Ca) h4 h5 h6 hl).imp ?_;intro X args H K out h;unfold FS.sp at h;obtain⟨u,hu,h⟩:=aa.1 h;obtain⟨g1,g2⟩:=QK.vf hu;rw[<- g1,<- g2];rw[ue X u K,nj];exact h
theorem D9(hg:tf A Na){env:Env}{k:Nat}(hc:xd (V.call A k) env.call){id:Nat}{r:RFn}(EO:TB.rf id=r)
  (h1:∀c'∈loops env.join r.assign,od env.loop (vc A (V.call A k) false [] r.n) c') (h2:∀c'∈loops env.join r.body,od env.loop (vc A (V.call A k) false [] r.n) c') {A' R:Type} (S:FS A' R) {m:A'->Option R}
  {mc:(X:Type)->A'->(R->Option X)->Option X}
  (ue:∀X u K,nR A Na env id r (S.sk.args u) (S.sk.heap u) K=mc X (S.a u) (λr=>S.o _ (S.a u) r K))
  (nj:∀X a K,mc X a K=(m a).bind K):Hj (V.call A (k+1)) (S.sp m):=by
 refine(oY hg hc (id:=id) (r:=r) EO h1 h2).imp ?_;intro X args H K out h;unfold FS.sp at h;obtain⟨u,hu,h⟩:=aa.1 h;obtain⟨g1,g2⟩:=QK.vf hu;rw[<- g1,<- g2];rw[ue X u K,nj];exact h
end
end Go.U
