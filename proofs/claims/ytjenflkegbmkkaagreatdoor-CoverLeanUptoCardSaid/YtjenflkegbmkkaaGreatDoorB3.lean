/- A second evaluator, over rows of Lean values, and that it is right over the first. -/
import Derived.Test.YtjenflkegbmkkaaGreatDoorB2
import Derived.KernelRfl
set_option linter.unusedVariables false
set_option linter.unusedSimpArgs false
set_option linter.unusedSectionVars false
open Bool renaming and_eq_true→Na
open List renaming mem_cons→Vb,nodup_append→dA,mem_append→Kk,mem_cons_self→Fc,mem_cons_of_mem→Ib,getElem?_eq_getElem→Aa,getElem?_map→Wb,map_cons→Ld,mem_of_getElem?→Db,range→ua,mem_map→bj,getD_eq_getElem?_getD→Ka,length_map→Oc,getElem?_append_left→La,getElem?_append_right→Qa,getElem?_take→Cb,length_take→Nb,take_length→Hf,all_eq_true→ic,mem_filter→Mg,length_set→Td
open Nat renaming le_refl→va,lt_or_ge→Ub,le_trans→Gb
open Nat.succ renaming inj→yE
open Option renaming map_eq_some_iff→ia,bind_eq_some_iff→aa,bind_some→ga
open Option.some renaming injEq→zc
namespace Go.U
open Go
variable [TB:ZC]
theorem sJ:∀{l:List Nat}{b i k:Nat},pos b l i=some k->∃j,k=i+j/\l[j]?=some b
 |[],b,i,k,h=>by simp[pos]at h
 |x::l,b,i,k,h=>by
  simp only[pos]at h;split at h
  ·rename_i e;simp at h;subst h;subst e;exact⟨0,rfl,rfl⟩
  ·obtain⟨j,h1,h2⟩:=sJ h;exact⟨j+1,by omega,by simpa using h2⟩
theorem RR{l:List Nat}{b k:Nat}(h:pos b l 0=some k):l[k]?=some b:=by
 obtain⟨j,h1,h2⟩:=sJ h;have:k=j:=by omega
 subst this;exact h2
theorem KO:∀{l:List Nat}{b i:Nat},b∈l->∃k,pos b l i=some k
 |[],b,i,h=>by simp at h
 |x::l,b,i,h=>by
  simp only[pos];split
  ·exact⟨i,rfl⟩
  ·rename_i e;rcases Vb.1 h with rfl|h
   ·exact(e rfl).elim
   ·exact KO h
theorem Aj{H:UH}:∀{d:Nat}{w seen:List Nat},seen.Nodup->(reach H d w seen).Nodup
 |0,w,seen,h=>by simpa[reach]using h
 |d+1,[],seen,h=>by simpa[reach]using h
 |d+1,b::w,seen,h=>by
  simp only[reach];split
  ·exact Aj h
  ·rename_i hb;refine Aj (dA.2 ⟨h,by simp,fun x hx y hy=> ?_⟩);simp at hy;subst hy
   rintro rfl
   exact hb (by simpa using hx)
theorem Oo:∀{e:List (Nat×US)}{l:List Nat},l.Nodup->(Vm e l).Nodup
 |[],l,h=>h
 |(_,.loc i _)::e,l,h=>by
  simp only[Vm];refine Oo ?_;split
  ·exact h
  ·rename_i hb;refine dA.2 ⟨h,by simp,fun x hx y hy=> ?_⟩;simp at hy;subst hy
   rintro rfl
   exact hb (by simpa using hx)
 |(_,.v _)::e,l,h=>by simpa[Vm]using Oo h
theorem Au:∀{e:List (Nat×US)}{l:List Nat}{i:Nat},i∈Vm e l->i∈l\/∃t c,(t,US.loc i c)∈e
 |[],l,i,h=> .inl h
 |(t,.loc j c)::e,l,i,h=>by
  simp only[Vm]at h;rcases Au h with h|⟨t',c',h⟩
  ·split at h
   ·exact .inl h
   ·rcases Kk.1 h with h|h
    ·exact .inl h
    ·simp at h;subst h;exact .inr ⟨t,c,Fc ..⟩
  ·exact .inr ⟨t',c',Ib _ h⟩
 |(t,.v _)::e,l,i,h=>by
  simp only[Vm]at h;rcases Au h with h|⟨t',c',h⟩
  ·exact .inl h
  ·exact .inr ⟨t',c',Ib _ h⟩
theorem Bs{l:List Nat}(h:l.Nodup){i j x:Nat}(hi:l[i]?=some x)(hj:l[j]?=some x):i=j:=by
 have h1:=Xa hi;have h2:=Xa hj;rw[Aa h1]at hi;rw[Aa h2]at hj;simp at hi hj;exact(List.getElem_inj h).1 (by rw[hi,hj])
section
variable {m m':Mp}{Hv:V.AH}{φ:Nat->Option Nat}
def Ren(m m':Mp)(φ:Nat->Option Nat):Prop:=∀b b',φ b=some b'->m'.ι b'=m.ι b/\m'.len b'=m.len b/\b'<m'.top
theorem RL.Rj(h:Ren m m' φ)(d:Nat){xs:List UV}{as:List V.AV}(hx:RL m xs as):RL m' (xs.map (U.Rj φ d)) as:=
 ⟨by simp[hx.1],fun i x a h1 h2=>by
  rw[Wb,ia]at h1;obtain⟨y,hy,rfl⟩:=h1;exact RV.Rj h d (hx.2 i y a hy h2)⟩
theorem get_map(g:UV->UV)(hg:g .Sb= .Sb):∀(l:List (Nat×UV))(t:Nat),get ((l.map fun p=>(p.1,g p.2)).map fun p=>(p.1,US.v p.2)) t=match get (l.map fun p=>(p.1,US.v p.2)) t with| .v y=> .v (g y)|x=>x
 |[],t=>by simp[get,hg]
 |(i,x)::l,t=>by
  simp only[Ld,get];split
  ·rfl
  ·exact get_map g hg l t
theorem MR.free{k:KT}(m':Mp):∀{es:List (od k×UV)}{sd:List (V.AV×V.AV)},MR k m es sd->MR k m' es sd
 |[],[],_=>trivial
 |(_,_)::_,(_,_)::_,h=>⟨h.1,h.2.1.mX m' 8 h.2.2.1,h.2.2.1,h.2.2.2.free m'⟩
 |[],_::_,h=>h.elim
 |_::_,[],h=>h.elim
theorem RB.Rj(h:Ren m m' φ){b b':Nat}{y:UB}(hy:RB m Hv b y)(Lp:m'.ι b'=m.ι b)(hl:m'.len b'=m.len b):RB m' Hv b' (yu φ y):=by
 cases y with
 |dead=>trivial
 |Za row=>
  obtain⟨x,Jb,ty,h1,h2,h3⟩:=hy;exact⟨x,Jb,ty,by rw[Lp];exact h1,h2,h3.Rj h 8⟩
 |Mm q=>
  obtain⟨x,p,q',h1,h2,h3,h4,h5⟩:=hy;exact⟨x,p,q',by rw[Lp];exact h1,h2,h3,RV.Rj h 8 h4,h5⟩
 |Rp s=>
  obtain⟨h1,h2⟩:=hy;refine⟨by rw[hl];exact h1,?_⟩;rcases h2 with⟨h2,h3⟩|⟨x,h2,h3,h4⟩
  ·exact .inl ⟨h2,by rw[Lp];exact h3⟩
  ·exact .inr ⟨x,by rw[Lp];exact h2,h3,h4⟩
 |cells c l=>
  obtain⟨h1,h2⟩:=hy;refine⟨by rw[hl];exact h1,?_⟩;rcases h2 with⟨h2,h3⟩|⟨x,rows,ty,h2,h3,h4,h5,h6,h7⟩
  ·exact .inl ⟨h2,by rw[Lp];exact h3⟩
  ·exact .inr ⟨x,rows,ty,by rw[Lp];exact h2,h3,h4,h5,h6,fun i row c y a k0 k1 k2 k3=>(h7 i row c y a k0 k1 k2 k3).free m' 8 ((h5 i k0).2 y (Db k2))⟩
 |deep c l=>
  obtain⟨h1,h0,h2⟩:=hy;refine⟨by rw[hl];exact h1,fun r=>by rw[hl,Lp];exact h0 r,?_⟩;rcases h2 with⟨h2,h3⟩|⟨x,rows,ty,h2,h3,h4,h5⟩
  ·exact .inl ⟨h2,by rw[Lp];exact h3⟩
  ·refine .inr ⟨x,rows,ty,by rw[Lp];exact h2,h3,h4,fun r hr=> ?_⟩;obtain⟨a,k1,k2⟩:=h5 r hr;rw[Lp];exact⟨a,k1,k2.keep (fun _ _ hc h=>h.free m' 8 hc) fun _ _=>rfl⟩
 |uk k es=>
  obtain⟨x,sd,h1,h2,h3⟩:=hy;exact⟨x,sd,by rw[Lp];exact h1,h2,h3.free m'⟩
 |vh k g c l=>
  obtain⟨x,sd,h1,h2,h3⟩:=hy;exact⟨x,sd,by rw[Lp];exact h1,h2,h3.free m'⟩
 |loop id env st pe=>
  obtain⟨x,pn,h1,h2,h3⟩:=hy;refine⟨x,pn,by rw[Lp];exact h1,h2,fun t=> ?_⟩;have h4:=h3 t;unfold Ce at h4 ⊢;rw[get_map (U.Rj φ 8) rfl env t]
  revert h4
  cases get (env.map fun p=>(p.1,US.v p.2)) t with
  |loc i c=>exact fun h=>h.elim
  |v y=>
   cases V.get (V.Ce pn) t with
   |loc i c=>exact fun h=>h.elim
   |v a=>exact fun hr=>RV.Rj h 8 hr
theorem gF(φ:Nat->Option Nat)(y:UB):Xd (yu φ y)=Xd y:=by cases y<;>rfl
theorem WB(g:Nat->US):∀(keep:List Nat)(t:Nat),get (keep.map fun i=>(i,g i)) t=if t∈keep then g t else .v .Sb
 |[],t=>by simp[get]
 |i::l,t=>by
  simp only[Ld,get,WB g l t];by_cases e:t=i
  ·subst e;simp
  ·simp[e]
def Alike(n:Nat)(sv xe:V.S):Prop:=xe.H=sv.H/\xe.F=sv.F/\∀t,t<n->V.get xe.e t=V.get sv.e t
theorem Alike.refl(n:Nat)(sv:V.S):Alike n sv sv:=⟨rfl,rfl,fun _ _=>rfl⟩
theorem CE(g:Nat->V.SV):∀(keep:List Nat)(t:Nat),V.get (keep.map fun i=>(i,g i)) t=if t∈keep then g t else .v .Sb
 |[],t=>by simp[V.get]
 |i::l,t=>by
  simp only[Ld,V.get,CE g l t];by_cases e:t=i
  ·subst e;simp
  ·simp[e]
theorem Alike.clean(n:Nat)(sv:V.S):Alike n sv (V.clean (ua n) sv):=⟨rfl,rfl,fun t ht=>by
 simp only[V.clean];rw[CE,if_pos (by simpa using ht)]⟩
theorem RS.Rj{ψ χ:Nat->Option Nat}{Pg:Nat->Option Nat}(h:Ren m m' χ)(hp:∀i i' j,ψ i=some i'->φ i=some j->Pg i'=some j){x:US}{a:V.SV}(hx:RS m φ x a):RS m' Pg (OR χ ψ x) a:=by
 cases x with
 |v y=>
  by_cases hy:y= .Sb
  ·subst hy;exact trivial
  ·obtain⟨a,rfl,hr⟩:=hx.val hy;exact(RV.Rj h 8 hr).rs
 |loc i c=>
  cases a with
  |v a=>exact hx.elim
  |loc j c'=>
   simp only[OR];split
   ·rename_i i' hi;exact⟨hp i i' j hi hx.1,hx.2⟩
   ·exact trivial
theorem Km{n:Nat}{keep:List Nat}{s:St}{sv xe:V.S}(hk:∀t∈keep,t<n)(hs:Om m φ s sv)(hw:s.H.wm<=s.base)(ha:Alike n sv xe):
  ∃m' Pg,Om m' Pg (compact keep s) xe/\Yj s.base m sv.H m' sv.H:=by
 obtain⟨a1,a2,a3⟩:=ha
 let e:=keep.map fun i=>(i,get s.e i)
 let fs:=Vm e []
 let rows:=fs.map fun i=>s.F.getD i []
 let bs:=ua s.base++(reach s.H 64 (ua s.base++(e.flatMap fun p=>Uaf p.2)++rows.flatMap fun row=>row.flatMap (ids 8)) []).filter (fun b=>decide (s.base<=b))
 let χ:=fun b=>pos b bs 0
 let ψ:=fun i=>pos i fs 0
 have H9:bs.Nodup:=by
  refine dA.2 ⟨List.nodup_range,(Aj List.nodup_nil).filter _,fun x hx y hy=> ?_⟩;simp at hx hy;omega
 have hfs:fs.Nodup:=Oo List.nodup_nil
 let m':Mp:={ ι:=fun b s=>(bs[b]?).bind fun c=>m.ι c s,len:=fun b=>m.len (bs.getD b 0),top:=bs.length }
 let Pg:Nat->Option Nat:=fun i=>(fs[i]?).bind φ
 have GM:Ren m m' χ:=fun b b' hb=>by
  have:=RR hb;exact⟨by simp[m',this],by simp[m',this],Xa this⟩
 have Uag:∀i,i∈fs->∃j,φ i=some j:=fun i hi=>by
  rcases Au hi with h|⟨t,c,h⟩
  ·simp at h
  ·obtain⟨i',FL,he⟩:=bj.1 h;simp only[Prod.mk.injEq]at he;have:=hs.e t;rw[he.1]at he;rw[he.2]at this;cases hv:V.get sv.e t with
   |v a=>rw[hv]at this;exact this.elim
   |loc j c'=>rw[hv]at this;exact⟨j,this.1⟩
 have hblk:∀b' y,(bs.map fun b=>yu χ (s.H.bl.getD b .dead))[b']?=some y->∃b,bs[b']?=some b/\y=yu χ (s.H.bl.getD b .dead):=fun b' y hy=>by
  rw[Wb,ia]at hy;obtain⟨b,h1,h2⟩:=hy;exact⟨b,h1,h2.symm⟩
 have Yd:∀b',live (compact keep s).H b'->∃b,bs[b']?=some b/\live s.H b:=fun b'⟨y,hy,hl⟩=>by
  obtain⟨b,h1,rfl⟩:=hblk b' y hy;rw[gF]at hl;refine⟨b,h1,?_⟩;rw[Ka]at hl;cases h2:s.H.bl[b]? with
  |none=>rw[h2]at hl;simp[Xd]at hl
  |some y=>rw[h2]at hl;exact⟨y,h2,hl⟩
 have Su:(compact keep s).H.bl=bs.map fun b=>yu χ (s.H.bl.getD b .dead):=rfl
 have hlen:(compact keep s).H.bl.length=bs.length:=by rw[Su,Oc]
 have hF:(compact keep s).F=fs.map fun i=>(s.F.getD i []).map (Rj χ 8):=List.map_map
 have KW:∀b,b<s.base->bs[b]?=some b:=fun b hb=>by
  simp only[bs];rw[La (by simpa using hb)];simp[hb]
 refine⟨m',Pg,⟨⟨fun b _ x hb=> ?_,fun b' y hy=> ?_,fun b1 b2 _ _ x l1 l2 e1 e2=> ?_,fun b _ x hb mF=> ?_,by rw[a1];exact hs.h.top,by rw[hlen]⟩,⟨fun i j jD=> ?_,fun i row hi=> ?_,fun i i' j h1 h2=> ?_⟩,fun t=> ?_,?_⟩,⟨⟨?_,fun b hb=> ?_⟩,fun _ _ _=>rfl,fun b s0 x hb=> ?_,va _,rfl⟩⟩
 ·simp only[m',aa]at hb;obtain⟨b0,h1,h2⟩:=hb;have:=(hs.h.He b0 x h2).2;have h3:=Xa h1;refine⟨by rw[hlen];exact h3,by rw[a1];exact this⟩
 ·obtain⟨b,h1,rfl⟩:=hblk b' y hy;have Lp:m'.ι b'=m.ι b:=by simp[m',h1]
  have hl:m'.len b'=m.len b:=by simp[m',h1]
  rw[Ka];cases h2:s.H.bl[b]? with
  |none=>trivial
  |some y=>exact RB.Rj GM ((hs.h.Tc b y h2).bl (by rw[a1])) Lp hl
 ·obtain⟨c1,h1,h2⟩:=Yd b1 l1;obtain⟨c2,h3,h4⟩:=Yd b2 l2;simp only[m',h1,ga]at e1;simp only[m',h3,ga]at e2;obtain⟨this,h5⟩:=hs.h.Pn c1 c2 x h2 h4 e1 e2;subst this;exact⟨Bs H9 h1 h3,h5⟩
 ·simp only[m',aa]at hb;obtain⟨b0,h1,h2⟩:=hb;rw[a1];refine hs.h.wm b0 x h2 ?_;have Yaa:s.H.wm<=b:=mF;rcases Ub b s.base with tc|eu
  ·rw[KW b tc]at h1;simp at h1;subst h1;exact Yaa
  ·simp only[bs]at h1;rw[Qa (by simpa using eu)]at h1;have:=Db h1;simp at this;omega
 ·simp only[Pg,aa]at jD;obtain⟨i0,h1,h2⟩:=jD;have:=(hs.f.He i0 j h2).2;have h3:=Xa h1;refine⟨?_,by rw[a2];exact this⟩;have:(compact keep s).F=fs.map fun i=>(s.F.getD i []).map (Rj χ 8):=hF
  rw[this,Oc];exact h3
 ·have FL:(fs.map fun i=>(s.F.getD i []).map (Rj χ 8))[i]?=some row:=by
   rw[hF]at hi;exact hi
  rw[Wb,ia]at FL;obtain⟨i0,h1,h2⟩:=FL;obtain⟨j,hj⟩:=Uag i0 (Db h1);have tc:=(hs.f.He i0 j hj).1;have y6:=Aa tc;obtain⟨j',Jb,k1,k2,k3⟩:=hs.f.row i0 _ y6;rw[hj]at k1;simp at k1;subst k1;refine⟨j,Jb,by simp[Pg,h1,hj],by rw[a2];exact k2,?_⟩;rw[<- h2,Ka,y6];exact k3.Rj GM 8
 ·simp only[Pg,aa]at h1 h2;obtain⟨i0,k1,k2⟩:=h1;obtain⟨i1,k3,k4⟩:=h2;have:=hs.f.inj i0 i1 j k2 k4;subst this;exact Bs hfs k1 k3
 ·have he:get (compact keep s).e t=if t∈keep then OR χ ψ (get s.e t)else .v .Sb:=by
   have:(compact keep s).e=keep.map fun i=>(i,OR χ ψ (get s.e i)):=List.map_map
   rw[this];exact WB _ keep t
  rw[he];split
  ·rename_i ht;rw[a3 t (hk t ht)];refine RS.Rj GM (fun i i' j h1 h2=> ?_) (hs.e t);have:=RR h1;simp[Pg,this,h2]
  ·exact trivial
 ·rw[hlen];show s.base<=bs.length;simp[bs]
 ·simp[m',bs]
 ·have:=KW b hb;exact⟨by simp[m',this],by simp[m',this]⟩
 ·simp only[m',aa]at hb;obtain⟨b0,h1,h2⟩:=hb;exact .inl ⟨b0,s0,h2⟩
end
end Go.U
namespace Go.U
open Go
variable [TB:ZC]{rf:Bool}
section
variable {φ:Nat->Option Nat}{Hv:V.AH}
theorem Dn{f:Sh->UV->UH->Option (UV×UH)}(hf:∀sh x H x' H',f sh x H=some (x',H')->∀m,RH m H Hv->Mo m H H' Hv fun m'=>∀a,RV m x a->RV m' x' a):
  ∀{Ru:List Sh}{xs:List UV}{H:UH}{l:List UV}{H':UH},pg.Uh f Ru xs H=some (l,H')->∀m,RH m H Hv->Mo m H H' Hv fun m'=>∀ as,RL m xs as->RL m' l as
 |[],[],H,l,H',h,m,hh=>by
  simp[pg.Uh]at h;obtain⟨rfl,rfl⟩:=h;exact .same hh fun as h=>h
 |s::ss,x::xs,H,l,H',h,m,hh=>by
  simp only[pg.Uh,aa]at h;obtain⟨⟨x',H1⟩,h1,⟨kq,H2⟩,h2,h⟩:=h;simp at h;obtain⟨rfl,rfl⟩:=h;refine(hf _ _ _ _ _ h1 m hh).trans fun m1 oF hle hp=>(Dn hf h2 m1 oF).imp fun m2 MM hq as ha=> ?_
  cases as with
  |nil=>have:=ha.1;simp at this
  |cons a as=>
   have h0:=(hp a (ha.2 0 x a rfl rfl)).mono MM;have hr:RL m xs as:=⟨by have:=ha.1;simpa using this,fun i y b k1 k2=>ha.2 (i+1) y b (by simpa using k1) (by simpa using k2)⟩;exact .cons h0 (hq as (hr.mono hle))
 |[],_::_,H,l,H',h,m,hh=>by simp[pg.Uh]at h
 |_::_,[],H,l,H',h,m,hh=>by simp[pg.Uh]at h
theorem kL{m:Mp}{k:KT}{g:Bool}{c:CT}:∀{es:List (od k×UV)}{l:List (od k×Fb c)}{sd:List (V.AV×V.AV)},Z2 g c es=some l->MR k m es sd->MR k m (ak g c l) sd
 |[],l,sd,h,hm=>by simp[Z2]at h;subst h;exact hm
 |(i,x)::es,l,sd,h,hm=>by
  simp only[Z2,aa]at h;obtain⟨y,hy,l',hl,h⟩:=h;simp at h;subst h;cases sd with
  |nil=>exact hm.elim
  |cons p sd=>
   obtain⟨h1,h2,h3,h4⟩:=hm;obtain⟨d1,d2⟩:=jL hy;exact⟨h1,d2 m _ h2,d1,kL hl h4⟩
theorem bF{m:Mp}{H:UH}(hh:RH m H Hv)(c:CT):Mo m H (push H (.deep c [])) Hv fun m'=>∀a,a= .Ya\/a= .Pd->RV m' (.all H.bl.length) a:=by
 have hp:=hh.push (Lc:=Hv) (y:= .deep c []) (x:=none) (n:=0) (fun _ _ _ _ _=>rfl) (va _) rfl (fun xv e=>by simp at e) ⟨yd _ _ _ _,fun r=>⟨by rw[Mp.add,Gr];rfl,fun _=>by rw[Mp.add,mh];rfl⟩,.inl ⟨rfl,ae _ _ _ _⟩⟩;refine⟨rfl,_,hp.1,hp.2,⟨Kg hh _ _,fun _ _ _=>rfl,fun b _ xv hb=> ?_,va _,rfl⟩,fun a h=> .Wf _ _ (by simp[Mp.add,Mp.Zi]) (yd _ _ _ _) h⟩;by_cases e:b=H.bl.length
 ·subst e;obtain⟨_,e⟩:=Ti hb;simp at e
 ·rw[Cf _ _ _ e]at hb;exact .inl ⟨b,_,hb⟩
theorem AJ{m:Mp}{H:UH}(hh:RH m H Hv)(c:CT):Mo m H (push H (.cells c [])) Hv fun m'=>∀a,a= .Ya\/a= .Pd->RV m' (.sl H.bl.length 0 0) a:=
 (Av hh c).imp fun _ _ _ a h=> .Vt _ _ _ h
theorem zB{m:Mp}{H H':UH}{b n:Nat}{c:CT}{x':UV} (h:(match H.bl[b]? with
  |some (.cells c' l)=>if c'=c/\H.wm<=b then some (UV.all H.bl.length,push (Sa H b .dead) (.cells c' (l.take n)))else none
  |_=>none)=some (x',H')) (hh:RH m H Hv):Mo m H H' Hv fun m'=>∀a,RV m (.sl b 0 n) a->RV m' x' a:=by
 split at h
 case h_2=>simp at h
 rename_i c' l hb;split at h
 case isFalse=>simp at h
 rename_i hc;simp at h;obtain⟨rfl,rfl⟩:=h;have Yd:live H b:=⟨_,hb,rfl⟩;have hk:=hh.kill b;have hlen:(Sa H b .dead).bl.length=H.bl.length:=by simp[Sa]
 have Wj:∀{b'},live (Sa H b .dead) b'->b'≠b/\live H b':=fun h=>by
  rcases qg h with⟨_,h'⟩|h'
  ·simp[Xd]at h'
  ·exact h'
 obtain⟨kb,kx⟩:=yc (s:=⟨[],[],H,0⟩) (sv:=⟨[],[],Hv⟩) hh hb;have hrb:RB (m.add (Sa H b .dead).bl.length (m.ι b 0) (l.take n).length) Hv (Sa H b .dead).bl.length (.cells c' (l.take n)):=by
  refine⟨yd _ _ _ _,?_⟩;rw[ae];cases hx:m.ι b 0 with
  |none=>
   have:=hh.Tc b _ hb;rcases this.2 with⟨h0,_⟩|⟨x,rows,_,h1,_⟩
   ·exact .inl ⟨by simp[h0],rfl⟩
   ·rw[hx]at h1;simp at h1
  |some x=>
   obtain⟨rows,ty,k2,k3,k4⟩:=kx x hx;refine .inr ⟨x,rows,ty,rfl,k2,by simp;omega,fun i _=>⟨Af _ _ _,Vd _ _ _⟩,fun i row hi hr=> ?_,fun i row k y a hi hr h1 h2=> ?_⟩
   ·exact k4.2.1 i row (by simp at hi;omega) hr
   ·have e:vw c' (l.take n) i=vw c' l i:=by
     simp only[vw,Ka,Cb];rw[if_pos (by simp at hi;omega)]
    rw[e]at h1;exact(k4.2.2 i row k y a (by simp at hi;omega) hr h1 h2).free _ 8 (Vd _ _ _ y (Db h1))
 have hp:=hk.push (Lc:=Hv) (fun _ _ _ _ _=>rfl) (va _) rfl (fun xv e=>⟨(hh.He b xv e).2,hh.wm b xv e hc.2,fun b' s' Zf e'=>(Wj Zf).1 (hh.inj b' b xv (Wj Zf).2 Yd e' e)⟩) hrb;rw[hlen]at hp;refine⟨rfl,_,hp.1,hp.2,⟨by have:=Kg hk;simpa only[hlen]using this _ _,fun _ _ _=>rfl,fun b' _ xv ud=> ?_,va _,rfl⟩,fun a ha=> ?_⟩
 ·by_cases e:b'=H.bl.length
  ·subst e;obtain⟨_,e⟩:=Ti ud;exact .inl ⟨b,_,e⟩
  ·rw[Cf _ _ _ e]at ud;exact .inl ⟨b',_,ud⟩
 ·cases ha with
  |sl _ _ _ x hx hle=>
   have:=RV.all (m:=m.add H.bl.length (m.ι b 0) (l.take n).length) H.bl.length x (by rw[ae];exact hx);have hk0:m.len b 0=l.length:=kb;rw[yd,Nb,Nat.min_eq_left (by omega)]at this;rw[Nb,Nat.min_eq_left (by omega)];exact this
  |Vt _ _ _ ha=>exact .Wf _ _ (by simp[Mp.add,Mp.Zi]) (by rw[yd];simp) ha
theorem ZR{m:Mp}{H H':UH}{b:Nat}{c:CT}{x':UV} (h:(match H.bl[b]? with
  |some (.cells c' l)=>if c'=c/\H.wm<=b then some (UV.all H.bl.length,push (Sa H b .dead) (.cells c' l))else none
  |_=>none)=some (x',H')) (hh:RH m H Hv):Mo m H H' Hv fun m'=>∀a,RV m (.all b) a->RV m' x' a:=by
 cases hb:H.bl[b]? with
 |none=>rw[hb]at h;simp at h
 |some y=>
  rw[hb]at h;cases y with
  |cells c' l=>
   obtain⟨k0,_⟩:=yc (s:=⟨[],[],H,0⟩) (sv:=⟨[],[],Hv⟩) hh hb;refine(zB (n:=l.length) (c:=c) (b:=b) (x':=x') (H':=H') (by rw[hb];simpa[Hf]using h) hh).imp fun m' _ hp a ha=>hp a ?_
   cases ha with
   |all _ x hx=>rw[k0];exact .sl _ 0 _ x hx (by omega)
   |Wf _ _ _ hl ha=>
    have:l.length=0:=by omega
    rw[this];exact .Vt _ 0 _ ha
  |_=>simp at h
theorem En:∀(d:Nat)(sh:Sh)(x:UV)(H:UH)(x':UV)(H':UH),pg d false sh x H=some (x',H')->∀m,RH m H Hv->Mo m H H' Hv fun m'=>∀a,RV m x a->RV m' x' a
 |0,sh,x,H,x',H',h,m,hh=>by simp[pg]at h
 |d+1,sh,x,H,x',H',h,m,hh=>by
  unfold pg at h;split at h
  ·rename_i e;exact absurd e (by omega)
  ·simp at h;obtain⟨rfl,rfl⟩:=h;exact .same hh fun a h=>h
  ·simp at h;obtain⟨rfl,rfl⟩:=h;exact .same hh fun a h=> .Sb a
  ·simp at h;obtain⟨rfl,rfl⟩:=h;exact .same hh fun a h=>by cases h;exact .ri _ _ (.inl rfl)
  ·simp at h;obtain⟨rfl,rfl⟩:=h;exact .same hh fun a h=>by cases h;exact .ri _ _ (.inr rfl)
  ·simp at h
  ·simp at h
  ·simp at h;obtain⟨rfl,rfl⟩:=h;exact .same hh fun a h=>h
  ·simp at h;obtain⟨rfl,rfl⟩:=h;exact(Av hh _).imp fun m1 _ hp a h=>by cases h;exact hp _ (.inl rfl)
  ·simp at h;obtain⟨rfl,rfl⟩:=h;exact(Av hh _).imp fun m1 _ hp a h=>by cases h;exact hp _ (.inr rfl)
  ·exact zB h hh
  ·simp at h;obtain⟨rfl,rfl⟩:=h;exact(AJ hh _).imp fun m1 _ hp a h=>by cases h;exact hp _ (.inl rfl)
  ·simp at h;obtain⟨rfl,rfl⟩:=h;exact(AJ hh _).imp fun m1 _ hp a h=>by cases h;exact hp _ (.inr rfl)
  ·simp at h;obtain⟨rfl,rfl⟩:=h;exact .same hh fun a h=>h
  ·split at h
   case h_2=>simp at h
   rename_i c l hb;simp at h;obtain⟨rfl,rfl⟩:=h;obtain⟨k0,_⟩:=yc (s:=⟨[],[],_,0⟩) (sv:=⟨[],[],Hv⟩) hh hb;refine .same hh fun a h=> ?_
   cases h with
   |all _ x hx=>rw[k0];exact .sl _ 0 _ x hx (by omega)
   |Wf _ _ _ hl ha=>
    have:l.length=0:=by omega
    rw[this];exact .Vt _ 0 _ ha
  ·simp at h;obtain⟨rfl,rfl⟩:=h;exact .same hh fun a h=>h
  ·simp at h;obtain⟨rfl,rfl⟩:=h;exact(bF hh _).imp fun m1 _ hp a h=>by cases h;exact hp _ (.inl rfl)
  ·simp at h;obtain⟨rfl,rfl⟩:=h;exact(bF hh _).imp fun m1 _ hp a h=>by cases h;exact hp _ (.inr rfl)
  ·simp at h;obtain⟨rfl,rfl⟩:=h;exact .same hh fun a h=>h
  ·exact ZR h hh
  ·split at h
   ·rename_i k' es hb;split at h
    case isFalse=>simp at h
    rename_i hk;subst hk;simp only[aa]at h;obtain⟨l,hl,h⟩:=h;simp at h;obtain⟨rfl,rfl⟩:=h;refine⟨rfl,m,hh.paa ⟨_,hb,rfl⟩ ?_,.refl m,.refl Hv (va _),fun a h=>h⟩;obtain⟨x,sd,k1,k2,k3⟩:=hh.Tc _ _ hb;exact⟨x,sd,k1,k2,kL hl k3⟩
   ·simp at h;obtain⟨rfl,rfl⟩:=h;exact .same hh fun a h=>h
   ·simp at h
  ·simp only[ia]at h;obtain⟨⟨l,H1⟩,h1,h⟩:=h;simp at h;obtain⟨rfl,rfl⟩:=h;refine(Dn (fun sh x H x' H' h m hh=>En _ sh x H x' H' h m hh) h1 m hh).imp fun m1 hle hp a ha=> ?_
   cases ha with
   |agg _ as hl hr=>have:=hp as ⟨hl,hr⟩;exact .agg _ _ this.1 this.2
  ·simp only[ia]at h;obtain⟨⟨l,H1⟩,h1,h⟩:=h;simp at h;obtain⟨rfl,rfl⟩:=h;refine(Dn (fun sh x H x' H' h m hh=>En _ sh x H x' H' h m hh) h1 m hh).imp fun m1 hle hp a ha=> ?_
   cases ha with
   |Qc _ as hl hr=>have:=hp as ⟨hl,hr⟩;exact .Qc _ _ this.1 this.2
  ·simp at h
theorem aS{d:Nat}{fz:Bool}{sh:Sh}{H H':UH}{x':UV}(h:pg d fz sh .Sb H=some (x',H')):x'= .Sb/\H'=H:=by
 cases d with
 |zero=>simp[pg]at h
 |succ d=>cases sh<;>simp[pg]at h<;>exact⟨h.1.symm,h.2.symm⟩
theorem Qx{Ru:List (Nat×Sh)}:∀{e:List (Nat×US)}{H:UH}{e':List (Nat×US)}{H':UH},zq Ru e H=some (e',H')->∀m,RH m H Hv->Mo m H H' Hv fun m'=>∀t vv,RS m φ (get e t) vv->RS m' φ (get e' t) vv
 |[],H,e',H',h,m,hh=>by
  simp[zq]at h;obtain⟨rfl,rfl⟩:=h;exact .same hh fun t vv h=>h
 |(i,.v x)::e,H,e',H',h,m,hh=>by
  simp only[zq,aa]at h;obtain⟨⟨x',H1⟩,h1,⟨e1,H2⟩,h2,h⟩:=h;simp at h;obtain⟨rfl,rfl⟩:=h;have key:Mo m H H1 Hv fun m'=>∀vv,RS m φ (.v x) vv->RS m' φ (.v x') vv:=by
   split at h1
   ·rename_i sh _;by_cases hx:x= .Sb
    ·subst hx;obtain⟨rfl,rfl⟩:=aS h1;exact .same hh fun vv h=>h
    ·refine(En _ _ _ _ _ _ h1 m hh).imp fun m1 _ hp vv hv=> ?_
     obtain⟨a,rfl,hr⟩:=hv.val hx;exact(hp a hr).rs
   ·simp at h1;obtain⟨rfl,rfl⟩:=h1;exact .same hh fun vv h=>h
  refine key.trans fun m1 oF hle hp=>(Qx h2 m1 oF).imp fun m2 MM hq t vv ht=> ?_
  simp only[get]at ht ⊢;split at ht
  ·rename_i e;rw[if_pos e];exact(hp vv ht).mono MM (.refl φ)
  ·rename_i e;rw[if_neg e];exact hq t vv (ht.mono hle (.refl φ))
 |(i,.loc j c)::e,H,e',H',h,m,hh=>by
  simp only[zq,aa]at h;obtain⟨⟨e1,H2⟩,h2,h⟩:=h;simp at h;obtain⟨rfl,rfl⟩:=h;refine(Qx h2 m hh).imp fun m2 MM hq t vv ht=> ?_
  simp only[get]at ht ⊢;split at ht
  ·rename_i e;rw[if_pos e];exact ht.mono MM (.refl φ)
  ·rename_i e;rw[if_neg e];exact hq t vv ht
theorem cF{Ru:List (Nat×List Sh)}:∀{i:Nat}{F:List (List UV)}{H:UH}{F':List (List UV)}{H':UH},Xy Ru i F H=some (F',H')->∀m,RH m H Hv->Mo m H H' Hv fun m'=>F'.length=F.length/\∀(k:Nat)(Jb:List UV),F'[k]?=some Jb->∃row:List UV,F[k]?=some row/\∀ as,RL m row as->RL m' Jb as
 |i,[],H,F',H',h,m,hh=>by
  simp[Xy]at h;obtain⟨rfl,rfl⟩:=h;exact .same hh ⟨rfl,fun k Jb h=>by simp at h⟩
 |i,row::F,H,F',H',h,m,hh=>by
  simp only[Xy,aa]at h;obtain⟨⟨zf,H1⟩,h1,⟨F1,H2⟩,h2,h⟩:=h;simp at h;obtain⟨rfl,rfl⟩:=h;have key:Mo m H H1 Hv fun m'=>∀ as,RL m row as->RL m' zf as:=by
   unfold lW at h1;split at h1
   ·exact Dn (fun sh x H x' H' h m hh=>En _ sh x H x' H' h m hh) h1 m hh
   ·simp at h1;obtain⟨rfl,rfl⟩:=h1;exact .same hh fun as h=>h
  refine key.trans fun m1 oF hle hp=>(cF h2 m1 oF).imp fun m2 MM hq=>⟨by simp[hq.1],fun k Jb hk=> ?_⟩
  cases k with
  |zero=>simp at hk;subst hk;exact⟨row,rfl,fun as ha=>(hp as ha).mono MM⟩
  |succ k=>
   obtain⟨r,k1,k2⟩:=hq.2 k Jb (by simpa using hk);exact⟨r,by simpa using k1,fun as ha=>k2 as (ha.mono hle)⟩
theorem dF:∀{l:List (Nat×List Sh)}{H H':UH},Yy l H=some H'->∀m,RH m H Hv->Mo m H H' Hv fun _=>True
 |[],H,H',h,m,hh=>by
  simp[Yy]at h;subst h;exact .same hh trivial
 |(b,Ru)::l,H,H',h,m,hh=>by
  simp only[Yy]at h;split at h
  case h_2=>simp at h
  rename_i row hb;simp only[aa]at h;obtain⟨⟨zf,H1⟩,h1,h⟩:=h;simp only at h;split at h
  case h_2=>simp at h
  rename_i Yk HD;obtain⟨x,Aaf,ty,k1,k2,k3⟩:=hh.Tc b _ hb;refine(Dn (fun sh x H x' H' h m hh=>En _ sh x H x' H' h m hh) h1 m hh).trans fun m1 oF hle hp=> ?_
  have ht:RH m1 (Sa H1 b (.Za zf)) Hv:=oF.paa ⟨_,HD,rfl⟩ ⟨x,Aaf,ty,(hle.of b x k1).1,k2,hp Aaf k3⟩;obtain⟨w,m2,e1,e2,e3,e4⟩:=dF h m1 ht;exact⟨w,m2,e1,e2,e3,e4⟩
def Po(n:Nat)(p:qG):Prop:=∀t∈p.keep,t<n
theorem Bj{n:Nat}{p:qG}{s s':St}(h:Wp p s=some s')(hk:Po n p):
   s'.base=s.base/\s'.H.wm=s.H.wm/\∀(m:Mp)(φ:Nat->Option Nat)(sv xe:V.S),Om m φ s sv->Alike n sv xe->∃m' Pg,Om m' Pg s' xe/\Yj s.base m sv.H m' xe.H:=by
  unfold Wp at h;split at h
  case isFalse=>simp at h
  rename_i hw;simp only[aa]at h;obtain⟨⟨e,H1⟩,h1,⟨F,H2⟩,h2,H3,h3,h⟩:=h;split at h
  case isFalse=>simp at h
  rename_i hw3;simp at h;subst h;have Yf:H3.wm=s.H.wm:=by
   have hE:∀{Ru:List (Nat×Sh)}{e:List (Nat×US)}{H:UH}{e':List (Nat×US)}{H':UH},zq Ru e H=some (e',H')->H'.wm=H.wm:=by
    intro Ru e;have hm:∀(d:Nat)(sh:Sh)(x:UV)(H:UH)(x':UV)(H':UH),pg d false sh x H=some (x',H')->H'.wm=H.wm:=Es;induction e with
    |nil=>intro H e' H' h;simp[zq]at h;rw[h.2]
    |cons p e ih=>
     intro H e' H' h;obtain⟨i,x⟩:=p;cases x with
     |v x=>
      simp only[zq,aa]at h;obtain⟨⟨x',H1⟩,h1,⟨e1,H2⟩,h2,h⟩:=h;simp at h;obtain⟨_,rfl⟩:=h;rw[ih h2];split at h1
      ·exact hm _ _ _ _ _ _ h1
      ·simp at h1;rw[h1.2]
     |loc j c=>
      simp only[zq,aa]at h;obtain⟨⟨e1,H2⟩,h2,h⟩:=h;simp at h;obtain⟨_,rfl⟩:=h;exact ih h2
   have hF:∀{Ru:List (Nat×List Sh)}{F:List (List UV)}{i:Nat}{H:UH}{F':List (List UV)}{H':UH},Xy Ru i F H=some (F',H')->H'.wm=H.wm:=by
    intro Ru F;induction F with
    |nil=>intro i H e' H' h;simp[Xy]at h;rw[h.2]
    |cons row F ih=>
     intro i H F' H' h;simp only[Xy,aa]at h;obtain⟨⟨x',H1⟩,h1,⟨e1,H2⟩,h2,h⟩:=h;simp at h;obtain⟨_,rfl⟩:=h;rw[ih h2];unfold lW at h1;split at h1
     ·exact yq (fun sh x H x' H' h=>Es _ sh x H x' H' h) h1
     ·simp at h1;rw[h1.2]
   have hB:∀{l:List (Nat×List Sh)}{H H':UH},Yy l H=some H'->H'.wm=H.wm:=by
    intro l;induction l with
    |nil=>intro H H' h;simp[Yy]at h;rw[h]
    |cons p l ih=>
     intro H H' h;obtain⟨b,Ru⟩:=p;simp only[Yy]at h;split at h
     case h_2=>simp at h
     simp only[aa]at h;obtain⟨⟨zf,H1⟩,h1,h⟩:=h;simp only at h;split at h
     case h_2=>simp at h
     rw[ih h];show H1.wm=_;exact yq (f:=pg 8 false) (fun sh x H x' H' h=>Es _ sh x H x' H' h) h1
   rw[hB h3,hF h2,hE h1];rfl
  refine⟨rfl,Yf,fun m φ sv xe hs ha=> ?_⟩;obtain⟨m0,φ0,k1,k2⟩:=Km (keep:=p.keep) hk hs hw ha;obtain⟨_,m1,r1,r2,r3,r4⟩:=Qx (Hv:=xe.H) (φ:=φ0) h1 m0 k1.h;obtain⟨_,m2',q1',q2',q3',q4,q5'⟩:=cF (Hv:=xe.H) h2 m1 r1;obtain⟨_,m2,b1,b2,b3,_⟩:=dF (Hv:=xe.H) h3 m2' q1';have q1:=b1;have q2:=q2'.trans b2;have q3:=q3'.trans b3 q3'.Pk.1;rw[<- ha.1]at k2;have jS:Yj s.base m xe.H m0 xe.H:=k2;have PB:s.base<=m0.top:=by rw[k1.h.len];exact k1.b
  suffices Jag:Om m2 φ0 { e,F,H:=H3,base:=s.base } xe/\Yj s.base m sv.H m2 xe.H by
   obtain⟨m3,l5,c1,c2⟩:=Km (keep:=p.keep) hk Jag.1 hw3 (.refl n xe);exact⟨m3,l5,c1,Jag.2.trans c2 (va _)⟩
  refine⟨⟨q1,⟨fun i j jD=> ?_,fun i row hi=> ?_,k1.f.inj⟩,fun t=>(r4 t _ (k1.e t)).mono q2 (.refl φ0),?_⟩,?_⟩
  ·have:=k1.f.He i j jD;rw[q4];exact this
  ·obtain⟨KR,j1,j2⟩:=q5' i row hi;obtain⟨j,Jb,j3,j4,j5⟩:=k1.f.row i KR j1;exact⟨j,Jb,j3,j4,(j2 Jb (j5.mono r2)).mono b2⟩
  ·have e1:=r3.Pk.1;have e2:=q3.Pk.1;have e3:=q1.len;show s.base<=H3.bl.length;omega
  ·have:=(jS.trans r3 PB).trans q3 (by have:=r3.Pk.1;omega);rw[ha.1]at this ⊢;exact this
 where
  yq {f:Sh->UV->UH->Option (UV×UH)} (hf:∀sh x H x' H',f sh x H=some (x',H')->H'.wm=H.wm):∀{Ru:List Sh}{xs:List UV}{H:UH}{l:List UV}{H':UH},pg.Uh f Ru xs H=some (l,H')->H'.wm=H.wm
   |[],[],H,l,H',h=>by simp[pg.Uh]at h;rw[h.2]
   |s::ss,x::xs,H,l,H',h=>by
    simp only[pg.Uh,aa]at h;obtain⟨⟨x',H1⟩,h1,⟨kq,H2⟩,h2,h⟩:=h;simp at h;obtain⟨_,rfl⟩:=h;rw[yq hf h2,hf _ _ _ _ _ h1]
   |[],_::_,H,l,H',h=>by simp[pg.Uh]at h
   |_::_,[],H,l,H',h=>by simp[pg.Uh]at h
  Es:∀(d:Nat)(sh:Sh)(x:UV)(H:UH)(x':UV)(H':UH),pg d false sh x H=some (x',H')->H'.wm=H.wm
   |0,sh,x,H,x',H',h=>by simp[pg]at h
   |d+1,sh,x,H,x',H',h=>by
    unfold pg at h;split at h
    ·rename_i e;exact absurd e (by omega)
    ·simp at h;rw[h.2]
    ·simp at h;rw[h.2]
    ·simp at h;rw[h.2]
    ·simp at h;rw[h.2]
    ·simp at h
    ·simp at h
    ·simp at h;rw[h.2]
    ·simp at h;rw[<- h.2];rfl
    ·simp at h;rw[<- h.2];rfl
    ·split at h
     case h_2=>simp at h
     split at h
     case isFalse=>simp at h
     simp at h;rw[<- h.2];rfl
    ·simp at h;rw[<- h.2];rfl
    ·simp at h;rw[<- h.2];rfl
    ·simp at h;rw[h.2]
    ·split at h
     case h_2=>simp at h
     simp at h;rw[h.2]
    ·simp at h;rw[h.2]
    ·simp at h;rw[<- h.2];rfl
    ·simp at h;rw[<- h.2];rfl
    ·simp at h;rw[h.2]
    ·split at h
     case h_2=>simp at h
     split at h
     case isFalse=>simp at h
     simp at h;rw[<- h.2];rfl
    ·split at h
     ·split at h
      ·simp only[aa]at h;obtain⟨l,hl,h⟩:=h;simp at h;rw[<- h.2];rfl
      ·simp at h
     ·simp at h;rw[h.2]
     ·simp at h
    ·simp only[ia]at h;obtain⟨⟨l,H1⟩,h1,h⟩:=h;simp at h;rw[<- h.2];exact yq (fun sh x H x' H' h=>Es _ sh x H x' H' h) h1
    ·simp only[ia]at h;obtain⟨⟨l,H1⟩,h1,h⟩:=h;simp at h;rw[<- h.2];exact yq (fun sh x H x' H' h=>Es _ sh x H x' H' h) h1
    ·simp at h
end
def Ip{T E:Type}(step:T->Option (T ⊕ E)):Nat->T->Option E
 |0,_=>none
 |n+1,t=>(step t).bind fun
  | .inl t'=>Ip step n t'
  | .inr e=>some e
def Ia{T E:Type}(step:T->Option (T ⊕ E))(t:T):Option E:=Ip step V.Kn t
section
variable {A:V.Eh}{C:V.Callee}{Ra:Nat->Option (List UV)}{Fa:List Nat}{n:Nat}
end
end Go.U
namespace Go.U
open Go
variable [TB:ZC]
section
variable {A:V.Eh}{Ra:Nat->Option (List UV)}{m:Mp}
theorem tq{s:St}:∀{rs:List ResultVar}{l:List UV},results A s rs=some l->∀(m:Mp)(φ:Nat->Option Nat)(sv:V.S),Om m φ s sv->∃l',V.results A sv rs=some l'/\RL m l l'
 |[],l,h,m,φ,sv,hs=>by simp[results]at h;subst h;exact⟨[],rfl,.nil⟩
 | .tmp t::rs,l,h,m,φ,sv,hs=>by
  simp only[results,aa]at h;obtain⟨a,ha,l1,hl,h⟩:=h;simp at h;subst h;obtain⟨l',k1,k2⟩:=tq hl m φ sv hs;split at ha
  ·simp at ha
  ·rename_i x Sc hx;simp at ha;subst ha;have:=hs.e t;rw[hx]at this;obtain⟨a',e1,e2⟩:=this.val Sc;exact⟨a'::l',by simp[V.results,e1,k1],.cons e2 k2⟩
  ·simp at ha
 | .cell p t::rs,l,h,m,φ,sv,hs=>by
  simp only[results,aa]at h;obtain⟨a,ha,l1,hl,h⟩:=h;simp at h;subst h;obtain⟨l',k1,k2⟩:=tq hl m φ sv hs;obtain⟨a',e1,e2⟩:=Gv ha hs.h hs.f (hs.e p);exact⟨a'::l',by simp[V.results,e1,k1],.cons e2 k2⟩
theorem kB{l:List UV}{l':List V.AV}(h:RL m l l'):RV m (result l) (V.result l'):=by
 unfold result V.result;split
 ·obtain⟨a,rfl,ha⟩:=h.one;exact ha
 ·rename_i Sc;split
  ·rename_i a;have:=h.1
   match l,Sc,this with
   |[x],Sc,_=>exact(Sc x rfl).elim
  ·exact .Qc _ _ h.1 h.2
theorem yB{d:Nat}{f:Sh->UV->UH->Option (UV×UH)}(hf:∀sh x H x' H',f sh x H=some (x',H')->Rb d x'=true->Fz d x H x' H'):
  ∀{Ru:List Sh}{xs:List UV}{H:UH}{l:List UV}{H':UH},pg.Uh f Ru xs H=some (l,H')->(∀x∈l,Rb d x=true)->H'.wm=H.wm/\∀(m:Mp)(Hv:V.AH)(as:List V.AV),RH m H Hv->RL m xs as->
   ∃tn Lc,V.Yg (V.freeze d) Hv as=some (tn,Lc)/\∃m',RH m' H' Lc/\RL m' l tn/\m.Le m'/\Yj m.top m Hv m' Lc
 |[],[],H,l,H',h,hc=>by
  simp[pg.Uh]at h;obtain⟨rfl,rfl⟩:=h;refine⟨rfl,fun m Hv as hh ha=> ?_⟩;have:as=[]:=by have:=ha.1;simpa using this
  subst this;exact⟨[],Hv,rfl,m,hh,.nil,.refl m,.refl Hv (va _)⟩
 |s::ss,x::xs,H,l,H',h,hc=>by
  simp only[pg.Uh,aa]at h;obtain⟨⟨x',H1⟩,h1,⟨kq,H2⟩,h2,h⟩:=h;simp at h;obtain⟨rfl,rfl⟩:=h;obtain⟨w1,k1⟩:=hf _ _ _ _ _ h1 (hc _ (Fc ..));obtain⟨w2,k2⟩:=yB hf h2 fun y hy=>hc y (Ib _ hy)
  refine⟨w2.trans w1,fun m Hv as hh ha=> ?_⟩;cases as with
  |nil=>have:=ha.1;simp at this
  |cons a as=>
   have hr:RL m xs as:=⟨by have:=ha.1;simpa using this,fun i y b k1 k2=>ha.2 (i+1) y b (by simpa using k1) (by simpa using k2)⟩;obtain⟨a',sV,e1,m1,e2,e3,e4,e5⟩:=k1 m Hv a hh (ha.2 0 x a rfl rfl);obtain⟨tn,Hv2,e6,m2,e7,e8,e9,IC⟩:=k2 m1 sV as e2 (hr.mono e4);exact⟨a'::tn,Hv2,by simp only[V.Yg,e1,ga,e6],m2,e7,.cons (e3.mono e9) e8,e4.trans e9,e5.trans IC e5.Pk.1⟩
 |[],_::_,H,l,H',h,hc=>by simp[pg.Uh]at h
 |_::_,[],H,l,H',h,hc=>by simp[pg.Uh]at h
theorem QG:∀(d:Nat)(sh:Sh)(x:UV)(H:UH)(x':UV)(H':UH),pg d true sh x H=some (x',H')->Rb d x'=true->Fz d x H x' H'
 |0,sh,x,H,x',H',h,hc=>by simp[pg]at h
 |d+1,sh,x,H,x',H',h,hc=>by
  have h0:=h;unfold pg at h;split at h
  ·rename_i e;exact absurd e (by omega)
  ·simp at h;obtain⟨rfl,rfl⟩:=h;exact .same hc
  ·simp at h;obtain⟨rfl,rfl⟩:=h;simp[Rb,closed]at hc
  ·simp at h;obtain⟨rfl,rfl⟩:=h;exact⟨rfl,fun m Hv a hh hx=>by cases hx;exact⟨.Ya,Hv,rfl,.same hh (.ri _ _ (.inl rfl))⟩⟩
  ·simp at h;obtain⟨rfl,rfl⟩:=h;exact⟨rfl,fun m Hv a hh hx=>by cases hx;exact⟨.Pd,Hv,rfl,.same hh (.ri _ _ (.inr rfl))⟩⟩
  ·have he:=yE ‹d+1=Nat.succ _›;subst he;split at h
   case isFalse=>simp at h
   rename_i Wz;simp at Wz;simp only[aa]at h;obtain⟨l,hl,h⟩:=h;simp at h;obtain⟨rfl,rfl⟩:=h;exact xM Wz.1 Wz.2 hl (.inl ⟨_,_,rfl⟩)
  ·have he:=yE ‹d+1=Nat.succ _›;subst he;split at h
   case isFalse=>simp at h
   rename_i Wz;simp at Wz;simp only[aa]at h;obtain⟨l,hl,h⟩:=h;simp at h;obtain⟨rfl,rfl⟩:=h;unfold N9 at hl;split at hl
   ·rename_i c' l' hb;split at hl
    ·rename_i hc;subst hc;injection hl with hl;subst hl
     exact xM Wz.1 Wz.2 (by simp[rowsOf,hb]) (.inr rfl)
    ·simp at hl
   ·rename_i c' l' hb;split at hl
    ·rename_i hc;obtain⟨rfl,GL⟩:=hc;injection hl with hl;subst hl
     exact fK GL Wz.2 hb
    ·simp at hl
   ·simp at hl
  ·simp at h;obtain⟨rfl,rfl⟩:=h;exact .same hc
  ·simp at h;obtain⟨rfl,rfl⟩:=h;simp[Rb,closed]at hc
  ·simp at h;obtain⟨rfl,rfl⟩:=h;simp[Rb,closed]at hc
  ·split at h
   case h_2=>simp at h
   split at h
   case isFalse=>simp at h
   simp at h;obtain⟨rfl,rfl⟩:=h;simp[Rb,closed]at hc
  ·simp at h;obtain⟨rfl,rfl⟩:=h;simp[Rb,closed]at hc
  ·simp at h;obtain⟨rfl,rfl⟩:=h;simp[Rb,closed]at hc
  ·simp at h;obtain⟨rfl,rfl⟩:=h;simp[Rb,closed]at hc
  ·split at h
   case h_2=>simp at h
   simp at h;obtain⟨rfl,rfl⟩:=h;simp[Rb,closed]at hc
  ·simp at h;obtain⟨rfl,rfl⟩:=h;simp[Rb,closed]at hc
  ·simp at h;obtain⟨rfl,rfl⟩:=h;simp[Rb,closed]at hc
  ·simp at h;obtain⟨rfl,rfl⟩:=h;simp[Rb,closed]at hc
  ·simp at h;obtain⟨rfl,rfl⟩:=h;simp[Rb,closed]at hc
  ·split at h
   case h_2=>simp at h
   split at h
   case isFalse=>simp at h
   simp at h;obtain⟨rfl,rfl⟩:=h;simp[Rb,closed]at hc
  ·split at h
   ·split at h
    ·simp only[aa]at h;obtain⟨l,hl,h⟩:=h;simp at h;obtain⟨rfl,rfl⟩:=h;simp[Rb,closed]at hc
    ·simp at h
   ·simp at h;obtain⟨rfl,rfl⟩:=h;simp[Rb,closed]at hc
   ·simp at h
  ·have he:=yE ‹d+1=Nat.succ _›;subst he;simp only[ia]at h;obtain⟨⟨l,H1⟩,h1,h⟩:=h;simp at h;obtain⟨rfl,rfl⟩:=h;obtain⟨w,k⟩:=yB (fun sh x H x' H' h hc=>QG _ sh x H x' H' h hc) h1 (ic.1 (by simpa[Rb]using hc));refine⟨w,fun m Hv a hh ha=> ?_⟩;cases ha with
   |agg _ as hl hr=>
    obtain⟨tn,Lc,e1,m',e2,e3,e4,e5⟩:=k m Hv as hh ⟨hl,hr⟩;exact⟨.agg tn,Lc,by simp only[V.freeze,e1,ga],m',e2,.agg _ _ e3.1 e3.2,e4,e5⟩
  ·have he:=yE ‹d+1=Nat.succ _›;subst he;simp only[ia]at h;obtain⟨⟨l,H1⟩,h1,h⟩:=h;simp at h;obtain⟨rfl,rfl⟩:=h;obtain⟨w,k⟩:=yB (fun sh x H x' H' h hc=>QG _ sh x H x' H' h hc) h1 (ic.1 (by simpa[Rb]using hc));refine⟨w,fun m Hv a hh ha=> ?_⟩;cases ha with
   |Qc _ as hl hr=>
    obtain⟨tn,Lc,e1,m',e2,e3,e4,e5⟩:=k m Hv as hh ⟨hl,hr⟩;exact⟨.Qc tn,Lc,by simp only[V.freeze,e1,ga],m',e2,.Qc _ _ e3.1 e3.2,e4,e5⟩
  ·simp at h
def Xe(C:V.Callee)(f:FuncId)(spec:Spec):Prop:=
 ∀(X:Type)(args:List UV)(H:UH)(K:UV->UH->Option X)(out:X),spec X args H K=some out->
  ∃r H',K r H'=some out/\H'.wm=H.wm/\∀(m:Mp)(Hv:V.AH)(as cs:List V.AV),RH m H Hv->RL m args (as++cs)->∃r' Lc,C (.fn f cs) as Hv=some (r',Lc)/\gq m Hv r H' r' Lc
theorem Xe.imp{C:V.Callee}{f:FuncId}{g g':Spec}(h:Xe C f g)(hi:∀X args H K out,g' X args H K=some out->g X args H K=some out):Xe C f g':=
 fun X args H K out ho=>h X args H K out (hi X args H K out ho)
theorem YC{φ:Nat->Option Nat}:∀{args:List UV}{as:List V.AV}{i:Nat},RL m args as->RE m φ (ue args i) (V.ue as i)
 |[],as,i,h=>by
  have:as=[]:=by have:=h.1;simpa using this
  subst this;exact fun t=>trivial
 |x::xs,as,i,h=>by
  cases as with
  |nil=>have:=h.1;simp at this
  |cons a as=>
   have hr:RL m xs as:=⟨by have:=h.1;simpa using this,fun i y b k1 k2=>h.2 (i+1) y b (by simpa using k1) (by simpa using k2)⟩;exact(YC (i:=i+1) hr).cons i (h.2 0 x a rfl rfl).rs
theorem KJ{m:Mp}{Hv:V.AH}:∀{l:List Nat}{H:UH},RH m H Hv->RH m (Kv l H) Hv
 |[],_,h=>h
 |b::l,_,h=>KJ (l:=l) (h.kill b)
theorem JJ:∀{l:List Nat}{H:UH},(Kv l H).wm=H.wm
 |[],_=>rfl
 |b::l,H=>(JJ (l:=l) (H:=Sa H b .dead)).trans rfl
theorem gq.kill{m:Mp}{Hv Lc:V.AH}{v:UV}{H':UH}{a:V.AV}(l:List Nat)(h:gq m Hv v H' a Lc):gq m Hv v (Kv l H') a Lc:=by
 obtain⟨m1,e1,e2,e3,e4⟩:=h;exact⟨m1,KJ e1,e2,e3,e4⟩
theorem sX(hg:Fe A Ra){env:Env}{k:Nat}(hc:Gc (V.call A k) env.call){f:FuncId}{fn:Func}{c:Code}{Fa:List Nat}{sh:Sh}{fz:Bool}
  (aq:A.ext f=none) (mo:A.fns f=some fn) (ez:fn.body=some c) (Zp:A.loc f=Fa) (jP:A.keep f=ua fn.ntmps) (fm:A.pV f=fz)
  (hl:∀c'∈loops env.join c,Kc env.loop (V.code A (V.call A k) true Fa (ua fn.ntmps) fn.ntmps) c'):
  Xe (V.call A (k+1)) f (fun X args H K=>iK A Ra env Fa fn sh fz args H K):=by
 intro X args H K out h;simp only[iK,ez]at h;split at h
 case isFalse=>simp at h
 rename_i hlen;obtain⟨ex,s1,h1,h2⟩:=wg hg hc hl h;have hex:(∀ id,ex≠ .exit id)/\(results A s1 fn.results.toList).bind (fun l=>(pg 8 fz sh.inner (result l) s1.H).bind fun(r,H1)=>if(!fz||Rb 8 r)&&decide (H1.wm<=H.bl.length)then K (gc H.bl.length r (Kv sh.DB H1)).1 (gc H.bl.length r (Kv sh.DB H1)).2 else none)=some out:=by
  cases ex with
  |exit id=>simp at h1
  |normal=>exact⟨fun _=>by simp,h1⟩
  |ret=>exact⟨fun _=>by simp,h1⟩
 obtain⟨Sc,h3⟩:=hex;simp only[aa]at h3;obtain⟨l,XG,⟨r,H0⟩,hmo,h3⟩:=h3;split at h3
 case isFalse=>simp at h3
 rename_i Mab;simp only[Na,decide_eq_true_eq]at Mab;have TM:=Mab.1;have ial:=Mab.2;generalize hH':Kv sh.DB H0=H' at h3;have hwk:H'.wm=H0.wm:=by rw[<- hH'];exact JJ
 have hgw:H'.wm<=H.bl.length:=by rw[hwk];exact ial
 have start:∀(m:Mp)(Hv:V.AH)(as cs:List V.AV),RH m H Hv->RL m args (as++cs)->∃ik m1 PA l',V.code A (V.call A k) true Fa (ua fn.ntmps) fn.ntmps c ⟨V.ue (as++cs) 0,[],Hv⟩=some (ex,ik)/\Om m1 PA s1 ik/\Yj H.bl.length m Hv m1 ik.H/\V.results A ik fn.results.toList=some l'/\RL m1 l l':=fun m Hv as cs hh ha=>by
  obtain⟨ik,m1,PA,e1,e2,e3⟩:=h2.2.2 m (fun _=>none) ⟨V.ue (as++cs) 0,[],Hv⟩ ⟨hh,⟨fun i j h=>by simp at h,fun i row h=>by simp at h,fun i i' j h=>by simp at h⟩,YC ha,va _⟩;obtain⟨l',e4,e5⟩:=tq XG m1 PA ik e2;exact⟨ik,m1,PA,l',e1,e2,e3,e4,e5⟩
 have Nf:∀(Hv:V.AH)(as cs:List V.AV)(ik:V.S)(l':List V.AV),(as++cs).length<=fn.ntmps->V.code A (V.call A k) true Fa (ua fn.ntmps) fn.ntmps c ⟨V.ue (as++cs) 0,[],Hv⟩=some (ex,ik)->V.results A ik fn.results.toList=some l'->
   V.call A (k+1) (.fn f cs) as Hv=if fz then V.freeze 8 ik.H (V.result l')else some (V.result l',ik.H):=fun Hv as cs ik l' hle e1 e2=>by
  simp only[V.call,aq,mo,ez,Zp,jP,fm];rw[if_pos hle,e1];cases ex with
  |exit id=>exact(Sc id rfl).elim
  |normal=>simp only[ga,e2]
  |ret=>simp only[ga,e2]
 have fin:∀{m m1:Mp}{Hv sV:V.AH}{r':V.AV}{Lc:V.AH},RH m H Hv->Yj H.bl.length m Hv m1 sV->gq m1 sV r H' r' Lc->H.bl.length<=m1.top->gq m Hv (gc H.bl.length r H').1 (gc H.bl.length r H').2 r' Lc:=fun{m m1 Hv sV r' Lc}hh fq⟨m20,IC,e20,e3,e4⟩Rz=>by
  have VJ:Yj H.bl.length m Hv m20 Lc:=fq.trans e4 Rz;have dc:Om m20 (fun _=>none) ⟨[(0,.v r)],[],H',H.bl.length⟩ ⟨[(0,.v r')],[],Lc⟩:=⟨IC,⟨fun i j h=>by simp at h,fun i row h=>by simp at h,fun i i' j h=>by simp at h⟩,fun t=>by
   simp only[get,V.get];split
   ·exact e20.rs
   ·exact trivial,by have:=VJ.Pk.1;rw[IC.len]at this;exact this⟩
  obtain⟨m2,gA,c1,c2⟩:=Km (keep:=[0]) (n:=1) (by simp) dc hgw (.refl 1 _);have e1:RH m2 (gc H.bl.length r H').2 Lc:=c1.h;have e2:RV m2 (gc H.bl.length r H').1 r':=by
   have:=c1.e 0;simp only[gc]
   revert this
   simp only[V.get,if_true];cases get (compact [0] ⟨[(0,.v r)],[],H',H.bl.length⟩).e 0 with
   |loc i c=>exact fun h=>h.elim
   |v x=>intro h;cases x<;>first|exact .Sb _|exact h
  have cH:Yj m.top m Hv m2 Lc:=by rw[hh.len];exact VJ.trans c2 (va _)
  refine⟨m2,e1,e2,⟨fun b _ x hb=> ?_,cH.Pk.1,fun b hb=>(cH.Pk.2 b hb).2⟩,cH⟩;have:=cH.Pk.2 b (by rw[hh.len];exact(hh.He b x hb).1);exact⟨by rw[this.1];exact hb,by rw[this.2]⟩
 cases fz with
 |true=>
  simp at TM;obtain⟨w,hf⟩:=QG 8 sh.inner _ _ _ _ hmo TM;refine⟨_,_,h3,by show H'.wm=_;rw[hwk,w,h2.2.1],fun m Hv as cs hh ha=> ?_⟩;obtain⟨ik,m1,PA,l',e1,e2,e3,e4,e5⟩:=start m Hv as cs hh ha;obtain⟨r',Lc,k1,k2⟩:=hf m1 ik.H _ e2.h (kB e5);exact⟨r',Lc,by rw[Nf Hv as cs ik l' (by rw[ha.1];exact hlen) e1 e4];exact k1,fin hh e3 (hH' ▸ k2.kill sh.DB) e3.Pk.1⟩
 |false=>
  have hmw:=Bj.Es 8 sh.inner _ _ _ _ hmo;refine⟨_,_,h3,by show H'.wm=_;rw[hwk,hmw,h2.2.1],fun m Hv as cs hh ha=> ?_⟩;obtain⟨ik,m1,PA,l',e1,e2,e3,e4,e5⟩:=start m Hv as cs hh ha;obtain⟨_,m2,k1,k2,k3,k4⟩:=En 8 sh.inner _ _ _ _ hmo m1 e2.h;exact⟨V.result l',ik.H,by rw[Nf Hv as cs ik l' (by rw[ha.1];exact hlen) e1 e4];rfl,fin hh e3 (hH' ▸ gq.kill sh.DB ⟨m2,k1,k4 _ (kB e5),k2,k3⟩) e3.Pk.1⟩
theorem vI{C:V.Callee}:∀{l:List (FuncId×Spec)},(∀p∈l,Xe C p.1 p.2)->∀f,Xe C f (JC l f)
 |[],_,f,X,args,H,K,out,h=>by simp[JC]at h
 |(g,sp)::l,hl,f,X,args,H,K,out,h=>by
  simp only[JC]at h;split at h
  ·rename_i e;subst e;exact hl (f,sp) (Fc ..) X args H K out h
  ·exact vI (fun p hp=>hl p (Ib _ hp)) f X args H K out h
theorem R2{C:V.Callee}{l:List (FuncId×Spec)}(hl:∀p∈l,Xe C p.1 p.2):Gc C (fun X fv args H K=>match fv with| .fn f cs=>JC l f X (args++cs) H K|_=>none):=by
 intro X fv args H K out h;simp only at h;split at h
 ·rename_i f cs;obtain⟨r,H',h1,h2,h3⟩:=vI hl f X _ H K out h;refine⟨r,H',h1,h2,fun m Hv S4 rh hh hf ha=> ?_⟩;cases hf with
  |fn _ _ as Zf hr=>exact h3 m Hv rh as hh (ha.append ⟨Zf,hr⟩)
 ·simp at h
theorem QC{C:V.Callee}{spec:(X:Type)->UV->List UV->UH->(UV->UH->Option X)->Option X}(hs:Gc C spec):Gc C (fun X fv args H K=>EI spec fv args H K):=by
 intro X fv args H K out h;simp only[EI]at h;generalize fah:(reach H 64 ((fv::args).flatMap (ids 8)) []).filter (fun b=>Xd (H.bl.getD b .dead))=bs0 at h;have Eag:bs0.Nodup:=by rw[<- fah];exact(Aj List.nodup_nil).filter _
 have Wak:∀b∈bs0,live H b:=fun b hb=>by
  rw[<- fah,Mg]at hb;have:=hb.2;cases h1:H.bl[b]? with
  |none=>rw[Ka,h1]at this;simp[Xd]at this
  |some y=>rw[Ka,h1]at this;exact⟨y,h1,this⟩
 generalize Kag:bs0.filter (fun b=>decide (b<H.wm))=lo at h;generalize H9:lo++bs0.filter (fun b=>decide (H.wm<=b))=bs at h;have hnd:bs.Nodup:=by
  rw[<- H9,<- Kag];refine dA.2 ⟨Eag.filter _,Eag.filter _,fun x hx y hy=> ?_⟩;simp only[Mg,decide_eq_true_eq]at hx hy;omega
 have KM:∀b∈bs,live H b:=fun b hb=>by
  rw[<- H9,<- Kag,Kk,Mg,Mg]at hb;rcases hb with hb|hb<;>exact Wak b hb.1
 have Qag:∀(j b:Nat),bs[j]?=some b->lo.length<=j->H.wm<=b:=fun j b hj hle=>by
  rw[<- H9,Qa hle]at hj;have:=Db hj
  simpa only[Mg,decide_eq_true_eq]using(Mg.1 this).2
 generalize eP:lo.length=w0 at h Qag;obtain⟨r,H1,h1,BW,h2⟩:=hs X _ _ _ _ out h;simp only at BW;generalize w9:(reach H1 64 (ua bs.length++ids 8 r) []).filter (fun b=>decide (bs.length<=b))=news at h1;have hnn:news.Nodup:=by rw[<- w9];exact(Aj List.nodup_nil).filter _
 have Wj:∀b∈news,bs.length<=b:=fun b hb=>by rw[<- w9,Mg]at hb;simpa using hb.2
 refine⟨_,_,h1,rfl,fun m Hv S4 rh hh hf ha=> ?_⟩
 let m0:Mp:={ ι:=fun j s=>(bs[j]?).bind fun c=>m.ι c s,len:=fun j=>m.len (bs.getD j 0),top:=bs.length }
 have GM:Ren m m0 (fun b=>pos b bs 0):=fun b b' hb=>by
  have:=RR hb;exact⟨by simp[m0,this],by simp[m0,this],Xa this⟩
 have hm0:∀j{s}x,m0.ι j s=some x->∃b,bs[j]?=some b/\m.ι b s=some x:=fun j s x hj=>by simpa[m0,aa]using hj
 have ean:w0<=bs.length:=by rw[<- eP,<- H9];simp
 have yak:RH m0 ⟨bs.map fun b=>yu (fun b=>pos b bs 0) (H.bl.getD b .dead),w0⟩ Hv:=by
  refine⟨fun b _ x hb=> ?_,fun b' y hy=> ?_,fun b1 b2 _ _ x l1 l2 e1 e2=> ?_,fun b _ x hb mF=> ?_,hh.top,by simp[m0]⟩
  ·obtain⟨c,h1,h2⟩:=hm0 b x hb;exact⟨by simpa using Xa h1,(hh.He c x h2).2⟩
  ·simp only[Wb,ia]at hy;obtain⟨b,h1,rfl⟩:=hy;rw[Ka];cases h2:H.bl[b]? with
   |none=>trivial
   |some y=>exact RB.Rj GM (hh.Tc b y h2) (by simp[m0,h1]) (by simp[m0,h1])
  ·obtain⟨c1,k1,k2⟩:=hm0 b1 x e1;obtain⟨c2,k3,k4⟩:=hm0 b2 x e2;obtain⟨this,h5⟩:=hh.Pn c1 c2 x (KM c1 (Db k1)) (KM c2 (Db k3)) k2 k4;subst this;exact⟨Bs hnd k1 k3,h5⟩
  ·obtain⟨c,k1,k2⟩:=hm0 b x hb;have tc:=Xa k1;simp only at mF;exact hh.wm c x k2 (Qag b c k1 mF)
 have GD:RV m0 (Rj (fun b=>pos b bs 0) 8 fv) S4:=RV.Rj GM 8 hf;have har:RL m0 (args.map (Rj (fun b=>pos b bs 0) 8)) rh:=ha.Rj GM 8;obtain⟨r',Lc,k1,m1,k2,k3,k4,k5⟩:=h2 m0 Hv S4 rh yak GD har;refine⟨r',Lc,k1,?_⟩;have hold:∀j,j<bs.length->m1.ι j=m0.ι j/\m1.len j=m0.len j:=fun j hj=>k5.Pk.2 j hj
 let m':Mp:={ ι:=fun b=>if b<H.bl.length then m.ι b else fun s=>(news[b-H.bl.length]?).bind fun c=>m1.ι c s,len:=fun b=>if b<H.bl.length then m.len b else m1.len (news.getD (b-H.bl.length) 0),top:=H.bl.length+news.length }
 have bx:∀b,b<H.bl.length->m'.ι b=m.ι b/\m'.len b=m.len b:=fun b hb=>by simp[m',hb]
 have lP:∀i b,news[i]?=some b->m'.ι (H.bl.length+i)=m1.ι b/\m'.len (H.bl.length+i)=m1.len b:=fun i b hb=>by
  have:¬H.bl.length+i<H.bl.length:=by omega
  simp[m',hb,this]
 have G9:∀b∈bs,b<H.bl.length:=fun b hb=>by obtain⟨y,hy,_⟩:=KM b hb;exact Xa hy
 let ψ:Nat->Option Nat:=fun b=>if b<bs.length then bs[b]? else(pos b news 0).map (H.bl.length+ ·)
 have hψ:Ren m1 m' ψ:=fun b b' hb=>by
  simp only[ψ]at hb;split at hb
  ·rename_i tc;have hm:=Db hb;have h3:=hold b tc;obtain⟨l1,l2⟩:=bx b' (G9 b' hm);rw[l1,l2,h3.1,h3.2];refine⟨by simp[m0,hb],by simp[m0,hb],?_⟩;have:=G9 b' hm;show b'<H.bl.length+news.length;omega
  ·simp only[ia]at hb;obtain⟨i,hi,rfl⟩:=hb;have hni:=RR hi;obtain⟨l1,l2⟩:=lP i b hni;rw[l1,l2];refine⟨rfl,rfl,?_⟩;have:=Xa hni;show H.bl.length+i<H.bl.length+news.length;omega
 have hle:m.Le m':=⟨fun b _ x hb=>by
  have:=(hh.He b x hb).1;rw[(bx b this).1,(bx b this).2];exact⟨hb,rfl⟩,by rw[hh.len];simp[m'],fun b hb=>(bx b (by rw[<- hh.len];exact hb)).2⟩
 have HM:∀b{s}x,live H b->m.ι b s=some x->pos b bs 0=none->∀j s',m0.ι j s'≠some x:=fun b s x hl hb hp j s' hj=>by
  obtain⟨c,e1,e2⟩:=hm0 j x hj;have hc:=Db e1;have:=hh.inj b c x hl (KM c hc) hb e2;subst this;obtain⟨k,hk⟩:=KO (i:=0) hc;rw[hp]at hk;simp at hk
 generalize bK:(ua H.bl.length).map (fun b=>match pos b bs 0 with|some j=>yu ψ (H1.bl.getD j .dead)|none=>H.bl.getD b .dead)++news.map (fun b=>yu ψ (H1.bl.getD b .dead))=C8;have iP:C8.length=H.bl.length+news.length:=by rw[<- bK];simp
 have E9:∀b,b<H.bl.length->C8[b]?=some (match pos b bs 0 with|some j=>yu ψ (H1.bl.getD j .dead)|none=>H.bl.getD b .dead):=fun b hb=>by
  rw[<- bK,La (by simpa using hb)];simp[hb]
 have hgh:∀b y,H.bl.length<=b->C8[b]?=some y->∃c,news[b-H.bl.length]?=some c/\y=yu ψ (H1.bl.getD c .dead):=fun b y hb hy=>by
  rw[<- bK,Qa (by simpa using hb)]at hy;simp only[Oc,List.length_range,Wb,ia]at hy;obtain⟨c,e1,e2⟩:=hy;exact⟨c,e1,e2.symm⟩
 have PW:∀j,Xd (yu ψ (H1.bl.getD j .dead))=true->live H1 j:=fun j hj=>by
  rw[gF,Ka]at hj;cases h3:H1.bl[j]? with
  |none=>rw[h3]at hj;simp[Xd]at hj
  |some y=>rw[h3]at hj;exact⟨y,h3,hj⟩
 have LM:∀b,Xd (H.bl.getD b .dead)=true->live H b:=fun b hb=>by
  rw[Ka]at hb;cases h3:H.bl[b]? with
  |none=>rw[h3]at hb;simp[Xd]at hb
  |some y=>rw[h3]at hb;exact⟨y,h3,hb⟩
 have y9:∀b,live ⟨C8,H.wm⟩ b->(∃j,live H1 j/\m'.ι b=m1.ι j/\((j<bs.length/\bs[j]?=some b)\/(bs.length<=j/\H.bl.length<=b/\news[b-H.bl.length]?=some j)))\/(b<H.bl.length/\live H b/\pos b bs 0=none):=fun b⟨y,hy,hl⟩=>by
  have Tf:C8[b]?=some y:=hy;rcases Ub b H.bl.length with tc|eu
  ·rw[E9 b tc]at Tf;simp at Tf;cases hp:pos b bs 0 with
   |none=>rw[hp]at Tf;simp at Tf;subst Tf;exact .inr ⟨tc,LM b (by simpa using hl),rfl⟩
   |some j=>
    rw[hp]at Tf;simp only at Tf;subst Tf;have hj:=RR hp;have zS:=Xa hj;refine .inl ⟨j,PW j (by simpa using hl),?_,.inl ⟨zS,hj⟩⟩;rw[(bx b tc).1,(hold j zS).1];simp[m0,hj]
  ·obtain⟨c,e1,rfl⟩:=hgh b y eu Tf;have he:H.bl.length+(b-H.bl.length)=b:=by omega
   refine .inl ⟨c,PW c hl,?_,.inr ⟨Wj c (Db e1),eu,e1⟩⟩;have:=(lP _ c e1).1;rw[he]at this;exact this
 have zak:RH m' ⟨C8,H.wm⟩ Lc:=by
  refine⟨fun b _ x hb=> ?_,fun b y hy=> ?_,fun b1 b2 _ _ x l1 l2 e1 e2=> ?_,fun b _ x hb mF=> ?_,by rw[k5.wm];exact Gb hh.top k5.len,by simp[m',iP]⟩
  ·show b<C8.length/\x<Lc.bl.length;rw[iP];rcases Ub b H.bl.length with tc|eu
   ·rw[(bx b tc).1]at hb;have:=hh.He b x hb;have:=k5.len;omega
   ·simp only[m']at hb;rw[if_neg (by omega)]at hb;simp only[aa]at hb;obtain⟨c,e1,e2⟩:=hb;have:=Xa e1;exact⟨by omega,(k2.He c x e2).2⟩
  ·have Tf:C8[b]?=some y:=hy;rcases Ub b H.bl.length with tc|eu
   ·rw[E9 b tc]at Tf;simp only[zc]at Tf;cases hp:pos b bs 0 with
    |none=>
     rw[hp]at Tf;simp only at Tf;subst Tf;rw[Ka];cases h3:H.bl[b]? with
     |none=>trivial
     |some y=>
      refine(hh.Tc b y h3).keep hle (bx b tc).1 (bx b tc).2 fun hl _ x hx=> ?_
      exact k5.stay x (hh.He b x hx).2 fun j s hj=>HM b x ⟨y,h3,hl⟩ hx hp j s hj
    |some j=>
     rw[hp]at Tf;simp only at Tf;subst Tf;have hj:=RR hp;have zS:=Xa hj;rw[Ka];cases h3:H1.bl[j]? with
     |none=>trivial
     |some y=>exact RB.Rj hψ (k2.Tc j y h3) (by rw[(bx b tc).1,(hold j zS).1];simp[m0,hj]) (by rw[(bx b tc).2,(hold j zS).2];simp[m0,hj])
   ·obtain⟨c,e1,rfl⟩:=hgh b y eu Tf;have he:H.bl.length+(b-H.bl.length)=b:=by omega
    have h4:=lP _ c e1;rw[he]at h4;rw[Ka];cases h3:H1.bl[c]? with
    |none=>trivial
    |some y=>exact RB.Rj hψ (k2.Tc c y h3) h4.1 h4.2
  ·rcases y9 b1 l1 with⟨j1,g1,g2,g3⟩|⟨g1,g2,g3⟩<;>rcases y9 b2 l2 with⟨j2,f1,f2,f3⟩|⟨f1,f2,f3⟩
   ·rw[g2]at e1;rw[f2]at e2;obtain⟨this,h5⟩:=k2.Pn j1 j2 x g1 f1 e1 e2;subst this;refine⟨?_,h5⟩;rcases g3 with⟨g3,g4⟩|⟨g3,g4,g5⟩<;>rcases f3 with⟨f3,f4⟩|⟨f3,f4,f5⟩
    ·rw[g4]at f4;simpa using f4
    ·omega
    ·omega
    ·have:=Bs hnn g5 f5;omega
   ·exfalso;rw[g2]at e1;rw[(bx b2 f1).1]at e2;rcases g3 with⟨g3,g4⟩|⟨g3,g4,g5⟩
    ·rw[(hold j1 g3).1]at e1;exact HM b2 x f2 e2 f3 j1 _ e1
    ·rcases k5.new j1 x e1 with⟨b0,s0,PB⟩|eu
     ·exact HM b2 x f2 e2 f3 b0 s0 PB
     ·have:=(hh.He b2 x e2).2;omega
   ·exfalso;rw[f2]at e2;rw[(bx b1 g1).1]at e1;rcases f3 with⟨f3,f4⟩|⟨f3,f4,f5⟩
    ·rw[(hold j2 f3).1]at e2;exact HM b1 x g2 e1 g3 j2 _ e2
    ·rcases k5.new j2 x e2 with⟨b0,s0,PB⟩|eu
     ·exact HM b1 x g2 e1 g3 b0 s0 PB
     ·have:=(hh.He b1 x e1).2;omega
   ·rw[(bx b1 g1).1]at e1;rw[(bx b2 f1).1]at e2;exact hh.Pn b1 b2 x g2 f2 e1 e2
  ·have Yaa:H.wm<=b:=mF;rw[k5.wm];rcases Ub b H.bl.length with tc|eu
   ·rw[(bx b tc).1]at hb;exact hh.wm b x hb Yaa
   ·simp only[m']at hb;rw[if_neg (by omega)]at hb;simp only[aa]at hb;obtain⟨c,e1,e2⟩:=hb;have:=Wj c (Db e1);have h5:=k2.wm c x e2 (by rw[BW];omega);rw[k5.wm]at h5;exact h5
 refine⟨m',?_,RV.Rj hψ 8 k3,hle,⟨⟨by rw[hh.len];simp[m'],fun b hb=>bx b (by rw[<- hh.len];exact hb)⟩,fun x hx hn=>k5.stay x hx fun j s hj=> ?_,fun b s x hb=> ?_,k5.len,k5.wm⟩⟩
 ·exact zak
 ·obtain⟨c,e1,e2⟩:=hm0 j x hj;exact hn c s e2
 ·rcases Ub b H.bl.length with tc|eu
  ·rw[(bx b tc).1]at hb;exact .inl ⟨b,s,hb⟩
  ·simp only[m']at hb;rw[if_neg (by omega)]at hb;simp only[aa]at hb;obtain⟨c,e1,e2⟩:=hb;rcases k5.new c x e2 with⟨b0,s0,PB⟩|eu
   ·obtain⟨c0,_,e3⟩:=hm0 b0 x PB;exact .inl ⟨c0,_,e3⟩
   ·exact .inr eu
theorem sL{C:V.Callee}{l:List (FuncId×Spec)}(hl:∀p∈l,Xe C p.1 p.2):Gc C (fun X fv args H K=>cR l X fv args H K):=QC (R2 hl)
end
end Go.U
namespace Go.U
open Go
variable [TB:ZC]
section
variable {A:V.Eh}{C:V.Callee}{Ra:Nat->Option (List UV)}{Fa:List Nat}{n:Nat}{X:Type}{out:X}
theorem cG{e:List (Nat×V.SV)}:∀(is:List Nat),∃env,V.Cz e is=some env/\∀t,V.get (V.Ce env) t=if t∈is then(match V.get e t with| .v a=> .v a|_=> .v .Sb)else .v .Sb
 |[]=>⟨[],rfl,fun t=>by simp[V.Ce,V.get]⟩
 |i::is=>by
  obtain⟨env,h1,h2⟩:=cG (e:=e) is;refine⟨(i,match V.get e i with| .v a=>a|_=> .Sb)::env,?_,fun t=> ?_⟩
  ·simp only[V.Cz,h1];cases V.get e i<;>rfl
  ·simp only[V.Ce,V.get,h2 t];by_cases ht:t=i
   ·subst ht;simp only[if_true,Vb,true_or];cases V.get e t<;>rfl
   ·simp only[if_neg ht,Vb,ht,false_or,if_false]
theorem N2(e:List (Nat×US))(ks:List Nat)(t:Nat):get (Ce (aO e ks)) t=if t∈ks then .v (match get e t with| .v a=>a|_=> .Sb)else .v .Sb:=by
 have:Ce (aO e ks)=ks.map fun i=>(i,US.v (match get e i with| .v a=>a|_=> .Sb)):=by unfold Ce aO;rw[List.map_map];rfl
 rw[this,WB]
theorem b8{m:Mp}{φ:Nat->Option Nat}{e:List (Nat×US)}{ev:List (Nat×V.SV)}{ks:List Nat}(h:RE m φ e ev)(hk:∀t∈ks,t<n):
  ∃env,V.Cz ev (ua n)=some env/\∀t,match get (Ce (aO e ks)) t,V.get (V.Ce env) t with
   | .v y,.v a=>RV m y a
   |_,_=>False:=by
 obtain⟨env,h1,h2⟩:=cG (e:=ev) (ua n);refine⟨env,h1,fun t=> ?_⟩;rw[h2 t,N2];by_cases ht:t∈ks
 ·rw[if_pos ht,if_pos (List.mem_range.2 (hk t ht))];have:=h t
  revert this
  cases get e t with
  |loc i c=>
   cases V.get ev t with
   |loc j c'=>exact fun _=> .Sb _
   |v a=>exact fun h=>h.elim
  |v y=>
   cases hv:V.get ev t with
   |loc j c'=>intro h;cases y<;>first|exact .Sb _|exact h.elim
   |v a=>intro h;cases y<;>first|exact .Sb _|exact h
 ·rw[if_neg ht];by_cases ht2:t∈ua n
  ·rw[if_pos ht2];cases V.get ev t<;>exact .Sb _
  ·rw[if_neg ht2];exact .Sb _
theorem PV(hg:Fe A Ra){env:Env}(hc:Gc C env.call){id:Nat}{ks:List Nat}{g:Operand}{ps:Array Tmp}{a b:Code}(FM:TB.rf id=⟨n,ps.toList,a,b⟩){s:St}{K:V.Ex->St->Option X}
  (h:mJ A Ra env id n ks g s K=some out):∃ex s',K ex s'=some out/\mR (V.code A C true Fa (ua n) n (.rangeFunc g ps a b)) s ex s':=by
 unfold mJ at h;simp only[aa]at h;obtain⟨fv,AS,h⟩:=h;split at h
 case h_2=>simp at h
 rename_i f cs;generalize hcd:((match A.fns f with|some fn=>fn.body.isSome|none=>false)&&ks.all (fun i=>decide (i<n)))=cd at h;cases cd
 case false=>simp at h
 have hif:=hcd;rw[if_pos rfl]at h;simp only[Na,ic,decide_eq_true_eq]at hif;obtain⟨mo,hks⟩:=hif;obtain⟨r,H',h1,Yf,h3⟩:=hc X _ _ _ _ _ h;split at h1
 case h_2=>simp at h1
 rename_i gD e' st pe hb;split at h1
 ·simp at h1
 rename_i dc;refine⟨pe,_,h1,rfl,by show H'.wm=_;rw[Yf];rfl,fun m φ sv hs=> ?_⟩;obtain⟨S4,e1,e2⟩:=Jc (m:=m) (φ:=φ) hg AS hs.e;cases e2 with
 |fn _ _ as hl hr=>
  obtain⟨pn,e3,e4⟩:=b8 (n:=n) (ks:=ks) hs.e hks;have hlen:=hs.h.len;obtain⟨r1,r2,r3⟩:=RH.new (n:=0) (y:= .loop id (aO s.e ks) .ready .normal) (yv:= .loop n (ua n) pn ps.toList a b .ready none) hs.h (by
   refine⟨sv.H.bl.length,pn,by rw[ae],?_,fun t=> ?_⟩
   ·rw[FM];simp[V.push,V.Ex.jump]
   ·have:=e4 t
    revert this
    cases get (Ce (aO s.e ks)) t<;>cases V.get (V.Ce pn) t<;>intro this<;>first|exact this.elim|exact RV.mono (tO hs.h _ _) this)
  have GD:RV (m.add s.H.bl.length (some sv.H.bl.length) 0) (.fn f cs) (.fn f as):=RV.mono r2 (.fn f cs as hl hr);obtain⟨r',Lc,k1,m2,k2,k3,k4,k5⟩:=h3 _ _ (.fn f as) [.yl sv.H.bl.length] r1 GD (RL.cons (.yl _ _ (by rw[ae])) .nil);have Lp:m2.ι s.H.bl.length 0=some sv.H.bl.length:=(k4.of _ _ (by rw[ae])).1;obtain⟨x',rI,q1,q2,q3⟩:=k2.Tc _ _ hb;rw[Lp]at q1;simp at q1;subst q1;have Yd:live H' s.H.bl.length:=⟨_,hb,rfl⟩;obtain⟨w1,w2⟩:=RH.set (yv:= .dead) k2 Yd Lp (y:= .dead) trivial;have hle:m.Le m2:=r2.trans k4;have fq:Yj m.top m sv.H m2 (V.Sa Lc sv.H.bl.length .dead):=(r3.trans k5 r3.Pk.1).trans w2 ((r3.trans k5 r3.Pk.1).Pk.1);refine⟨{ sv with H:=V.Sa Lc sv.H.bl.length .dead },m2,φ,?_,⟨w1,hs.f.mono hle,hs.e.mono hle (.refl φ),?_⟩,fq.less (by rw[hlen];exact hs.b)⟩
  ·simp only[V.code,if_true,e1,e3,ga];have hf2:∃fn,A.fns f=some fn/\fn.body.isSome=true:=by
    cases hA:A.fns f with
    |none=>rw[hA]at mo;simp at mo
    |some fn=>rw[hA]at mo;exact⟨fn,rfl,mo⟩
   obtain⟨fn,hf3,hf4⟩:=hf2;simp only[hf3,hf4,if_true,ga,k1,q2];have WG:Lc.wm<=sv.H.bl.length:=by rw[k5.wm];exact hs.h.top
   have hj:V.UG pe.jump=some pe:=by cases pe<;>rfl
   cases st with
   |busy=>exact(dc rfl).elim
   |ready=>simp[WG,hj]
   |done=>simp[WG,hj]
   |exhausted=>simp[WG,hj]
  ·show s.base<=(Sa H' _ _).bl.length;have:s.H.bl.length<=H'.bl.length:=by
    have:=Xa hb;omega
   simp only[Sa,Td];exact Gb hs.b this
def Ui(C:V.Callee)(spec:Spec):Prop:=
 ∀(X:Type)(args:List UV)(H:UH)(K:UV->UH->Option X)(out:X),spec X args H K=some out->
  ∃r H',K r H'=some out/\H'.wm=H.wm/\∀(m:Mp)(Hv:V.AH)(a0:V.AV)(as:List V.AV),RH m H Hv->RL m args (a0::as)->∃r' Lc,C a0 as Hv=some (r',Lc)/\gq m Hv r H' r' Lc
theorem Ui.imp{C:V.Callee}{g g':Spec}(h:Ui C g)(hi:∀X args H K out,g' X args H K=some out->g X args H K=some out):Ui C g':=
 fun X args H K out ho=>h X args H K out (hi X args H K out ho)
theorem pB{m:Mp}{φ:Nat->Option Nat}:∀{ps:List Nat}{as:List UV}{tn:List V.AV}{e:List (Nat×US)}{ev:List (Nat×V.SV)},RL m as tn->RE m φ e ev->RE m φ (kj ps as e) (V.kj ps tn ev)
 |[],as,tn,e,ev,_,he=>by cases as<;>cases tn<;>exact he
 |p::ps,[],tn,e,ev,h,he=>by
  have:tn=[]:=by have:=h.1;simpa using this
  subst this;exact he
 |p::ps,a::as,tn,e,ev,h,he=>by
  cases tn with
  |nil=>have:=h.1;simp at this
  |cons a' tn=>
   have hr:RL m as tn:=⟨by have:=h.1;simpa using this,fun i y b k1 k2=>h.2 (i+1) y b (by simpa using k1) (by simpa using k2)⟩;exact pB (ps:=ps) hr (he.cons p (h.2 0 a a' rfl rfl).rs)
theorem JU{m:Mp}{φ:Nat->Option Nat}{e:List (Nat×UV)}{pn:List (Nat×V.AV)} (h:∀t,match get (Ce e) t,V.get (V.Ce pn) t with
  | .v y,.v a=>RV m y a
  |_,_=>False):RE m φ (Ce e) (V.Ce pn):=fun t=>by
 have:=h t
 revert this
 cases get (Ce e) t<;>cases V.get (V.Ce pn) t<;>intro this
 ·exact RV.rs this
 ·exact this.elim
 ·exact this.elim
 ·exact this.elim
theorem bac{m m1:Mp}{H H':UH}{Hv sV Lc:V.AH}{r:UV}{r':V.AV}(hgw:H'.wm<=H.bl.length)(hh:RH m H Hv)(fq:Yj H.bl.length m Hv m1 sV)(hg:gq m1 sV r H' r' Lc)(Rz:H.bl.length<=m1.top):
  gq m Hv (gc H.bl.length r H').1 (gc H.bl.length r H').2 r' Lc:=by
 obtain⟨m20,IC,e20,e3,e4⟩:=hg;have VJ:Yj H.bl.length m Hv m20 Lc:=fq.trans e4 Rz;have dc:Om m20 (fun _=>none) ⟨[(0,.v r)],[],H',H.bl.length⟩ ⟨[(0,.v r')],[],Lc⟩:=⟨IC,⟨fun i j h=>by simp at h,fun i row h=>by simp at h,fun i i' j h=>by simp at h⟩,fun t=>by
  simp only[get,V.get];split
  ·exact e20.rs
  ·exact trivial,by have:=VJ.Pk.1;rw[IC.len]at this;exact this⟩
 obtain⟨m2,gA,c1,c2⟩:=Km (keep:=[0]) (n:=1) (by simp) dc hgw (.refl 1 _);have e1:RH m2 (gc H.bl.length r H').2 Lc:=c1.h;have e2:RV m2 (gc H.bl.length r H').1 r':=by
  have:=c1.e 0;simp only[gc]
  revert this
  simp only[V.get,if_true];cases get (compact [0] ⟨[(0,.v r)],[],H',H.bl.length⟩).e 0 with
  |loc i c=>exact fun h=>h.elim
  |v x=>intro h;cases x<;>first|exact .Sb _|exact h
 have cH:Yj m.top m Hv m2 Lc:=by rw[hh.len];exact VJ.trans c2 (va _)
 refine⟨m2,e1,e2,⟨fun b _ x hb=> ?_,cH.Pk.1,fun b hb=>(cH.Pk.2 b hb).2⟩,cH⟩;have:=cH.Pk.2 b (by rw[hh.len];exact(hh.He b x hb).1);exact⟨by rw[this.1];exact hb,by rw[this.2]⟩
theorem B8{b:Bool}{base:Nat}{H:UH}:(gc base (.bool b) H).1= .bool b:=by
 simp[gc,compact,get,OR,Rj]
theorem uV(hg:Fe A Ra){env:Env}{k:Nat}(hc:Gc (V.call A k) env.call){id:Nat}{r:RFn}(FM:TB.rf id=r)
  (EL:∀c'∈loops env.join r.assign,Kc env.loop (V.code A (V.call A k) false [] (ua r.n) r.n) c')
  (TJ:∀c'∈loops env.join r.body,Kc env.loop (V.code A (V.call A k) false [] (ua r.n) r.n) c'):
  Ui (V.call A (k+1)) (fun X args H K=>CO A Ra env id r args H K):=by
 intro X args H K out h;unfold CO at h;simp only at h;split at h
 case h_2=>simp at h
 rename_i b as;split at h
 case h_2=>simp at h
 rename_i gD e pe0 hb;split at h
 case isFalse=>simp at h
 rename_i hif;obtain⟨rfl,hlen,mF,LB⟩:=hif;obtain⟨V_,s1,h1,c1⟩:=wg hg hc EL h;split at h1
 case h_2=>simp at h1
 split at h1
 case h_2=>simp at h1
 rename_i bP e1 pe1 Np;obtain⟨ex,s2,h2,c2⟩:=wg hg hc TJ h1;split at h2
 case h_2=>simp at h2
 rename_i aP e2 st2 pe2 HD;split at h2
 case isFalse=>simp at h2
 rename_i o6;generalize dc:(if ex.Vg=true then LoopState.ready else LoopState.done)=S8 at h2;have WG:s2.H.wm=H.wm:=c2.2.1.trans c1.2.1;refine⟨_,_,h2,WG,fun m Hv a0 tn hh ha=> ?_⟩;obtain⟨a0',Zaq,ha1,ZW,ha3⟩:=ha.ji;simp only[List.cons.injEq]at ha1;obtain⟨rfl,rfl⟩:=ha1;cases ZW with
 |yl _ x hx=>
  obtain⟨x0,pn,q1,q2,q3⟩:=hh.Tc b _ hb;rw[hx]at q1;simp at q1;subst q1;rw[FM]at q2;have yS:b<H.bl.length:=Xa hb;have I4:Om m (fun _=>none) ⟨kj r.ps as (Ce e),[],H,H.bl.length⟩ ⟨V.kj r.ps tn (V.Ce pn),[],Hv⟩:=
   ⟨hh,⟨fun i j h=>by simp at h,fun i row h=>by simp at h,fun i i' j h=>by simp at h⟩,pB ha3 (JU q3),va _⟩
  obtain⟨ik,m1,PA,k1,k2,k3⟩:=c1.2.2 m _ _ I4;have Ej:m1.ι b 0=some x:=by rw[(k3.Pk.2 b yS).1];exact hx
  obtain⟨x1,bO,p1,p2,p3⟩:=k2.h.Tc b _ Np;rw[Ej]at p1;simp at p1;subst p1;have sab:x<ik.H.bl.length:=(k2.h.He b x Ej).2;obtain⟨w1,w2⟩:=RH.set (y:= .loop bP e1 .busy pe1) (yv:= .loop (TB.rf bP).n (ua (TB.rf bP).n) bO (TB.rf bP).ps (TB.rf bP).assign (TB.rf bP).body .busy pe1.jump) k2.h ⟨_,Np,rfl⟩ Ej ⟨x,bO,Ej,by rw[Ac,if_pos rfl,if_pos sab],p3⟩;have G4:Om m1 PA { s1 with H:=Sa s1.H b (.loop bP e1 .busy pe1) } { ik with H:=V.Sa ik.H x (.loop (TB.rf bP).n (ua (TB.rf bP).n) bO (TB.rf bP).ps (TB.rf bP).assign (TB.rf bP).body .busy pe1.jump) }:=
   ⟨w1,k2.f,k2.e,by simpa[Sa]using k2.b⟩
  obtain⟨DV,m2,gA,l1,l2,l3⟩:=c2.2.2 m1 PA _ G4;have hah:s1.base=H.bl.length:=c1.1;have l3':=l3.less (n':=H.bl.length) (by show H.bl.length<=s1.base;omega);have Dq:m2.ι b 0=some x:=by rw[(l3'.Pk.2 b yS).1];exact Ej
  obtain⟨x2,rI,u1,u2,u3⟩:=l2.h.Tc b _ HD;rw[Dq]at u1;simp at u1;subst u1;have xS:x<DV.H.bl.length:=(l2.h.He b x Dq).2;obtain⟨v1,v2⟩:=RH.set (y:= .loop aP e2 S8 ex) (yv:= .loop (TB.rf aP).n (ua (TB.rf aP).n) rI (TB.rf aP).ps (TB.rf aP).assign (TB.rf aP).body S8 ex.jump) l2.h ⟨_,HD,rfl⟩ Dq ⟨x,rI,Dq,by rw[Ac,if_pos rfl,if_pos xS],u3⟩;have VW:Yj H.bl.length m Hv m2 DV.H:=(k3.trans (w2.less (by rw[k2.h.len,<- hah];exact k2.b)) (va _)).trans l3' (va _);refine⟨.bool ex.Vg,V.Sa DV.H x (.loop (TB.rf aP).n (ua (TB.rf aP).n) rI (TB.rf aP).ps (TB.rf aP).assign (TB.rf aP).body S8 ex.jump),?_,?_⟩
  ·have l6:Hv.wm<=x:=hh.wm b x hx mF;simp only[V.call,q2];rw[if_pos ⟨by rw[ha3.1];exact hlen,l6,LB⟩,k1];simp only[ga,p2,l1,u2,dc]
  ·have x9:H.bl.length<=m2.top:=l3'.Pk.1;have:=bac (r:= .bool ex.Vg) (r':= .bool ex.Vg) (H':=Sa s2.H b (.loop aP e2 S8 ex)) o6 hh VW ⟨m2,v1,.bool _,.refl m2,v2⟩ x9;rw[B8]at this;exact this
theorem dL{C:V.Callee}:∀{l:List (FuncId×Spec)},(∀p∈l,Ui C p.2)->∀f,Ui C (JC l f)
 |[],_,f,X,args,H,K,out,h=>by simp[JC]at h
 |(g,sp)::l,hl,f,X,args,H,K,out,h=>by
  simp only[JC]at h;split at h
  ·rename_i e;subst e;exact hl (f,sp) (Fc ..) X args H K out h
  ·exact dL (fun p hp=>hl p (Ib _ hp)) f X args H K out h
theorem jO{C:V.Callee}{l ly:List (FuncId×Spec)}(hl:∀p∈l,Xe C p.1 p.2)(hy:∀p∈ly,Ui C p.2):Gc C (fun X fv args H K=>I3 l ly X fv args H K):=by
 refine QC (spec:=fun X fv args H K=>_) ?_;intro X fv args H K out h;simp only at h;split at h
 ·rename_i f cs;obtain⟨r,H',h1,h2,h3⟩:=vI hl f X _ H K out h;refine⟨r,H',h1,h2,fun m Hv S4 rh hh hf ha=> ?_⟩;cases hf with
  |fn _ _ as Zf hr=>exact h3 m Hv rh as hh (ha.append ⟨Zf,hr⟩)
 ·rename_i b;split at h
  case h_2=>simp at h
  obtain⟨r,H',h1,h2,h3⟩:=dL hy _ X _ H K out h;exact⟨r,H',h1,h2,fun m Hv S4 rh hh hf ha=>h3 m Hv S4 rh hh (.cons hf ha)⟩
 ·simp at h
end
end Go.U
namespace Go.U
open Go
inductive Sk where
 |bool
 |int (k:IntKind)
 |str
 |lit (c:CT)
 |sl (b:Nat)
 |Um (b c:Nat)
 |Qp (b:Nat)
 |cq (b c:Nat)
 |Sb
 |Me
 |Ya
 |Pd
 |Ef
 |af
 |Sg
 |ptr (b c:Nat)
 |all (b:Nat)
 |mp (b:Nat)
 |yl (b:Nat)
 |Bd (l:Sk)
 |fn (f:FuncId) (l:Sk)
 |agg (l:Sk)
 |Qc (l:Sk)
 |nil
 |cons (a b:Sk)
def Sk.T:Sk->Type
 | .bool=>Bool
 | .int _=>Int
 | .str=>ByteArray
 | .lit c=>List (Fb c)
 | .sl _=>Nat×Nat
 | .Um _ _=>Nat
 | .Qp _=>Nat
 | .cq _ _=>Nat×Nat
 | .Bd l=>l.T
 | .fn _ l=>l.T
 | .agg l=>l.T
 | .Qc l=>l.T
 | .cons a b=>a.T×b.T
 |_=>Unit
def Sk.fill:(k:Sk)->k.T->UV ⊕ List UV
 | .bool,b=> .inl (.bool b)
 | .int k,n=> .inl (.int k n)
 | .str,s=> .inl (.str s)
 | .lit c,l=> .inl (.lit c l)
 | .sl b,p=> .inl (.sl b p.1 p.2)
 | .Um b c,r=> .inl (.Um b r c)
 | .Qp b,r=> .inl (.Qp b r)
 | .cq b c,p=> .inl (.cq b p.1 p.2 c)
 | .Sb,_=> .inl .Sb
 | .Me,_=> .inl .Me
 | .Ya,_=> .inl .Ya
 | .Pd,_=> .inl .Pd
 | .Ef,_=> .inl .Ef
 | .af,_=> .inl .af
 | .Sg,_=> .inl .Sg
 | .ptr b c,_=> .inl (.ptr b c)
 | .all b,_=> .inl (.all b)
 | .mp b,_=> .inl (.mp b)
 | .yl b,_=> .inl (.yl b)
 | .Bd l,t=> .inl (.Bd ((l.fill t).elim (fun _=>[]) id))
 | .fn f l,t=> .inl (.fn f ((l.fill t).elim (fun _=>[]) id))
 | .agg l,t=> .inl (.agg ((l.fill t).elim (fun _=>[]) id))
 | .Qc l,t=> .inl (.Qc ((l.fill t).elim (fun _=>[]) id))
 | .nil,_=> .inr []
 | .cons a b,(x,y)=> .inr ((a.fill x).elim id (fun _=> .Sb)::(b.fill y).elim (fun _=>[]) id)
def Sk.take:(k:Sk)->UV ⊕ List UV->Option k.T
 | .bool=>fun x=>match x with| .inl (.bool b)=>some b|_=>none
 | .int k=>fun x=>match x with| .inl (.int k' n)=>if k'=k then some n else none|_=>none
 | .str=>fun x=>match x with| .inl (.str s)=>some s|_=>none
 | .lit c=>fun x=>match x with| .inl (.lit c' l)=>if h:c'=c then some (h ▸ l)else none|_=>none
 | .sl b=>fun x=>match x with| .inl (.sl b' r n)=>if b'=b then some (r,n)else none|_=>none
 | .Um b c=>fun x=>match x with| .inl (.Um b' r c')=>if b'=b/\c'=c then some r else none|_=>none
 | .Qp b=>fun x=>match x with| .inl (.Qp b' r)=>if b'=b then some r else none|_=>none
 | .cq b c=>fun x=>match x with| .inl (.cq b' r j c')=>if b'=b/\c'=c then some (r,j)else none|_=>none
 | .Sb=>fun x=>match x with| .inl .Sb=>some ()|_=>none
 | .Me=>fun x=>match x with| .inl .Me=>some ()|_=>none
 | .Ya=>fun x=>match x with| .inl .Ya=>some ()|_=>none
 | .Pd=>fun x=>match x with| .inl .Pd=>some ()|_=>none
 | .Ef=>fun x=>match x with| .inl .Ef=>some ()|_=>none
 | .af=>fun x=>match x with| .inl .af=>some ()|_=>none
 | .Sg=>fun x=>match x with| .inl .Sg=>some ()|_=>none
 | .ptr b c=>fun x=>match x with| .inl (.ptr b' c')=>if b'=b/\c'=c then some ()else none|_=>none
 | .all b=>fun x=>match x with| .inl (.all b')=>if b'=b then some ()else none|_=>none
 | .mp b=>fun x=>match x with| .inl (.mp b')=>if b'=b then some ()else none|_=>none
 | .yl b=>fun x=>match x with| .inl (.yl b')=>if b'=b then some ()else none|_=>none
 | .Bd l=>fun x=>match x with| .inl (.Bd cs)=>l.take (.inr cs)|_=>none
 | .fn f l=>fun x=>match x with| .inl (.fn f' cs)=>if f'=f then l.take (.inr cs)else none|_=>none
 | .agg l=>fun x=>match x with| .inl (.agg cs)=>l.take (.inr cs)|_=>none
 | .Qc l=>fun x=>match x with| .inl (.Qc cs)=>l.take (.inr cs)|_=>none
 | .nil=>fun x=>match x with| .inr []=>some ()|_=>none
 | .cons a b=>fun x=>match x with| .inr (y::ys)=>(a.take (.inl y)).bind fun u=>(b.take (.inr ys)).bind fun v=>some (u,v)|_=>none
theorem qk{α:Type}{t:α}(h:(none:Option α)=some t):False:=by cases h
theorem l8{a b:Int}(h:decide (a=b)=true):a=b:=of_decide_eq_true h
theorem Sk.xd:∀(k:Sk)(x:UV ⊕ List UV)(t:k.T),k.take x=some t->k.fill t=x:=by
 intro k;induction k with
 |bool|str|Sb|Me|Ya|Pd|Ef|af|Sg|nil=>
  intro x t h;simp only[Sk.take]at h;split at h
  ·injection h with h;subst h;rfl
  ·simp at h
 |int k=>
  intro x t h;simp only[Sk.take]at h;split at h
  ·split at h
   ·rename_i e;subst e;injection h with h;subst h;rfl
   ·simp at h
  ·simp at h
 |lit c=>
  intro x t h;simp only[Sk.take]at h;split at h
  ·split at h
   ·rename_i e;subst e;injection h with h;subst h;rfl
   ·simp at h
  ·simp at h
 |sl b|all b|mp b|yl b|Qp b=>
  intro x t h;simp only[Sk.take]at h;split at h
  ·split at h
   ·rename_i e;subst e;injection h with h;subst h;rfl
   ·simp at h
  ·simp at h
 |Um b c|ptr b c|cq b c=>
  intro x t h;simp only[Sk.take]at h;split at h
  ·split at h
   ·rename_i e;obtain⟨rfl,rfl⟩:=e;injection h with h;subst h;rfl
   ·simp at h
  ·simp at h
 |Bd l ih=>
  intro x t h;cases x with
  |inr _=>exact(qk (α:=l.T) (t:=t) h).elim
  |inl v=>
   cases v with
   |Bd cs=>
    show Sum.inl (UV.Bd ((l.fill t).elim (fun _=>[]) id))=_;rw[ih (.inr cs) t h];rfl
   |_=>exact(qk (α:=l.T) (t:=t) h).elim
 |agg l ih=>
  intro x t h;cases x with
  |inr _=>exact(qk (α:=l.T) (t:=t) h).elim
  |inl v=>
   cases v with
   |agg cs=>
    show Sum.inl (UV.agg ((l.fill t).elim (fun _=>[]) id))=_;rw[ih (.inr cs) t h];rfl
   |_=>exact(qk (α:=l.T) (t:=t) h).elim
 |Qc l ih=>
  intro x t h;cases x with
  |inr _=>exact(qk (α:=l.T) (t:=t) h).elim
  |inl v=>
   cases v with
   |Qc cs=>
    show Sum.inl (UV.Qc ((l.fill t).elim (fun _=>[]) id))=_;rw[ih (.inr cs) t h];rfl
   |_=>exact(qk (α:=l.T) (t:=t) h).elim
 |fn f l ih=>
  intro x t h;simp only[Sk.take]at h;split at h
  ·rename_i f' cs;have h:(if f'=f then l.take (.inr cs)else none)=some (t:l.T):=h;split at h
   ·rename_i e;subst e;show Sum.inl (UV.fn f' ((l.fill t).elim (fun _=>[]) id))=_;rw[ih _ _ h];rfl
   ·simp at h
  ·simp at h
 |cons a b iha ihb=>
  intro x t h;simp only[Sk.take]at h;split at h
  ·simp only[aa]at h;obtain⟨u,hu,v,hv,h⟩:=h;injection h with h
   subst h;simp only[Sk.fill,iha _ _ hu,ihb _ _ hv];rfl
  ·simp at h
def Sk.v(k:Sk)(t:k.T):UV:=(k.fill t).elim id fun _=> .Sb
def Sk.l(k:Sk)(t:k.T):List UV:=(k.fill t).elim (fun _=>[]) id
inductive I8 where
 |v (k:Sk)
 |loc (i c:Nat)
inductive pD where
 |dead
 |Za (l:Sk)
 |cells (c:CT)
 |deep (c:CT)
 |uk (k:KT) (es:List (od k×Sk))
 |vh (k:KT) (g:Bool) (c:CT)
 |loop (id:Nat) (env:List (Nat×Sk)) (st:LoopState) (pe:V.Ex)
 |Mm (q:Sk)
 |Rp
def tyE:List (Nat×I8)->Type
 |[]=>Unit
 |(_,.v k)::l=>k.T×tyE l
 |(_,.loc _ _)::l=>tyE l
def wF:(l:List (Nat×I8))->tyE l->List (Nat×US)
 |[],_=>[]
 |(i,.v k)::l,(x,y)=>(i,.v (k.v x))::wF l y
 |(i,.loc j c)::l,y=>(i,.loc j c)::wF l y
def Sy:(l:List (Nat×I8))->List (Nat×US)->Option (tyE l)
 |[]=>fun e=>match e with|[]=>some ()|_=>none
 |(i,.v k)::l=>fun e=>match e with|(i',.v x)::e=>if i'=i then(k.take (.inl x)).bind fun u=>(Sy l e).bind fun v=>some (u,v)else none|_=>none
 |(i,.loc j c)::l=>fun e=>match e with|(i',.loc j' c')::e=>if i'=i/\j'=j/\c'=c then Sy l e else none|_=>none
def tyF:List Sk->Type
 |[]=>Unit
 |k::l=>k.T×tyF l
def vP:(l:List Sk)->tyF l->List (List UV)
 |[],_=>[]
 |k::l,(x,y)=>k.l x::vP l y
def aJ:(l:List Sk)->List (List UV)->Option (tyF l)
 |[]=>fun e=>match e with|[]=>some ()|_=>none
 |k::l=>fun e=>match e with|x::e=>(k.take (.inr x)).bind fun u=>(aJ l e).bind fun v=>some (u,v)|_=>none
def tyM{k:KT}:List (od k×Sk)->Type
 |[]=>Unit
 |p::l=>p.2.T×tyM l
def mK{k:KT}:(l:List (od k×Sk))->tyM l->List (od k×UV)
 |[],_=>[]
 |p::l,(x,y)=>(p.1,p.2.v x)::mK l y
def OE{k:KT}:(l:List (od k×Sk))->List (od k×UV)->Option (tyM l)
 |[]=>fun e=>match e with|[]=>some ()|_=>none
 |p::l=>fun e=>match e with|(i,x)::e=>cond (UI k p.1 i) ((p.2.take (.inl x)).bind fun u=>(OE l e).bind fun v=>some (u,v)) none|_=>none
def tyN:List (Nat×Sk)->Type
 |[]=>Unit
 |p::l=>p.2.T×tyN l
def lK:(l:List (Nat×Sk))->tyN l->List (Nat×UV)
 |[],_=>[]
 |p::l,(x,y)=>(p.1,p.2.v x)::lK l y
def takeN:(l:List (Nat×Sk))->List (Nat×UV)->Option (tyN l)
 |[]=>fun e=>match e with|[]=>some ()|_=>none
 |p::l=>fun e=>match e with|(i,x)::e=>if i=p.1 then((p.2.take (.inl x)).bind fun u=>(takeN l e).bind fun v=>some (u,v))else none|_=>none
def EG:LoopState->LoopState->Bool
 | .ready,.ready| .busy,.busy| .done,.done| .exhausted,.exhausted=>true
 |_,_=>false
theorem JR{a b:LoopState}(h:EG a b=true):a=b:=by cases a<;>cases b<;>first|rfl|simp[EG]at h
def pD.T:pD->Type
 | .dead=>Unit
 | .Za l=>l.T
 | .cells c=>List (Fb c)
 | .deep c=>List (List (Fb c))
 | .uk _ es=>tyM es
 | .vh k _ c=>List (od k×Fb c)
 | .loop _ env _ _=>tyN env
 | .Mm q=>q.T
 | .Rp=>ByteArray
def pD.fill:(b:pD)->b.T->UB
 | .dead,_=> .dead
 | .Za l,t=> .Za (l.l t)
 | .cells c,l=> .cells c l
 | .deep c,l=> .deep c l
 | .uk k es,t=> .uk k (mK es t)
 | .vh k g c,l=> .vh k g c l
 | .loop id env st pe,t=> .loop id (lK env t) st pe
 | .Mm q,t=> .Mm (q.v t)
 | .Rp,s=> .Rp s
def pD.take:(b:pD)->UB->Option b.T
 | .dead=>fun x=>match x with| .dead=>some ()|_=>none
 | .Za l=>fun x=>match x with| .Za row=>l.take (.inr row)|_=>none
 | .cells c=>fun x=>match x with| .cells c' l=>if h:c'=c then some (h ▸ l)else none|_=>none
 | .deep c=>fun x=>match x with| .deep c' l=>if h:c'=c then some (h ▸ l)else none|_=>none
 | .uk k es=>fun x=>match x with| .uk k' sd=>if h:k'=k then OE es (h ▸ sd)else none|_=>none
 | .vh k g c=>fun x=>match x with| .vh k' g' c' l=>if h:k'=k/\g'=g/\c'=c then some (h.1 ▸ h.2.2 ▸ l)else none|_=>none
 | .loop id env st pe=>fun x=>match x with| .loop gD pn S8 pe'=>if gD=id/\EG S8 st=true/\pe'=pe then takeN env pn else none|_=>none
 | .Mm q=>fun x=>match x with| .Mm y=>q.take (.inl y)|_=>none
 | .Rp=>fun x=>match x with| .Rp s=>some s|_=>none
def tyH:List pD->Type
 |[]=>Unit
 |b::l=>b.T×tyH l
def vF:(l:List pD)->tyH l->List UB
 |[],_=>[]
 |b::l,(x,y)=>b.fill x::vF l y
def PE:(l:List pD)->List UB->Option (tyH l)
 |[]=>fun e=>match e with|[]=>some ()|_=>none
 |b::l=>fun e=>match e with|x::e=>(b.take x).bind fun u=>(PE l e).bind fun v=>some (u,v)|_=>none
theorem Sk.yG{k:Sk}{x:UV}{t:k.T}(h:k.take (.inl x)=some t):k.v t=x:=by rw[Sk.v,k.xd _ _ h];rfl
theorem Sk.WL{k:Sk}{x:List UV}{t:k.T}(h:k.take (.inr x)=some t):k.l t=x:=by rw[Sk.l,k.xd _ _ h];rfl
theorem ru:∀(l:List (Nat×I8))(e:List (Nat×US))(t:tyE l),Sy l e=some t->wF l t=e
 |[],e,t,h=>by
  cases e with
  |nil=>rfl
  |cons _ _=>simp[Sy]at h
 |(i,.v k)::l,e,t,h=>by
  simp only[Sy]at h;split at h
  ·split at h
   ·rename_i e0;subst e0;simp only[aa]at h;obtain⟨u,hu,v,hv,h⟩:=h;injection h with h;subst h
    simp only[wF,Sk.yG hu,ru l _ v hv]
   ·simp at h
  ·simp at h
 |(i,.loc j c)::l,e,t,h=>by
  simp only[Sy]at h;split at h
  ·rename_i i' j' c' e';have h:(if i'=i/\j'=j/\c'=c then Sy l e' else none)=some (t:tyE l):=h;split at h
   ·rename_i e0;obtain⟨rfl,rfl,rfl⟩:=e0;show(i',US.loc j' c')::wF l t=_;rw[ru l _ t h]
   ·simp at h
  ·simp at h
theorem dB:∀(l:List Sk)(e:List (List UV))(t:tyF l),aJ l e=some t->vP l t=e
 |[],e,t,h=>by
  cases e with
  |nil=>rfl
  |cons _ _=>simp[aJ]at h
 |k::l,e,t,h=>by
  simp only[aJ]at h;split at h
  ·simp only[aa]at h;obtain⟨u,hu,v,hv,h⟩:=h;injection h with h;subst h
   simp only[vP,Sk.WL hu,dB l _ v hv]
  ·simp at h
theorem oae{k:KT}{i j:od k}(h:UI k i j=true):i=j:=by
 cases k with
 |int k=>exact l8 (a:=i) (b:=j) h
 |str=>cases i;cases j;exact congrArg ByteArray.mk (eq_of_beq (α:=Array UInt8) h)
theorem cB{k:KT}:∀(l:List (od k×Sk))(e:List (od k×UV))(t:tyM l),OE l e=some t->mK l t=e
 |[],e,t,h=>by
  cases e with
  |nil=>rfl
  |cons _ _=>simp[OE]at h
 |p::l,e,t,h=>by
  simp only[OE]at h;split at h
  ·rename_i i x e;cases he:UI k p.1 i with
   |false=>rw[he]at h;simp at h
   |true=>
    rw[he]at h;simp only[cond_true,aa]at h;obtain⟨u,hu,v,hv,h⟩:=h;injection h with h;subst h
    simp only[mK,Sk.yG hu,cB l _ v hv,oae he]
  ·simp at h
theorem bB:∀(l:List (Nat×Sk))(e:List (Nat×UV))(t:tyN l),takeN l e=some t->lK l t=e
 |[],e,t,h=>by
  cases e with
  |nil=>rfl
  |cons _ _=>simp[takeN]at h
 |p::l,e,t,h=>by
  simp only[takeN]at h;split at h
  ·rename_i i x e;split at h
   ·rename_i he;simp only[aa]at h;obtain⟨u,hu,v,hv,h⟩:=h;injection h with h;subst h
    simp only[lK,Sk.yG hu,bB l _ v hv,he]
   ·simp at h
  ·simp at h
theorem pD.xd:∀(b:pD)(x:UB)(t:b.T),b.take x=some t->b.fill t=x
 | .dead,x,t,h=>by
  simp only[pD.take]at h;split at h
  ·rfl
  ·simp at h
 | .Za l,x,t,h=>by
  cases x with
  |Za row=>
   show UB.Za (l.l t)=_;rw[Sk.WL (x:=row) h]
  |_=>exact(qk (α:=l.T) (t:=t) h).elim
 | .cells c,x,t,h=>by
  simp only[pD.take]at h;split at h
  ·split at h
   ·rename_i e;subst e;injection h with h;subst h;rfl
   ·simp at h
  ·simp at h
 | .deep c,x,t,h=>by
  simp only[pD.take]at h;split at h
  ·split at h
   ·rename_i e;subst e;injection h with h;subst h;rfl
   ·simp at h
  ·simp at h
 | .uk k es,x,t,h=>by
  simp only[pD.take]at h;split at h
  ·rename_i k' sd;have h:(if h:k'=k then OE es (h ▸ sd)else none)=some (t:tyM es):=h;split at h
   ·rename_i e;subst e;show UB.uk k' (mK es t)=_;rw[cB _ _ _ h]
   ·simp at h
  ·simp at h
 | .vh k g c,x,t,h=>by
  simp only[pD.take]at h;split at h
  ·split at h
   ·rename_i e;obtain⟨rfl,rfl,rfl⟩:=e;injection h with h;subst h;rfl
   ·simp at h
  ·simp at h
 | .loop id env st pe,x,t,h=>by
  simp only[pD.take]at h;split at h
  ·rename_i gD pn S8 pe';have h:(if gD=id/\EG S8 st=true/\pe'=pe then takeN env pn else none)=some (t:tyN env):=h;split at h
   ·rename_i e;obtain⟨rfl,e2,rfl⟩:=e;have:=JR e2;subst this;show UB.loop gD (lK env t) _ pe'=_;rw[bB _ _ _ h]
   ·simp at h
  ·simp at h
 | .Mm q,x,t,h=>by
  cases x with
  |Mm y=>
   show UB.Mm (q.v t)=_;rw[Sk.yG (x:=y) h]
  |_=>exact(qk (α:=q.T) (t:=t) h).elim
 | .Rp,x,t,h=>by
  cases x with
  |Rp s=>injection h with h;subst h;rfl
  |_=>exact(qk (α:=ByteArray) (t:=t) h).elim
theorem qu:∀(l:List pD)(e:List UB)(t:tyH l),PE l e=some t->vF l t=e
 |[],e,t,h=>by
  cases e with
  |nil=>rfl
  |cons _ _=>simp[PE]at h
 |b::l,e,t,h=>by
  simp only[PE]at h;split at h
  ·simp only[aa]at h;obtain⟨u,hu,v,hv,h⟩:=h;injection h with h;subst h
   simp only[vF,pD.xd b _ _ hu,qu l _ v hv]
  ·simp at h
structure Qt where
 e:List (Nat×I8)
 F:List Sk
 bl:List pD
 wm:Nat
 base:Nat
def Qt.T(k:Qt):Type:=tyE k.e×tyF k.F×tyH k.bl
def Qt.fill(k:Qt)(t:k.T):St:=⟨wF k.e t.1,vP k.F t.2.1,⟨vF k.bl t.2.2,k.wm⟩,k.base⟩
def Qt.take(k:Qt)(s:St):Option k.T:=
 if s.H.wm=k.wm/\s.base=k.base then(Sy k.e s.e).bind fun a=>(aJ k.F s.F).bind fun b=>(PE k.bl s.H.bl).bind fun c=>some (a,b,c)else none
theorem Qt.xd{k:Qt}{s:St}{t:k.T}(h:k.take s=some t):k.fill t=s:=by
 unfold Qt.take at h;split at h
 case isFalse=>simp at h
 rename_i hw;simp only[aa]at h;obtain⟨a,ha,b,hb,c,hc,h⟩:=h;injection h with h;subst h
 simp only[Qt.fill,ru _ _ _ ha,dB _ _ _ hb,qu _ _ _ hc,<- hw.1,<- hw.2]
structure MA where
 l:Sk
 bl:List pD
 wm:Nat
def MA.T(k:MA):Type:=k.l.T×tyH k.bl
def MA.args(k:MA)(t:k.T):List UV:=k.l.l t.1
def MA.heap(k:MA)(t:k.T):UH:=⟨vF k.bl t.2,k.wm⟩
def MA.take(k:MA)(args:List UV)(H:UH):Option k.T:=
 if H.wm=k.wm then(k.l.take (.inr args)).bind fun a=>(PE k.bl H.bl).bind fun b=>some (a,b)else none
theorem MA.xd{k:MA}{args:List UV}{H:UH}{t:k.T}(h:k.take args H=some t):k.args t=args/\k.heap t=H:=by
 unfold MA.take at h;split at h
 case isFalse=>simp at h
 rename_i hw;simp only[aa]at h;obtain⟨a,ha,b,hb,h⟩:=h;injection h with h;subst h
 exact⟨Sk.WL ha,by simp only[MA.heap,qu _ _ _ hb,<- hw]⟩
theorem PU{α β:Type}(b:Bool)(x y:Option α)(k:α->Option β):(cond b x y).bind k=cond b (x.bind k) (y.bind k):=by cases b<;>rfl
theorem N3{α β:Type}(b:Bool)(x:Option α)(k:α->Option β):(ask b x).bind k=ask b (x.bind k):=by cases b<;>rfl
theorem KU{α β γ δ:Type}(e:α ⊕ β)(f:α->Option γ)(g:β->Option γ)(k:γ->Option δ):(e.elim f g).bind k=e.elim (fun a=>(f a).bind k) (fun a=>(g a).bind k):=by cases e<;>rfl
def tX(Kd:qG)(pe:V.Ex->qG):V.Ex->St->Option (St ⊕ (V.Ex×St))
 | .normal,s=>(Wp Kd s).bind fun s=>some (.inl s)
 |ex,s=>(Wp (pe ex) s).bind fun s=>some (.inr (ex,s))
section
variable [TB:ZC]{rf:Bool}
variable {A:V.Eh}{C:V.Callee}{Ra:Nat->Option (List UV)}{Fa:List Nat}{n:Nat}
theorem vM(hg:Fe A Ra){env:Env}(hc:Gc C env.call){c:Code}(hl:∀c'∈loops env.join c,Kc env.loop (V.code A C rf Fa (ua n) n) c')
  {P T E:Type} {enc:P->T->St} {Zn:P->E->V.Ex×St} {Kd:qG} {pe:V.Ex->qG} (uS:Po n Kd) (hpe:∀ex,Po n (pe ex))
  {step:(Y:Type)->P->T->(T->Option Y)->(E->Option Y)->Option Y}
  (Ii:∀Y p t ki ke,step Y p t ki ke=(step (T ⊕ E) p t (fun t=>some (.inl t)) (fun e=>some (.inr e))).bind (Sum.elim ki ke))
  (Hi:∀p t,code A Ra env Fa n c (enc p t) (tX Kd pe)=step _ p t (fun t'=>some (.inl (enc p t'))) (fun e=>some (.inr (Zn p e))))
  {JG:(X:Type)->Nat->St->(V.Ex->St->Option X)->Option X}
  (MW:∀(X:Type)(s:St)(K:V.Ex->St->Option X)(out:X),JG X (qf c) s K=some out->∃p t e,Wp Kd s=some (enc p t)/\Ia (fun t=>step (T ⊕ E) p t (fun t=>some (.inl t)) (fun e=>some (.inr e))) t=some e/\K (Zn p e).1 (Zn p e).2=some out):
  Kc JG (V.code A C rf Fa (ua n) n) (.loop c):=by
 intro X s K out h;obtain⟨p,t,e,h1,h2,h3⟩:=MW X s K out h;obtain⟨p1,p2,p3⟩:=Bj h1 uS;have main:∀(N:Nat)(t:T)(e:E),Ip (fun t=>step (T ⊕ E) p t (fun t=>some (.inl t)) (fun e=>some (.inr e))) N t=some e->(Zn p e).2.base=(enc p t).base/\(Zn p e).2.H.wm=(enc p t).H.wm/\∀(m:Mp)(φ:Nat->Option Nat)(sv:V.S),Om m φ (enc p t) (V.clean (ua n) sv)->
   ∃xe m' Pg,V.Zt (fun s=>V.code A C rf Fa (ua n) n c (V.clean (ua n) s)) N sv=some ((Zn p e).1,xe)/\Om m' Pg (Zn p e).2 xe/\Yj (enc p t).base m sv.H m' xe.H:=by
  intro N;induction N with
  |zero=>intro t e h;simp[Ip]at h
  |succ N ih=>
   intro t e h;simp only[Ip,aa]at h;obtain⟨r,hr,h⟩:=h;have Gj:=Hi p t;rw[Ii,hr]at Gj;cases r with
   |inl t'=>
    simp only[ga,Sum.elim_inl]at Gj;obtain⟨ex,s1,g1,g2⟩:=wg hg hc hl Gj;have hex:ex= .normal/\Wp Kd s1=some (enc p t'):=by
     cases ex<;>simp[tX,aa]at g1
     exact⟨rfl,g1⟩
    obtain⟨rfl,hpr⟩:=hex;obtain⟨q1,q2,q3⟩:=Bj hpr uS;obtain⟨i1,i2,i3⟩:=ih t' e h;refine⟨by rw[i1,q1,g2.1],by rw[i2,q2,g2.2.1],fun m φ sv hs=> ?_⟩;obtain⟨ik,m1,PA,e1,e2,e3⟩:=g2.2.2 m φ _ hs;obtain⟨m2,gA,e4,e5⟩:=q3 m1 PA ik _ e2 (.clean n ik);obtain⟨tD,m3,l5,e6,e7,e8⟩:=i3 m2 gA ik e4;rw[g2.1]at e5;rw[q1,g2.1]at e8;refine⟨tD,m3,l5,by simp only[V.Zt,e1,ga];exact e6,e7,?_⟩;exact(e3.trans e5 (va _)).trans e8 (va _)
   |inr e'=>
    simp at h;subst h;simp only[ga,Sum.elim_inr]at Gj;obtain⟨ex,s1,g1,g2⟩:=wg hg hc hl Gj;have hex:ex≠ .normal/\(Zn p e').1=ex/\Wp (pe ex) s1=some (Zn p e').2:=by
     cases ex<;>simp[tX,aa]at g1
     ·obtain⟨a,ha,hb⟩:=g1;rw[<- hb];exact⟨by simp,rfl,ha⟩
     ·obtain⟨a,ha,hb⟩:=g1;rw[<- hb];exact⟨by simp,rfl,ha⟩
    obtain⟨Sc,hex,hpr⟩:=hex;obtain⟨q1,q2,q3⟩:=Bj hpr (hpe ex);refine⟨by rw[q1,g2.1],by rw[q2,g2.2.1],fun m φ sv hs=> ?_⟩;obtain⟨ik,m1,PA,e1,e2,e3⟩:=g2.2.2 m φ _ hs;obtain⟨m2,gA,e4,e5⟩:=q3 m1 PA ik ik e2 (.refl n ik);rw[g2.1]at e5;refine⟨ik,m2,gA,?_,e4,e3.trans e5 (va _)⟩;rw[hex];simp only[V.Zt,e1,ga]
 obtain⟨i1,i2,i3⟩:=main V.Kn t e h2;refine⟨_,_,h3,by rw[i1,p1],by rw[i2,p2],fun m φ sv hs=> ?_⟩;obtain⟨m2,gA,e4,e5⟩:=p3 m φ sv _ hs (.clean n sv);obtain⟨tD,m3,l5,e6,e7,e8⟩:=i3 m2 gA sv e4;rw[p1]at e8;exact⟨tD,m3,l5,e6,e7,e5.trans e8 (va _)⟩
theorem uJ(hg:Fe A Ra){env:Env}(hc:Gc C env.call){c:Code}{Zd:Env}(Nf:Zd.call=env.call)
  (hl:∀c'∈loops Zd.join c,Kc Zd.loop (V.code A C rf Fa (ua n) n) c')
  {P E:Type} {enc:P->St} {Zn:P->E->V.Ex×St} {Kd:qG} {pe:V.Ex->qG} (uS:Po n Kd) (hpe:∀ex,Po n (pe ex))
  {step:(Y:Type)->P->(E->Option Y)->Option Y}
  (Ii:∀Y p ke,step Y p ke=(step E p (fun e=>some e)).bind ke)
  (Hi:∀p,code A Ra Zd Fa n c (enc p) (fun ex s=>(Wp (pe ex) s).bind fun s=>some (ex,s))=step _ p (fun e=>some (Zn p e)))
  {JG:(X:Type)->Nat->St->(V.Ex->St->Option X)->Option X}
  (MW:∀(X:Type)(s:St)(K:V.Ex->St->Option X)(out:X),JG X (keyOf c) s K=some out->∃p e,Wp Kd s=some (enc p)/\step E p (fun e=>some e)=some e/\K (Zn p e).1 (Zn p e).2=some out):
  Kc JG (V.code A C rf Fa (ua n) n) c:=by
 intro X s K out h;obtain⟨p,e,h1,h2,h3⟩:=MW X s K out h;obtain⟨p1,p2,p3⟩:=Bj h1 uS;have Gj:=Hi p;rw[Ii,h2]at Gj;simp only[ga]at Gj;obtain⟨ex,s1,g1,g2⟩:=wg hg (by rw[Nf];exact hc) hl Gj;simp only[aa,zc]at g1;obtain⟨s2,hpr,g1⟩:=g1;obtain⟨q1,q2,q3⟩:=Bj hpr (hpe ex);rw[<- g1]at h3;refine⟨ex,s2,h3,by rw[q1,g2.1,p1],by rw[q2,g2.2.1,p2],fun m φ sv hs=> ?_⟩;obtain⟨m1,PA,e1,e2⟩:=p3 m φ sv sv hs (.refl n sv);obtain⟨ik,m2,gA,e3,e4,e5⟩:=g2.2.2 m1 PA sv e1;obtain⟨m3,l5,e6,e7⟩:=q3 m2 gA ik ik e4 (.refl n ik);rw[p1]at e5;rw[g2.1,p1]at e7;exact⟨ik,m3,l5,e3,e6,(e2.trans e5 (va _)).trans e7 (va _)⟩
theorem pJ(hg:Fe A Ra){env:Env}(hc:Gc C env.call){Zd:Env}(Nf:Zd.call=env.call){id:Nat}{ks:List Nat}{g:Operand}{ps:Array Tmp}{a b:Code}(FM:TB.rf id=⟨n,ps.toList,a,b⟩)
  {P E:Type} {enc:P->St} {Zn:P->E->V.Ex×St} {Kd:qG} {pe:V.Ex->qG} (uS:Po n Kd) (hpe:∀ex,Po n (pe ex))
  {step:(Y:Type)->P->(E->Option Y)->Option Y}
  (Ii:∀Y p ke,step Y p ke=(step E p (fun e=>some e)).bind ke)
  (Hi:∀p,mJ A Ra Zd id n ks g (enc p) (fun ex s=>(Wp (pe ex) s).bind fun s=>some (ex,s))=step _ p (fun e=>some (Zn p e)))
  {JG:(X:Type)->Nat->St->(V.Ex->St->Option X)->Option X}
  (MW:∀(X:Type)(s:St)(K:V.Ex->St->Option X)(out:X),JG X (keyOf (.rangeFunc g ps a b)) s K=some out->∃p e,Wp Kd s=some (enc p)/\step E p (fun e=>some e)=some e/\K (Zn p e).1 (Zn p e).2=some out):
  Kc JG (V.code A C true Fa (ua n) n) (.rangeFunc g ps a b):=by
 intro X s K out h;obtain⟨p,e,h1,h2,h3⟩:=MW X s K out h;obtain⟨p1,p2,p3⟩:=Bj h1 uS;have Gj:=Hi p;rw[Ii,h2]at Gj;simp only[ga]at Gj;obtain⟨ex,s1,g1,g2⟩:=PV (Fa:=Fa) hg (by rw[Nf];exact hc) FM Gj;simp only[aa,zc]at g1;obtain⟨s2,hpr,g1⟩:=g1;obtain⟨q1,q2,q3⟩:=Bj hpr (hpe ex);rw[<- g1]at h3;refine⟨ex,s2,h3,by rw[q1,g2.1,p1],by rw[q2,g2.2.1,p2],fun m φ sv hs=> ?_⟩;obtain⟨m1,PA,e1,e2⟩:=p3 m φ sv sv hs (.refl n sv);obtain⟨ik,m2,gA,e3,e4,e5⟩:=g2.2.2 m1 PA sv e1;obtain⟨m3,l5,e6,e7⟩:=q3 m2 gA ik ik e4 (.refl n ik);rw[p1]at e5;rw[g2.1,p1]at e7;exact⟨ik,m3,l5,e3,e6,(e2.trans e5 (va _)).trans e7 (va _)⟩
end
end Go.U
namespace Go.U
open Go
theorem n1{α β:Type}(b:Bool)(x y:Option α)(k:α->Option β):(cond b x y).bind k=cond b (x.bind k) (y.bind k):=PU b x y k
theorem n2{α β:Type}(b:Bool)(x:Option α)(k:α->Option β):(ask b x).bind k=ask b (x.bind k):=N3 b x k
theorem n3{α β γ δ:Type}(e:α ⊕ β)(f:α->Option γ)(g:β->Option γ)(k:γ->Option δ):(e.elim f g).bind k=e.elim (fun a=>(f a).bind k) (fun a=>(g a).bind k):=KU e f g k
theorem n4{α β γ:Type}(x:Option α)(f:α->Option β)(g:β->Option γ):(x.bind f).bind g=x.bind fun a=>(f a).bind g:=Option.bind_assoc x f g
theorem n5{α β:Type}(a:α)(f:α->Option β):(some a).bind f=f a:=rfl
theorem n6{α β:Type}(f:α->Option β):(none:Option α).bind f=none:=rfl
theorem n7{α β γ:Type}(f:α->γ)(g:β->γ)(a:α):Sum.elim f g (.inl a)=f a:=rfl
theorem n8{α β γ:Type}(f:α->γ)(g:β->γ)(b:β):Sum.elim f g (.inr b)=g b:=rfl
def tv:List (V.Ex×qG)->V.Ex->qG
 |[],_=>⟨[],[],[],[]⟩
 |(e,p)::l,ex=>if ex=e then p else tv l ex
def bk(n:Nat)(p:qG):Bool:=p.keep.all fun t=>decide (t<n)
theorem Mv{n:Nat}{p:qG}(h:bk n p=true):Po n p:=fun t ht=>by
 have:=ic.1 h t ht;simpa using this
theorem IG{n:Nat}:∀{l:List (V.Ex×qG)},(l.all fun q=>bk n q.2)=true->∀ex,Po n (tv l ex)
 |[],_,ex=>fun t ht=>by simp[tv]at ht
 |(e,p)::l,h,ex=>by
  simp only[List.all_cons,Na]at h;unfold tv;split
  ·exact Mv h.1
  ·exact IG h.2 ex
structure LD(P T E:Type) where
 sk:Qt
 p:sk.T->P
 t:sk.T->T
 n:P->T->sk.T
 st:(Y:Type)->P->T->(T->Option Y)->(E->Option Y)->Option Y
 o:(Z:Type)->P->E->(V.Ex->St->Z)->Z
 Kd:qG
 pe:List (V.Ex×qG)
def LD.m{P T E:Type}(L:LD P T E)(p:P)(t:T):Option (T ⊕ E):=L.st _ p t (fun t=>some (.inl t)) (fun e=>some (.inr e))
def LD.q{P T E:Type}(L:LD P T E)(X:Type)(s:St)(K:V.Ex->St->Option X):Option X:=
 (Wp L.Kd s).bind fun s=>(L.sk.take s).bind fun u=>(Ia (L.m (L.p u)) (L.t u)).bind fun e=>L.o _ (L.p u) e K
structure PD(P E:Type) where
 sk:Qt
 p:sk.T->P
 st:(Y:Type)->P->(E->Option Y)->Option Y
 o:(Z:Type)->P->E->(V.Ex->St->Z)->Z
 Kd:qG
 pe:List (V.Ex×qG)
def PD.m{P E:Type}(L:PD P E)(p:P):Option E:=L.st _ p (fun e=>some e)
def PD.q{P E:Type}(L:PD P E)(X:Type)(s:St)(K:V.Ex->St->Option X):Option X:=
 (Wp L.Kd s).bind fun s=>(L.sk.take s).bind fun u=>(L.m (L.p u)).bind fun e=>L.o _ (L.p u) e K
structure FS(A R:Type) where
 sk:MA
 a:sk.T->A
 o:(Z:Type)->A->R->(UV->UH->Z)->Z
def FS.sp{A R:Type}(S:FS A R)(m:A->Option R):Spec:=fun X args H K=>(S.sk.take args H).bind fun u=>(m (S.a u)).bind fun r=>S.o _ (S.a u) r K
def kv{Z:Type}(K:UV->UH->Z)(k:Sk)(bl:List pD)(w:Nat)(x:k.T)(y:tyH bl):Z:=K ((k.fill x).elim id fun _=> .Sb) ⟨vF bl y,w⟩
def so{Z:Type}(K:V.Ex->St->Z)(ex:V.Ex)(k:Qt)(t:k.T):Z:=K ex (k.fill t)
section
variable [TB:ZC]{rf:Bool}
variable {A:V.Eh}{C:V.Callee}{Ra:Nat->Option (List UV)}{Fa:List Nat}{n:Nat}
noncomputable abbrev vc(A:V.Eh)(C:V.Callee)(rf:Bool)(Fa:List Nat)(n:Nat):=V.code A C rf Fa (ua n) n
theorem cS(hg:Fe A Ra){env:Env}(hc:Gc C env.call){c:Code}(hl:∀c'∈loops env.join c,Kc env.loop (vc A C rf Fa n) c'){P T E:Type}(L:LD P T E)
  (hk:(bk n L.Kd&&L.pe.all fun q=>bk n q.2)=true)
  (Ii:∀Y p t ki ke,L.st Y p t ki ke=(L.m p t).bind (Sum.elim ki ke))
  (Hi:∀p t,code A Ra env Fa n c (L.sk.fill (L.n p t)) (tX L.Kd (tv L.pe))=L.st _ p t (fun t=>some (.inl (L.sk.fill (L.n p t)))) (fun e=>some (.inr (L.o _ p e Prod.mk))))
  (WJ:∀u,L.n (L.p u) (L.t u)=u) (ho:∀Z p e K,L.o Z p e K=K (L.o _ p e Prod.mk).1 (L.o _ p e Prod.mk).2)
  (hq:∀X s K,env.loop X (qf c) s K=L.q X s K):Kc env.loop (vc A C rf Fa n) (.loop c):=by
 simp only[Na]at hk;refine vM hg (env:=env) hc hl (enc:=fun p t=>L.sk.fill (L.n p t)) (Zn:=fun p e=>L.o _ p e Prod.mk) (Kd:=L.Kd) (pe:=tv L.pe) (step:=L.st) (Mv hk.1) (IG hk.2) Ii Hi ?_;intro X s K out h;rw[hq]at h;unfold LD.q at h;obtain⟨s',hs,h⟩:=aa.1 h;obtain⟨u,hu,h⟩:=aa.1 h;obtain⟨e,he,h⟩:=aa.1 h;refine⟨L.p u,L.t u,e,?_,he,(ho _ _ _ _).symm.trans h⟩;rw[hs,WJ,Qt.xd hu]
theorem sB(hg:Fe A Ra){env Zd:Env}(hc:Gc C env.call)(Nf:Zd.call=env.call){c:Code}(hl:∀c'∈loops Zd.join c,Kc Zd.loop (vc A C rf Fa n) c'){P E:Type}(L:PD P E)
  (hk:(bk n L.Kd&&L.pe.all fun q=>bk n q.2)=true)
  (Ii:∀Y p ke,L.st Y p ke=(L.m p).bind ke)
  (Hi:∀u,code A Ra Zd Fa n c (L.sk.fill u) (fun ex s=>(Wp (tv L.pe ex) s).bind fun s=>some (ex,s))=L.st _ (L.p u) (fun e=>some (L.o _ (L.p u) e Prod.mk)))
  (ho:∀Z p e K,L.o Z p e K=K (L.o _ p e Prod.mk).1 (L.o _ p e Prod.mk).2)
  (hq:∀X s K,env.loop X (keyOf c) s K=L.q X s K):Kc env.loop (vc A C rf Fa n) c:=by
 simp only[Na]at hk;refine uJ hg (env:=env) (Zd:=Zd) hc Nf hl (enc:=fun u=>L.sk.fill u) (Zn:=fun u e=>L.o _ (L.p u) e Prod.mk) (Kd:=L.Kd) (pe:=tv L.pe) (step:=fun Y u=>L.st Y (L.p u)) (Mv hk.1) (IG hk.2) (fun Y u=>Ii Y (L.p u)) Hi ?_;intro X s K out h;rw[hq]at h;unfold PD.q at h;obtain⟨s',hs,h⟩:=aa.1 h;obtain⟨u,hu,h⟩:=aa.1 h;obtain⟨e,he,h⟩:=aa.1 h;refine⟨u,e,?_,he,(ho _ _ _ _).symm.trans h⟩;rw[hs,Qt.xd hu]
theorem nM(hg:Fe A Ra){env Zd:Env}(hc:Gc C env.call)(Nf:Zd.call=env.call){id:Nat}{ks:List Nat}{g:Operand}{ps:Array Tmp}{a b:Code}(FM:TB.rf id=⟨n,ps.toList,a,b⟩){P E:Type}(L:PD P E)
  (hk:(bk n L.Kd&&L.pe.all fun q=>bk n q.2)=true)
  (Ii:∀Y p ke,L.st Y p ke=(L.m p).bind ke)
  (Hi:∀u,mJ A Ra Zd id n ks g (L.sk.fill u) (fun ex s=>(Wp (tv L.pe ex) s).bind fun s=>some (ex,s))=L.st _ (L.p u) (fun e=>some (L.o _ (L.p u) e Prod.mk)))
  (ho:∀Z p e K,L.o Z p e K=K (L.o _ p e Prod.mk).1 (L.o _ p e Prod.mk).2)
  (hq:∀X s K,env.loop X (keyOf (.rangeFunc g ps a b)) s K=L.q X s K):Kc env.loop (vc A C true Fa n) (.rangeFunc g ps a b):=by
 simp only[Na]at hk;refine pJ hg (env:=env) (Zd:=Zd) hc Nf FM (enc:=fun u=>L.sk.fill u) (Zn:=fun u e=>L.o _ (L.p u) e Prod.mk) (Kd:=L.Kd) (pe:=tv L.pe) (step:=fun Y u=>L.st Y (L.p u)) (Mv hk.1) (IG hk.2) (fun Y u=>Ii Y (L.p u)) Hi ?_;intro X s K out h;rw[hq]at h;unfold PD.q at h;obtain⟨s',hs,h⟩:=aa.1 h;obtain⟨u,hu,h⟩:=aa.1 h;obtain⟨e,he,h⟩:=aa.1 h;refine⟨u,e,?_,he,(ho _ _ _ _).symm.trans h⟩;rw[hs,Qt.xd hu]
def mb(l:List (FuncId×Spec)):(X:Type)->UV->List UV->UH->(UV->UH->Option X)->Option X:=fun X fv args H K=>cR l X fv args H K
def Et(l ly:List (FuncId×Spec)):(X:Type)->UV->List UV->UH->(UV->UH->Option X)->Option X:=fun X fv args H K=>I3 l ly X fv args H K
theorem Gaa{C:V.Callee}:∀p∈([]:List (FuncId×Spec)),Xe C p.1 p.2:=fun p h=>by cases h
theorem MO{C:V.Callee}{f:FuncId}{s:Spec}{l:List (FuncId×Spec)}(h:Xe C f s)(hl:∀p∈l,Xe C p.1 p.2):∀p∈(f,s)::l,Xe C p.1 p.2:=fun p hp=>by
 rcases Vb.1 hp with rfl|hp
 ·exact h
 ·exact hl p hp
theorem jaa{C:V.Callee}:∀p∈([]:List (FuncId×Spec)),Ui C p.2:=fun p h=>by cases h
theorem p5{C:V.Callee}{f:FuncId}{s:Spec}{l:List (FuncId×Spec)}(h:Ui C s)(hl:∀p∈l,Ui C p.2):∀p∈(f,s)::l,Ui C p.2:=fun p hp=>by
 rcases Vb.1 hp with rfl|hp
 ·exact h
 ·exact hl p hp
theorem Mb{JG:(X:Type)->Nat->St->(V.Ex->St->Option X)->Option X}{Py:Code->V.S->Option (V.Ex×V.S)}:∀c∈([]:List Code),Kc JG Py c:=fun p h=>by cases h
theorem Va{JG:(X:Type)->Nat->St->(V.Ex->St->Option X)->Option X}{Py:Code->V.S->Option (V.Ex×V.S)}{c:Code}{l:List Code}(h:Kc JG Py c)(hl:∀c∈l,Kc JG Py c):∀c'∈c::l,Kc JG Py c':=fun p hp=>by
 rcases Vb.1 hp with rfl|hp
 ·exact h
 ·exact hl p hp
theorem nc{JG:(X:Type)->Nat->St->(V.Ex->St->Option X)->Option X}{Py:Code->V.S->Option (V.Ex×V.S)}{l l':List Code}(e:l=l')(h:∀c∈l',Kc JG Py c):∀c∈l,Kc JG Py c:=fun c hc=>h c (e ▸ hc)
theorem N6(hg:Fe A Ra){env:Env}{k:Nat}(hc:Gc (V.call A k) env.call){f:FuncId}{fn:Func}{c:Code}{sh:Sh}{fz:Bool}
  (h1:A.fns f=some fn) (h2:fn.body=some c) (h3:A.ext f=none) (h4:A.loc f=Fa) (h5:A.keep f=ua fn.ntmps) (h6:A.pV f=fz)
  (hl:∀c'∈loops env.join c,Kc env.loop (vc A (V.call A k) true Fa fn.ntmps) c') {A' R:Type} (S:FS A' R) {m:A'->Option R}
  {mc:(X:Type)->A'->(R->Option X)->Option X}
  (de:∀X u K,iK A Ra env Fa fn sh fz (S.sk.args u) (S.sk.heap u) K=mc X (S.a u) (fun r=>S.o _ (S.a u) r K))
  (Ii:∀X a K,mc X a K=(m a).bind K):Xe (V.call A (k+1)) f (S.sp m):=by
 refine(sX (sh:=sh) (fz:=fz) hg hc (f:=f) (fn:=fn) (c:=c) h3 h1 h2 (Fa:=Fa) h4 h5 h6 hl).imp ?_;intro X args H K out h;unfold FS.sp at h;obtain⟨u,hu,h⟩:=aa.1 h;obtain⟨g1,g2⟩:=MA.xd hu;rw[<- g1,<- g2];rw[de X u K,Ii];exact h
theorem o5(hg:Fe A Ra){env:Env}{k:Nat}(hc:Gc (V.call A k) env.call){id:Nat}{r:RFn}(FM:TB.rf id=r)
  (h1:∀c'∈loops env.join r.assign,Kc env.loop (vc A (V.call A k) false [] r.n) c') (h2:∀c'∈loops env.join r.body,Kc env.loop (vc A (V.call A k) false [] r.n) c') {A' R:Type} (S:FS A' R) {m:A'->Option R}
  {mc:(X:Type)->A'->(R->Option X)->Option X}
  (de:∀X u K,CO A Ra env id r (S.sk.args u) (S.sk.heap u) K=mc X (S.a u) (fun r=>S.o _ (S.a u) r K))
  (Ii:∀X a K,mc X a K=(m a).bind K):Ui (V.call A (k+1)) (S.sp m):=by
 refine(uV hg hc (id:=id) (r:=r) FM h1 h2).imp ?_;intro X args H K out h;unfold FS.sp at h;obtain⟨u,hu,h⟩:=aa.1 h;obtain⟨g1,g2⟩:=MA.xd hu;rw[<- g1,<- g2];rw[de X u K,Ii];exact h
end
end Go.U
