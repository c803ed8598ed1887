/- What these Lean functions compute: plain arithmetic of congruences, the checks of a graph, the values of its registers. -/
import Derived.Test.YtjenflkegbmkkaaGreatDoorC13
set_option linter.unusedVariables false
set_option linter.unusedSimpArgs false
set_option linter.unusedSectionVars false
open Bool renaming not_true→nh,not_false→we
open Int renaming toNat_natCast→Ca,toNat→fa,eq_ofNat_of_zero_le→Kf,lt_irrefl→Pb
open List renaming countP→me,length→da,length_take→Nb,take_of_length_le→Zc,replicate→Ba,length_replicate→Jf,getElem?_set→Ob,getElem?_eq_none→Ab,getElem?_eq_getElem→Aa,mem_of_getElem?→Db
open Nat renaming not_lt_zero→xj,zero_le→fe,le_trans→Gb,le_refl→va
open Option renaming bind_some→ga
open Option.some renaming inj→Sj
namespace Go.U
open Go
theorem Lb{n:Int}(h0: -9223372036854775808<=n)(h1:n<=9223372036854775807):Ea n=n:=by
 unfold Ea;rw[IntKind.wrap_i64];omega
theorem FJ{T E:Type}{step:T->Option (T ⊕ E)}(I:T->Prop)(μ:T->Nat)(Q:E->Prop)
  (hs:∀t,I t->(∃t',step t=some (.inl t')/\I t'/\μ t'<μ t)\/∃e,step t=some (.inr e)/\Q e):∀(n:Nat)(t:T),I t->μ t<n->∃e,Ip step n t=some e/\Q e
 |0,t,_,h=>absurd h (xj _)
 |n+1,t,hI,h=>by
  rcases hs t hI with⟨t',h1,h2,h3⟩|⟨e,h1,h2⟩
  ·obtain⟨e,h4,h5⟩:=FJ I μ Q hs n t' h2 (by omega);exact⟨e,by simp only[Ip,h1,ga,h4],h5⟩
  ·exact⟨e,by simp only[Ip,h1,ga],h2⟩
theorem Ug{T E:Type}{step:T->Option (T ⊕ E)}{t:T}(I:T->Prop)(μ:T->Nat)(Q:E->Prop)(hI:I t)(D4:μ t<18446744073709551616)
  (hs:∀t,I t->(∃t',step t=some (.inl t')/\I t'/\μ t'<μ t)\/∃e,step t=some (.inr e)/\Q e):∃e,Ia step t=some e/\Q e:=
 FJ I μ Q hs _ t hI D4
end Go.U
section
set_option maxRecDepth 20000
namespace Go.U
open Go
theorem Vv{α:Type}{l:List α}{i:Nat}{d x:α}(h:l[i]?=some x):gx l i d=x:=by simp[gx,List.getD,h]
theorem Li{α:Type}{l:List α}{i:Nat}{d:α}(h:i<l.length):l[i]?=some (gx l i d):=by simp[gx,List.getD,h]
theorem ag{i:Nat}{n:Nat}(h:i<n):V.ja (i:Int) n=true:=by simp[V.ja,h]
theorem Xi{i:Int}{n:Nat}(h0:0<=i)(h:i<n):V.ja i n=true:=by simp[V.ja,h,h0]
theorem Ma{X:Type}{x:Option X}:ask true x=x:=rfl
theorem Dz{α:Type}{p:α->Bool}{l:List α}{n:Nat}(d:α)(h:n<l.length):me p (l.take (n+1))=me p (l.take n)+if p (gx l n d)=true then 1 else 0:=by
 rw[List.take_add_one,List.countP_append,Li (d:=d) h];simp[List.countP_cons]
def at'(g:Ga)(j:Nat):Wa:=gx g.1 j Ta
def eD(x:Wa):Bool:=decide (1<=x.1)&&decide (x.1<=12)
abbrev Mf(g:Ga):List Xb:=g.2.2.2.2.2.1
theorem Bq{x:Wa}:eD x=true↔1<=x.1/\x.1<=12:=by simp[eD]
structure Kr(g:Ga)(D:List Int):Prop where
 wD:g.2.2.1=(((Mf g).length+D.length:Nat):Int)
 len:D.length<=4096
 dn:∀k,k<D.length->∃j:Nat,D[k]?=some (j:Int)/\j<g.1.length/\eD (at' g j)=true/\(at' g j).2.1=(((Mf g).length+k:Nat):Int)
 up:∀j,j<g.1.length->eD (at' g j)=true->∃k:Nat,(at' g j).2.1=(((Mf g).length+k:Nat):Int)/\D[k]?=some (j:Int)
theorem J0(g:Ga)(hN:g.1.length<=4096):Ia (Hu.m (g.1,(nt (da g.1)),g)) (0,0)=some ((me eD g.1:Nat):Int):=by
 obtain⟨e,h1,h2⟩:=Ug (step:=Hu.m (g.1,(nt (da g.1)),g)) (t:=(0,0)) (fun t=>∃n:Nat,n<=g.1.length/\t=(((me eD (g.1.take n):Nat):Int),(n:Int))) (fun t=>g.1.length-t.2.toNat)
  (fun e=>e=((me eD g.1:Nat):Int)) ⟨0,fe _,by simp⟩ (by simp;omega) (fun t⟨n,hn,ht⟩=>by
   subst ht;have hc:me eD (g.1.take n)<=4096:=Gb List.countP_le_length (by rw[Nb];omega);simp only[LD.m,Hu,nt];by_cases h:n<g.1.length
   ·have h':(n:Int)<(g.1.length:Int):=by omega
    simp only[h',decide_true,cond_true,ag h,Ma,Ca];have hs:=Dz (p:=eD) (l:=g.1) Ta h;rw[Lb (n:=(n:Int)+1) (by omega) (by omega)];by_cases k1:1<=(gx g.1 n Ta).1
    ·by_cases k2:(gx g.1 n Ta).1<=12
     ·refine .inl ⟨(((me eD (g.1.take n):Nat):Int)+1,(n:Int)+1),?_,⟨n+1,h,?_⟩,?_⟩
      ·simp only[k1,k2,decide_true,cond_true];rw[Lb (by omega) (by omega)]
      ·rw[hs,if_pos (Bq.2 ⟨k1,k2⟩)];simp
      ·simp only;omega
     ·refine .inl ⟨(((me eD (g.1.take n):Nat):Int),(n:Int)+1),?_,⟨n+1,h,?_⟩,?_⟩
      ·simp only[k1,k2,decide_true,decide_false,cond_true,cond_false]
      ·rw[hs,if_neg (fun hh=>k2 (Bq.1 hh).2)];simp
      ·simp only;omega
    ·refine .inl ⟨(((me eD (g.1.take n):Nat):Int),(n:Int)+1),?_,⟨n+1,h,?_⟩,?_⟩
     ·simp only[k1,decide_true,decide_false,cond_true,cond_false]
     ·rw[hs,if_neg (fun hh=>k1 (Bq.1 hh).1)];simp
     ·simp only;omega
   ·have h':¬(n:Int)<(g.1.length:Int):=by omega
    refine .inr ⟨_,by simp only[h',decide_false,cond_false];rfl,?_⟩;rw[Zc (by omega)])
 rw[h1,h2]
theorem OT(g:Ga)(n:Nat)(hn:n<=4096):Ia (gp.m ((n:Int),(nt (da (Ba (fa (n:Int)) (0:Int)))),g)) (0,Ba (fa (n:Int)) (0:Int))=some (Ba n (-1)):=by
 have hl:(Ba (fa (n:Int)) (0:Int))=Ba n 0:=by simp
 rw[hl,Jf];obtain⟨e,h1,h2⟩:=Ug (step:=gp.m ((n:Int),(nt n),g)) (t:=(0,Ba n (0:Int))) (fun t=>∃k:Nat,k<=n/\t.1=(k:Int)/\t.2.length=n/\∀i,i<k->t.2[i]?=some (-1)) (fun t=>n-t.1.toNat)
  (fun e=>e=Ba n (-1)) ⟨0,fe _,rfl,by simp,fun i h=>absurd h (xj _)⟩ (by simp;omega) (fun t⟨k,hk,ht,hlen,gg⟩=>by
   obtain⟨ti,l⟩:=t;simp only at ht hlen gg;subst ht;simp only[LD.m,gp,nt];by_cases h:k<n
   ·have h':(k:Int)<(n:Int):=by omega
    refine .inl ⟨((k:Int)+1,l.set k (-1)),?_,⟨k+1,h,by simp,by simpa using hlen,fun i hi=> ?_⟩,by simp only;omega⟩
    ·simp only[h',decide_true,cond_true,hlen,ag h,Ma,Ca];rw[Lb (by omega) (by omega)]
    ·simp only[Ob];by_cases e:k=i
     ·rw[if_pos e,if_pos (by omega)]
     ·rw[if_neg e];exact gg i (by omega)
   ·have h':¬(k:Int)<(n:Int):=by omega
    refine .inr ⟨l,by simp only[h',decide_false,cond_false],?_⟩;refine List.ext_getElem? fun i=> ?_
    by_cases hi:i<n
    ·rw[gg i (by omega)];simp[hi]
    ·rw[Ab (by omega)];simp[hi])
 rw[h1,h2]
end Go.U
end
section
set_option maxRecDepth 20000
namespace Go.U
open Go
structure M8(g:Ga)(c n:Nat)(D:List Int):Prop where
 len:D.length=c
 dn:∀k,k<c->D[k]?=some (-1)\/∃j:Nat,D[k]?=some (j:Int)/\j<n/\eD (at' g j)=true/\(at' g j).2.1=(((Mf g).length+k:Nat):Int)
 up:∀j,j<n->eD (at' g j)=true->∃k:Nat,(at' g j).2.1=(((Mf g).length+k:Nat):Int)/\D[k]?=some (j:Int)
 AI:me (fun d=>decide ((0:Int)<=d)) D=me eD (g.1.take n)
theorem NT(g:Ga)(c:Nat)(hc:c<=4096)(hN:g.1.length<=4096)(hS:(Mf g).length<=64)(hA:∀j,j<g.1.length-> -9223372036854775808<=(at' g j).2.1/\(at' g j).2.1<=9223372036854775807):
  ∃e,Ia (ep.m ((c:Int),g.1,(nt (da g.1)),g)) (0,Ba c (-1))=some e/\((∃u,e= .inl u)\/∃D,e= .inr D/\M8 g c g.1.length D):=by
 refine Ug (step:=ep.m ((c:Int),g.1,(nt (da g.1)),g)) (fun t=>∃n:Nat,n<=g.1.length/\t.1=(n:Int)/\M8 g c n t.2) (fun t=>g.1.length-t.1.toNat) (fun e=>(∃u,e= .inl u)\/∃D,e= .inr D/\M8 g c g.1.length D)
  ⟨0,fe _,rfl,by simp,fun k hk=> .inl (by simp[hk]),fun j h=>absurd h (xj _),?_⟩ (by simp;omega) (fun t⟨n,hn,ht,hI⟩=> ?_)
 ·rw[List.take_zero,List.countP_nil,List.countP_eq_zero];intro a ha;have:=List.eq_of_mem_replicate ha;subst this;decide
 ·obtain⟨ti,D⟩:=t;simp only at ht hI;subst ht;simp only[LD.m,ep,nt];by_cases h:n<g.1.length
  ·have h':(n:Int)<(g.1.length:Int):=by omega
   obtain⟨x,hx⟩:∃x,gx g.1 n Ta=x:=⟨_,rfl⟩;have Ro:at' g n=x:=hx;simp only[h',decide_true,cond_true,ag h,Ma,Ca,hx];have hs:=Dz (p:=eD) (l:=g.1) Ta h;rw[hx]at hs;have w:Ea ((n:Int)+1)=(n:Int)+1:=Lb (by omega) (by omega);rw[w];have skip:eD x=false->M8 g c (n+1) D:=fun hd=>⟨hI.len,fun k hk=>(hI.dn k hk).imp_right fun⟨j,h1,h2,h3⟩=>⟨j,h1,by omega,h3⟩,fun j hj hdj=>by
    by_cases e:j=n
    ·subst e;rw[Ro,hd]at hdj;cases hdj
    ·exact hI.up j (by omega) hdj,by rw[hs,hd,hI.AI];simp⟩
   by_cases k1:x.1<1
   ·simp only[k1,decide_true,cond_true];exact .inl ⟨_,rfl,⟨n+1,h,rfl,skip (by simp[eD];omega)⟩,by simp only;omega⟩
   ·by_cases k2:12<x.1
    ·simp only[k1,k2,decide_true,decide_false,cond_true,cond_false];exact .inl ⟨_,rfl,⟨n+1,h,rfl,skip (by simp[eD];omega)⟩,by simp only;omega⟩
    ·have hd:eD x=true:=Bq.2 ⟨by omega,by omega⟩;have hb:=hA n h;rw[Ro]at hb;simp only[k1,k2,decide_false,cond_false];obtain⟨y,hy⟩:∃y,Ea (x.2.1-((Mf g).length:Int))=y:=⟨_,rfl⟩;have hy2:Ea (x.2.1-(da g.2.2.2.2.2.1:Int))=y:=hy;rw[hy2];by_cases k3:y<0
     ·simp only[k3,decide_true,cond_true];exact .inr ⟨_,rfl,.inl ⟨(),rfl⟩⟩
     ·by_cases k4:(c:Int)<=y
      ·simp only[k3,k4,decide_true,decide_false,cond_true,cond_false];exact .inr ⟨_,rfl,.inl ⟨(),rfl⟩⟩
      ·obtain⟨k,rfl⟩:=Kf (show 0<=y by omega);have hk:k<c:=by omega
       have hAx:x.2.1=(((Mf g).length+k:Nat):Int):=by
        unfold Ea at hy;rw[IntKind.wrap_i64]at hy;omega
       have B9:k<D.length:=by rw[hI.len];exact hk
       have k4':¬((c:Int)<=(k:Int)):=by omega
       simp only[k3,k4',decide_false,cond_false,ag B9,Ma,Ca];by_cases k5:0<=gx D k 0
       ·simp only[k5,decide_true,cond_true];exact .inr ⟨_,rfl,.inl ⟨(),rfl⟩⟩
       ·simp only[k5,decide_false,cond_false];have hDk:D[k]?=some (-1):=by
         rcases hI.dn k hk with e|⟨j,e,_⟩
         ·exact e
         ·rw[Vv e]at k5;omega
        refine .inl ⟨_,rfl,⟨n+1,h,rfl,by simpa using hI.len,fun i hi=> ?_,fun j hj hdj=> ?_,?_⟩,by simp only;omega⟩
        ·simp only[Ob];by_cases e:k=i
         ·subst e;rw[if_pos rfl,if_pos B9];exact .inr ⟨n,rfl,by omega,by rw[Ro];exact hd,by rw[Ro];exact hAx⟩
         ·rw[if_neg e];exact(hI.dn i hi).imp_right fun⟨j,h1,h2,h3⟩=>⟨j,h1,by omega,h3⟩
        ·by_cases e:j=n
         ·subst e;exact⟨k,by rw[Ro];exact hAx,by simp[Ob,B9]⟩
         ·obtain⟨i,h1,h2⟩:=hI.up j (by omega) hdj;refine⟨i,h1,?_⟩;simp only[Ob];by_cases e2:k=i
          ·subst e2;rw[hDk]at h2;simp at h2
          ·rw[if_neg e2];exact h2
        ·simp only;rw[List.countP_set B9,hs,hI.AI,hd];have e1:D[k]= -1:=by rw[Aa B9]at hDk;exact Sj hDk
         simp[e1]
  ·have h':¬(n:Int)<(g.1.length:Int):=by omega
   simp only[h',decide_false,cond_false];refine .inr ⟨_,rfl,.inr ⟨D,rfl,?_⟩⟩;have:n=g.1.length:=by omega
   rw[<- this];exact hI
theorem Kad(g:Ga)(hN:g.1.length<=4096)(hS:(Mf g).length<=64)(hA:∀j,j<g.1.length-> -9223372036854775808<=(at' g j).2.1/\(at' g j).2.1<=9223372036854775807):
  ∃r,OF g=some r/\(r.2=true->Kr g r.1):=by
 have hc:me eD g.1<=4096:=Gb List.countP_le_length hN;unfold OF DQ;rw[J0 g hN];simp only[ga];obtain⟨c,Wz⟩:∃c,me eD g.1=c:=⟨_,rfl⟩;rw[Wz]at hc ⊢;have w:Ea (nt (da g.2.2.2.2.2.1)+(c:Int))=(((Mf g).length+c:Nat):Int):=by
  show Ea (((Mf g).length:Int)+(c:Int))=_;rw[Lb (by omega) (by omega)];omega
 rw[w];by_cases hr:g.2.2.1=(((Mf g).length+c:Nat):Int)
 ·have b1:(decide (0<=(c:Int))&&decide ((c:Int)<=(c:Int))&&decide (8 * (c:Int)<=70368744177664)&&decide ((c:Int)<9223372036854775808))=true:=by simp;omega
  simp only[hr,decide_true,nh,cond_false,b1,Ma];rw[OT g c hc];simp only[ga];obtain⟨e,h1,h2⟩:=NT g c hc hN hS hA;rw[h1];simp only[ga];rcases h2 with⟨u,rfl⟩|⟨D,rfl,hI⟩
  ·exact⟨([],false),rfl,fun h=>by cases h⟩
  ·refine⟨(D,true),rfl,fun _=> ?_⟩;have gg:∀k,k<c->D[k]?≠some (-1):=fun k hk hm=>by
    have h3:me (fun d=>decide ((0:Int)<=d)) D=D.length:=by
     rw[hI.AI,Zc (va _),Wz,hI.len]
    have:=List.countP_eq_length.1 h3 (-1) (Db hm);simp at this
   exact⟨by rw[hr,hI.len],by rw[hI.len];exact hc,fun k hk=>by
    rw[hI.len]at hk;rcases hI.dn k hk with e|⟨j,h1,h2,h3,h4⟩
    ·exact absurd e (gg k hk)
    ·exact⟨j,h1,h2,h3,h4⟩,hI.up⟩
 ·simp only[hr,decide_false,we,cond_true];exact⟨([],false),rfl,fun h=>by cases h⟩
end Go.U
end
section
set_option maxRecDepth 20000
namespace Go.U
open Go
theorem Xc{α:Type}{b:Bool}{x y:Option α}(hx:∃r,x=some r)(hy:∃r,y=some r):∃r,cond b x y=some r:=by cases b<;>assumption
theorem yg{α β:Type}{x:Option α}{f:α->Option β}(hx:∃r,x=some r)(hf:∀a,x=some a->∃r,f a=some r):∃r,x.bind f=some r:=by
 obtain⟨a,h⟩:=hx;rw[h];exact hf a h
theorem oc{α:Type}(a:α):∃r,some a=some r:=⟨a,rfl⟩
theorem WH(a):∃r,gu a=some r:=by unfold gu IK;exact Xc (oc _) (oc _)
theorem VH(a):∃r,Pp a=some r:=by unfold Pp HK;exact Xc (oc _) (Xc (oc _) (oc _))
theorem fQ(a):∃r,Pq a=some r:=by unfold Pq GK;exact yg (VH _) fun _ _=>oc _
theorem O2{E:Type}{L:Type}{n:Nat}{step:Int->Option (Int ⊕ E)}(hn:n<=9223372036854775807)(I:Nat->Prop)(Q:E->Prop)(h0:I 0)
  (hs:∀i:Nat,i<n->I i->(step (i:Int)=some (.inl (Ea ((i:Int)+1)))/\I (i+1))\/∃e,step (i:Int)=some (.inr e)/\Q e)
  (he:I n->∃e,step (n:Int)=some (.inr e)/\Q e):∃e,Ia step 0=some e/\Q e:=by
 refine Ug (fun t=>∃i:Nat,i<=n/\t=(i:Int)/\I i) (fun t=>n-t.toNat) Q ⟨0,fe _,rfl,h0⟩ (by simp;omega) (fun t⟨i,hi,ht,hI⟩=> ?_);subst ht;by_cases h:i<n
 ·rcases hs i h hI with⟨h1,h2⟩|h1
  ·rw[Lb (by omega) (by omega)]at h1;exact .inl ⟨_,h1,⟨i+1,h,rfl,h2⟩,by omega⟩
  ·exact .inr h1
 ·have:i=n:=by omega
  subst this;exact .inr (he hI)
def Gd{E:Type}(i:Int)(I':Prop)(Q:E->Prop)(x:Option (Int ⊕ E)):Prop:=(x=some (.inl (Ea (i+1)))/\I')\/∃e,x=some (.inr e)/\Q e
section
variable {E:Type}{i:Int}{I':Prop}{Q:E->Prop}
theorem Gh{b:Bool}{x y:Option (Int ⊕ E)}(hx:b=true->Gd i I' Q x)(hy:b=false->Gd i I' Q y):Gd i I' Q (cond b x y):=by
 cases b
 ·exact hy rfl
 ·exact hx rfl
theorem Zv{α:Type}{x:Option α}{f:α->Option (Int ⊕ E)}(hx:∃r,x=some r)(hf:∀a,x=some a->Gd i I' Q (f a)):Gd i I' Q (x.bind f):=by
 obtain⟨a,h⟩:=hx;rw[h];exact hf a h
theorem lz(h:I'):Gd i I' Q (some (.inl (Ea (i+1)))):= .inl ⟨rfl,h⟩
theorem Hj{e:E}(h:Q e):Gd i I' Q (some (.inr e)):= .inr ⟨e,rfl,h⟩
end
theorem di{E:Type}{n:Nat}{step:Int->Option (Int ⊕ E)}(hn:n<=9223372036854775807)(I:Nat->Prop)(Q:E->Prop)(h0:I 0)
 (hs:∀i:Nat,i<n->I i->Gd (i:Int) (I (i+1)) Q (step (i:Int)))
 (he:I n->∃e,step (n:Int)=some (.inr e)/\Q e):∃e,Ia step 0=some e/\Q e:=O2 (L:=Unit) hn I Q h0 hs he
theorem QT(p:(List za)×Int×Ga)(h:p.2.1=nt p.1.length)(hn:p.1.length<=9223372036854775807):∃e,Ia (Wq.m p) 0=some e:=by
 obtain⟨e,h1,_⟩:=di (n:=p.1.length) (step:=Wq.m p) hn (fun _=>True) (fun _=>True) trivial (fun i hi _=>by
  have h':(i:Int)<(p.1.length:Int):=by omega
  simp only[LD.m,Wq,h,nt,h',decide_true,cond_true,ag hi,Ma]
  repeat (first|exact Hj trivial|exact lz trivial|(refine Gh (fun _=> ?_) (fun _=> ?_)))) (fun _=>by
  simp only[LD.m,Wq,h,nt,Pb,decide_false,cond_false];exact⟨_,rfl,trivial⟩)
 exact⟨e,h1⟩
theorem EN(p:(List Bb)×Int×Ga)(h:p.2.1=nt p.1.length)(hn:p.1.length<=9223372036854775807):∃e,Ia (zm.m p) 0=some e:=by
 obtain⟨e,h1,_⟩:=di (n:=p.1.length) (step:=zm.m p) hn (fun _=>True) (fun _=>True) trivial (fun i hi _=>by
  have h':(i:Int)<(p.1.length:Int):=by omega
  simp only[LD.m,zm,h,nt,h',decide_true,cond_true,ag hi,Ma]
  repeat (first|exact Hj trivial|exact lz trivial|(refine Gh (fun _=> ?_) (fun _=> ?_))|(refine Zv (WH _) fun _ _=> ?_)|(refine Zv (VH _) fun _ _=> ?_)|(refine Zv (fQ _) fun _ _=> ?_))) (fun _=>by
  simp only[LD.m,zm,h,nt,Pb,decide_false,cond_false];exact⟨_,rfl,trivial⟩)
 exact⟨e,h1⟩
theorem mN(a):∃r,Pp a=some r/\ -2147483648<=r/\r<= -128:=by
 unfold Pp HK;cases decide (a=(1:Int))
 ·cases decide (a=(2:Int))
  ·exact⟨_,rfl,by decide,by decide⟩
  ·exact⟨_,rfl,by decide,by decide⟩
 ·exact⟨_,rfl,by decide,by decide⟩
theorem wZ(a):∃r,Pq a=some r/\r<=2147483647:=by
 obtain⟨r,h1,h2,h3⟩:=mN a;unfold Pq GK;rw[h1];refine⟨_,rfl,?_⟩;rw[Lb (n:=0-r) (by omega) (by omega),Lb (by omega) (by omega)];omega
theorem xZ{a:Int}{r:Bool}(h:gu a=some r)(hr:r=true):1<=a/\a<=3:=by
 unfold gu IK at h;subst hr;by_cases h1:1<=a<;>by_cases h2:a<=3<;>simp[h1,h2]at h
 exact⟨h1,h2⟩
def InI(x:Int):Prop:= -2147483648<=x/\x<=2147483647
theorem UT(p:(List Xb)×Int×Ga)(h:p.2.1=nt p.1.length)(hn:p.1.length<=9223372036854775807):∃e,Ia (ym.m p) 0=some e/\((∃u,e= .inl u)\/(∃u,e= .inr u)/\∀j,j<p.1.length->InI (gx p.1 j uc).2.2/\1<=(gx p.1 j uc).2.1/\(gx p.1 j uc).2.1<=3):=
 di (n:=p.1.length) (step:=ym.m p) hn (fun k=>∀j,j<k->InI (gx p.1 j uc).2.2/\1<=(gx p.1 j uc).2.1/\(gx p.1 j uc).2.1<=3) _ (fun j h=>absurd h (xj _)) (fun i hi hI=>by
  have h':(i:Int)<(p.1.length:Int):=by omega
  simp only[LD.m,ym,h,nt,h',decide_true,cond_true,ag hi,Ma,Ca];refine Zv (WH _) fun tb htb=>Gh (fun _=>Hj (.inl ⟨(),rfl⟩)) fun ctb=> ?_
  have BD:=xZ htb (by simpa using ctb);obtain⟨r,r1,r2,_⟩:=mN (gx p.1 i uc).2.1;obtain⟨t,t1,t2⟩:=wZ (gx p.1 i uc).2.1;rw[r1,t1];refine Gh (fun _=>Hj (.inl ⟨(),rfl⟩)) fun c1=>Gh (fun _=>Hj (.inl ⟨(),rfl⟩)) fun c2=>lz fun j hj=> ?_
  have c1:=of_decide_eq_false c1;have c2:=of_decide_eq_false c2;by_cases e:j=i
  ·subst e;exact⟨⟨by omega,by omega⟩,BD⟩
  ·exact hI j (by omega)) (fun hI=>by
  simp only[LD.m,ym,h,nt,Pb,decide_false,cond_false];exact⟨_,rfl,.inr ⟨⟨(),rfl⟩,hI⟩⟩)
theorem TT(p:(List Bb)×Int)(h:p.2=nt p.1.length)(hn:p.1.length<=9223372036854775807):∃e,Ia (xm.m p) 0=some e/\((∃u,e= .inl u)\/(∃u,e= .inr u)/\∀j,j<p.1.length->InI (gx p.1 j fb).2.2.2/\(1<=(gx p.1 j fb).2.1/\(gx p.1 j fb).2.1<=3)/\1<=(gx p.1 j fb).2.2.1/\(gx p.1 j fb).2.2.1<=256):=
 di (n:=p.1.length) (step:=xm.m p) hn (fun k=>∀j,j<k->InI (gx p.1 j fb).2.2.2/\(1<=(gx p.1 j fb).2.1/\(gx p.1 j fb).2.1<=3)/\1<=(gx p.1 j fb).2.2.1/\(gx p.1 j fb).2.2.1<=256) _ (fun j h=>absurd h (xj _)) (fun i hi hI=>by
  have h':(i:Int)<(p.1.length:Int):=by omega
  simp only[LD.m,xm,h,nt,h',decide_true,cond_true,ag hi,Ma,Ca];refine Zv (WH _) fun tb htb=>Gh (fun _=>Hj (.inl ⟨(),rfl⟩)) fun ctb=> ?_
  have BD:=xZ htb (by simpa using ctb);obtain⟨r,r1,r2,_⟩:=mN (gx p.1 i fb).2.1;obtain⟨t,t1,t2⟩:=wZ (gx p.1 i fb).2.1;rw[r1,t1];refine Gh (fun _=>Hj (.inl ⟨(),rfl⟩)) fun c1=>Gh (fun _=>Hj (.inl ⟨(),rfl⟩)) fun c2=>Gh (fun _=>Hj (.inl ⟨(),rfl⟩)) fun c3=>Gh (fun _=>Hj (.inl ⟨(),rfl⟩)) fun c4=>lz fun j hj=> ?_
  have c3:=of_decide_eq_false c3;have c4:=of_decide_eq_false c4;have c1:=of_decide_eq_false c1;have c2:=of_decide_eq_false c2;by_cases e:j=i
  ·subst e;exact⟨⟨by omega,by omega⟩,BD,by omega,by omega⟩
  ·exact hI j (by omega)) (fun hI=>by
  simp only[LD.m,xm,h,nt,Pb,decide_false,cond_false];exact⟨_,rfl,.inr ⟨⟨(),rfl⟩,hI⟩⟩)
abbrev XU(g:Ga):List Bb:=g.2.2.2.2.1
abbrev be(g:Ga):List Bb:=g.2.2.2.2.2.2.1
abbrev lns(g:Ga):List za:=g.2.2.2.2.2.2.2
structure J8(g:Ga):Prop where
 i:g.1.length<=9223372036854775807
 s:(Mf g).length<=9223372036854775807
 a:(XU g).length<=9223372036854775807
 n:(be g).length<=9223372036854775807
 l:(lns g).length<=9223372036854775807
 A:∀j,j<g.1.length-> -9223372036854775808<=(at' g j).2.1/\(at' g j).2.1<=9223372036854775807
structure kR(g:Ga):Prop where
 s:∀j,j<(Mf g).length->InI (gx (Mf g) j uc).2.2/\1<=(gx (Mf g) j uc).2.1/\(gx (Mf g) j uc).2.1<=3
 a:∀j,j<(be g).length->InI (gx (be g) j fb).2.2.2/\(1<=(gx (be g) j fb).2.1/\(gx (be g) j fb).2.1<=3)/\1<=(gx (be g) j fb).2.2.1/\(gx (be g) j fb).2.2.1<=256
def Tp(P:Prop)(x:Option Bool):Prop:=∃r,x=some r/\(r=true->P)
theorem iA{P:Prop}{b:Bool}{x y:Option Bool}(hx:Tp P x)(hy:Tp P y):Tp P (cond b x y):=by
 cases b
 ·exact hy
 ·exact hx
theorem Bi{P:Prop}:Tp P (some false):=⟨false,rfl,fun h=>by cases h⟩
theorem Nad{g:Ga}(h:J8 g):∃r,PF g=some r/\(r=true->(Mf g).length<=64/\(be g).length<=16/\kR g):=by
 unfold PF FQ;by_cases h1:(32:Int)<nt (da g.2.2.2.2.1)
 ·simp only[h1,decide_true,cond_true];exact⟨false,rfl,fun h=>by cases h⟩
 ·by_cases h2:(64:Int)<nt (da g.2.2.2.2.2.1)
  ·simp only[h1,h2,decide_true,decide_false,cond_true,cond_false];exact⟨false,rfl,fun h=>by cases h⟩
  ·have h3:(Mf g).length<=64:=by simp only[nt]at h2;show da g.2.2.2.2.2.1<=64;omega
   by_cases h6:(16:Int)<nt (da g.2.2.2.2.2.2.1)
   ·simp only[h1,h2,h6,decide_true,decide_false,cond_true,cond_false];exact⟨false,rfl,fun h=>by cases h⟩
   have h7:(be g).length<=16:=by simp only[nt]at h6;show da g.2.2.2.2.2.2.1<=16;omega
   simp only[h1,h2,h6,decide_false,cond_false]
   suffices h:Tp (kR g) _ by
    obtain⟨r,q1,q2⟩:=h;exact⟨r,q1,fun hr=>⟨h3,h7,q2 hr⟩⟩
   refine iA Bi (iA Bi ?_);by_cases h4:(nt (da g.2.2.2.2.2.2.2))<(1:Int)
   ·simp only[h4,decide_true,cond_true];exact Bi
   ·have h5:V.ja 0 (da g.2.2.2.2.2.2.2)=true:=Xi (by decide) (by simp only[nt]at h4;omega);simp only[h4,decide_false,cond_false,h5,Ma];obtain⟨e1,l1⟩:=QT (g.2.2.2.2.2.2.2,nt g.2.2.2.2.2.2.2.length,g) rfl h.l;rw[l1];refine iA Bi ?_;simp only[ga];cases e1
    ·exact Bi
    ·obtain⟨e2,l2⟩:=EN (g.2.2.2.2.1,nt g.2.2.2.2.1.length,g) rfl h.a;simp only[Sum.elim_inr];rw[l2];simp only[ga];cases e2
     ·exact Bi
     ·obtain⟨e3,l3,m3⟩:=UT (g.2.2.2.2.2.1,nt g.2.2.2.2.2.1.length,g) rfl h.s;simp only[Sum.elim_inr];rw[l3];simp only[ga];rcases m3 with⟨u,rfl⟩|⟨⟨u,rfl⟩,i3⟩
      ·exact Bi
      ·obtain⟨e4,l4,m4⟩:=TT (g.2.2.2.2.2.2.1,nt g.2.2.2.2.2.2.1.length) rfl h.n;simp only[Sum.elim_inr];rw[l4];simp only[ga];rcases m4 with⟨u,rfl⟩|⟨⟨u,rfl⟩,i4⟩
       ·exact Bi
       ·exact⟨true,rfl,fun _=>⟨i3,i4⟩⟩
end Go.U
end
