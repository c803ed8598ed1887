/- What these Lean functions compute: plain arithmetic of congruences, the checks of a graph, the values of its registers. -/
import Derived.Test.YtjenflkegbmkkaaGreatDoorC13
set_option linter.unusedVariables false
set_option linter.unusedSimpArgs false
set_option linter.unusedSectionVars false
open Bool renaming not_true→Zf,not_false→gf
open Int renaming toNat_natCast→La,toNat→fa,eq_ofNat_of_zero_le→Pf,lt_irrefl→Xb
open List renaming countP→oe,length→da,length_take→ic,take_of_length_le→od,replicate→Ca,length_replicate→Of,getElem?_set→Ob,getElem?_eq_none→Ab,getElem?_eq_getElem→Ba,mem_of_getElem?→Nb
open Nat renaming not_lt_zero→mj,zero_le→je,le_trans→Ib,le_refl→va
open Option renaming bind_some→ga
open Option.some renaming inj→Ek
namespace Go.U
open Go
theorem Qb{n:Int}(h0: -9223372036854775808<=n)(h1:n<=9223372036854775807):Ea n=n:=by
 unfold Ea;rw[IntKind.wrap_i64];omega
theorem XI{T E:Type}{step:T->Option (T ⊕ E)}(I:T->Prop)(μ:T->Nat)(Q:E->Prop)
  (hs:∀t,I t->(∃t',step t=some (.inl t')/\I t'/\μ t'<μ t)\/∃e,step t=some (.inr e)/\Q e):∀(n:Nat)(t:T),I t->μ t<n->∃e,Pk step n t=some e/\Q e
 |0,t,_,h=>absurd h (mj _)
 |n+1,t,hI,h=>by
  rcases hs t hI with⟨t',h1,h2,h3⟩|⟨e,h1,h2⟩
  ·obtain⟨e,h4,h5⟩:=XI I μ Q hs n t' h2 (by omega);exact⟨e,by simp only[Pk,h1,ga,h4],h5⟩
  ·exact⟨e,by simp only[Pk,h1,ga],h2⟩
theorem Tg{T E:Type}{step:T->Option (T ⊕ E)}{t:T}(I:T->Prop)(μ:T->Nat)(Q:E->Prop)(hI:I t)(R7:μ t<18446744073709551616)
  (hs:∀t,I t->(∃t',step t=some (.inl t')/\I t'/\μ t'<μ t)\/∃e,step t=some (.inr e)/\Q e):∃e,Ma step t=some e/\Q e:=
 XI I μ Q hs _ t hI R7
end Go.U
section
set_option maxRecDepth 20000
namespace Go.U
open Go
theorem QE{α:Type}{l:List α}{i:Nat}{d x:α}(h:l[i]?=some x):gx l i d=x:=by simp[gx,List.getD,h]
theorem gp{α:Type}{l:List α}{i:Nat}{d:α}(h:i<l.length):l[i]?=some (gx l i d):=by simp[gx,List.getD,h]
theorem fg{i:Nat}{n:Nat}(h:i<n):V.ja (i:Int) n=true:=by simp[V.ja,h]
theorem wj{i:Int}{n:Nat}(h0:0<=i)(h:i<n):V.ja i n=true:=by simp[V.ja,h,h0]
theorem Oa{X:Type}{x:Option X}:ask true x=x:=rfl
theorem pz{α:Type}{p:α->Bool}{l:List α}{n:Nat}(d:α)(h:n<l.length):oe p (l.take (n+1))=oe p (l.take n)+if p (gx l n d)=true then 1 else 0:=by
 rw[List.take_add_one,List.countP_append,gp (d:=d) h];simp[List.countP_cons]
def at'(g:Ga)(j:Nat):Wa:=gx g.1 j Ta
def MC(x:Wa):Bool:=decide (1<=x.1)&&decide (x.1<=12)
abbrev Nf(g:Ga):List Zb:=g.2.2.2.2.2.1
theorem mq{x:Wa}:MC x=true↔1<=x.1/\x.1<=12:=by simp[MC]
structure cr(g:Ga)(D:List Int):Prop where
 aD:g.2.2.1=(((Nf g).length+D.length:Nat):Int)
 len:D.length<=4096
 dn:∀k,k<D.length->∃j:Nat,D[k]?=some (j:Int)/\j<g.1.length/\MC (at' g j)=true/\(at' g j).2.1=(((Nf g).length+k:Nat):Int)
 up:∀j,j<g.1.length->MC (at' g j)=true->∃k:Nat,(at' g j).2.1=(((Nf g).length+k:Nat):Int)/\D[k]?=some (j:Int)
theorem pZ(g:Ga)(hN:g.1.length<=4096):Ma (tu.m (g.1,(nt (da g.1)),g)) (0,0)=some ((oe MC g.1:Nat):Int):=by
 obtain⟨e,h1,h2⟩:=Tg (step:=tu.m (g.1,(nt (da g.1)),g)) (t:=(0,0)) (fun t=>∃n:Nat,n<=g.1.length/\t=(((oe MC (g.1.take n):Nat):Int),(n:Int))) (fun t=>g.1.length-t.2.toNat)
  (fun e=>e=((oe MC g.1:Nat):Int)) ⟨0,je _,by simp⟩ (by simp;omega) (fun t⟨n,hn,ht⟩=>by
   subst ht;have hc:oe MC (g.1.take n)<=4096:=Ib List.countP_le_length (by rw[ic];omega);simp only[LD.m,tu,nt];by_cases h:n<g.1.length
   ·have h':(n:Int)<(g.1.length:Int):=by omega
    simp only[h',decide_true,cond_true,fg h,Oa,La];have hs:=pz (p:=MC) (l:=g.1) Ta h;rw[Qb (n:=(n:Int)+1) (by omega) (by omega)];by_cases k1:1<=(gx g.1 n Ta).1
    ·by_cases k2:(gx g.1 n Ta).1<=12
     ·refine .inl ⟨(((oe MC (g.1.take n):Nat):Int)+1,(n:Int)+1),?_,⟨n+1,h,?_⟩,?_⟩
      ·simp only[k1,k2,decide_true,cond_true];rw[Qb (by omega) (by omega)]
      ·rw[hs,if_pos (mq.2 ⟨k1,k2⟩)];simp
      ·simp only;omega
     ·refine .inl ⟨(((oe MC (g.1.take n):Nat):Int),(n:Int)+1),?_,⟨n+1,h,?_⟩,?_⟩
      ·simp only[k1,k2,decide_true,decide_false,cond_true,cond_false]
      ·rw[hs,if_neg (fun hh=>k2 (mq.1 hh).2)];simp
      ·simp only;omega
    ·refine .inl ⟨(((oe MC (g.1.take n):Nat):Int),(n:Int)+1),?_,⟨n+1,h,?_⟩,?_⟩
     ·simp only[k1,decide_true,decide_false,cond_true,cond_false]
     ·rw[hs,if_neg (fun hh=>k1 (mq.1 hh).1)];simp
     ·simp only;omega
   ·have h':¬(n:Int)<(g.1.length:Int):=by omega
    refine .inr ⟨_,by simp only[h',decide_false,cond_false];rfl,?_⟩;rw[od (by omega)])
 rw[h1,h2]
theorem VS(g:Ga)(n:Nat)(hn:n<=4096):Ma (Io.m ((n:Int),(nt (da (Ca (fa (n:Int)) (0:Int)))),g)) (0,Ca (fa (n:Int)) (0:Int))=some (Ca n (-1)):=by
 have hl:(Ca (fa (n:Int)) (0:Int))=Ca n 0:=by simp
 rw[hl,Of];obtain⟨e,h1,h2⟩:=Tg (step:=Io.m ((n:Int),(nt n),g)) (t:=(0,Ca n (0:Int))) (fun t=>∃k:Nat,k<=n/\t.1=(k:Int)/\t.2.length=n/\∀i,i<k->t.2[i]?=some (-1)) (fun t=>n-t.1.toNat)
  (fun e=>e=Ca n (-1)) ⟨0,je _,rfl,by simp,fun i h=>absurd h (mj _)⟩ (by simp;omega) (fun t⟨k,hk,ht,hlen,Hg⟩=>by
   obtain⟨ti,l⟩:=t;simp only at ht hlen Hg;subst ht;simp only[LD.m,Io,nt];by_cases h:k<n
   ·have h':(k:Int)<(n:Int):=by omega
    refine .inl ⟨((k:Int)+1,l.set k (-1)),?_,⟨k+1,h,by simp,by simpa using hlen,fun i hi=> ?_⟩,by simp only;omega⟩
    ·simp only[h',decide_true,cond_true,hlen,fg h,Oa,La];rw[Qb (by omega) (by omega)]
    ·simp only[Ob];by_cases e:k=i
     ·rw[if_pos e,if_pos (by omega)]
     ·rw[if_neg e];exact Hg i (by omega)
   ·have h':¬(k:Int)<(n:Int):=by omega
    refine .inr ⟨l,by simp only[h',decide_false,cond_false],?_⟩;refine List.ext_getElem? fun i=> ?_
    by_cases hi:i<n
    ·rw[Hg i (by omega)];simp[hi]
    ·rw[Ab (by omega)];simp[hi])
 rw[h1,h2]
end Go.U
end
section
set_option maxRecDepth 20000
namespace Go.U
open Go
structure C7(g:Ga)(c n:Nat)(D:List Int):Prop where
 len:D.length=c
 dn:∀k,k<c->D[k]?=some (-1)\/∃j:Nat,D[k]?=some (j:Int)/\j<n/\MC (at' g j)=true/\(at' g j).2.1=(((Nf g).length+k:Nat):Int)
 up:∀j,j<n->MC (at' g j)=true->∃k:Nat,(at' g j).2.1=(((Nf g).length+k:Nat):Int)/\D[k]?=some (j:Int)
 bU:oe (fun d=>decide ((0:Int)<=d)) D=oe MC (g.1.take n)
theorem TS(g:Ga)(c:Nat)(hc:c<=4096)(hN:g.1.length<=4096)(hS:(Nf g).length<=64)(hA:∀j,j<g.1.length-> -9223372036854775808<=(at' g j).2.1/\(at' g j).2.1<=9223372036854775807):
  ∃e,Ma (Ho.m ((c:Int),g.1,(nt (da g.1)),g)) (0,Ca c (-1))=some e/\((∃u,e= .inl u)\/∃D,e= .inr D/\C7 g c g.1.length D):=by
 refine Tg (step:=Ho.m ((c:Int),g.1,(nt (da g.1)),g)) (fun t=>∃n:Nat,n<=g.1.length/\t.1=(n:Int)/\C7 g c n t.2) (fun t=>g.1.length-t.1.toNat) (fun e=>(∃u,e= .inl u)\/∃D,e= .inr D/\C7 g c g.1.length D)
  ⟨0,je _,rfl,by simp,fun k hk=> .inl (by simp[hk]),fun j h=>absurd h (mj _),?_⟩ (by simp;omega) (fun t⟨n,hn,ht,hI⟩=> ?_)
 ·rw[List.take_zero,List.countP_nil,List.countP_eq_zero];intro a ha;have:=List.eq_of_mem_replicate ha;subst this;decide
 ·obtain⟨ti,D⟩:=t;simp only at ht hI;subst ht;simp only[LD.m,Ho,nt];by_cases h:n<g.1.length
  ·have h':(n:Int)<(g.1.length:Int):=by omega
   obtain⟨x,hx⟩:∃x,gx g.1 n Ta=x:=⟨_,rfl⟩;have Uk:at' g n=x:=hx;simp only[h',decide_true,cond_true,fg h,Oa,La,hx];have hs:=pz (p:=MC) (l:=g.1) Ta h;rw[hx]at hs;have w:Ea ((n:Int)+1)=(n:Int)+1:=Qb (by omega) (by omega);rw[w];have skip:MC x=false->C7 g c (n+1) D:=fun hd=>⟨hI.len,fun k hk=>(hI.dn k hk).imp_right fun⟨j,h1,h2,h3⟩=>⟨j,h1,by omega,h3⟩,fun j hj hdj=>by
    by_cases e:j=n
    ·subst e;rw[Uk,hd]at hdj;cases hdj
    ·exact hI.up j (by omega) hdj,by rw[hs,hd,hI.bU];simp⟩
   by_cases k1:x.1<1
   ·simp only[k1,decide_true,cond_true];exact .inl ⟨_,rfl,⟨n+1,h,rfl,skip (by simp[MC];omega)⟩,by simp only;omega⟩
   ·by_cases k2:12<x.1
    ·simp only[k1,k2,decide_true,decide_false,cond_true,cond_false];exact .inl ⟨_,rfl,⟨n+1,h,rfl,skip (by simp[MC];omega)⟩,by simp only;omega⟩
    ·have hd:MC x=true:=mq.2 ⟨by omega,by omega⟩;have hb:=hA n h;rw[Uk]at hb;simp only[k1,k2,decide_false,cond_false];obtain⟨y,hy⟩:∃y,Ea (x.2.1-((Nf g).length:Int))=y:=⟨_,rfl⟩;have hy2:Ea (x.2.1-(da g.2.2.2.2.2.1:Int))=y:=hy;rw[hy2];by_cases k3:y<0
     ·simp only[k3,decide_true,cond_true];exact .inr ⟨_,rfl,.inl ⟨(),rfl⟩⟩
     ·by_cases k4:(c:Int)<=y
      ·simp only[k3,k4,decide_true,decide_false,cond_true,cond_false];exact .inr ⟨_,rfl,.inl ⟨(),rfl⟩⟩
      ·obtain⟨k,rfl⟩:=Pf (show 0<=y by omega);have hk:k<c:=by omega
       have hAx:x.2.1=(((Nf g).length+k:Nat):Int):=by
        unfold Ea at hy;rw[IntKind.wrap_i64]at hy;omega
       have l8:k<D.length:=by rw[hI.len];exact hk
       have k4':¬((c:Int)<=(k:Int)):=by omega
       simp only[k3,k4',decide_false,cond_false,fg l8,Oa,La];by_cases k5:0<=gx D k 0
       ·simp only[k5,decide_true,cond_true];exact .inr ⟨_,rfl,.inl ⟨(),rfl⟩⟩
       ·simp only[k5,decide_false,cond_false];have hDk:D[k]?=some (-1):=by
         rcases hI.dn k hk with e|⟨j,e,_⟩
         ·exact e
         ·rw[QE e]at k5;omega
        refine .inl ⟨_,rfl,⟨n+1,h,rfl,by simpa using hI.len,fun i hi=> ?_,fun j hj hdj=> ?_,?_⟩,by simp only;omega⟩
        ·simp only[Ob];by_cases e:k=i
         ·subst e;rw[if_pos rfl,if_pos l8];exact .inr ⟨n,rfl,by omega,by rw[Uk];exact hd,by rw[Uk];exact hAx⟩
         ·rw[if_neg e];exact(hI.dn i hi).imp_right fun⟨j,h1,h2,h3⟩=>⟨j,h1,by omega,h3⟩
        ·by_cases e:j=n
         ·subst e;exact⟨k,by rw[Uk];exact hAx,by simp[Ob,l8]⟩
         ·obtain⟨i,h1,h2⟩:=hI.up j (by omega) hdj;refine⟨i,h1,?_⟩;simp only[Ob];by_cases e2:k=i
          ·subst e2;rw[hDk]at h2;simp at h2
          ·rw[if_neg e2];exact h2
        ·simp only;rw[List.countP_set l8,hs,hI.bU,hd];have e1:D[k]= -1:=by rw[Ba l8]at hDk;exact Ek hDk
         simp[e1]
  ·have h':¬(n:Int)<(g.1.length:Int):=by omega
   simp only[h',decide_false,cond_false];refine .inr ⟨_,rfl,.inr ⟨D,rfl,?_⟩⟩;have:n=g.1.length:=by omega
   rw[<- this];exact hI
theorem Pac(g:Ga)(hN:g.1.length<=4096)(hS:(Nf g).length<=64)(hA:∀j,j<g.1.length-> -9223372036854775808<=(at' g j).2.1/\(at' g j).2.1<=9223372036854775807):
  ∃r,rF g=some r/\(r.2=true->cr g r.1):=by
 have hc:oe MC g.1<=4096:=Ib List.countP_le_length hN;unfold rF MP;rw[pZ g hN];simp only[ga];obtain⟨c,Kz⟩:∃c,oe MC g.1=c:=⟨_,rfl⟩;rw[Kz]at hc ⊢;have w:Ea (nt (da g.2.2.2.2.2.1)+(c:Int))=(((Nf g).length+c:Nat):Int):=by
  show Ea (((Nf g).length:Int)+(c:Int))=_;rw[Qb (by omega) (by omega)];omega
 rw[w];by_cases hr:g.2.2.1=(((Nf g).length+c:Nat):Int)
 ·have b1:(decide (0<=(c:Int))&&decide ((c:Int)<=(c:Int))&&decide (8 * (c:Int)<=70368744177664)&&decide ((c:Int)<9223372036854775808))=true:=by simp;omega
  simp only[hr,decide_true,Zf,cond_false,b1,Oa];rw[VS g c hc];simp only[ga];obtain⟨e,h1,h2⟩:=TS g c hc hN hS hA;rw[h1];simp only[ga];rcases h2 with⟨u,rfl⟩|⟨D,rfl,hI⟩
  ·exact⟨([],false),rfl,fun h=>by cases h⟩
  ·refine⟨(D,true),rfl,fun _=> ?_⟩;have Hg:∀k,k<c->D[k]?≠some (-1):=fun k hk hm=>by
    have h3:oe (fun d=>decide ((0:Int)<=d)) D=D.length:=by
     rw[hI.bU,od (va _),Kz,hI.len]
    have:=List.countP_eq_length.1 h3 (-1) (Nb hm);simp at this
   exact⟨by rw[hr,hI.len],by rw[hI.len];exact hc,fun k hk=>by
    rw[hI.len]at hk;rcases hI.dn k hk with e|⟨j,h1,h2,h3,h4⟩
    ·exact absurd e (Hg k hk)
    ·exact⟨j,h1,h2,h3,h4⟩,hI.up⟩
 ·simp only[hr,decide_false,gf,cond_true];exact⟨([],false),rfl,fun h=>by cases h⟩
end Go.U
end
section
set_option maxRecDepth 20000
namespace Go.U
open Go
theorem jd{α:Type}{b:Bool}{x y:Option α}(hx:∃r,x=some r)(hy:∃r,y=some r):∃r,cond b x y=some r:=by cases b<;>assumption
theorem zg{α β:Type}{x:Option α}{f:α->Option β}(hx:∃r,x=some r)(hf:∀a,x=some a->∃r,f a=some r):∃r,x.bind f=some r:=by
 obtain⟨a,h⟩:=hx;rw[h];exact hf a h
theorem zc{α:Type}(a:α):∃r,some a=some r:=⟨a,rfl⟩
theorem pH(a):∃r,Kt a=some r:=by unfold Kt aK;exact jd (zc _) (zc _)
theorem oH(a):∃r,kp a=some r:=by unfold kp ZJ;exact jd (zc _) (jd (zc _) (zc _))
theorem nP(a):∃r,zq a=some r:=by unfold zq YJ;exact zg (oH _) fun _ _=>zc _
theorem E0{E:Type}{L:Type}{n:Nat}{step:Int->Option (Int ⊕ E)}(hn:n<=9223372036854775807)(I:Nat->Prop)(Q:E->Prop)(h0:I 0)
  (hs:∀i:Nat,i<n->I i->(step (i:Int)=some (.inl (Ea ((i:Int)+1)))/\I (i+1))\/∃e,step (i:Int)=some (.inr e)/\Q e)
  (he:I n->∃e,step (n:Int)=some (.inr e)/\Q e):∃e,Ma step 0=some e/\Q e:=by
 refine Tg (fun t=>∃i:Nat,i<=n/\t=(i:Int)/\I i) (fun t=>n-t.toNat) Q ⟨0,je _,rfl,h0⟩ (by simp;omega) (fun t⟨i,hi,ht,hI⟩=> ?_);subst ht;by_cases h:i<n
 ·rcases hs i h hI with⟨h1,h2⟩|h1
  ·rw[Qb (by omega) (by omega)]at h1;exact .inl ⟨_,h1,⟨i+1,h,rfl,h2⟩,by omega⟩
  ·exact .inr h1
 ·have:i=n:=by omega
  subst this;exact .inr (he hI)
def Gd{E:Type}(i:Int)(I':Prop)(Q:E->Prop)(x:Option (Int ⊕ E)):Prop:=(x=some (.inl (Ea (i+1)))/\I')\/∃e,x=some (.inr e)/\Q e
section
variable {E:Type}{i:Int}{I':Prop}{Q:E->Prop}
theorem zh{b:Bool}{x y:Option (Int ⊕ E)}(hx:b=true->Gd i I' Q x)(hy:b=false->Gd i I' Q y):Gd i I' Q (cond b x y):=by
 cases b
 ·exact hy rfl
 ·exact hx rfl
theorem Iv{α:Type}{x:Option α}{f:α->Option (Int ⊕ E)}(hx:∃r,x=some r)(hf:∀a,x=some a->Gd i I' Q (f a)):Gd i I' Q (x.bind f):=by
 obtain⟨a,h⟩:=hx;rw[h];exact hf a h
theorem Yy(h:I'):Gd i I' Q (some (.inl (Ea (i+1)))):= .inl ⟨rfl,h⟩
theorem Aj{e:E}(h:Q e):Gd i I' Q (some (.inr e)):= .inr ⟨e,rfl,h⟩
end
theorem Vh{E:Type}{n:Nat}{step:Int->Option (Int ⊕ E)}(hn:n<=9223372036854775807)(I:Nat->Prop)(Q:E->Prop)(h0:I 0)
 (hs:∀i:Nat,i<n->I i->Gd (i:Int) (I (i+1)) Q (step (i:Int)))
 (he:I n->∃e,step (n:Int)=some (.inr e)/\Q e):∃e,Ma step 0=some e/\Q e:=E0 (L:=Unit) hn I Q h0 hs he
theorem XS(p:(List Aa)×Int×Ga)(h:p.2.1=nt p.1.length)(hn:p.1.length<=9223372036854775807):∃e,Ma (Gq.m p) 0=some e:=by
 obtain⟨e,h1,_⟩:=Vh (n:=p.1.length) (step:=Gq.m p) hn (fun _=>True) (fun _=>True) trivial (fun i hi _=>by
  have h':(i:Int)<(p.1.length:Int):=by omega
  simp only[LD.m,Gq,h,nt,h',decide_true,cond_true,fg hi,Oa]
  repeat (first|exact Aj trivial|exact Yy trivial|(refine zh (fun _=> ?_) (fun _=> ?_)))) (fun _=>by
  simp only[LD.m,Gq,h,nt,Xb,decide_false,cond_false];exact⟨_,rfl,trivial⟩)
 exact⟨e,h1⟩
theorem LM(p:(List Cb)×Int×Ga)(h:p.2.1=nt p.1.length)(hn:p.1.length<=9223372036854775807):∃e,Ma (fm.m p) 0=some e:=by
 obtain⟨e,h1,_⟩:=Vh (n:=p.1.length) (step:=fm.m p) hn (fun _=>True) (fun _=>True) trivial (fun i hi _=>by
  have h':(i:Int)<(p.1.length:Int):=by omega
  simp only[LD.m,fm,h,nt,h',decide_true,cond_true,fg hi,Oa]
  repeat (first|exact Aj trivial|exact Yy trivial|(refine zh (fun _=> ?_) (fun _=> ?_))|(refine Iv (pH _) fun _ _=> ?_)|(refine Iv (oH _) fun _ _=> ?_)|(refine Iv (nP _) fun _ _=> ?_))) (fun _=>by
  simp only[LD.m,fm,h,nt,Xb,decide_false,cond_false];exact⟨_,rfl,trivial⟩)
 exact⟨e,h1⟩
theorem uM(a):∃r,kp a=some r/\ -2147483648<=r/\r<= -128:=by
 unfold kp ZJ;cases decide (a=(1:Int))
 ·cases decide (a=(2:Int))
  ·exact⟨_,rfl,by decide,by decide⟩
  ·exact⟨_,rfl,by decide,by decide⟩
 ·exact⟨_,rfl,by decide,by decide⟩
theorem AY(a):∃r,zq a=some r/\r<=2147483647:=by
 obtain⟨r,h1,h2,h3⟩:=uM a;unfold zq YJ;rw[h1];refine⟨_,rfl,?_⟩;rw[Qb (n:=0-r) (by omega) (by omega),Qb (by omega) (by omega)];omega
theorem BY{a:Int}{r:Bool}(h:Kt a=some r)(hr:r=true):1<=a/\a<=3:=by
 unfold Kt aK at h;subst hr;by_cases h1:1<=a<;>by_cases h2:a<=3<;>simp[h1,h2]at h
 exact⟨h1,h2⟩
def InI(x:Int):Prop:= -2147483648<=x/\x<=2147483647
theorem ZS(p:(List Zb)×Int×Ga)(h:p.2.1=nt p.1.length)(hn:p.1.length<=9223372036854775807):∃e,Ma (dm.m p) 0=some e/\((∃u,e= .inl u)\/(∃u,e= .inr u)/\∀j,j<p.1.length->InI (gx p.1 j Bc).2.2/\1<=(gx p.1 j Bc).2.1/\(gx p.1 j Bc).2.1<=3):=
 Vh (n:=p.1.length) (step:=dm.m p) hn (fun k=>∀j,j<k->InI (gx p.1 j Bc).2.2/\1<=(gx p.1 j Bc).2.1/\(gx p.1 j Bc).2.1<=3) _ (fun j h=>absurd h (mj _)) (fun i hi hI=>by
  have h':(i:Int)<(p.1.length:Int):=by omega
  simp only[LD.m,dm,h,nt,h',decide_true,cond_true,fg hi,Oa,La];refine Iv (pH _) fun tb htb=>zh (fun _=>Aj (.inl ⟨(),rfl⟩)) fun ctb=> ?_
  have gD:=BY htb (by simpa using ctb);obtain⟨r,r1,r2,_⟩:=uM (gx p.1 i Bc).2.1;obtain⟨t,t1,t2⟩:=AY (gx p.1 i Bc).2.1;rw[r1,t1];refine zh (fun _=>Aj (.inl ⟨(),rfl⟩)) fun c1=>zh (fun _=>Aj (.inl ⟨(),rfl⟩)) fun c2=>Yy fun j hj=> ?_
  have c1:=of_decide_eq_false c1;have c2:=of_decide_eq_false c2;by_cases e:j=i
  ·subst e;exact⟨⟨by omega,by omega⟩,gD⟩
  ·exact hI j (by omega)) (fun hI=>by
  simp only[LD.m,dm,h,nt,Xb,decide_false,cond_false];exact⟨_,rfl,.inr ⟨⟨(),rfl⟩,hI⟩⟩)
theorem YS(p:(List Cb)×Int)(h:p.2=nt p.1.length)(hn:p.1.length<=9223372036854775807):∃e,Ma (cm.m p) 0=some e/\((∃u,e= .inl u)\/(∃u,e= .inr u)/\∀j,j<p.1.length->InI (gx p.1 j fb).2.2.2/\(1<=(gx p.1 j fb).2.1/\(gx p.1 j fb).2.1<=3)/\1<=(gx p.1 j fb).2.2.1/\(gx p.1 j fb).2.2.1<=256):=
 Vh (n:=p.1.length) (step:=cm.m p) hn (fun k=>∀j,j<k->InI (gx p.1 j fb).2.2.2/\(1<=(gx p.1 j fb).2.1/\(gx p.1 j fb).2.1<=3)/\1<=(gx p.1 j fb).2.2.1/\(gx p.1 j fb).2.2.1<=256) _ (fun j h=>absurd h (mj _)) (fun i hi hI=>by
  have h':(i:Int)<(p.1.length:Int):=by omega
  simp only[LD.m,cm,h,nt,h',decide_true,cond_true,fg hi,Oa,La];refine Iv (pH _) fun tb htb=>zh (fun _=>Aj (.inl ⟨(),rfl⟩)) fun ctb=> ?_
  have gD:=BY htb (by simpa using ctb);obtain⟨r,r1,r2,_⟩:=uM (gx p.1 i fb).2.1;obtain⟨t,t1,t2⟩:=AY (gx p.1 i fb).2.1;rw[r1,t1];refine zh (fun _=>Aj (.inl ⟨(),rfl⟩)) fun c1=>zh (fun _=>Aj (.inl ⟨(),rfl⟩)) fun c2=>zh (fun _=>Aj (.inl ⟨(),rfl⟩)) fun c3=>zh (fun _=>Aj (.inl ⟨(),rfl⟩)) fun c4=>Yy fun j hj=> ?_
  have c3:=of_decide_eq_false c3;have c4:=of_decide_eq_false c4;have c1:=of_decide_eq_false c1;have c2:=of_decide_eq_false c2;by_cases e:j=i
  ·subst e;exact⟨⟨by omega,by omega⟩,gD,by omega,by omega⟩
  ·exact hI j (by omega)) (fun hI=>by
  simp only[LD.m,cm,h,nt,Xb,decide_false,cond_false];exact⟨_,rfl,.inr ⟨⟨(),rfl⟩,hI⟩⟩)
abbrev jU(g:Ga):List Cb:=g.2.2.2.2.1
abbrev de(g:Ga):List Cb:=g.2.2.2.2.2.2.1
abbrev lns(g:Ga):List Aa:=g.2.2.2.2.2.2.2
structure x7(g:Ga):Prop where
 i:g.1.length<=9223372036854775807
 s:(Nf g).length<=9223372036854775807
 a:(jU g).length<=9223372036854775807
 n:(de g).length<=9223372036854775807
 l:(lns g).length<=9223372036854775807
 A:∀j,j<g.1.length-> -9223372036854775808<=(at' g j).2.1/\(at' g j).2.1<=9223372036854775807
structure xQ(g:Ga):Prop where
 s:∀j,j<(Nf g).length->InI (gx (Nf g) j Bc).2.2/\1<=(gx (Nf g) j Bc).2.1/\(gx (Nf g) j Bc).2.1<=3
 a:∀j,j<(de g).length->InI (gx (de g) j fb).2.2.2/\(1<=(gx (de g) j fb).2.1/\(gx (de g) j fb).2.1<=3)/\1<=(gx (de g) j fb).2.2.1/\(gx (de g) j fb).2.2.1<=256
def Tp(P:Prop)(x:Option Bool):Prop:=∃r,x=some r/\(r=true->P)
theorem Tz{P:Prop}{b:Bool}{x y:Option Bool}(hx:Tp P x)(hy:Tp P y):Tp P (cond b x y):=by
 cases b
 ·exact hy
 ·exact hx
theorem qi{P:Prop}:Tp P (some false):=⟨false,rfl,fun h=>by cases h⟩
theorem Sac{g:Ga}(h:x7 g):∃r,sF g=some r/\(r=true->(Nf g).length<=64/\(de g).length<=16/\xQ g):=by
 unfold sF NP;by_cases h1:(32:Int)<nt (da g.2.2.2.2.1)
 ·simp only[h1,decide_true,cond_true];exact⟨false,rfl,fun h=>by cases h⟩
 ·by_cases h2:(64:Int)<nt (da g.2.2.2.2.2.1)
  ·simp only[h1,h2,decide_true,decide_false,cond_true,cond_false];exact⟨false,rfl,fun h=>by cases h⟩
  ·have h3:(Nf g).length<=64:=by simp only[nt]at h2;show da g.2.2.2.2.2.1<=64;omega
   by_cases h6:(16:Int)<nt (da g.2.2.2.2.2.2.1)
   ·simp only[h1,h2,h6,decide_true,decide_false,cond_true,cond_false];exact⟨false,rfl,fun h=>by cases h⟩
   have h7:(de g).length<=16:=by simp only[nt]at h6;show da g.2.2.2.2.2.2.1<=16;omega
   simp only[h1,h2,h6,decide_false,cond_false]
   suffices h:Tp (xQ g) _ by
    obtain⟨r,q1,q2⟩:=h;exact⟨r,q1,fun hr=>⟨h3,h7,q2 hr⟩⟩
   refine Tz qi (Tz qi ?_);by_cases h4:(nt (da g.2.2.2.2.2.2.2))<(1:Int)
   ·simp only[h4,decide_true,cond_true];exact qi
   ·have h5:V.ja 0 (da g.2.2.2.2.2.2.2)=true:=wj (by decide) (by simp only[nt]at h4;omega);simp only[h4,decide_false,cond_false,h5,Oa];obtain⟨e1,l1⟩:=XS (g.2.2.2.2.2.2.2,nt g.2.2.2.2.2.2.2.length,g) rfl h.l;rw[l1];refine Tz qi ?_;simp only[ga];cases e1
    ·exact qi
    ·obtain⟨e2,l2⟩:=LM (g.2.2.2.2.1,nt g.2.2.2.2.1.length,g) rfl h.a;simp only[Sum.elim_inr];rw[l2];simp only[ga];cases e2
     ·exact qi
     ·obtain⟨e3,l3,m3⟩:=ZS (g.2.2.2.2.2.1,nt g.2.2.2.2.2.1.length,g) rfl h.s;simp only[Sum.elim_inr];rw[l3];simp only[ga];rcases m3 with⟨u,rfl⟩|⟨⟨u,rfl⟩,i3⟩
      ·exact qi
      ·obtain⟨e4,l4,m4⟩:=YS (g.2.2.2.2.2.2.1,nt g.2.2.2.2.2.2.1.length) rfl h.n;simp only[Sum.elim_inr];rw[l4];simp only[ga];rcases m4 with⟨u,rfl⟩|⟨⟨u,rfl⟩,i4⟩
       ·exact qi
       ·exact⟨true,rfl,fun _=>⟨i3,i4⟩⟩
end Go.U
end
