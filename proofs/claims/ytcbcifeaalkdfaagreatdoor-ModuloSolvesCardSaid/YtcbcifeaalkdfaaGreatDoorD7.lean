/- What these Lean functions compute: plain arithmetic of congruences, the checks of a graph, the values of its registers. -/
import Derived.Test.YtcbcifeaalkdfaaGreatDoorD6
import Derived.Test.YtcbcifeaalkdfaaGreatDoorD3
set_option linter.unusedVariables false
set_option linter.unusedSimpArgs false
set_option linter.unusedSectionVars false
open Bool renaming not_false→Sb,not_true→Ub,true_and→Od,false_and→Cq
open Int renaming toNat→ia,lt_irrefl→Tb,toNat_natCast→Pa,tmod→zb
open List renaming length_set→Wa,countP→Xc,mem_append→jh,mem_append_left→we,mem_append_right→Bq,length_append→oe,countP_le_length→Rd,length→fa,set→Wb,length_singleton→nc,length_take→je,getD→Qi,replicate→fb,length_replicate→Nv,length_eq_zero_iff→Gb,mem_cons_self→Dd,mem_cons_of_mem→Rb,mem_cons→me,take_of_length_le→Rf,length_nil→Om,mem_of_getElem?→Eb,range→mb
open Nat renaming le_refl→ya
open Option renaming bind_some→da
open Sum renaming elim_inr→zi
section
set_option maxRecDepth 20000
namespace Go.U
open Go
def yf(M:List Bool)(x:Int):Prop:=0<=x/\x<(M.length:Int)/\gx M x.toNat false=true
theorem Rj{M:List Bool}{i:Nat}(hi:i<M.length){x:Int}:yf (M.set i true) x↔yf M x\/x=(i:Int):=by
 unfold yf;rw[Wa,Nc hi];constructor
 ·rintro⟨h1,h2,h3⟩
  split at h3
  ·exact .inr (by omega)
  ·exact .inl ⟨h1,h2,h3⟩
 ·rintro(⟨h1,h2,h3⟩|rfl)
  ·exact⟨h1,h2,by split<;>trivial⟩
  ·exact⟨by omega,by omega,by rw[if_pos (by omega)]⟩
theorem ak{M:List Bool}{i:Nat}(hi:i<M.length)(hw:gx M i false=false):Xc id (M.set i true)=Xc id M+1:=by
 have:=Mi (p:=id) (d:=false) (a:=true) hi;rw[hw]at this
 simpa using this
section
variable {g:Ba}{D:List Int}
structure RI(g:Ba)(M:List Bool)(Q:List Int)(xq:Int->Int->Prop):Prop where
 len:M.length=g.1.length
 q:∀x∈Q,yf M x
 ZQ:∀x,yf M x->x∈Q\/∀k:Int,k=0\/k=1->0<=Ue g x.toNat k->yf M (Ue g x.toNat k)\/xq x k
 FF:Q.length<=Xc id M
 z:yf M 0
 mn:∀C,Cl g C->∀x,yf M x->C x
theorem RI.push{M:List Bool}{Q:List Int}{xq ou:Int->Int->Prop}(h:RI g M Q xq){x k n:Int}(hx:yf M x)(hk:k=0\/k=1)(hn:Ue g x.toNat k=n)(n0:0<=n)(n1:n<(g.1.length:Int))(hw:gx M n.toNat false=false)(hp:∀y j,xq y j->ou y j\/(y=x/\j=k)):
  RI g (M.set n.toNat true) (Q++[n]) ou:=by
 have hl:=h.len;have m_:n.toNat<M.length:=by omega
 have WV:((n.toNat:Nat):Int)=n:=by omega
 have S:=λ{y:Int}=>Rj m_ (x:=y)
 rw[WV]at S;refine⟨by rw[Wa];exact hl,λy hy=>S.2 ?_,λy hy=> ?_,?_,S.2 (.inl h.z),λC hC y hy=> ?_⟩
 ·rcases jh.1 hy with hy|hy
  ·exact .inl (h.q y hy)
  ·exact .inr (by simpa using hy)
 ·rcases S.1 hy with hy|rfl
  ·rcases h.ZQ y hy with a|a
   ·exact .inl (we _ a)
   ·refine .inr λj hj h0=> ?_
    rcases a j hj h0 with b|b
    ·exact .inl (S.2 (.inl b))
    ·rcases hp y j b with c|⟨rfl,rfl⟩
     ·exact .inr c
     ·rw[hn];exact .inl (S.2 (.inr rfl))
  ·exact .inl (Bq _ (by simp))
 ·rw[oe,ak m_ hw];have:=h.FF;simp;omega
 ·rcases S.1 hy with hy|rfl
  ·exact h.mn C hC y hy
  ·rw[<- hn];exact hC.2 x (h.mn C hC x hx) k hk (by rw[hn];exact n0)
theorem RI.skip{M:List Bool}{Q:List Int}{xq ou:Int->Int->Prop}(h:RI g M Q xq){x k:Int}(hs:0<=Ue g x.toNat k->yf M (Ue g x.toNat k))(hp:∀y j,xq y j->ou y j\/(y=x/\j=k)):RI g M Q ou:=
 ⟨h.len,h.q,λy hy=>(h.ZQ y hy).imp id λa j hj h0=>(a j hj h0).elim .inl λb=>(hp y j b).elim .inr λ⟨e1,e2⟩=>by subst e1;subst e2;exact .inl (hs h0),h.FF,h.z,h.mn⟩
theorem kN{α:Type}{l:List α}:Xk 0 l.length l=l:=by rw[Ej];simp
def QX(M:List Bool)(n:Nat):Nat:=n+2 * (M.length-Xc id M)
theorem paf(hG:Fe g D){x:Int}{r n:Nat}{M:List Bool}{l:List Int}(hl:(Xk r n l).length=n)(hx:yf M x)(h:RI g M (Xk r n l) (λy _=>y=x)):
  ∃e,Ua (Jl.m (-1,(at' g x.toNat).2.2.2.2.2.2,g)) (r,n,0,M,l)=some e/\(Xk e.1 e.2.1 e.2.2.2).length=e.2.1/\RI g e.2.2.1 (Xk e.1 e.2.1 e.2.2.2) (λ_ _=>False)/\QX e.2.2.1 e.2.1<=QX M n:=by
 have hN:=hG.N;have YC:x.toNat<g.1.length:=by have:=h.len;obtain⟨_,_,_⟩:=hx;omega
 have nx:=(hG.Kg x.toNat YC).nx;refine Gc (step:=Jl.m (-1,(at' g x.toNat).2.2.2.2.2.2,g)) (t:=(r,n,0,M,l)) (λt=>0<=t.2.2.1/\t.2.2.1<=2/\(Xk t.1 t.2.1 t.2.2.2.2).length=t.2.1/\yf t.2.2.2.1 x/\RI g t.2.2.2.1 (Xk t.1 t.2.1 t.2.2.2.2) (λy k=>y=x/\t.2.2.1<=k/\k<=1)/\QX t.2.2.2.1 t.2.1<=QX M n) (λt=>2-t.2.2.1.toNat) _
  ⟨by show(0:Int)<=0;decide,by show(0:Int)<=2;decide,hl,hx,⟨h.len,h.q,λy hy=>(h.ZQ y hy).imp id λa k hk h0=>(a k hk h0).imp id λe=>⟨e,by simp only;omega,by omega⟩,h.FF,h.z,h.mn⟩,ya _⟩ (by simp) λt⟨t0,t2,tl,tx,tR,tm⟩=> ?_
 obtain⟨a,m,k,B,L⟩:=t;simp only at t0 t2 tl tx tR tm;have hB:=tR.len;have Cax:=tR.FF;have hcp:=Rd (p:=id) (l:=B);have go:∀k:Int,k=0\/k=1->RI g B (Xk a m L) (λy j=>y=x/\k<=j/\j<=1)->∃t':Nat×Nat×Int×List Bool×List Int,(cond (decide ((0:Int)<=Ue g x.toNat k))
   (cond (!(decide (Ue g x.toNat k= -1)))
   (ask (V.ua (Ue g x.toNat k) (fa B)) (cond (!(gx B (ia (Ue g x.toNat k)) false))
   (ask (V.ua (Ue g x.toNat k) (fa B)) (ask (decide ((m+(fa ([Ue g x.toNat k]:List Int))) * 8<=70368744177664)&&decide ((m+(fa ([Ue g x.toNat k]:List Int)))<9223372036854775808)) (some (.inl (0,(fa ((Xk a m L)++([Ue g x.toNat k]:List Int))),k+1,(Wb B (ia (Ue g x.toNat k)) true),((Xk a m L)++([Ue g x.toNat k]:List Int)))))))
   (some (.inl (a,m,k+1,B,L)))))
   (some (.inl (a,m,k+1,B,L))))
   (some (.inl (a,m,k+1,B,L))):Option ((Nat×Nat×Int×List Bool×List Int) ⊕ (Nat×Nat×List Bool×List Int)))=some (.inl t')/\(0<=t'.2.2.1/\t'.2.2.1<=2/\(Xk t'.1 t'.2.1 t'.2.2.2.2).length=t'.2.1/\yf t'.2.2.2.1 x/\RI g t'.2.2.2.1 (Xk t'.1 t'.2.1 t'.2.2.2.2) (λy j=>y=x/\t'.2.2.1<=j/\j<=1)/\QX t'.2.2.2.1 t'.2.1<=QX M n)/\t'.2.2.1=k+1:=λk hk hR=>by
  have hp:∀y j,(y=x/\k<=j/\j<=1)->(y=x/\k+1<=j/\j<=1)\/(y=x/\j=k):=λy j⟨e,a,b⟩=>by
   by_cases e2:j=k
   ·exact .inr ⟨e,e2⟩
   ·exact .inl ⟨e,by omega,b⟩
  have KZ:Ue g x.toNat k<(g.1.length:Int):=by rcases hk with rfl|rfl;exact nx.1;exact nx.2
  generalize hn:Ue g x.toNat k=v at *
  have same:(0<=v->yf B v)->(0<=k+1/\k+1<=2/\(Xk a m L).length=m/\yf B x/\RI g B (Xk a m L) (λy j=>y=x/\k+1<=j/\j<=1)/\QX B m<=QX M n):=λhs=>⟨by omega,by omega,tl,tx,hR.skip (x:=x) (k:=k) (by rw[hn];exact hs) hp,tm⟩
  by_cases h0:0<=v
  ·have h1:¬v= -1:=by omega
   have bv:V.ua v B.length=true:=Sd h0 (by omega);simp only[h0,h1,decide_true,decide_false,Sb,cond_true,bv,Fa];cases hw:gx B v.toNat false
   ·have bm:(decide ((m+(fa ([v]:List Int))) * 8<=70368744177664)&&decide ((m+(fa ([v]:List Int)))<9223372036854775808))=true:=by simp;omega
    simp only[Sb,cond_true,bm,Fa];have hvB:v.toNat<B.length:=by omega
    refine⟨_,rfl,⟨by simp only;omega,by simp only;omega,by simp only[kN],(Rj hvB).2 (.inl tx),?_,?_⟩,rfl⟩
    ·simp only[kN];exact hR.push tx hk hn h0 KZ hw hp
    ·simp only[QX,Wa,ak hvB hw,oe,tl,nc]at tm ⊢;have:=ak hvB hw;have h3:=Rd (p:=id) (l:=B.set v.toNat true);rw[Wa]at h3;omega
   ·simp only[Ub,cond_false];exact⟨_,rfl,same λ_=>⟨h0,by omega,hw⟩,rfl⟩
  ·simp only[h0,decide_false,cond_false];exact⟨_,rfl,same λh=>absurd h h0,rfl⟩
 have z0:(0:Int)<2:=by decide
 have z1:(1:Int)<2:=by decide
 have z10:¬(1:Int)=0:=by decide
 have w0:Ka ((0:Int)+1)=0+1:=by decide
 have w1:Ka ((1:Int)+1)=1+1:=by decide
 have EA:k=0\/k=1\/k=2:=by omega
 rcases EA with rfl|rfl|rfl
 ·obtain⟨t',q1,q2,q3⟩:=go 0 (.inl rfl) tR;simp only[LD.m,Jl,z0,decide_true,cond_true,w0];exact .inl ⟨t',q1,q2,by rw[q3];decide⟩
 ·obtain⟨t',q1,q2,q3⟩:=go 1 (.inr rfl) tR;simp only[LD.m,Jl,z1,z10,decide_true,decide_false,cond_true,cond_false,w1];exact .inl ⟨t',q1,q2,by rw[q3];decide⟩
 ·simp only[LD.m,Jl,Tb,decide_false,cond_false];exact .inr ⟨_,rfl,tl,⟨tR.len,tR.q,λy hy=>(tR.ZQ y hy).imp id λa j hj h0=>(a j hj h0).imp id λ⟨_,b,c⟩=>by omega,tR.FF,tR.z,tR.mn⟩,tm⟩
theorem HX{r n:Nat}{l:List Int}(h:(Xk r (n+1) l).length=n+1):Xk r (n+1) l=gx l r 0::Xk (r+1) n l/\(Xk (r+1) n l).length=n:=by
 rw[Ej]at h;simp only[je,List.length_drop]at h;have hr:r<l.length:=by omega
 refine⟨?_,by rw[Ej];simp;omega⟩;have e:gx l r 0=l[r]:=by simp[gx,Qi,hr]
 rw[Ej,Ej,List.drop_eq_getElem_cons hr,List.take_succ_cons,e]
theorem x3(hG:Fe g D):∃R,ED (g,-1)=some R/\RI g R [] (λ_ _=>False):=by
 have hN:=hG.N;have gW:=hG.N1;unfold ED lT;have hT:ia (nt g.1.length)=g.1.length:=by simp[nt]
 have b1:(decide ((0:Int)<=nt g.1.length)&&decide (nt g.1.length<=nt g.1.length)&&decide (1 * nt g.1.length<=70368744177664)&&decide (nt g.1.length<9223372036854775808))=true:=by have hnt:nt g.1.length=(g.1.length:Int):=rfl;simp;omega
 have b2:decide (nt g.1.length=0)=false:=decide_eq_false (by simp only[nt];omega);have b3:V.ua 0 (fa (fb g.1.length (false:Bool)))=true:=Sd (by decide) (by simp;omega);have b4:¬(-1:Int)=0:=by decide
 simp only[hT,b1,b2,b3,b4,Fa,cond_false,decide_false];obtain⟨R,hR⟩:∃R,fb g.1.length (false:Bool)=R:=⟨_,rfl⟩;have hRl:R.length=g.1.length:=by rw[<- hR];simp
 have iY:∀j,j<R.length->gx R j false=false:=λj hj=>by rw[<- hR]at hj ⊢;simp only[Nv]at hj;simp[gx,Qi,hj]
 have hRc:Xc id R=0:=by rw[<- hR];simp[List.countP_replicate]
 have hRn:∀x,¬yf R x:=λx⟨h0,h1,h2⟩=>by rw[iY _ (by omega)]at h2;cases h2
 rw[hR];have c1:=ak (M:=R) (i:=0) (by omega) (iY 0 (by omega));have S:=λ{y:Int}=>Rj (M:=R) (i:=0) (by omega) (x:=y)
 have hS:RI g (R.set 0 true) [0] (λ_ _=>False):=by
  refine⟨by rw[Wa];exact hRl,λx hx=>S.2 (.inr (by simpa using hx)),λx hx=> ?_,by rw[c1,hRc];simp,S.2 (.inr rfl),λC hC x hx=> ?_⟩
  ·rcases S.1 hx with h|rfl
   ·exact absurd h (hRn x)
   ·exact .inl (by simp)
  ·rcases S.1 hx with h|rfl
   ·exact absurd h (hRn x)
   ·exact hC.1
 obtain⟨e,q1,q2⟩:=Gc (step:=rz.m (-1,g)) (t:=(0,1,R.set 0 true,([0]:List Int))) (λt=>(Xk t.1 t.2.1 t.2.2.2).length=t.2.1/\RI g t.2.2.1 (Xk t.1 t.2.1 t.2.2.2) (λ_ _=>False)) (λt=>QX t.2.2.1 t.2.1) (λe=>RI g e [] (λ_ _=>False)) ⟨rfl,hS⟩ (by
  have h3:=Rd (p:=id) (l:=R.set 0 true);rw[Wa]at h3;simp only[QX,Wa];omega) (λt⟨tl,tR⟩=>by
  obtain⟨r,n,B,L⟩:=t;simp only at tl tR;have hB:=tR.len;have hc:=tR.FF;have hcp:=Rd (p:=id) (l:=B);simp only[LD.m,rz,nt];cases n with
  |zero=>
   simp only[Int.natCast_zero,Tb,decide_false,cond_false];have:Xk r 0 L=[]:=Gb.1 tl;rw[this]at tR;exact .inr ⟨_,rfl,tR⟩
  |succ n=>
   obtain⟨e1,e2⟩:=HX tl;have h0:(0:Int)<((n+1:Nat):Int):=by omega
   have i0:V.ua 0 (n+1)=true:=Sd (by decide) (by omega);have i1:(decide ((0:Int)<=1)&&decide ((1:Int)<=((n+1:Nat):Int))&&decide (((n+1:Nat):Int)<=((n+1:Nat):Int)))=true:=by simp;omega
   have ad0:pF r 0=r:=by rw[Vt];rfl
   have ad1:pF r 1=r+1:=Vt r 1;have hx:yf B (gx L r 0):=tR.q _ (by rw[e1];exact Dd);have bx:V.ua (gx L r 0) g.1.length=true:=by obtain⟨a,b,_⟩:=hx;exact Sd a (by omega)
   have hn:ia ((n+1:Nat):Int)-1=n:=by omega
   simp only[h0,decide_true,cond_true,i0,i1,Fa,ad0,ad1,bx,hn];have Ey:RI g B (Xk (r+1) n L) (λy _=>y=gx L r 0):=by
    refine⟨tR.len,λy hy=>tR.q y (by rw[e1];exact Rb _ hy),λy hy=> ?_,?_,tR.z,tR.mn⟩
    ·rcases tR.ZQ y hy with a|a
     ·rw[e1]at a;rcases me.1 a with a|a
      ·exact .inr λ_ _ _=> .inr a
      ·exact .inl a
     ·exact .inr λk hk h0=>(a k hk h0).imp id λf=>f.elim
    ·rw[e1]at hc;simp at hc;omega
   obtain⟨e,p1,p2,p3,p4⟩:=paf hG e2 hx Ey;have p1':Ua (Jl.m (-1,(gx g.1 (ia (gx L r 0)) Pb).2.2.2.2.2.2,g)) (r+1,n,0,B,L)=some e:=p1;rw[p1'];exact .inl ⟨_,congrArg (λb=>ask b (some (Sum.inl e))) i1,⟨p2,p3⟩,by simp only[QX]at p4 ⊢;omega⟩)
 have OY:Ua (rz.m (-1,g)) (0,fa ([0]:List Int),Wb R 0 true,[0])=some e:=q1;rw[OY];exact⟨e,rfl,q2⟩
theorem RI.ord{R:List Bool}{O:List Int}(h:RI g R [] (λ_ _=>False))(hO:Ij g O)(x:Int):yf R x↔x∈O:=
 ⟨λhx=>h.mn (· ∈O) ⟨hO.z,λy hy k hk h0=>hO.cl y hy k hk h0⟩ x hx,λhx=>hO.mn (yf R) ⟨h.z,λy hy k hk h0=>((h.ZQ y hy).resolve_left (by simp) k hk h0).elim id False.elim⟩ x hx⟩
end
end Go.U
end
section
set_option maxRecDepth 20000
namespace Go.U
open Go
theorem b_{S:List Int}{i:Nat}(h:i+1=S.length):S=S.take i++[gx S i 0]:=by
 have hi:i<S.length:=by omega
 have e:gx S i 0=S[i]:=by simp[gx,Qi,hi]
 rw[e,List.take_append_getElem hi];exact(Rf (by omega)).symm
section
variable {g:Ba}{D:List Int}
structure DJ(g:Ba)(M:List Bool)(E S L:List Int):Prop where
 len:M.length=g.1.length
 dl:E.length=g.1.length
 st:∀x∈S,yf M x
 dn:∀j,j<g.1.length->0<=gx E j 0/\gx E j 0<=2/\∀k:Int,0<=k->k<gx E j 0->0<=Ue g j k->yf M (Ue g j k)
 ord:∀x∈L,yf M x/\gx E x.toNat 0=2
 ZQ:∀x,yf M x->x∈L\/x∈S
 FF:L.length+S.length=Xc id M
 z:yf M 0
 mn:∀C,Cl g C->∀x,yf M x->C x
def mY(g:Ba)(E S:List Int):Nat:=2 * Ju (λj=>(2-gx E j 0).toNat) g.1.length+S.length
theorem DJ.pop{M:List Bool}{E S L:List Int}{x:Int}(h:DJ g M E (S++[x]) L)(h2:gx E x.toNat 0=2):DJ g M E S (L++[x]):=
 ⟨h.len,h.dl,λy hy=>h.st y (we _ hy),h.dn,λy hy=>by
  rcases jh.1 hy with hy|hy
  ·exact h.ord y hy
  ·have:y=x:=by simpa using hy
   subst this;exact⟨h.st y (by simp),h2⟩,λy hy=>by
  rcases h.ZQ y hy with a|a
  ·exact .inl (we _ a)
  ·rcases jh.1 a with a|a
   ·exact .inr a
   ·exact .inl (Bq _ a),by have:=h.FF;simp at this ⊢;omega,h.z,h.mn⟩
theorem DJ.go(hG:Fe g D){M:List Bool}{E S L:List Int}{x k:Int}(h:DJ g M E S L)(hx:x∈S)(hk:gx E x.toNat 0=k)(k2:k=0\/k=1)(M':List Bool)(S':List Int)
  (hM:(M'=M/\S'=S/\(0<=Ue g x.toNat k->yf M (Ue g x.toNat k)))\/(0<=Ue g x.toNat k/\gx M (Ue g x.toNat k).toNat false=false/\M'=M.set (Ue g x.toNat k).toNat true/\S'=S++[Ue g x.toNat k])):
  DJ g M' (E.set x.toNat (k+1)) S' L/\mY g (E.set x.toNat (k+1)) S'<mY g E S:=by
 have hsx:=h.st x hx;have hl:=h.len;have hdl:=h.dl;obtain⟨x0,x1,x2⟩:=hsx;have YC:x.toNat<g.1.length:=by omega
 have nx:=(hG.Kg x.toNat YC).nx;have KZ:Ue g x.toNat k<(g.1.length:Int):=by rcases k2 with rfl|rfl;exact nx.1;exact nx.2
 have hE:=λ(j:Nat)=>Nc (l:=E) (i:=x.toNat) (j:=j) (d:=(0:Int)) (x:=k+1) (by omega)
 have xam:=dw (f:=λj=>(2-gx E j 0).toNat) (h:=λj=>(2-gx (E.set x.toNat (k+1)) j 0).toNat) (i:=x.toNat) (n:=g.1.length) YC (λj hj td=>by(try simp only);rw[hE,if_neg (λe=>td e.symm)])
 try simp only at xam
 rw[hE x.toNat,if_pos rfl,hk]at xam;have sub:∀y,yf M y->yf M' y:=λy hy=>by
  rcases hM with⟨rfl,_,_⟩|⟨n0,nw,rfl,_⟩
  ·exact hy
  ·exact(Rj (by omega)).2 (.inl hy)
 have snx:0<=Ue g x.toNat k->yf M' (Ue g x.toNat k):=λh0=>by
  rcases hM with⟨rfl,_,hs⟩|⟨n0,nw,rfl,_⟩
  ·exact hs h0
  ·exact(Rj (by omega)).2 (.inr (by omega))
 have jaq:∀y,y∈S->y∈S':=λy hy=>by
  rcases hM with⟨_,rfl,_⟩|⟨_,_,_,rfl⟩
  ·exact hy
  ·exact we _ hy
 have inv:∀y,yf M' y->yf M y\/(y=Ue g x.toNat k/\y∈S'/\0<=Ue g x.toNat k):=λy hy=>by
  rcases hM with⟨rfl,_,hs⟩|⟨n0,nw,rfl,rfl⟩
  ·exact .inl hy
  ·rcases(Rj (by omega)).1 hy with a|a
   ·exact .inl a
   ·exact .inr ⟨by omega,Bq _ (by simp;omega),n0⟩
 refine⟨⟨?_,by rw[Wa];exact hdl,λy hy=> ?_,λj hj=> ?_,λy hy=> ?_,λy hy=> ?_,?_,sub _ h.z,λC hC y hy=> ?_⟩,?_⟩
 ·rcases hM with⟨rfl,_,_⟩|⟨_,_,rfl,_⟩
  ·exact hl
  ·rw[Wa];exact hl
 ·rcases hM with⟨rfl,rfl,_⟩|⟨n0,_,e1,rfl⟩
  ·exact h.st y hy
  ·rcases jh.1 hy with hy|hy
   ·exact sub y (h.st y hy)
   ·have:y=Ue g x.toNat k:=by simpa using hy
    rw[this];exact snx n0
 ·rw[hE];obtain⟨d0,d2,d3⟩:=h.dn j hj;split
  ·rename_i e;refine⟨by omega,by omega,λi i0 i1 i2=> ?_⟩;by_cases e2:i=k
   ·subst e2;rw[<- e]at i2 ⊢;exact snx i2
   ·exact sub _ (d3 i i0 (by rw[<- e,hk];omega) i2)
  ·exact⟨d0,d2,λi i0 i1 i2=>sub _ (d3 i i0 i1 i2)⟩
 ·obtain⟨s1,s2⟩:=h.ord y hy;refine⟨sub _ s1,?_⟩;rw[hE,if_neg]
  ·exact s2
  ·intro e;rw[<- e,hk]at s2;omega
 ·rcases inv y hy with a|⟨_,a,_⟩
  ·exact(h.ZQ y a).imp id (jaq y)
  ·exact .inr a
 ·have hc:=h.FF;rcases hM with⟨rfl,rfl,_⟩|⟨n0,nw,rfl,rfl⟩
  ·exact hc
  ·rw[ak (by omega) nw];simp;omega
 ·rcases inv y hy with a|⟨e,_,n0⟩
  ·exact h.mn C hC y a
  ·rw[e];exact hC.2 x (h.mn C hC x ⟨x0,x1,x2⟩) k k2 n0
 ·unfold mY;rcases hM with⟨_,rfl,_⟩|⟨_,_,_,rfl⟩
  ·omega
  ·simp only[oe,nc];omega
theorem Ual(hG:Fe g D){M:List Bool}{E S L:List Int}(h:DJ g M E S L):(∃t',Pp.m g (M,E,S,L)=some (.inl t')/\DJ g t'.1 t'.2.1 t'.2.2.1 t'.2.2.2/\mY g t'.2.1 t'.2.2.1<mY g E S)\/(Pp.m g (M,E,S,L)=some (.inr L)/\S=[]):=by
 have hN:=hG.N;have hl:=h.len;have hdl:=h.dl;have hc:=h.FF;have hcp:=Rd (p:=id) (l:=M);by_cases hS:S=[]
 ·subst hS;refine .inr ⟨?_,rfl⟩;simp only[LD.m,Pp,nt,Om,Int.natCast_zero,Tb,decide_false,cond_false]
 ·left;obtain⟨i,hi⟩:∃i,i+1=S.length:=⟨S.length-1,by have:=List.length_pos_iff.2 hS;omega⟩;have hSe:=b_ hi;have hxS:gx S i 0∈S:=Eb (ym (by omega));obtain⟨x0,x1,x2⟩:=h.st _ hxS;have h0:(0:Int)<(S.length:Int):=by omega
  have w:Ka ((S.length:Int)-1)=(i:Int):=by rw[Ya (by omega) (by omega)];omega
  have iS:V.ua (i:Int) S.length=true:=Tk (by omega);generalize hx:gx S i 0=x at *
  have YC:x.toNat<g.1.length:=by omega
  have ix:V.ua x E.length=true:=Sd x0 (by omega);have ixg:V.ua x g.1.length=true:=Sd x0 (by omega);obtain⟨d0,d2,_⟩:=h.dn x.toNat YC;have hk3:gx E x.toNat 0=0\/gx E x.toNat 0=1\/gx E x.toNat 0=2:=by omega
  have c0:V.ua (0:Int) 0=false:=rfl;have go:∀(v k:Int),Ue g x.toNat k=v->k=0\/k=1->gx E x.toNat 0=k->∃t',(cond (decide ((0:Int)<=v))
   (ask (V.ua v (fa M)) (cond (!(gx M (ia v) false))
   (ask (V.ua v (fa M)) (ask (decide (((fa S)+(fa ([v]:List Int))) * 8<=70368744177664)&&decide (((fa S)+(fa ([v]:List Int)))<9223372036854775808)) (some (.inl ((Wb M (ia v) true),(Wb E (ia x) (k+1)),(S++([v]:List Int)),L)))))
   (some (.inl (M,(Wb E (ia x) (k+1)),S,L)))))
   (some (.inl (M,(Wb E (ia x) (k+1)),S,L))):Option ((List Bool×List Int×List Int×List Int) ⊕ List Int))=some (.inl t')/\DJ g t'.1 t'.2.1 t'.2.2.1 t'.2.2.2/\mY g t'.2.1 t'.2.2.1<mY g E S:=λv k hv hk hE=>by
   have nx:=(hG.Kg x.toNat YC).nx;have KZ:Ue g x.toNat k<(g.1.length:Int):=by rcases hk with rfl|rfl;exact nx.1;exact nx.2
   have G:=h.go hG hxS hE hk;rw[hv]at G KZ;by_cases n0:0<=v
   ·have iv:V.ua v M.length=true:=Sd n0 (by omega);simp only[n0,decide_true,cond_true,iv,Fa];cases hw:gx M v.toNat false
    ·have bm:(decide ((S.length+(fa ([v]:List Int))) * 8<=70368744177664)&&decide ((S.length+(fa ([v]:List Int)))<9223372036854775808))=true:=by simp;omega
     simp only[Sb,cond_true,bm,Fa];obtain⟨q1,q2⟩:=G _ _ (.inr ⟨n0,hw,rfl,rfl⟩);exact⟨_,rfl,q1,q2⟩
    ·simp only[Ub,cond_false];obtain⟨q1,q2⟩:=G _ _ (.inl ⟨rfl,rfl,λ_=>⟨n0,by omega,hw⟩⟩);exact⟨_,rfl,q1,q2⟩
   ·simp only[n0,decide_false,cond_false];obtain⟨q1,q2⟩:=G _ _ (.inl ⟨rfl,rfl,λh=>absurd h n0⟩);exact⟨_,rfl,q1,q2⟩
  have lY:¬(1:Int)=2:=by decide
  have e02:¬(0:Int)=2:=by decide
  have Cu:¬(1:Int)=0:=by decide
  have w0:Ka ((0:Int)+1)=0+1:=by decide
  have w1:Ka ((1:Int)+1)=1+1:=by decide
  simp only[LD.m,Pp,nt,h0,decide_true,cond_true,w,iS,Fa,Pa,hx,ix,ixg];rcases hk3 with hk|hk|hk
  ·obtain⟨t',q1,q2⟩:=go (at' g x.toNat).2.2.2.2.2.2.1 0 rfl (.inl rfl) hk;simp only[hk,e02,decide_true,decide_false,cond_true,cond_false,w0,Fa];exact⟨t',q1,q2⟩
  ·obtain⟨t',q1,q2⟩:=go (at' g x.toNat).2.2.2.2.2.2.2 1 rfl (.inr rfl) hk;simp only[hk,lY,Cu,decide_true,decide_false,cond_true,cond_false,w1,Fa];exact⟨t',q1,q2⟩
  ·have bm:(decide ((L.length+(fa ([x]:List Int))) * 8<=70368744177664)&&decide ((L.length+(fa ([x]:List Int)))<9223372036854775808))=true:=by simp;omega
   have bt:(decide ((0:Int)<=0)&&decide ((0:Int)<=(i:Int))&&decide ((i:Int)<=(S.length:Int)))=true:=by simp;omega
   simp only[hk,decide_true,cond_true,bm,Fa];refine⟨(M,E,S.take i,L++[x]),congrArg (λb=>ask b (some (Sum.inl (M,E,S.take i,L++[x])))) bt,?_,?_⟩
   ·exact DJ.pop (by rw[<- hSe];exact h) hk
   ·show mY g E (S.take i)<mY g E S;unfold mY;rw[je];omega
theorem Nah(hG:Fe g D):∃r,mH g=some r/\Ij g r:=by
 have hN:=hG.N;have gW:=hG.N1;unfold mH jT;have hT:ia (nt g.1.length)=g.1.length:=by simp[nt]
 have b1:(decide ((0:Int)<=nt g.1.length)&&decide (nt g.1.length<=nt g.1.length)&&decide (1 * nt g.1.length<=70368744177664)&&decide (nt g.1.length<9223372036854775808))=true:=by have hnt:nt g.1.length=(g.1.length:Int):=rfl;simp;omega
 have b4:(decide ((0:Int)<=nt g.1.length)&&decide (nt g.1.length<=nt g.1.length)&&decide (8 * nt g.1.length<=70368744177664)&&decide (nt g.1.length<9223372036854775808))=true:=by have hnt:nt g.1.length=(g.1.length:Int):=rfl;simp;omega
 have b2:decide (nt g.1.length=0)=false:=decide_eq_false (by simp only[nt];omega);have b3:V.ua 0 (fa (fb g.1.length (false:Bool)))=true:=Sd (by decide) (by simp;omega);simp only[hT,b1,b2,b3,b4,Fa,cond_false];obtain⟨R,hR⟩:∃R,fb g.1.length (false:Bool)=R:=⟨_,rfl⟩;have hRl:R.length=g.1.length:=by rw[<- hR];simp
 have iY:∀j,j<R.length->gx R j false=false:=λj hj=>by rw[<- hR]at hj ⊢;simp only[Nv]at hj;simp[gx,Qi,hj]
 have hRc:Xc id R=0:=by rw[<- hR];simp[List.countP_replicate]
 have hRn:∀x,¬yf R x:=λx⟨h0,h1,h2⟩=>by rw[iY _ (by omega)]at h2;cases h2
 obtain⟨E,hE⟩:∃E,fb g.1.length (0:Int)=E:=⟨_,rfl⟩;have hEl:E.length=g.1.length:=by rw[<- hE];simp
 have hEg:∀j,j<g.1.length->gx E j 0=0:=λj hj=>by rw[<- hE];simp[gx,Qi,hj]
 rw[hR,hE];have c1:=ak (M:=R) (i:=0) (by omega) (iY 0 (by omega));have S:=λ{y:Int}=>Rj (M:=R) (i:=0) (by omega) (x:=y)
 have hS:DJ g (R.set 0 true) E [0] []:=by
  refine⟨by rw[Wa];exact hRl,hEl,λx hx=>S.2 (.inr (by simpa using hx)),λj hj=> ?_,λx hx=>(by cases hx),λx hx=> ?_,by rw[c1,hRc];simp,S.2 (.inr rfl),λC hC x hx=> ?_⟩
  ·rw[hEg j hj];exact⟨by decide,by decide,λk h0 h1=>by omega⟩
  ·rcases S.1 hx with h|rfl
   ·exact absurd h (hRn x)
   ·exact .inr (by simp)
  ·rcases S.1 hx with h|rfl
   ·exact absurd h (hRn x)
   ·exact hC.1
 obtain⟨l,q1,M',E',hD⟩:=Gc (step:=Pp.m g) (t:=(R.set 0 true,E,([0]:List Int),([]:List Int))) (λt=>DJ g t.1 t.2.1 t.2.2.1 t.2.2.2) (λt=>mY g t.2.1 t.2.2.1) (λl=>∃M E,DJ g M E [] l) hS (by
  have:=mm (f:=λj=>(2-gx E j 0).toNat) (n:=g.1.length) (c:=2) λj hj=>by simp only[hEg j hj];decide
  simp only[mY,nc];omega) (λt h=>by
  obtain⟨a,b,c,d⟩:=t;simp only at h ⊢;rcases Ual hG h with⟨t',r1,r2,r3⟩|⟨r1,rfl⟩
  ·exact .inl ⟨t',r1,r2,r3⟩
  ·exact .inr ⟨d,r1,a,b,h⟩)
 have OY:Ua (Pp.m g) (Wb R 0 true,E,[0],[])=some l:=q1;rw[OY];simp only[da];have hc:=hD.FF;have hcp:=Rd (p:=id) (l:=M');have Fg:=hD.len;have hll:l.length<=4096:=by simp at hc;omega
 have w:Ka (nt l.length-1)=(l.length:Int)-1:=Ya (by simp only[nt];omega) (by simp only[nt];omega);rw[w];obtain⟨e,p1,p2,p3⟩:=Gc (step:=ax.m l) (t:=((l.length:Int)-1,([]:List Int))) (λt=>∃i:Nat,i<=l.length/\t.1=(i:Int)-1/\t.2.length+i=l.length/\∀x,x∈l↔x∈l.take i\/x∈t.2) (λt=>(t.1+1).toNat) (λe=>e.length=l.length/\∀x,x∈l↔x∈e)
  ⟨l.length,ya _,rfl,by simp,λx=>by simp⟩ (by simp only;omega) (λt⟨i,hi,ht,hn,hm⟩=>by
  obtain⟨ti,r⟩:=t;simp only at ht hn hm;subst ht;simp only[LD.m,ax];cases i with
  |zero=>
   have h0:¬(0:Int)<=((0:Nat):Int)-1:=by decide
   simp only[h0,decide_false,cond_false];exact .inr ⟨_,rfl,by omega,λx=>by simpa using hm x⟩
  |succ i=>
   have e0:((i+1:Nat):Int)-1=(i:Int):=by omega
   have h0:(0:Int)<=(i:Int):=by omega
   have bm:(decide ((r.length+(fa ([gx l i 0]:List Int))) * 8<=70368744177664)&&decide ((r.length+(fa ([gx l i 0]:List Int)))<9223372036854775808))=true:=by simp;omega
   simp only[e0,h0,decide_true,cond_true,Tk (show i<l.length by omega),Fa,Pa,bm];rw[Ya (n:=(i:Int)-1) (by omega) (by omega)];refine .inl ⟨_,rfl,⟨i,by omega,rfl,by simp;omega,λx=> ?_⟩,by simp only;omega⟩;rw[hm x];have BA:i<l.length:=by omega
   have e1:gx l i 0=l[i]:=by simp[gx,Qi,BA]
   rw[<- List.take_append_getElem BA,e1];simp only[jh,List.mem_singleton];constructor
   ·rintro((a|a)|a)
    ·exact .inl a
    ·exact .inr (.inr a)
    ·exact .inr (.inl a)
   ·rintro(a|a|a)
    ·exact .inl (.inl a)
    ·exact .inr a
    ·exact .inl (.inr a))
 rw[p1];have mem:=λx=>p3 x
 refine⟨e,rfl,by omega,λx hx=> ?_,?_,λx hx k hk h0=> ?_,λC hC x hx=> ?_⟩
 ·obtain⟨⟨a,b,_⟩,_⟩:=hD.ord x ((p3 x).2 hx);exact⟨a,by omega⟩
 ·exact(p3 0).1 ((hD.ZQ 0 hD.z).resolve_right (by simp))
 ·obtain⟨⟨a,b,c⟩,d⟩:=hD.ord x ((p3 x).2 hx);obtain⟨_,_,f⟩:=hD.dn x.toNat (by omega);exact(p3 _).1 ((hD.ZQ _ (f k (by omega) (by rw[d];omega) h0)).resolve_right (by simp))
 ·exact hD.mn C hC x (hD.ord x ((p3 x).2 hx)).1
end
end Go.U
end
section
set_option maxRecDepth 20000
namespace Go.U
open Go
theorem K2{c:ga}(h:CR c)(v:Int):wu (c,v)=some (gz c v):=by
 unfold wu aT gz;cases hb:c.1
 ·obtain⟨a0,a1,a2,a3,a4,a5⟩:=h.bounds hb;simp only[cond_false,Sb,Od];by_cases h1:v< -2147483648
  ·have:¬-2147483648<=v:=by omega
   simp[h1,this]
  ·by_cases h2:2147483647<v
   ·have:¬v<=2147483647:=by omega
    simp[h1,h2,this]
   ·have e1: -2147483648<=v:=by omega
    have e2:v<=2147483647:=by omega
    simp only[h1,h2,e1,e2,decide_true,decide_false,cond_false,Od];by_cases h0:c.2.1=0
    ·simp[h0]
    ·obtain⟨r1,r2,r3⟩:=h.rem hb h0;simp only[h0,decide_false,cond_false,if_false];rw[Ya (by omega) (by omega)];congr 1;have:=T9 (v:=v) h0 r2 r3;by_cases hh:v%c.2.1=c.2.2
     ·simp[hh,this.2 hh]
     ·have h':¬zb (v-c.2.2) c.2.1=0:=λe=>hh (this.1 e)
      simp[hh,h']
 ·simp
end Go.U
end
section
set_option maxRecDepth 20000
namespace Go.U
open Go
theorem cab{a b:ga}(ha:CR a)(hb:CR b):Sz (a,b)=some (Pd a b):=by
 unfold Sz RJ;cases h1:a.1
 ·cases h2:b.1
  ·obtain⟨a0,a1,a2,a3,_,_⟩:=ha.bounds h1;obtain⟨b0,b1,b2,b3,_,_⟩:=hb.bounds h2;simp only[Pd,h1,h2,cond_false];by_cases h3:a.2.1=0
   ·simp only[h3,decide_true,cond_true,if_true];rw[K2 hb];rfl
   ·by_cases h4:b.2.1=0
    ·simp[h3,h4]
    ·simp only[h3,h4,decide_false,cond_false,Sb,cond_true,if_false,Od];rw[Ya (by omega) (by omega)];by_cases h5:b.2.1 ∣ a.2.1
     ·simp only[Xd.2 h5,h5,decide_true,cond_true,Od];by_cases h6:b.2.1 ∣ a.2.2-b.2.2
      ·simp only[Xd.2 h6,h6,decide_true]
      ·have:¬zb (a.2.2-b.2.2) b.2.1=0:=λe=>h6 (Xd.1 e)
       simp only[this,h6,decide_false]
     ·have:¬zb a.2.1 b.2.1=0:=λe=>h5 (Xd.1 e)
      simp only[this,h5,decide_false,cond_false,Cq]
  ·simp[Pd,h1,h2]
 ·simp[Pd,h1]
theorem kac{x:Int}(h0: -9223372036854775808<=x)(h1:x<=9223372036854775807):Yi (0,x)=some (nf 0 x):=Er (by decide) (by decide) h0 h1
theorem zai{g:Ba}(h:lR g):gE g=some (tu g,uu g):=by
 unfold gE PT;rw[vm (n:=(af g).length) (F:=λi=>nf 0 (gx (af g) i ud).2.2) h.s (λi l hi hl=>by
  have h':(i:Int)<((af g).length:Int):=by omega
  have hs:=h.s;obtain⟨i1,i2⟩:=h.si i hi;simp only[LD.m,jE,nt,h',decide_true,cond_true,Tk hi,Fa,Pa];rw[kac i1 i2];simp only[da,nc];rw[vA (by omega),Fa]) (λl=>by
  simp only[LD.m,jE,nt,Tb,decide_false,cond_false])]
 simp only[da];rw[vm (n:=(Rg g).length) (F:=λi=>nf 0 (gx (Rg g) i Ob).2.2.2) h.a (λi l hi hl=>by
  have h':(i:Int)<((Rg g).length:Int):=by omega
  have hs:=h.a;obtain⟨i1,i2⟩:=h.ai i hi;simp only[LD.m,iE,nt,h',decide_true,cond_true,Tk hi,Fa,Pa];rw[kac i1 i2];simp only[da,nc];rw[vA (by omega),Fa]) (λl=>by
  simp only[LD.m,iE,nt,Tb,decide_false,cond_false])]
 rfl
theorem all_true{n:Nat}:((mb n).all λ_=>true)=true:=by simp
theorem u5{s:Ga}(h1:s.2.1.length<=1048576)(h2:s.2.2.length<=1048576):yH (s,s)=some true:=by
 unfold yH dU;simp only[beq_self_eq_true,Ub,cond_false,decide_true];rw[Zh (n:=s.2.1.length) (by omega) (p:=λ_=>true) (λi hi=>by
  have h':(i:Int)<(s.2.1.length:Int):=by omega
  simp only[LD.m,uE,nt,h',decide_true,cond_true,Tk hi,Fa,beq_self_eq_true,Bool.and_self,Ub,cond_false]) (by
  simp only[LD.m,uE,nt,Tb,decide_false,cond_false]),all_true]
 simp only[cond_true,da,zi];rw[Zh (n:=s.2.2.length) (by omega) (p:=λ_=>true) (λi hi=>by
  have h':(i:Int)<(s.2.2.length:Int):=by omega
  simp only[LD.m,tE,nt,h',decide_true,cond_true,Tk hi,Fa,beq_self_eq_true,Bool.and_self,Ub,cond_false]) (by
  simp only[LD.m,tE,nt,Tb,decide_false,cond_false]),all_true]
 rfl
theorem S1{a b:List ga}(h:yN a b):wD (a,b)=some (Ce a b):=by
 unfold wD XS;rw[vm (n:=a.length) (F:=λi=>Pf (gx a i Aa) (gx b i Aa)) h.n (λi l hi hl=>by
  have h':(i:Int)<(a.length:Int):=by omega
  have hb:i<b.length:=by have:=h.e;omega
  have hn:=h.n;simp only[LD.m,xD,nt,h',decide_true,cond_true,Tk hi,Tk hb,Fa,Pa];rw[(join_eq (h.ca i hi) (h.cb i hi)).2.1];simp only[da,nc];rw[vA (by omega),Fa]) (λl=>by
  simp only[LD.m,xD,nt,Tb,decide_false,cond_false])]
 rfl
theorem U1{a b:List ga}(h:yN a b):yD (a,b)=some (dr a b):=by
 unfold yD YS;rw[Zh (n:=a.length) (by have:=h.n;omega) (p:=λi=>Pd (gx a i Aa) (gx b i Aa)) (λi hi=>by
  have h':(i:Int)<(a.length:Int):=by omega
  have hb:i<b.length:=by have:=h.e;omega
  simp only[LD.m,AD,nt,h',decide_true,cond_true,Tk hi,Tk hb,Fa,Pa];rw[cab (h.ca i hi) (h.cb i hi)];simp only[da];cases Pd (gx a i Aa) (gx b i Aa)<;>rfl) (by
  simp only[LD.m,AD,nt,Tb,decide_false,cond_false])]
 simp only[da];show _=some (dr a b);unfold dr;cases(mb a.length).all λi=>Pd (gx a i Aa) (gx b i Aa)<;>rfl
theorem yP{a b:Ga}(h:a.1=true->b.1=true->xN a b):ZA (a,b)=some (Fl a b):=by
 unfold ZA OT Fl;cases h1:a.1
 ·simp[h1]
 ·cases h2:b.1
  ·simp[h1,h2]
  ·obtain⟨hv,hw⟩:=h h1 h2;simp only[h1,h2,Ub,cond_false,cond_true];rw[U1 hv];simp only[da];cases dr a.2.1 b.2.1
   ·rfl
   ·simp only[cond_true,Od];rw[U1 hw];rfl
theorem yai{a b:Ga}(h:a.1=true->b.1=true->xN a b):cE (a,b)=some (Af a b):=by
 unfold cE NT Af;cases h1:a.1
 ·simp
 ·cases h2:b.1
  ·simp
  ·obtain⟨hv,hw⟩:=h h1 h2;simp only[Ub,cond_false,cond_true];rw[S1 hv];simp only[da];rw[S1 hw];rfl
end Go.U
end
