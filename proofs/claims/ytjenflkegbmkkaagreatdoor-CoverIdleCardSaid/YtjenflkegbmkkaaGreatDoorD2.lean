/- What these Lean functions compute: plain arithmetic of congruences, the checks of a graph, the values of its registers. -/
import Derived.Test.YtjenflkegbmkkaaGreatDoorC15
set_option linter.unusedVariables false
set_option linter.unusedSimpArgs false
set_option linter.unusedSectionVars false
open Bool renaming not_true→Xl,not_false→Ve
open Int renaming toNat_natCast→Ca,toNat→ga,eq_ofNat_of_zero_le→Yr,lt_irrefl→Mb
open List renaming countP→Zd,length→fa,length_take→dc,take_of_length_le→Ue,replicate→Ja,length_replicate→Ji,getElem?_set→Kb,getElem?_eq_none→mb,getElem?_eq_getElem→ya,mem_of_getElem?→jb
open Nat renaming not_lt_zero→Xi,zero_le→Nd,le_trans→Ib,le_refl→oa
open Option renaming bind_some→da
open Option.some renaming inj→nk
open Sum renaming elim_inr→qt
namespace Go.U
open Go
theorem Sb {n:Int} (h0: -9223372036854775808<=n) (h1:n<=9223372036854775807):Ga n=n:=by
 unfold Ga;rw [IntKind.wrap_i64];omega
theorem nH {T E:Type} {step:T->Option (T ⊕ E)} (I:T->Prop) (μ:T->Nat) (Q:E->Prop)
  (hs:∀ t,I t->(∃ t',step t=some (.inl t')/\I t'/\μ t'<μ t)\/∃ e,step t=some (.inr e)/\Q e):∀ (n:Nat) (t:T),I t->μ t<n->∃ e,Yn step n t=some e/\Q e
 |0,t,_,h=>absurd h (Xi _)
 |n+1,t,hI,h=>by
  rcases hs t hI with ⟨t',h1,h2,h3⟩|⟨e,h1,h2⟩
  · obtain ⟨e,h4,h5⟩:=nH I μ Q hs n t' h2 (by omega);exact ⟨e,by simp only [Yn,h1,da,h4],h5⟩
  · exact ⟨e,by simp only [Yn,h1,da],h2⟩
theorem Eg {T E:Type} {step:T->Option (T ⊕ E)} {t:T} (I:T->Prop) (μ:T->Nat) (Q:E->Prop) (hI:I t) (gZ:μ t<18446744073709551616)
  (hs:∀ t,I t->(∃ t',step t=some (.inl t')/\I t'/\μ t'<μ t)\/∃ e,step t=some (.inr e)/\Q e):∃ e,Oa step t=some e/\Q e:=
 nH I μ Q hs _ t hI gZ
end Go.U
section
set_option maxRecDepth 20000
namespace Go.U
open Go
theorem lp {α:Type} {l:List α} {i:Nat} {d x:α} (h:l[i]?=some x):gx l i d=x:=by simp [gx,List.getD,h]
theorem jh {α:Type} {l:List α} {i:Nat} {d:α} (h:i<l.length):l[i]?=some (gx l i d):=by simp [gx,List.getD,h]
theorem Rh {i:Nat} {n:Nat} (h:i<n):V.va (i:Int) n=true:=by simp [V.va,h]
theorem Am {i:Int} {n:Nat} (h0:0<=i) (h:i<n):V.va i n=true:=by simp [V.va,h,h0]
theorem Xa {X:Type} {x:Option X}:ask true x=x:=rfl
theorem Qx {α:Type} {p:α->Bool} {l:List α} {n:Nat} (d:α) (h:n<l.length):Zd p (l.take (n+1))=Zd p (l.take n)+if p (gx l n d)=true then 1 else 0:=by
 rw [List.take_add_one,List.countP_append,jh (d:=d) h];simp [List.countP_cons]
def at' (g:Ba) (j:Nat):Fb:=gx g.1 j Ta
def yB (x:Fb):Bool:=decide (1<=x.1)&&decide (x.1<=12)
abbrev yg (g:Ba):List Xd:=g.2.2.2.2.2.1
theorem Zo {x:Fb}:yB x=true↔1<=x.1/\x.1<=12:=by simp [yB]
structure jq (g:Ba) (D:List Int):Prop where
 uE:g.2.2.1=(((yg g).length+D.length:Nat):Int)
 len:D.length<=4096
 dn:∀ k,k<D.length->∃ j:Nat,D[k]?=some (j:Int)/\j<g.1.length/\yB (at' g j)=true/\(at' g j).2.1=(((yg g).length+k:Nat):Int)
 up:∀ j,j<g.1.length->yB (at' g j)=true->∃ k:Nat,(at' g j).2.1=(((yg g).length+k:Nat):Int)/\D[k]?=some (j:Int)
theorem BX (g:Ba) (hN:g.1.length<=4096):Oa (Ss.m (g.1,(nt (fa g.1)),g)) (0,0)=some ((Zd yB g.1:Nat):Int):=by
 obtain ⟨e,h1,h2⟩:=Eg (step:=Ss.m (g.1,(nt (fa g.1)),g)) (t:=(0,0)) (fun t=>∃ n:Nat,n<=g.1.length/\t=(((Zd yB (g.1.take n):Nat):Int),(n:Int))) (fun t=>g.1.length-t.2.toNat)
  (fun e=>e=((Zd yB g.1:Nat):Int)) ⟨0,Nd _,by simp⟩ (by simp;omega) (fun t ⟨n,hn,ht⟩=>by
   subst ht;have hc:Zd yB (g.1.take n)<=4096:=Ib List.countP_le_length (by rw [dc];omega);simp only [LD.m,Ss,nt];by_cases h:n<g.1.length
   · have h':(n:Int)<(g.1.length:Int):=by omega
     simp only [h',decide_true,cond_true,Rh h,Xa,Ca];have hs:=Qx (p:=yB) (l:=g.1) Ta h;rw [Sb (n:=(n:Int)+1) (by omega) (by omega)];by_cases k1:1<=(gx g.1 n Ta).1
     · by_cases k2:(gx g.1 n Ta).1<=12
       · refine .inl ⟨(((Zd yB (g.1.take n):Nat):Int)+1,(n:Int)+1),?_,⟨n+1,h,?_⟩,?_⟩
         · simp only [k1,k2,decide_true,cond_true];rw [Sb (by omega) (by omega)]
         · rw [hs,if_pos (Zo.2 ⟨k1,k2⟩)];simp
         · simp only;omega
       · refine .inl ⟨(((Zd yB (g.1.take n):Nat):Int),(n:Int)+1),?_,⟨n+1,h,?_⟩,?_⟩
         · simp only [k1,k2,decide_true,decide_false,cond_true,cond_false]
         · rw [hs,if_neg (fun hh=>k2 (Zo.1 hh).2)];simp
         · simp only;omega
     · refine .inl ⟨(((Zd yB (g.1.take n):Nat):Int),(n:Int)+1),?_,⟨n+1,h,?_⟩,?_⟩
       · simp only [k1,decide_true,decide_false,cond_true,cond_false]
       · rw [hs,if_neg (fun hh=>k1 (Zo.1 hh).1)];simp
       · simp only;omega
   · have h':¬ (n:Int)<(g.1.length:Int):=by omega
     refine .inr ⟨_,by simp only [h',decide_false,cond_false];rfl,?_⟩;rw [Ue (by omega)])
 rw [h1,h2]
theorem RQ (g:Ba) (n:Nat) (hn:n<=4096):Oa (Ln.m ((n:Int),(nt (fa (Ja (ga (n:Int)) (0:Int)))),g)) (0,Ja (ga (n:Int)) (0:Int))=some (Ja n (-1)):=by
 have hl:(Ja (ga (n:Int)) (0:Int))=Ja n 0:=by simp
 rw [hl,Ji];obtain ⟨e,h1,h2⟩:=Eg (step:=Ln.m ((n:Int),(nt n),g)) (t:=(0,Ja n (0:Int))) (fun t=>∃ k:Nat,k<=n/\t.1=(k:Int)/\t.2.length=n/\∀ i,i<k->t.2[i]?=some (-1)) (fun t=>n-t.1.toNat)
  (fun e=>e=Ja n (-1)) ⟨0,Nd _,rfl,by simp,fun i h=>absurd h (Xi _)⟩ (by simp;omega) (fun t ⟨k,hk,ht,hlen,Af⟩=>by
   obtain ⟨ti,l⟩:=t;simp only at ht hlen Af;subst ht;simp only [LD.m,Ln,nt];by_cases h:k<n
   · have h':(k:Int)<(n:Int):=by omega
     refine .inl ⟨((k:Int)+1,l.set k (-1)),?_,⟨k+1,h,by simp,by simpa using hlen,fun i hi=> ?_⟩,by simp only;omega⟩
     · simp only [h',decide_true,cond_true,hlen,Rh h,Xa,Ca];rw [Sb (by omega) (by omega)]
     · simp only [Kb];by_cases e:k=i
       · rw [if_pos e,if_pos (by omega)]
       · rw [if_neg e];exact Af i (by omega)
   · have h':¬ (k:Int)<(n:Int):=by omega
     refine .inr ⟨l,by simp only [h',decide_false,cond_false],?_⟩;refine List.ext_getElem? fun i=> ?_
     by_cases hi:i<n
     · rw [Af i (by omega)];simp [hi]
     · rw [mb (by omega)];simp [hi])
 rw [h1,h2]
end Go.U
end
section
set_option maxRecDepth 20000
namespace Go.U
open Go
structure I4 (g:Ba) (c n:Nat) (D:List Int):Prop where
 len:D.length=c
 dn:∀ k,k<c->D[k]?=some (-1)\/∃ j:Nat,D[k]?=some (j:Int)/\j<n/\yB (at' g j)=true/\(at' g j).2.1=(((yg g).length+k:Nat):Int)
 up:∀ j,j<n->yB (at' g j)=true->∃ k:Nat,(at' g j).2.1=(((yg g).length+k:Nat):Int)/\D[k]?=some (j:Int)
 eB:Zd (fun d=>decide ((0:Int)<=d)) D=Zd yB (g.1.take n)
theorem OQ (g:Ba) (c:Nat) (hc:c<=4096) (hN:g.1.length<=4096) (hS:(yg g).length<=64) (hA:∀ j,j<g.1.length-> -9223372036854775808<=(at' g j).2.1/\(at' g j).2.1<=9223372036854775807):
   ∃ e,Oa (Kn.m ((c:Int),g.1,(nt (fa g.1)),g)) (0,Ja c (-1))=some e/\((∃ u,e= .inl u)\/∃ D,e= .inr D/\I4 g c g.1.length D):=by
 refine Eg (step:=Kn.m ((c:Int),g.1,(nt (fa g.1)),g)) (fun t=>∃ n:Nat,n<=g.1.length/\t.1=(n:Int)/\I4 g c n t.2) (fun t=>g.1.length-t.1.toNat) (fun e=>(∃ u,e= .inl u)\/∃ D,e= .inr D/\I4 g c g.1.length D)
   ⟨0,Nd _,rfl,by simp,fun k hk=> .inl (by simp [hk]),fun j h=>absurd h (Xi _),?_⟩ (by simp;omega) (fun t ⟨n,hn,ht,hI⟩=> ?_)
 · rw [List.take_zero,List.countP_nil,List.countP_eq_zero];intro a ha;have:=List.eq_of_mem_replicate ha;subst this;decide
 · obtain ⟨ti,D⟩:=t;simp only at ht hI;subst ht;simp only [LD.m,Kn,nt];by_cases h:n<g.1.length
   · have h':(n:Int)<(g.1.length:Int):=by omega
     obtain ⟨x,hx⟩:∃ x,gx g.1 n Ta=x:=⟨_,rfl⟩;have kp:at' g n=x:=hx;simp only [h',decide_true,cond_true,Rh h,Xa,Ca,hx];have hs:=Qx (p:=yB) (l:=g.1) Ta h;rw [hx] at hs;have w:Ga ((n:Int)+1)=(n:Int)+1:=Sb (by omega) (by omega);rw [w];have skip:yB x=false->I4 g c (n+1) D:=fun hd=>⟨hI.len,fun k hk=>(hI.dn k hk).imp_right fun ⟨j,h1,h2,h3⟩=>⟨j,h1,by omega,h3⟩,fun j hj hdj=>by
       by_cases e:j=n
       · subst e;rw [kp,hd] at hdj;cases hdj
       · exact hI.up j (by omega) hdj,by rw [hs,hd,hI.eB];simp⟩
     by_cases k1:x.1<1
     · simp only [k1,decide_true,cond_true];exact .inl ⟨_,rfl,⟨n+1,h,rfl,skip (by simp [yB];omega)⟩,by simp only;omega⟩
     · by_cases k2:12<x.1
       · simp only [k1,k2,decide_true,decide_false,cond_true,cond_false];exact .inl ⟨_,rfl,⟨n+1,h,rfl,skip (by simp [yB];omega)⟩,by simp only;omega⟩
       · have hd:yB x=true:=Zo.2 ⟨by omega,by omega⟩;have hb:=hA n h;rw [kp] at hb;simp only [k1,k2,decide_false,cond_false];obtain ⟨y,hy⟩:∃ y,Ga (x.2.1-((yg g).length:Int))=y:=⟨_,rfl⟩;have hy2:Ga (x.2.1-(fa g.2.2.2.2.2.1:Int))=y:=hy;rw [hy2];by_cases k3:y<0
         · simp only [k3,decide_true,cond_true];exact .inr ⟨_,rfl,.inl ⟨(),rfl⟩⟩
         · by_cases k4:(c:Int)<=y
           · simp only [k3,k4,decide_true,decide_false,cond_true,cond_false];exact .inr ⟨_,rfl,.inl ⟨(),rfl⟩⟩
           · obtain ⟨k,rfl⟩:=Yr (show 0<=y by omega);have hk:k<c:=by omega
             have hAx:x.2.1=(((yg g).length+k:Nat):Int):=by
               unfold Ga at hy;rw [IntKind.wrap_i64] at hy;omega
             have F5:k<D.length:=by rw [hI.len];exact hk
             have k4':¬ ((c:Int)<=(k:Int)):=by omega
             simp only [k3,k4',decide_false,cond_false,Rh F5,Xa,Ca];by_cases k5:0<=gx D k 0
             · simp only [k5,decide_true,cond_true];exact .inr ⟨_,rfl,.inl ⟨(),rfl⟩⟩
             · simp only [k5,decide_false,cond_false];have hDk:D[k]?=some (-1):=by
                 rcases hI.dn k hk with e|⟨j,e,_⟩
                 · exact e
                 · rw [lp e] at k5;omega
               refine .inl ⟨_,rfl,⟨n+1,h,rfl,by simpa using hI.len,fun i hi=> ?_,fun j hj hdj=> ?_,?_⟩,by simp only;omega⟩
               · simp only [Kb];by_cases e:k=i
                 · subst e;rw [if_pos rfl,if_pos F5];exact .inr ⟨n,rfl,by omega,by rw [kp];exact hd,by rw [kp];exact hAx⟩
                 · rw [if_neg e];exact (hI.dn i hi).imp_right fun ⟨j,h1,h2,h3⟩=>⟨j,h1,by omega,h3⟩
               · by_cases e:j=n
                 · subst e;exact ⟨k,by rw [kp];exact hAx,by simp [Kb,F5]⟩
                 · obtain ⟨i,h1,h2⟩:=hI.up j (by omega) hdj;refine ⟨i,h1,?_⟩;simp only [Kb];by_cases e2:k=i
                   · subst e2;rw [hDk] at h2;simp at h2
                   · rw [if_neg e2];exact h2
               · simp only;rw [List.countP_set F5,hs,hI.eB,hd];have e1:D[k]= -1:=by rw [ya F5] at hDk;exact nk hDk
                 simp [e1]
   · have h':¬ (n:Int)<(g.1.length:Int):=by omega
     simp only [h',decide_false,cond_false];refine .inr ⟨_,rfl,.inr ⟨D,rfl,?_⟩⟩;have:n=g.1.length:=by omega
     rw [<- this];exact hI
theorem qaa (g:Ba) (hN:g.1.length<=4096) (hS:(yg g).length<=64) (hA:∀ j,j<g.1.length-> -9223372036854775808<=(at' g j).2.1/\(at' g j).2.1<=9223372036854775807):
   ∃ r,AD g=some r/\(r.2=true->jq g r.1):=by
 have hc:Zd yB g.1<=4096:=Ib List.countP_le_length hN;unfold AD TN;rw [BX g hN];simp only [da];obtain ⟨c,uy⟩:∃ c,Zd yB g.1=c:=⟨_,rfl⟩;rw [uy] at hc ⊢;have w:Ga (nt (fa g.2.2.2.2.2.1)+(c:Int))=(((yg g).length+c:Nat):Int):=by
   show Ga (((yg g).length:Int)+(c:Int))=_;rw [Sb (by omega) (by omega)];omega
 rw [w];by_cases hr:g.2.2.1=(((yg g).length+c:Nat):Int)
 · have b1:(decide (0<=(c:Int))&&decide ((c:Int)<=(c:Int))&&decide (8 * (c:Int)<=70368744177664)&&decide ((c:Int)<9223372036854775808))=true:=by simp;omega
   simp only [hr,decide_true,Xl,cond_false,b1,Xa];rw [RQ g c hc];simp only [da];obtain ⟨e,h1,h2⟩:=OQ g c hc hN hS hA;rw [h1];simp only [da];rcases h2 with ⟨u,rfl⟩|⟨D,rfl,hI⟩
   · exact ⟨([],false),rfl,fun h=>by cases h⟩
   · refine ⟨(D,true),rfl,fun _=> ?_⟩;have Af:∀ k,k<c->D[k]?≠some (-1):=fun k hk hm=>by
      have h3:Zd (fun d=>decide ((0:Int)<=d)) D=D.length:=by
        rw [hI.eB,Ue (oa _),uy,hI.len]
      have:=List.countP_eq_length.1 h3 (-1) (jb hm);simp at this
     exact ⟨by rw [hr,hI.len],by rw [hI.len];exact hc,fun k hk=>by
      rw [hI.len] at hk;rcases hI.dn k hk with e|⟨j,h1,h2,h3,h4⟩
      · exact absurd e (Af k hk)
      · exact ⟨j,h1,h2,h3,h4⟩,hI.up⟩
 · simp only [hr,decide_false,Ve,cond_true];exact ⟨([],false),rfl,fun h=>by cases h⟩
end Go.U
end
section
set_option maxRecDepth 20000
namespace Go.U
open Go
theorem Vc {α:Type} {b:Bool} {x y:Option α} (hx:∃ r,x=some r) (hy:∃ r,y=some r):∃ r,cond b x y=some r:=by cases b<;>assumption
theorem ig {α β:Type} {x:Option α} {f:α->Option β} (hx:∃ r,x=some r) (hf:∀ a,x=some a->∃ r,f a=some r):∃ r,x.bind f=some r:=by
 obtain ⟨a,h⟩:=hx;rw [h];exact hf a h
theorem jc {α:Type} (a:α):∃ r,some a=some r:=⟨a,rfl⟩
theorem MF (a):∃ r,Rr a=some r:=by unfold Rr zI;exact Vc (jc _) (jc _)
theorem LF (a):∃ r,fo a=some r:=by unfold fo yI;exact Vc (jc _) (Vc (jc _) (jc _))
theorem AN (a):∃ r,Cp a=some r:=by unfold Cp xI;exact ig (LF _) fun _ _=>jc _
theorem tY {E:Type} {L:Type} {n:Nat} {step:Int->Option (Int ⊕ E)} (hn:n<=9223372036854775807) (I:Nat->Prop) (Q:E->Prop) (h0:I 0)
   (hs:∀ i:Nat,i<n->I i->(step (i:Int)=some (.inl (Ga ((i:Int)+1)))/\I (i+1))\/∃ e,step (i:Int)=some (.inr e)/\Q e)
   (he:I n->∃ e,step (n:Int)=some (.inr e)/\Q e):∃ e,Oa step 0=some e/\Q e:=by
 refine Eg (fun t=>∃ i:Nat,i<=n/\t=(i:Int)/\I i) (fun t=>n-t.toNat) Q ⟨0,Nd _,rfl,h0⟩ (by simp;omega) (fun t ⟨i,hi,ht,hI⟩=> ?_);subst ht;by_cases h:i<n
 · rcases hs i h hI with ⟨h1,h2⟩|h1
   · rw [Sb (by omega) (by omega)] at h1;exact .inl ⟨_,h1,⟨i+1,h,rfl,h2⟩,by omega⟩
   · exact .inr h1
 · have:i=n:=by omega
   subst this;exact .inr (he hI)
def Gd {E:Type} (i:Int) (I':Prop) (Q:E->Prop) (x:Option (Int ⊕ E)):Prop:=(x=some (.inl (Ga (i+1)))/\I')\/∃ e,x=some (.inr e)/\Q e
section
variable {E:Type} {i:Int} {I':Prop} {Q:E->Prop}
theorem qh {b:Bool} {x y:Option (Int ⊕ E)} (hx:b=true->Gd i I' Q x) (hy:b=false->Gd i I' Q y):Gd i I' Q (cond b x y):=by
 cases b
 · exact hy rfl
 · exact hx rfl
theorem qu {α:Type} {x:Option α} {f:α->Option (Int ⊕ E)} (hx:∃ r,x=some r) (hf:∀ a,x=some a->Gd i I' Q (f a)):Gd i I' Q (x.bind f):=by
 obtain ⟨a,h⟩:=hx;rw [h];exact hf a h
theorem zx (h:I'):Gd i I' Q (some (.inl (Ga (i+1)))):= .inl ⟨rfl,h⟩
theorem lj {e:E} (h:Q e):Gd i I' Q (some (.inr e)):= .inr ⟨e,rfl,h⟩
end
theorem Nh {E:Type} {n:Nat} {step:Int->Option (Int ⊕ E)} (hn:n<=9223372036854775807) (I:Nat->Prop) (Q:E->Prop) (h0:I 0)
 (hs:∀ i:Nat,i<n->I i->Gd (i:Int) (I (i+1)) Q (step (i:Int)))
 (he:I n->∃ e,step (n:Int)=some (.inr e)/\Q e):∃ e,Oa step 0=some e/\Q e:=tY (L:=Unit) hn I Q h0 hs he
theorem VQ (p:(List Ra)×Int×Ba) (h:p.2.1=nt p.1.length) (hn:p.1.length<=9223372036854775807):∃ e,Oa (Lp.m p) 0=some e:=by
 obtain ⟨e,h1,_⟩:=Nh (n:=p.1.length) (step:=Lp.m p) hn (fun _=>True) (fun _=>True) trivial (fun i hi _=>by
  have h':(i:Int)<(p.1.length:Int):=by omega
  simp only [LD.m,Lp,h,nt,h',decide_true,cond_true,Rh hi,Xa]
  repeat (first|exact lj trivial|exact zx trivial|(refine qh (fun _=> ?_) (fun _=> ?_)))) (fun _=>by
  simp only [LD.m,Lp,h,nt,Mb,decide_false,cond_false];exact ⟨_,rfl,trivial⟩)
 exact ⟨e,h1⟩
theorem sL (p:(List Tc)×Int×Ba) (h:p.2.1=nt p.1.length) (hn:p.1.length<=9223372036854775807):∃ e,Oa (ql.m p) 0=some e:=by
 obtain ⟨e,h1,_⟩:=Nh (n:=p.1.length) (step:=ql.m p) hn (fun _=>True) (fun _=>True) trivial (fun i hi _=>by
  have h':(i:Int)<(p.1.length:Int):=by omega
  simp only [LD.m,ql,h,nt,h',decide_true,cond_true,Rh hi,Xa]
  repeat (first|exact lj trivial|exact zx trivial|(refine qh (fun _=> ?_) (fun _=> ?_))|(refine qu (MF _) fun _ _=> ?_)|(refine qu (LF _) fun _ _=> ?_)|(refine qu (AN _) fun _ _=> ?_))) (fun _=>by
  simp only [LD.m,ql,h,nt,Mb,decide_false,cond_false];exact ⟨_,rfl,trivial⟩)
 exact ⟨e,h1⟩
theorem bL (a):∃ r,fo a=some r/\ -2147483648<=r/\r<= -128:=by
 unfold fo yI;cases decide (a=(1:Int))
 · cases decide (a=(2:Int))
   · exact ⟨_,rfl,by decide,by decide⟩
   · exact ⟨_,rfl,by decide,by decide⟩
 · exact ⟨_,rfl,by decide,by decide⟩
theorem FW (a):∃ r,Cp a=some r/\r<=2147483647:=by
 obtain ⟨r,h1,h2,h3⟩:=bL a;unfold Cp xI;rw [h1];refine ⟨_,rfl,?_⟩;rw [Sb (n:=0-r) (by omega) (by omega),Sb (by omega) (by omega)];omega
theorem GW {a:Int} {r:Bool} (h:Rr a=some r) (hr:r=true):1<=a/\a<=3:=by
 unfold Rr zI at h;subst hr;by_cases h1:1<=a<;>by_cases h2:a<=3<;>simp [h1,h2] at h
 exact ⟨h1,h2⟩
def InI (x:Int):Prop:= -2147483648<=x/\x<=2147483647
theorem XQ (p:(List Xd)×Int×Ba) (h:p.2.1=nt p.1.length) (hn:p.1.length<=9223372036854775807):∃ e,Oa (gl.m p) 0=some e/\((∃ u,e= .inl u)\/(∃ u,e= .inr u)/\∀ j,j<p.1.length->InI (gx p.1 j Xc).2.2/\1<=(gx p.1 j Xc).2.1/\(gx p.1 j Xc).2.1<=3):=
 Nh (n:=p.1.length) (step:=gl.m p) hn (fun k=>∀ j,j<k->InI (gx p.1 j Xc).2.2/\1<=(gx p.1 j Xc).2.1/\(gx p.1 j Xc).2.1<=3) _ (fun j h=>absurd h (Xi _)) (fun i hi hI=>by
  have h':(i:Int)<(p.1.length:Int):=by omega
  simp only [LD.m,gl,h,nt,h',decide_true,cond_true,Rh hi,Xa,Ca];refine qu (MF _) fun tb htb=>qh (fun _=>lj (.inl ⟨(),rfl⟩)) fun ctb=> ?_
  have UE:=GW htb (by simpa using ctb);obtain ⟨r,r1,r2,_⟩:=bL (gx p.1 i Xc).2.1;obtain ⟨t,t1,t2⟩:=FW (gx p.1 i Xc).2.1;rw [r1,t1];refine qh (fun _=>lj (.inl ⟨(),rfl⟩)) fun c1=>qh (fun _=>lj (.inl ⟨(),rfl⟩)) fun c2=>zx fun j hj=> ?_
  have c1:=of_decide_eq_false c1;have c2:=of_decide_eq_false c2;by_cases e:j=i
  · subst e;exact ⟨⟨by omega,by omega⟩,UE⟩
  · exact hI j (by omega)) (fun hI=>by
  simp only [LD.m,gl,h,nt,Mb,decide_false,cond_false];exact ⟨_,rfl,.inr ⟨⟨(),rfl⟩,hI⟩⟩)
theorem WQ (p:(List Tc)×Int) (h:p.2=nt p.1.length) (hn:p.1.length<=9223372036854775807):∃ e,Oa (fl.m p) 0=some e/\((∃ u,e= .inl u)\/(∃ u,e= .inr u)/\∀ j,j<p.1.length->InI (gx p.1 j Bb).2.2.2/\(1<=(gx p.1 j Bb).2.1/\(gx p.1 j Bb).2.1<=3)/\1<=(gx p.1 j Bb).2.2.1/\(gx p.1 j Bb).2.2.1<=256):=
 Nh (n:=p.1.length) (step:=fl.m p) hn (fun k=>∀ j,j<k->InI (gx p.1 j Bb).2.2.2/\(1<=(gx p.1 j Bb).2.1/\(gx p.1 j Bb).2.1<=3)/\1<=(gx p.1 j Bb).2.2.1/\(gx p.1 j Bb).2.2.1<=256) _ (fun j h=>absurd h (Xi _)) (fun i hi hI=>by
  have h':(i:Int)<(p.1.length:Int):=by omega
  simp only [LD.m,fl,h,nt,h',decide_true,cond_true,Rh hi,Xa,Ca];refine qu (MF _) fun tb htb=>qh (fun _=>lj (.inl ⟨(),rfl⟩)) fun ctb=> ?_
  have UE:=GW htb (by simpa using ctb);obtain ⟨r,r1,r2,_⟩:=bL (gx p.1 i Bb).2.1;obtain ⟨t,t1,t2⟩:=FW (gx p.1 i Bb).2.1;rw [r1,t1];refine qh (fun _=>lj (.inl ⟨(),rfl⟩)) fun c1=>qh (fun _=>lj (.inl ⟨(),rfl⟩)) fun c2=>qh (fun _=>lj (.inl ⟨(),rfl⟩)) fun c3=>qh (fun _=>lj (.inl ⟨(),rfl⟩)) fun c4=>zx fun j hj=> ?_
  have c3:=of_decide_eq_false c3;have c4:=of_decide_eq_false c4;have c1:=of_decide_eq_false c1;have c2:=of_decide_eq_false c2;by_cases e:j=i
  · subst e;exact ⟨⟨by omega,by omega⟩,UE,by omega,by omega⟩
  · exact hI j (by omega)) (fun hI=>by
  simp only [LD.m,fl,h,nt,Mb,decide_false,cond_false];exact ⟨_,rfl,.inr ⟨⟨(),rfl⟩,hI⟩⟩)
abbrev QY (g:Ba):List Tc:=g.2.2.2.2.1
abbrev Xe (g:Ba):List Tc:=g.2.2.2.2.2.2.1
abbrev lns (g:Ba):List Ra:=g.2.2.2.2.2.2.2
structure E4 (g:Ba):Prop where
 i:g.1.length<=9223372036854775807
 s:(yg g).length<=9223372036854775807
 a:(QY g).length<=9223372036854775807
 n:(Xe g).length<=9223372036854775807
 l:(lns g).length<=9223372036854775807
 A:∀ j,j<g.1.length-> -9223372036854775808<=(at' g j).2.1/\(at' g j).2.1<=9223372036854775807
structure BO (g:Ba):Prop where
 s:∀ j,j<(yg g).length->InI (gx (yg g) j Xc).2.2/\1<=(gx (yg g) j Xc).2.1/\(gx (yg g) j Xc).2.1<=3
 a:∀ j,j<(Xe g).length->InI (gx (Xe g) j Bb).2.2.2/\(1<=(gx (Xe g) j Bb).2.1/\(gx (Xe g) j Bb).2.1<=3)/\1<=(gx (Xe g) j Bb).2.2.1/\(gx (Xe g) j Bb).2.2.1<=256
def Tp (P:Prop) (x:Option Bool):Prop:=∃ r,x=some r/\(r=true->P)
theorem Ey {P:Prop} {b:Bool} {x y:Option Bool} (hx:Tp P x) (hy:Tp P y):Tp P (cond b x y):=by
 cases b
 · exact hy
 · exact hx
theorem Uh {P:Prop}:Tp P (some false):=⟨false,rfl,fun h=>by cases h⟩
theorem taa {g:Ba} (h:E4 g):∃ r,BD g=some r/\(r=true->(yg g).length<=64/\(Xe g).length<=16/\BO g):=by
 unfold BD UN;by_cases h1:(32:Int)<nt (fa g.2.2.2.2.1)
 · simp only [h1,decide_true,cond_true];exact ⟨false,rfl,fun h=>by cases h⟩
 · by_cases h2:(64:Int)<nt (fa g.2.2.2.2.2.1)
   · simp only [h1,h2,decide_true,decide_false,cond_true,cond_false];exact ⟨false,rfl,fun h=>by cases h⟩
   · have h3:(yg g).length<=64:=by simp only [nt] at h2;show fa g.2.2.2.2.2.1<=64;omega
     by_cases h6:(16:Int)<nt (fa g.2.2.2.2.2.2.1)
     · simp only [h1,h2,h6,decide_true,decide_false,cond_true,cond_false];exact ⟨false,rfl,fun h=>by cases h⟩
     have h7:(Xe g).length<=16:=by simp only [nt] at h6;show fa g.2.2.2.2.2.2.1<=16;omega
     simp only [h1,h2,h6,decide_false,cond_false]
     suffices h:Tp (BO g) _ by
       obtain ⟨r,q1,q2⟩:=h;exact ⟨r,q1,fun hr=>⟨h3,h7,q2 hr⟩⟩
     refine Ey Uh (Ey Uh ?_);by_cases h4:(nt (fa g.2.2.2.2.2.2.2))<(1:Int)
     · simp only [h4,decide_true,cond_true];exact Uh
     · have h5:V.va 0 (fa g.2.2.2.2.2.2.2)=true:=Am (by decide) (by simp only [nt] at h4;omega);simp only [h4,decide_false,cond_false,h5,Xa];obtain ⟨e1,l1⟩:=VQ (g.2.2.2.2.2.2.2,nt g.2.2.2.2.2.2.2.length,g) rfl h.l;rw [l1];refine Ey Uh ?_;simp only [da];cases e1
       · exact Uh
       · obtain ⟨e2,l2⟩:=sL (g.2.2.2.2.1,nt g.2.2.2.2.1.length,g) rfl h.a;simp only [qt];rw [l2];simp only [da];cases e2
         · exact Uh
         · obtain ⟨e3,l3,m3⟩:=XQ (g.2.2.2.2.2.1,nt g.2.2.2.2.2.1.length,g) rfl h.s;simp only [qt];rw [l3];simp only [da];rcases m3 with ⟨u,rfl⟩|⟨⟨u,rfl⟩,i3⟩
           · exact Uh
           · obtain ⟨e4,l4,m4⟩:=WQ (g.2.2.2.2.2.2.1,nt g.2.2.2.2.2.2.1.length) rfl h.n;simp only [qt];rw [l4];simp only [da];rcases m4 with ⟨u,rfl⟩|⟨⟨u,rfl⟩,i4⟩
             · exact Uh
             · exact ⟨true,rfl,fun _=>⟨i3,i4⟩⟩
end Go.U
end
