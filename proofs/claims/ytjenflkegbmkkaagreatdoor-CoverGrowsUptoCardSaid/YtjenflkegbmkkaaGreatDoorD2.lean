/- What these Lean functions compute: plain arithmetic of congruences, the checks of a graph, the values of its registers. -/
import Derived.Test.YtjenflkegbmkkaaGreatDoorC15
set_option linter.unusedVariables false
set_option linter.unusedSimpArgs false
set_option linter.unusedSectionVars false
namespace Go.U
open Go
theorem wi64_of {n:Int} (h0: -9223372036854775808<=n) (h1:n<=9223372036854775807):wi64 n=n:=by
 unfold wi64;rw [IntKind.wrap_i64];omega
theorem loopM_of {T E:Type} {step:T->Option (T ⊕ E)} (I:T->Prop) (μ:T->Nat) (Q:E->Prop)
  (hs:∀ t,I t->(∃ t',step t=some (.inl t')/\I t'/\μ t'<μ t)\/∃ e,step t=some (.inr e)/\Q e):∀ (n:Nat) (t:T),I t->μ t<n->∃ e,loopM step n t=some e/\Q e
 |0,t,_,h=>absurd h (Nat.not_lt_zero _)
 |n+1,t,hI,h=>by
  rcases hs t hI with ⟨t',h1,h2,h3⟩|⟨e,h1,h2⟩
  · obtain ⟨e,h4,h5⟩:=loopM_of I μ Q hs n t' h2 (by omega);exact ⟨e,by simp only [loopM,h1,Option.bind_some,h4],h5⟩
  · exact ⟨e,by simp only [loopM,h1,Option.bind_some],h2⟩
theorem loopAll_of {T E:Type} {step:T->Option (T ⊕ E)} {t:T} (I:T->Prop) (μ:T->Nat) (Q:E->Prop) (hI:I t) (hμ:μ t<18446744073709551616)
  (hs:∀ t,I t->(∃ t',step t=some (.inl t')/\I t'/\μ t'<μ t)\/∃ e,step t=some (.inr e)/\Q e):∃ e,loopAll step t=some e/\Q e:=
 loopM_of I μ Q hs _ t hI hμ
end Go.U
section
set_option maxRecDepth 20000
namespace Go.U
open Go
theorem gx_of {α:Type} {l:List α} {i:Nat} {d x:α} (h:l[i]?=some x):gx l i d=x:=by simp [gx,List.getD,h]
theorem gx_lt {α:Type} {l:List α} {i:Nat} {d:α} (h:i<l.length):l[i]?=some (gx l i d):=by simp [gx,List.getD,h]
theorem inR {i:Nat} {n:Nat} (h:i<n):V.inRange (i:Int) n=true:=by simp [V.inRange,h]
theorem inRI {i:Int} {n:Nat} (h0:0<=i) (h:i<n):V.inRange i n=true:=by simp [V.inRange,h,h0]
theorem ask_true {X:Type} {x:Option X}:ask true x=x:=rfl
theorem countP_take {α:Type} {p:α->Bool} {l:List α} {n:Nat} (d:α) (h:n<l.length):List.countP p (l.take (n+1))=List.countP p (l.take n)+if p (gx l n d)=true then 1 else 0:=by
 rw [List.take_add_one,List.countP_append,gx_lt (d:=d) h];simp [List.countP_cons]
def at' (g:TGraph) (j:Nat):TInstr:=gx g.1 j dInstr
def isD (x:TInstr):Bool:=decide (1<=x.1)&&decide (x.1<=12)
abbrev scs (g:TGraph):List TScalar:=g.2.2.2.2.2.1
theorem isD_true {x:TInstr}:isD x=true↔1<=x.1/\x.1<=12:=by simp [isD]
structure DefsOK (g:TGraph) (D:List Int):Prop where
 regs:g.2.2.1=(((scs g).length+D.length:Nat):Int)
 len:D.length<=4096
 dn:∀ k,k<D.length->∃ j:Nat,D[k]?=some (j:Int)/\j<g.1.length/\isD (at' g j)=true/\(at' g j).2.1=(((scs g).length+k:Nat):Int)
 up:∀ j,j<g.1.length->isD (at' g j)=true->∃ k:Nat,(at' g j).2.1=(((scs g).length+k:Nat):Int)/\D[k]?=some (j:Int)
theorem f28l3_eq (g:TGraph) (hN:g.1.length<=4096):loopAll (f28_l3.m (g.1,(nt (List.length g.1)),g)) (0,0)=some ((List.countP isD g.1:Nat):Int):=by
 obtain ⟨e,h1,h2⟩:=loopAll_of (step:=f28_l3.m (g.1,(nt (List.length g.1)),g)) (t:=(0,0)) (fun t=>∃ n:Nat,n<=g.1.length/\t=(((List.countP isD (g.1.take n):Nat):Int),(n:Int))) (fun t=>g.1.length-t.2.toNat)
  (fun e=>e=((List.countP isD g.1:Nat):Int)) ⟨0,Nat.zero_le _,by simp⟩ (by simp;omega) (fun t ⟨n,hn,ht⟩=>by
   subst ht;have hc:List.countP isD (g.1.take n)<=4096:=Nat.le_trans List.countP_le_length (by rw [List.length_take];omega);simp only [LD.m,f28_l3,nt];by_cases h:n<g.1.length
   · have h':(n:Int)<(g.1.length:Int):=by omega
     simp only [h',decide_true,cond_true,inR h,ask_true,Int.toNat_natCast];have hs:=countP_take (p:=isD) (l:=g.1) dInstr h;rw [wi64_of (n:=(n:Int)+1) (by omega) (by omega)];by_cases k1:1<=(gx g.1 n dInstr).1
     · by_cases k2:(gx g.1 n dInstr).1<=12
       · refine .inl ⟨(((List.countP isD (g.1.take n):Nat):Int)+1,(n:Int)+1),?_,⟨n+1,h,?_⟩,?_⟩
         · simp only [k1,k2,decide_true,cond_true];rw [wi64_of (by omega) (by omega)]
         · rw [hs,if_pos (isD_true.2 ⟨k1,k2⟩)];simp
         · simp only;omega
       · refine .inl ⟨(((List.countP isD (g.1.take n):Nat):Int),(n:Int)+1),?_,⟨n+1,h,?_⟩,?_⟩
         · simp only [k1,k2,decide_true,decide_false,cond_true,cond_false]
         · rw [hs,if_neg (fun hh=>k2 (isD_true.1 hh).2)];simp
         · simp only;omega
     · refine .inl ⟨(((List.countP isD (g.1.take n):Nat):Int),(n:Int)+1),?_,⟨n+1,h,?_⟩,?_⟩
       · simp only [k1,decide_true,decide_false,cond_true,cond_false]
       · rw [hs,if_neg (fun hh=>k1 (isD_true.1 hh).1)];simp
       · simp only;omega
   · have h':¬ (n:Int)<(g.1.length:Int):=by omega
     refine .inr ⟨_,by simp only [h',decide_false,cond_false];rfl,?_⟩;rw [List.take_of_length_le (by omega)])
 rw [h1,h2]
theorem f28l12_eq (g:TGraph) (n:Nat) (hn:n<=4096):loopAll (f28_l12.m ((n:Int),(nt (List.length (List.replicate (Int.toNat (n:Int)) (0:Int)))),g)) (0,List.replicate (Int.toNat (n:Int)) (0:Int))=some (List.replicate n (-1)):=by
 have hl:(List.replicate (Int.toNat (n:Int)) (0:Int))=List.replicate n 0:=by simp
 rw [hl,List.length_replicate];obtain ⟨e,h1,h2⟩:=loopAll_of (step:=f28_l12.m ((n:Int),(nt n),g)) (t:=(0,List.replicate n (0:Int))) (fun t=>∃ k:Nat,k<=n/\t.1=(k:Int)/\t.2.length=n/\∀ i,i<k->t.2[i]?=some (-1)) (fun t=>n-t.1.toNat)
  (fun e=>e=List.replicate n (-1)) ⟨0,Nat.zero_le _,rfl,by simp,fun i h=>absurd h (Nat.not_lt_zero _)⟩ (by simp;omega) (fun t ⟨k,hk,ht,hlen,hall⟩=>by
   obtain ⟨ti,l⟩:=t;simp only at ht hlen hall;subst ht;simp only [LD.m,f28_l12,nt];by_cases h:k<n
   · have h':(k:Int)<(n:Int):=by omega
     refine .inl ⟨((k:Int)+1,l.set k (-1)),?_,⟨k+1,h,by simp,by simpa using hlen,fun i hi=> ?_⟩,by simp only;omega⟩
     · simp only [h',decide_true,cond_true,hlen,inR h,ask_true,Int.toNat_natCast];rw [wi64_of (by omega) (by omega)]
     · simp only [List.getElem?_set];by_cases e:k=i
       · rw [if_pos e,if_pos (by omega)]
       · rw [if_neg e];exact hall i (by omega)
   · have h':¬ (k:Int)<(n:Int):=by omega
     refine .inr ⟨l,by simp only [h',decide_false,cond_false],?_⟩;refine List.ext_getElem? fun i=> ?_
     by_cases hi:i<n
     · rw [hall i (by omega)];simp [hi]
     · rw [List.getElem?_eq_none (by omega)];simp [hi])
 rw [h1,h2]
end Go.U
end
section
set_option maxRecDepth 20000
namespace Go.U
open Go
structure Dinv (g:TGraph) (c n:Nat) (D:List Int):Prop where
 len:D.length=c
 dn:∀ k,k<c->D[k]?=some (-1)\/∃ j:Nat,D[k]?=some (j:Int)/\j<n/\isD (at' g j)=true/\(at' g j).2.1=(((scs g).length+k:Nat):Int)
 up:∀ j,j<n->isD (at' g j)=true->∃ k:Nat,(at' g j).2.1=(((scs g).length+k:Nat):Int)/\D[k]?=some (j:Int)
 cnt:List.countP (fun d=>decide ((0:Int)<=d)) D=List.countP isD (g.1.take n)
theorem f28l17_eq (g:TGraph) (c:Nat) (hc:c<=4096) (hN:g.1.length<=4096) (hS:(scs g).length<=64) (hA:∀ j,j<g.1.length-> -9223372036854775808<=(at' g j).2.1/\(at' g j).2.1<=9223372036854775807):
   ∃ e,loopAll (f28_l17.m ((c:Int),g.1,(nt (List.length g.1)),g)) (0,List.replicate c (-1))=some e/\((∃ u,e= .inl u)\/∃ D,e= .inr D/\Dinv g c g.1.length D):=by
 refine loopAll_of (step:=f28_l17.m ((c:Int),g.1,(nt (List.length g.1)),g)) (fun t=>∃ n:Nat,n<=g.1.length/\t.1=(n:Int)/\Dinv g c n t.2) (fun t=>g.1.length-t.1.toNat) (fun e=>(∃ u,e= .inl u)\/∃ D,e= .inr D/\Dinv g c g.1.length D)
   ⟨0,Nat.zero_le _,rfl,by simp,fun k hk=> .inl (by simp [hk]),fun j h=>absurd h (Nat.not_lt_zero _),?_⟩ (by simp;omega) (fun t ⟨n,hn,ht,hI⟩=> ?_)
 · rw [List.take_zero,List.countP_nil,List.countP_eq_zero];intro a ha;have:=List.eq_of_mem_replicate ha;subst this;decide
 · obtain ⟨ti,D⟩:=t;simp only at ht hI;subst ht;simp only [LD.m,f28_l17,nt];by_cases h:n<g.1.length
   · have h':(n:Int)<(g.1.length:Int):=by omega
     obtain ⟨x,hx⟩:∃ x,gx g.1 n dInstr=x:=⟨_,rfl⟩;have hat:at' g n=x:=hx;simp only [h',decide_true,cond_true,inR h,ask_true,Int.toNat_natCast,hx];have hs:=countP_take (p:=isD) (l:=g.1) dInstr h;rw [hx] at hs;have w:wi64 ((n:Int)+1)=(n:Int)+1:=wi64_of (by omega) (by omega);rw [w];have skip:isD x=false->Dinv g c (n+1) D:=fun hd=>⟨hI.len,fun k hk=>(hI.dn k hk).imp_right fun ⟨j,h1,h2,h3⟩=>⟨j,h1,by omega,h3⟩,fun j hj hdj=>by
       by_cases e:j=n
       · subst e;rw [hat,hd] at hdj;cases hdj
       · exact hI.up j (by omega) hdj,by rw [hs,hd,hI.cnt];simp⟩
     by_cases k1:x.1<1
     · simp only [k1,decide_true,cond_true];exact .inl ⟨_,rfl,⟨n+1,h,rfl,skip (by simp [isD];omega)⟩,by simp only;omega⟩
     · by_cases k2:12<x.1
       · simp only [k1,k2,decide_true,decide_false,cond_true,cond_false];exact .inl ⟨_,rfl,⟨n+1,h,rfl,skip (by simp [isD];omega)⟩,by simp only;omega⟩
       · have hd:isD x=true:=isD_true.2 ⟨by omega,by omega⟩;have hb:=hA n h;rw [hat] at hb;simp only [k1,k2,decide_false,cond_false];obtain ⟨y,hy⟩:∃ y,wi64 (x.2.1-((scs g).length:Int))=y:=⟨_,rfl⟩;have hy2:wi64 (x.2.1-(List.length g.2.2.2.2.2.1:Int))=y:=hy;rw [hy2];by_cases k3:y<0
         · simp only [k3,decide_true,cond_true];exact .inr ⟨_,rfl,.inl ⟨(),rfl⟩⟩
         · by_cases k4:(c:Int)<=y
           · simp only [k3,k4,decide_true,decide_false,cond_true,cond_false];exact .inr ⟨_,rfl,.inl ⟨(),rfl⟩⟩
           · obtain ⟨k,rfl⟩:=Int.eq_ofNat_of_zero_le (show 0<=y by omega);have hk:k<c:=by omega
             have hAx:x.2.1=(((scs g).length+k:Nat):Int):=by
               unfold wi64 at hy;rw [IntKind.wrap_i64] at hy;omega
             have hkD:k<D.length:=by rw [hI.len];exact hk
             have k4':¬ ((c:Int)<=(k:Int)):=by omega
             simp only [k3,k4',decide_false,cond_false,inR hkD,ask_true,Int.toNat_natCast];by_cases k5:0<=gx D k 0
             · simp only [k5,decide_true,cond_true];exact .inr ⟨_,rfl,.inl ⟨(),rfl⟩⟩
             · simp only [k5,decide_false,cond_false];have hDk:D[k]?=some (-1):=by
                 rcases hI.dn k hk with e|⟨j,e,_⟩
                 · exact e
                 · rw [gx_of e] at k5;omega
               refine .inl ⟨_,rfl,⟨n+1,h,rfl,by simpa using hI.len,fun i hi=> ?_,fun j hj hdj=> ?_,?_⟩,by simp only;omega⟩
               · simp only [List.getElem?_set];by_cases e:k=i
                 · subst e;rw [if_pos rfl,if_pos hkD];exact .inr ⟨n,rfl,by omega,by rw [hat];exact hd,by rw [hat];exact hAx⟩
                 · rw [if_neg e];exact (hI.dn i hi).imp_right fun ⟨j,h1,h2,h3⟩=>⟨j,h1,by omega,h3⟩
               · by_cases e:j=n
                 · subst e;exact ⟨k,by rw [hat];exact hAx,by simp [List.getElem?_set,hkD]⟩
                 · obtain ⟨i,h1,h2⟩:=hI.up j (by omega) hdj;refine ⟨i,h1,?_⟩;simp only [List.getElem?_set];by_cases e2:k=i
                   · subst e2;rw [hDk] at h2;simp at h2
                   · rw [if_neg e2];exact h2
               · simp only;rw [List.countP_set hkD,hs,hI.cnt,hd];have e1:D[k]= -1:=by rw [List.getElem?_eq_getElem hkD] at hDk;exact Option.some.inj hDk
                 simp [e1]
   · have h':¬ (n:Int)<(g.1.length:Int):=by omega
     simp only [h',decide_false,cond_false];refine .inr ⟨_,rfl,.inr ⟨D,rfl,?_⟩⟩;have:n=g.1.length:=by omega
     rw [<- this];exact hI
theorem f28_eq (g:TGraph) (hN:g.1.length<=4096) (hS:(scs g).length<=64) (hA:∀ j,j<g.1.length-> -9223372036854775808<=(at' g j).2.1/\(at' g j).2.1<=9223372036854775807):
   ∃ r,f28_m g=some r/\(r.2=true->DefsOK g r.1):=by
 have hc:List.countP isD g.1<=4096:=Nat.le_trans List.countP_le_length hN;unfold f28_m f28_c;rw [f28l3_eq g hN];simp only [Option.bind_some];obtain ⟨c,hcc⟩:∃ c,List.countP isD g.1=c:=⟨_,rfl⟩;rw [hcc] at hc ⊢;have w:wi64 (nt (List.length g.2.2.2.2.2.1)+(c:Int))=(((scs g).length+c:Nat):Int):=by
   show wi64 (((scs g).length:Int)+(c:Int))=_;rw [wi64_of (by omega) (by omega)];omega
 rw [w];by_cases hr:g.2.2.1=(((scs g).length+c:Nat):Int)
 · have b1:(decide (0<=(c:Int))&&decide ((c:Int)<=(c:Int))&&decide (8 * (c:Int)<=70368744177664)&&decide ((c:Int)<9223372036854775808))=true:=by simp;omega
   simp only [hr,decide_true,Bool.not_true,cond_false,b1,ask_true];rw [f28l12_eq g c hc];simp only [Option.bind_some];obtain ⟨e,h1,h2⟩:=f28l17_eq g c hc hN hS hA;rw [h1];simp only [Option.bind_some];rcases h2 with ⟨u,rfl⟩|⟨D,rfl,hI⟩
   · exact ⟨([],false),rfl,fun h=>by cases h⟩
   · refine ⟨(D,true),rfl,fun _=> ?_⟩;have hall:∀ k,k<c->D[k]?≠some (-1):=fun k hk hm=>by
      have h3:List.countP (fun d=>decide ((0:Int)<=d)) D=D.length:=by
        rw [hI.cnt,List.take_of_length_le (Nat.le_refl _),hcc,hI.len]
      have:=List.countP_eq_length.1 h3 (-1) (List.mem_of_getElem? hm);simp at this
     exact ⟨by rw [hr,hI.len],by rw [hI.len];exact hc,fun k hk=>by
      rw [hI.len] at hk;rcases hI.dn k hk with e|⟨j,h1,h2,h3,h4⟩
      · exact absurd e (hall k hk)
      · exact ⟨j,h1,h2,h3,h4⟩,hI.up⟩
 · simp only [hr,decide_false,Bool.not_false,cond_true];exact ⟨([],false),rfl,fun h=>by cases h⟩
end Go.U
end
section
set_option maxRecDepth 20000
namespace Go.U
open Go
theorem cond_some {α:Type} {b:Bool} {x y:Option α} (hx:∃ r,x=some r) (hy:∃ r,y=some r):∃ r,cond b x y=some r:=by cases b<;>assumption
theorem bind_tot {α β:Type} {x:Option α} {f:α->Option β} (hx:∃ r,x=some r) (hf:∀ a,x=some a->∃ r,f a=some r):∃ r,x.bind f=some r:=by
 obtain ⟨a,h⟩:=hx;rw [h];exact hf a h
theorem some_tot {α:Type} (a:α):∃ r,some a=some r:=⟨a,rfl⟩
theorem f58_tot (a):∃ r,f58_m a=some r:=by unfold f58_m f58_c;exact cond_some (some_tot _) (some_tot _)
theorem f59_tot (a):∃ r,f59_m a=some r:=by unfold f59_m f59_c;exact cond_some (some_tot _) (cond_some (some_tot _) (some_tot _))
theorem f60_tot (a):∃ r,f60_m a=some r:=by unfold f60_m f60_c;exact bind_tot (f59_tot _) fun _ _=>some_tot _
theorem each_tot {E:Type} {L:Type} {n:Nat} {step:Int->Option (Int ⊕ E)} (hn:n<=9223372036854775807) (I:Nat->Prop) (Q:E->Prop) (h0:I 0)
   (hs:∀ i:Nat,i<n->I i->(step (i:Int)=some (.inl (wi64 ((i:Int)+1)))/\I (i+1))\/∃ e,step (i:Int)=some (.inr e)/\Q e)
   (he:I n->∃ e,step (n:Int)=some (.inr e)/\Q e):∃ e,loopAll step 0=some e/\Q e:=by
 refine loopAll_of (fun t=>∃ i:Nat,i<=n/\t=(i:Int)/\I i) (fun t=>n-t.toNat) Q ⟨0,Nat.zero_le _,rfl,h0⟩ (by simp;omega) (fun t ⟨i,hi,ht,hI⟩=> ?_);subst ht;by_cases h:i<n
 · rcases hs i h hI with ⟨h1,h2⟩|h1
   · rw [wi64_of (by omega) (by omega)] at h1;exact .inl ⟨_,h1,⟨i+1,h,rfl,h2⟩,by omega⟩
   · exact .inr h1
 · have:i=n:=by omega
   subst this;exact .inr (he hI)
def Gd {E:Type} (i:Int) (I':Prop) (Q:E->Prop) (x:Option (Int ⊕ E)):Prop:=(x=some (.inl (wi64 (i+1)))/\I')\/∃ e,x=some (.inr e)/\Q e
section
variable {E:Type} {i:Int} {I':Prop} {Q:E->Prop}
theorem gd_cond {b:Bool} {x y:Option (Int ⊕ E)} (hx:b=true->Gd i I' Q x) (hy:b=false->Gd i I' Q y):Gd i I' Q (cond b x y):=by
 cases b
 · exact hy rfl
 · exact hx rfl
theorem gd_bind {α:Type} {x:Option α} {f:α->Option (Int ⊕ E)} (hx:∃ r,x=some r) (hf:∀ a,x=some a->Gd i I' Q (f a)):Gd i I' Q (x.bind f):=by
 obtain ⟨a,h⟩:=hx;rw [h];exact hf a h
theorem gd_ki (h:I'):Gd i I' Q (some (.inl (wi64 (i+1)))):= .inl ⟨rfl,h⟩
theorem gd_ke {e:E} (h:Q e):Gd i I' Q (some (.inr e)):= .inr ⟨e,rfl,h⟩
end
theorem each_tot2 {E:Type} {n:Nat} {step:Int->Option (Int ⊕ E)} (hn:n<=9223372036854775807) (I:Nat->Prop) (Q:E->Prop) (h0:I 0)
 (hs:∀ i:Nat,i<n->I i->Gd (i:Int) (I (i+1)) Q (step (i:Int)))
 (he:I n->∃ e,step (n:Int)=some (.inr e)/\Q e):∃ e,loopAll step 0=some e/\Q e:=each_tot (L:=Unit) hn I Q h0 hs he
theorem f27l4_tot (p:(List TAlarm)×Int×TGraph) (h:p.2.1=nt p.1.length) (hn:p.1.length<=9223372036854775807):∃ e,loopAll (f27_l4.m p) 0=some e:=by
 obtain ⟨e,h1,_⟩:=each_tot2 (n:=p.1.length) (step:=f27_l4.m p) hn (fun _=>True) (fun _=>True) trivial (fun i hi _=>by
  have h':(i:Int)<(p.1.length:Int):=by omega
  simp only [LD.m,f27_l4,h,nt,h',decide_true,cond_true,inR hi,ask_true]
  repeat (first|exact gd_ke trivial|exact gd_ki trivial|(refine gd_cond (fun _=> ?_) (fun _=> ?_)))) (fun _=>by
  simp only [LD.m,f27_l4,h,nt,Int.lt_irrefl,decide_false,cond_false];exact ⟨_,rfl,trivial⟩)
 exact ⟨e,h1⟩
theorem f27l10_tot (p:(List TInput)×Int×TGraph) (h:p.2.1=nt p.1.length) (hn:p.1.length<=9223372036854775807):∃ e,loopAll (f27_l10.m p) 0=some e:=by
 obtain ⟨e,h1,_⟩:=each_tot2 (n:=p.1.length) (step:=f27_l10.m p) hn (fun _=>True) (fun _=>True) trivial (fun i hi _=>by
  have h':(i:Int)<(p.1.length:Int):=by omega
  simp only [LD.m,f27_l10,h,nt,h',decide_true,cond_true,inR hi,ask_true]
  repeat (first|exact gd_ke trivial|exact gd_ki trivial|(refine gd_cond (fun _=> ?_) (fun _=> ?_))|(refine gd_bind (f58_tot _) fun _ _=> ?_)|(refine gd_bind (f59_tot _) fun _ _=> ?_)|(refine gd_bind (f60_tot _) fun _ _=> ?_))) (fun _=>by
  simp only [LD.m,f27_l10,h,nt,Int.lt_irrefl,decide_false,cond_false];exact ⟨_,rfl,trivial⟩)
 exact ⟨e,h1⟩
theorem f59_in (a):∃ r,f59_m a=some r/\ -2147483648<=r/\r<= -128:=by
 unfold f59_m f59_c;cases decide (a=(1:Int))
 · cases decide (a=(2:Int))
   · exact ⟨_,rfl,by decide,by decide⟩
   · exact ⟨_,rfl,by decide,by decide⟩
 · exact ⟨_,rfl,by decide,by decide⟩
theorem f60_in (a):∃ r,f60_m a=some r/\r<=2147483647:=by
 obtain ⟨r,h1,h2,h3⟩:=f59_in a;unfold f60_m f60_c;rw [h1];refine ⟨_,rfl,?_⟩;rw [wi64_of (n:=0-r) (by omega) (by omega),wi64_of (by omega) (by omega)];omega
theorem f58_eq {a:Int} {r:Bool} (h:f58_m a=some r) (hr:r=true):1<=a/\a<=3:=by
 unfold f58_m f58_c at h;subst hr;by_cases h1:1<=a<;>by_cases h2:a<=3<;>simp [h1,h2] at h
 exact ⟨h1,h2⟩
def InI (x:Int):Prop:= -2147483648<=x/\x<=2147483647
theorem f27l16_ok (p:(List TScalar)×Int×TGraph) (h:p.2.1=nt p.1.length) (hn:p.1.length<=9223372036854775807):∃ e,loopAll (f27_l16.m p) 0=some e/\((∃ u,e= .inl u)\/(∃ u,e= .inr u)/\∀ j,j<p.1.length->InI (gx p.1 j dScalar).2.2/\1<=(gx p.1 j dScalar).2.1/\(gx p.1 j dScalar).2.1<=3):=
 each_tot2 (n:=p.1.length) (step:=f27_l16.m p) hn (fun k=>∀ j,j<k->InI (gx p.1 j dScalar).2.2/\1<=(gx p.1 j dScalar).2.1/\(gx p.1 j dScalar).2.1<=3) _ (fun j h=>absurd h (Nat.not_lt_zero _)) (fun i hi hI=>by
  have h':(i:Int)<(p.1.length:Int):=by omega
  simp only [LD.m,f27_l16,h,nt,h',decide_true,cond_true,inR hi,ask_true,Int.toNat_natCast];refine gd_bind (f58_tot _) fun tb htb=>gd_cond (fun _=>gd_ke (.inl ⟨(),rfl⟩)) fun ctb=> ?_
  have hty:=f58_eq htb (by simpa using ctb);obtain ⟨r,r1,r2,_⟩:=f59_in (gx p.1 i dScalar).2.1;obtain ⟨t,t1,t2⟩:=f60_in (gx p.1 i dScalar).2.1;rw [r1,t1];refine gd_cond (fun _=>gd_ke (.inl ⟨(),rfl⟩)) fun c1=>gd_cond (fun _=>gd_ke (.inl ⟨(),rfl⟩)) fun c2=>gd_ki fun j hj=> ?_
  have c1:=of_decide_eq_false c1;have c2:=of_decide_eq_false c2;by_cases e:j=i
  · subst e;exact ⟨⟨by omega,by omega⟩,hty⟩
  · exact hI j (by omega)) (fun hI=>by
  simp only [LD.m,f27_l16,h,nt,Int.lt_irrefl,decide_false,cond_false];exact ⟨_,rfl,.inr ⟨⟨(),rfl⟩,hI⟩⟩)
theorem f27l22_ok (p:(List TInput)×Int) (h:p.2=nt p.1.length) (hn:p.1.length<=9223372036854775807):∃ e,loopAll (f27_l22.m p) 0=some e/\((∃ u,e= .inl u)\/(∃ u,e= .inr u)/\∀ j,j<p.1.length->InI (gx p.1 j dInput).2.2.2/\(1<=(gx p.1 j dInput).2.1/\(gx p.1 j dInput).2.1<=3)/\1<=(gx p.1 j dInput).2.2.1/\(gx p.1 j dInput).2.2.1<=256):=
 each_tot2 (n:=p.1.length) (step:=f27_l22.m p) hn (fun k=>∀ j,j<k->InI (gx p.1 j dInput).2.2.2/\(1<=(gx p.1 j dInput).2.1/\(gx p.1 j dInput).2.1<=3)/\1<=(gx p.1 j dInput).2.2.1/\(gx p.1 j dInput).2.2.1<=256) _ (fun j h=>absurd h (Nat.not_lt_zero _)) (fun i hi hI=>by
  have h':(i:Int)<(p.1.length:Int):=by omega
  simp only [LD.m,f27_l22,h,nt,h',decide_true,cond_true,inR hi,ask_true,Int.toNat_natCast];refine gd_bind (f58_tot _) fun tb htb=>gd_cond (fun _=>gd_ke (.inl ⟨(),rfl⟩)) fun ctb=> ?_
  have hty:=f58_eq htb (by simpa using ctb);obtain ⟨r,r1,r2,_⟩:=f59_in (gx p.1 i dInput).2.1;obtain ⟨t,t1,t2⟩:=f60_in (gx p.1 i dInput).2.1;rw [r1,t1];refine gd_cond (fun _=>gd_ke (.inl ⟨(),rfl⟩)) fun c1=>gd_cond (fun _=>gd_ke (.inl ⟨(),rfl⟩)) fun c2=>gd_cond (fun _=>gd_ke (.inl ⟨(),rfl⟩)) fun c3=>gd_cond (fun _=>gd_ke (.inl ⟨(),rfl⟩)) fun c4=>gd_ki fun j hj=> ?_
  have c3:=of_decide_eq_false c3;have c4:=of_decide_eq_false c4;have c1:=of_decide_eq_false c1;have c2:=of_decide_eq_false c2;by_cases e:j=i
  · subst e;exact ⟨⟨by omega,by omega⟩,hty,by omega,by omega⟩
  · exact hI j (by omega)) (fun hI=>by
  simp only [LD.m,f27_l22,h,nt,Int.lt_irrefl,decide_false,cond_false];exact ⟨_,rfl,.inr ⟨⟨(),rfl⟩,hI⟩⟩)
abbrev arrs (g:TGraph):List TInput:=g.2.2.2.2.1
abbrev inps (g:TGraph):List TInput:=g.2.2.2.2.2.2.1
abbrev lns (g:TGraph):List TAlarm:=g.2.2.2.2.2.2.2
structure Lens (g:TGraph):Prop where
 i:g.1.length<=9223372036854775807
 s:(scs g).length<=9223372036854775807
 a:(arrs g).length<=9223372036854775807
 n:(inps g).length<=9223372036854775807
 l:(lns g).length<=9223372036854775807
 A:∀ j,j<g.1.length-> -9223372036854775808<=(at' g j).2.1/\(at' g j).2.1<=9223372036854775807
structure Inits (g:TGraph):Prop where
 s:∀ j,j<(scs g).length->InI (gx (scs g) j dScalar).2.2/\1<=(gx (scs g) j dScalar).2.1/\(gx (scs g) j dScalar).2.1<=3
 a:∀ j,j<(inps g).length->InI (gx (inps g) j dInput).2.2.2/\(1<=(gx (inps g) j dInput).2.1/\(gx (inps g) j dInput).2.1<=3)/\1<=(gx (inps g) j dInput).2.2.1/\(gx (inps g) j dInput).2.2.1<=256
def Tp (P:Prop) (x:Option Bool):Prop:=∃ r,x=some r/\(r=true->P)
theorem tp_cond {P:Prop} {b:Bool} {x y:Option Bool} (hx:Tp P x) (hy:Tp P y):Tp P (cond b x y):=by
 cases b
 · exact hy
 · exact hx
theorem tp_false {P:Prop}:Tp P (some false):=⟨false,rfl,fun h=>by cases h⟩
theorem f27_eq {g:TGraph} (h:Lens g):∃ r,f27_m g=some r/\(r=true->(scs g).length<=64/\(inps g).length<=16/\Inits g):=by
 unfold f27_m f27_c;by_cases h1:(32:Int)<nt (List.length g.2.2.2.2.1)
 · simp only [h1,decide_true,cond_true];exact ⟨false,rfl,fun h=>by cases h⟩
 · by_cases h2:(64:Int)<nt (List.length g.2.2.2.2.2.1)
   · simp only [h1,h2,decide_true,decide_false,cond_true,cond_false];exact ⟨false,rfl,fun h=>by cases h⟩
   · have h3:(scs g).length<=64:=by simp only [nt] at h2;show List.length g.2.2.2.2.2.1<=64;omega
     by_cases h6:(16:Int)<nt (List.length g.2.2.2.2.2.2.1)
     · simp only [h1,h2,h6,decide_true,decide_false,cond_true,cond_false];exact ⟨false,rfl,fun h=>by cases h⟩
     have h7:(inps g).length<=16:=by simp only [nt] at h6;show List.length g.2.2.2.2.2.2.1<=16;omega
     simp only [h1,h2,h6,decide_false,cond_false]
     suffices h:Tp (Inits g) _ by
       obtain ⟨r,q1,q2⟩:=h;exact ⟨r,q1,fun hr=>⟨h3,h7,q2 hr⟩⟩
     refine tp_cond tp_false (tp_cond tp_false ?_);by_cases h4:(nt (List.length g.2.2.2.2.2.2.2))<(1:Int)
     · simp only [h4,decide_true,cond_true];exact tp_false
     · have h5:V.inRange 0 (List.length g.2.2.2.2.2.2.2)=true:=inRI (by decide) (by simp only [nt] at h4;omega);simp only [h4,decide_false,cond_false,h5,ask_true];obtain ⟨e1,l1⟩:=f27l4_tot (g.2.2.2.2.2.2.2,nt g.2.2.2.2.2.2.2.length,g) rfl h.l;rw [l1];refine tp_cond tp_false ?_;simp only [Option.bind_some];cases e1
       · exact tp_false
       · obtain ⟨e2,l2⟩:=f27l10_tot (g.2.2.2.2.1,nt g.2.2.2.2.1.length,g) rfl h.a;simp only [Sum.elim_inr];rw [l2];simp only [Option.bind_some];cases e2
         · exact tp_false
         · obtain ⟨e3,l3,m3⟩:=f27l16_ok (g.2.2.2.2.2.1,nt g.2.2.2.2.2.1.length,g) rfl h.s;simp only [Sum.elim_inr];rw [l3];simp only [Option.bind_some];rcases m3 with ⟨u,rfl⟩|⟨⟨u,rfl⟩,i3⟩
           · exact tp_false
           · obtain ⟨e4,l4,m4⟩:=f27l22_ok (g.2.2.2.2.2.2.1,nt g.2.2.2.2.2.2.1.length) rfl h.n;simp only [Sum.elim_inr];rw [l4];simp only [Option.bind_some];rcases m4 with ⟨u,rfl⟩|⟨⟨u,rfl⟩,i4⟩
             · exact tp_false
             · exact ⟨true,rfl,fun _=>⟨i3,i4⟩⟩
end Go.U
end
