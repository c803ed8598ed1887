/- A second evaluator, over rows of Lean values, and that it is right over the first. -/
import Derived.Test.YtjenflkegbmkkaaGreatDoorB4
import Derived.Test.YtjenflkegbmkkaaGreatDoorA6
set_option linter.unusedVariables false
set_option linter.unusedSimpArgs false
set_option linter.unusedSectionVars false
open Int renaming toNat_natCast→Ca
open List renaming getElem?_take→Cb,getElem?_append_left→La,getD_eq_getElem?_getD→Ka,length_map→Oc,getElem?_map→Wb,getElem?_eq_getElem→Aa,getElem?_eq_none→Ab,map_cons→Ld,length_eq_zero_iff→Ja,length_append→qd,append_nil→zi,replicate→Ba,append_assoc→td,all_eq_true→ic
open Nat renaming le_of_eq→Ph,le_trans→Gb,le_of_not_lt→bD,zero_le→fe,le_refl→va
open Option renaming map_eq_some_iff→ia
namespace Go.U
open Go
section
variable [TB:ZC]{A:V.Eh}{m:Mp}{Hv:V.AH}
theorem ek.cut{c:CT}{l:List (Fb c)}{rows:List (List V.AV)}(h:ek m (width c) l.length (vw c l) rows)(hn:l.length<=rows.length):RT m c l (rows.take l.length):=
 .of (by simp;omega) fun i row hi hr=>by
  rw[Cb,if_pos hi]at hr;obtain⟨Jb,h1,h2,_⟩:=h.row hn hi;rw[hr]at h1;cases h1;exact h2
theorem RT.rest{c:CT}{l:List (Fb c)}{rows:List (List V.AV)}(h:RT m c l rows)(rest:List (List V.AV)):ek m (width c) l.length (vw c l) (rows++rest):=by
 have g:∀{i:Nat}{row:List V.AV},i<l.length->(rows++rest)[i]?=some row->rows[i]?=some row:=fun{i row}hi hr=>by rwa [La (by rw[h.1];exact hi)]at hr
 exact⟨h.2.1,fun i row hi hr=>h.2.2.1 i row hi (g hi hr),fun i row k x a hi hr h1 h2=>h.2.2.2 i row k x a hi (g hi hr) h1 h2⟩
abbrev cI:CT:= .int .i64
abbrev cP:CT:= .pair cI cI
theorem uG{c:CT}{l:List (Fb c)}{i:Nat}{z:Fb c}(h:l[i]?=some z):vw c l i=enc c z:=by simp only[vw,Ka,h,Option.getD_some]
theorem rt1(l:List Int):RT m cI l (l.map V.zf):= .of (Oc _) fun i row hi hr=>by
 rw[Wb]at hr;obtain⟨z,hz,rfl⟩:=ia.1 hr;have:vw cI l i=[.int .i64 z]:=uG (c:=cI) hz;rw[this];exact .cons (.int _ _) .nil
theorem rt2(l:List (Int×Int)):RT m cP l (l.map V.Yk):= .of (Oc _) fun i row hi hr=>by
 rw[Wb]at hr;obtain⟨z,hz,rfl⟩:=ia.1 hr;have:vw cP l i=[.int .i64 z.1,.int .i64 z.2]:=uG (c:=cP) hz;rw[this];exact .cons (.int _ _) (.cons (.int _ _) .nil)
theorem zn{l:List Int}{rows:List (List V.AV)}(h:RT m cI l rows):rows=l.map V.zf:=by
 apply List.ext_getElem?;intro i;rw[Wb];by_cases hi:i<l.length
 ·obtain⟨row,h1,h2,_⟩:=h.2.row (Ph h.1.symm) hi;have:vw cI l i=[.int .i64 l[i]]:=uG (c:=cI) (Aa hi);rw[this]at h2;obtain⟨a,rfl,r⟩:=RL.one h2;cases r;rw[h1,Aa hi];rfl
 ·rw[Ab (Gb (Ph h.1) (bD hi)),Ab (bD hi)];rfl
theorem Baf{l:List (Int×Int)}{rows:List (List V.AV)}(h:RT m cP l rows):rows=l.map V.Yk:=by
 apply List.ext_getElem?;intro i;rw[Wb];by_cases hi:i<l.length
 ·obtain⟨row,h1,h2,_⟩:=h.2.row (Ph h.1.symm) hi;have:vw cP l i=[.int .i64 l[i].1,.int .i64 l[i].2]:=uG (c:=cP) (Aa hi);rw[this]at h2;obtain⟨a,b,rfl,r1,r2⟩:=RL.two h2;cases r1;cases r2;rw[h1,Aa hi];rfl
 ·rw[Ab (Gb (Ph h.1) (bD hi)),Ab (bD hi)];rfl
theorem ZA:∀l:List Int,V.uo (l.map V.zf)=some l
 |[]=>rfl
 |x::l=>by simp only[Ld,V.zf,V.uo];rw[show l.map V.zf=l.map V.zf from rfl,ZA l];rfl
theorem YA:∀l:List (Int×Int),V.nq (l.map V.Yk)=some l
 |[]=>rfl
 |x::l=>by simp only[Ld,V.Yk,V.nq];rw[show l.map V.Yk=l.map V.Yk from rfl,YA l];rfl
theorem MG{c:CT}{l:List (Fb c)}{wm:Nat}{a:V.AV}(hh:RH m ⟨[.cells c l],wm⟩ Hv)(ha:RV m (.all 0) a):
  (l=[]/\(a= .Ya\/a= .Pd))\/∃x rows ty,a= .sl x 0 l.length/\m.ι 0 0=some x/\m.len 0 0=l.length/\Hv.bl[x]?=some (.cells rows (width c) ty)/\l.length<=rows.length/\RT m c l (rows.take l.length):=by
 obtain⟨k1,k2⟩:=hh.Tc 0 _ rfl;cases ha with
 |Wf _ _ _ hz ha=>exact .inl ⟨Ja.1 (by rw[<- k1];exact hz),ha⟩
 |all _ x hx=>
  rcases k2 with⟨_,k3⟩|⟨y,rows,ty,k3,k4,k5,k6⟩
  ·rw[hx]at k3;cases k3
  ·rw[hx]at k3;cases k3;exact .inr ⟨x,rows,ty,by rw[k1],hx,k1,k4,k5,k6.cut k5⟩
theorem Gaf{l:List (Int)}{wm:Nat}{a:V.AV}(hh:RH m ⟨[.cells cI l],wm⟩ Hv)(ha:RV m (.all 0) a):
  (l=[]/\(a= .Ya\/a= .Pd))\/∃x rows ty,a= .sl x 0 l.length/\m.ι 0 0=some x/\m.len 0 0=l.length/\Hv.bl[x]?=some (.cells rows 1 ty)/\l.length<=rows.length/\V.uo (rows.take l.length)=some l:=by
 rcases MG hh ha with h|⟨x,rows,ty,h1,h2,h3,h4,h5,h6⟩
 ·exact .inl h
 ·have e:rows.take l.length=l.map V.zf:=zn h6;exact .inr ⟨x,rows,ty,h1,h2,h3,h4,h5,by rw[e];exact ZA l⟩
theorem Saj{l:List (Int×Int)}{wm:Nat}{a:V.AV}(hh:RH m ⟨[.cells cP l],wm⟩ Hv)(ha:RV m (.all 0) a):
  (l=[]/\(a= .Ya\/a= .Pd))\/∃x rows ty,a= .sl x 0 l.length/\m.ι 0 0=some x/\m.len 0 0=l.length/\Hv.bl[x]?=some (.cells rows 2 ty)/\l.length<=rows.length/\V.nq (rows.take l.length)=some l:=by
 rcases MG hh ha with h|⟨x,rows,ty,h1,h2,h3,h4,h5,h6⟩
 ·exact .inl h
 ·have e:rows.take l.length=l.map V.Yk:=Baf h6;exact .inr ⟨x,rows,ty,h1,h2,h3,h4,h5,by rw[e];exact YA l⟩
theorem rb1{l:List (Int)}{b x:Nat}{rest:List (List V.AV)}{ty:Option (TypeId×Nat)}(hl:m.len b 0=l.length)(hx:m.ι b 0=some x)(hb:Hv.bl[x]?=some (.cells (l.map V.zf++rest) 1 ty)):RB m Hv b (.cells cI l):=
 ⟨hl,.inr ⟨x,_,ty,hx,hb,by rw[qd,Oc];exact Nat.le_add_right _ _,(rt1 l).rest _⟩⟩
theorem rb2{l:List (Int×Int)}{b x:Nat}{rest:List (List V.AV)}{ty:Option (TypeId×Nat)}(hl:m.len b 0=l.length)(hx:m.ι b 0=some x)(hb:Hv.bl[x]?=some (.cells (l.map V.Yk++rest) 2 ty)):RB m Hv b (.cells cP l):=
 ⟨hl,.inr ⟨x,_,ty,hx,hb,by rw[qd,Oc];exact Nat.le_add_right _ _,(rt2 l).rest _⟩⟩
theorem fM{k:Nat}{f:FuncId}{Wl:List Int->List Int}(hlen:∀l,(Wl l).length=l.length)(he:A.ext f=some (V.zo Wl)){sp:Spec}
  (uf:∀X args H K out,sp X args H K=some out->∃l:List Int,args=[.all 0]/\H=⟨[.cells cI l],0⟩/\l.length<4611686018427387904/\K (.Qc []) ⟨[.cells cI (Wl l)],0⟩=some out):Xe (V.call A (k+1)) f sp:=by
 intro X args H K out h;obtain⟨l,rfl,rfl,hn,h'⟩:=uf X args H K out h;refine⟨_,_,h',rfl,fun m Hv us cs hh hl=> ?_⟩;obtain⟨a1,l1,e1,q1,q2⟩:=hl.ji;have e2:l1=[]:=Ja.1 q2.1;rw[jr he,e1,e2];rcases Gaf hh q1 with⟨rfl,ha⟩|⟨x,rows,ty,rfl,hx,hm,hb,hle,hr⟩
 ·have hs:Wl []=[]:=Ja.1 (by rw[hlen];rfl);have hh:RH m ⟨[.cells cI (Wl ([]:List (Int)))],0⟩ Hv:=by rw[hs];exact hh
  rcases ha with rfl|rfl<;>exact⟨.Qc [],Hv,rfl,.same hh (.Qc [] [] rfl fun i x a h=>by simp at h)⟩
 ·have Yf:=hh.wm 0 x hx (fe _);have wh:=hh.set (b:=0) (y:= .cells cI (Wl l)) (yv:= .cells ((Wl l).map V.zf++rows.drop l.length) 1 ty) ⟨_,rfl,rfl⟩ hx (by
   have QI:=(hh.He 0 x hx).2;exact rb1 ((hm.trans (hlen l).symm)) hx (by rw[Ac,if_pos rfl,if_pos QI]))
  refine⟨.Qc [],_,?_,m,wh.1,.Qc [] [] rfl (fun i x a h=>by simp at h),.refl m,wh.2⟩;simp only[V.zo,zi];rw[hb];simp only[width];rw[if_pos ⟨Yf,hle,hn⟩,hr];rfl
theorem dM{k:Nat}{f F:FuncId}{Wl:List (Int×Int)->List (Int×Int)}(hlen:∀l,(Wl l).length=l.length)(he:A.ext f=some (V.Sm F Wl)){sp:Spec}
  (uf:∀X args H K out,sp X args H K=some out->∃l:List (Int×Int),args=[.all 0,.fn F []]/\H=⟨[.cells cP l],0⟩/\l.length<4611686018427387904/\K (.Qc []) ⟨[.cells cP (Wl l)],0⟩=some out):Xe (V.call A (k+1)) f sp:=by
 intro X args H K out h;obtain⟨l,rfl,rfl,hn,h'⟩:=uf X args H K out h;refine⟨_,_,h',rfl,fun m Hv us cs hh hl=> ?_⟩;obtain⟨a1,l1,e1,q1,q2⟩:=hl.ji;obtain⟨a2,l2,e2,q3,q4⟩:=q2.ji;have e3:l2=[]:=Ja.1 q4.1;have e4:a2= .fn F []:=by
  cases q3 with
  |fn _ _ us' Zf _=>rw[Ja.1 Zf]
 rw[jr he,e1,e2,e3,e4];rcases Saj hh q1 with⟨rfl,ha⟩|⟨x,rows,ty,rfl,hx,hm,hb,hle,hr⟩
 ·have hs:Wl []=[]:=Ja.1 (by rw[hlen];rfl);have hh:RH m ⟨[.cells cP (Wl ([]:List (Int×Int)))],0⟩ Hv:=by rw[hs];exact hh
  rcases ha with rfl|rfl<;>exact⟨.Qc [],Hv,by simp[V.Sm],.same hh (.Qc [] [] rfl fun i x a h=>by simp at h)⟩
 ·have Yf:=hh.wm 0 x hx (fe _);have wh:=hh.set (b:=0) (y:= .cells cP (Wl l)) (yv:= .cells ((Wl l).map V.Yk++rows.drop l.length) 2 ty) ⟨_,rfl,rfl⟩ hx (by
   have QI:=(hh.He 0 x hx).2;exact rb2 ((hm.trans (hlen l).symm)) hx (by rw[Ac,if_pos rfl,if_pos QI]))
  refine⟨.Qc [],_,?_,m,wh.1,.Qc [] [] rfl (fun i x a h=>by simp at h),.refl m,wh.2⟩;simp only[V.Sm,zi,if_true];rw[hb];simp only[width];rw[if_pos ⟨Yf,hle,hn⟩,hr];rfl
theorem U2{k:Nat}{f:FuncId}(he:A.ext f=some V.Nw){sp:Spec}
  (uf:∀X args H K out,sp X args H K=some out->∃(l:List Int)(i j:Int),args=[.all 0,.int .i64 i,.int .i64 j]/\H=⟨[.cells cI l],0⟩/\(0<=i/\i<=j/\j<=l.length)/\K (.all 1) ⟨[.dead,.cells cI (l.take i.toNat++l.drop j.toNat)],0⟩=some out):Xe (V.call A (k+1)) f sp:=by
 intro X args H K out h;obtain⟨l,i,j,rfl,rfl,⟨hi,jD,hj⟩,h'⟩:=uf X args H K out h;refine⟨_,_,h',rfl,fun m Hv us cs hh hl=> ?_⟩;obtain⟨a1,l1,e1,q1,q2⟩:=hl.ji;obtain⟨a2,l2,e2,q3,q4⟩:=q2.ji;obtain⟨a3,l3,e3,q5,q6⟩:=q4.ji;have e4:l3=[]:=Ja.1 q6.1;cases q3;cases q5;rw[jr he,e1,e2,e3,e4];have dj:RH m ⟨[.dead],0⟩ Hv:=hh.kill 0;have vS:∀b,¬live (⟨[.dead],0⟩:UH) b:=fun b⟨z,hz,OJ⟩=>by
  match b,hz with
  |0,hz=>simp at hz;subst hz;simp[Xd]at OJ
  |b+1,hz=>simp at hz
 obtain⟨i,rfl⟩:∃i':Nat,i=i':=⟨i.toNat,by omega⟩;obtain⟨j,rfl⟩:∃j':Nat,j=j':=⟨j.toNat,by omega⟩;simp only[Ca];rcases Gaf hh q1 with⟨rfl,ha⟩|⟨x,rows,ty,rfl,hx,hm,hb,hle,hr⟩
 ·have ei:i=0:=by simp at hj;omega
  have ej:j=0:=by simp at hj;omega
  subst ei;subst ej;have hp:=dj.push (Lc:=Hv) (y:= .cells cI []) (x:=none) (n:=0) (fun b _ _ h _=>absurd h (vS b)) (va _) rfl (fun xv e=>by cases e) ⟨yd _ _ _ _,.inl ⟨rfl,ae _ _ _ _⟩⟩;have fq:Yj m.top m Hv (m.add 1 none 0) Hv:=⟨Kg dj none 0,fun _ _ _=>rfl,fun b _ xv hb=>by
   by_cases e:b=1
   ·subst e;obtain⟨_,e⟩:=Ti hb;cases e
   ·rw[Cf _ _ _ e]at hb;exact .inl ⟨b,_,hb⟩,va _,rfl⟩
  have hv:RV (m.add 1 none 0) (.all 1) a1:= .Wf _ _ (by have:=dj.len;simp[Mp.add,Mp.Zi]at this ⊢) (yd _ _ _ _) ha;rcases ha with rfl|rfl<;>exact⟨_,Hv,rfl,_,hp.1,hv,hp.2,fq⟩
 ·have Yf:=hh.wm 0 x hx (fe _);have QI:=(hh.He 0 x hx).2;have hlen:(l.take i++l.drop j).length=l.length-(j-i):=by simp;omega
  have hp:=dj.push (Lc:=V.Sa Hv x (.cells ((V.qp l i j).map V.zf++rows.drop l.length) 1 ty)) (y:= .cells cI (l.take i++l.drop j)) (x:=some x) (n:=l.length-(j-i)) (fun b _ _ h _=>absurd h (vS b)) (by simp[V.Sa]) rfl (fun xv e=>by cases e;exact⟨by simp[V.Sa];exact QI,Yf,fun b s h _=>absurd h (vS b)⟩)
   (rb1 ((yd _ _ _ _).trans hlen.symm) (ae _ _ _ _) (by
    rw[Ac,if_pos rfl,if_pos QI,show V.qp l i j=(l.take i++l.drop j)++Ba (j-i) 0 from rfl,List.map_append,td]))
  have fq:Yj m.top m Hv (m.add 1 (some x) (l.length-(j-i))) (V.Sa Hv x (.cells ((V.qp l i j).map V.zf++rows.drop l.length) 1 ty)):=⟨Kg dj _ _,fun x' _ wS=>by rw[Ac,if_neg (fun e=>wS 0 0 (by rw[<- e];exact hx))],fun b _ xv hb=>by
   by_cases e:b=1
   ·subst e;obtain⟨_,e⟩:=Ti hb;cases e;exact .inl ⟨0,0,hx⟩
   ·rw[Cf _ _ _ e]at hb;exact .inl ⟨b,_,hb⟩,by simp[V.Sa],rfl⟩
  have hv:RV (m.add 1 (some x) (l.length-(j-i))) (.all 1) (.sl x 0 (l.length-(j-i))):=by
   have:=RV.all (m:=m.add 1 (some x) (l.length-(j-i))) 1 x (ae _ _ _ _);rw[yd]at this;exact this
  refine⟨_,_,?_,_,hp.1,hv,hp.2,fq⟩;simp only[V.Nw,zi];rw[hb];simp only[width];rw[if_pos ⟨Yf,hle,by omega,by omega,by omega⟩,hr];rfl
structure Gt(A:V.Eh)(k:Nat)(f:FuncId)(c:CT)(nb:Nat):Prop where
 nil:∀H,V.call A k (.fn f []) [.Ya] H=some (.Ya,H)
 Pd:∀H,V.call A k (.fn f []) [.Pd] H=some (.Pd,H)
 Vt:∀(H:V.AH)(x:Nat)rows ty,H.bl[x]?=some (.cells rows (width c) ty)->V.call A k (.fn f []) [.sl x 0 0] H=some (.Pd,H)
 sl:∀(H:V.AH)(x n:Nat)rows ty,H.bl[x]?=some (.cells rows (width c) ty)->0<n->n<=rows.length->(rows.take n).all (fun r=>r.length==width c)=true->n * nb<=70368744177664->n<9223372036854775808->
  ∃Q8,V.call A k (.fn f []) [.sl x 0 n] H=some (.sl H.bl.length 0 n,V.push H (.cells (rows.take n) (width c) Q8))
theorem Mu{k:Nat}{f:FuncId}{c:CT}{nb:Nat}(hc:Gt A (k+1) f c nb)(hf:∀cs us H,V.call A (k+1) (.fn f cs) us H=V.call A (k+1) (.fn f []) (us++cs) H){sp:Spec}
  (uf:∀X args H K out,sp X args H K=some out->∃l:List (Fb c),args=[.all 0]/\H=⟨[.cells c l],1⟩/\(l.length * nb<=70368744177664/\l.length<9223372036854775808)/\K (.all 1) ⟨[.cells c l,.cells c l],1⟩=some out):Xe (V.call A (k+1)) f sp:=by
 intro X args H K out h;obtain⟨l,rfl,rfl,⟨hn1,hn2⟩,h'⟩:=uf X args H K out h;refine⟨_,_,h',rfl,fun m Hv us cs hh hl=> ?_⟩;obtain⟨a1,l1,e1,q1,q2⟩:=hl.ji;have e2:l1=[]:=Ja.1 q2.1;rw[hf,e1,e2];have empty:∀a,l=[]->(a= .Ya\/a= .Pd)->gq m Hv (.all 1) ⟨[.cells c l,.cells c l],1⟩ a Hv:=fun a UJ ha=>by
  subst UJ;have hp:=hh.push (Lc:=Hv) (y:= .cells c []) (x:=none) (n:=0) (fun _ _ _ _ _=>rfl) (va _) rfl (fun xv e=>by cases e) ⟨yd _ _ _ _,.inl ⟨rfl,ae _ _ _ _⟩⟩;have fq:Yj m.top m Hv (m.add 1 none 0) Hv:=⟨Kg hh none 0,fun _ _ _=>rfl,fun b _ xv hb=>by
   by_cases e:b=1
   ·subst e;obtain⟨_,e⟩:=Ti hb;cases e
   ·rw[Cf _ _ _ e]at hb;exact .inl ⟨b,_,hb⟩,va _,rfl⟩
  exact⟨_,hp.1,.Wf _ _ (by simp[Mp.add,Mp.Zi]) (yd _ _ _ _) ha,hp.2,fq⟩
 rcases MG hh q1 with⟨UJ,ha⟩|⟨x,rows,ty,rfl,hx,hm,hb,hle,hT⟩
 ·rcases ha with rfl|rfl
  ·exact⟨_,_,hc.nil Hv,empty _ UJ (.inl rfl)⟩
  ·exact⟨_,_,hc.Pd Hv,empty _ UJ (.inr rfl)⟩
 ·by_cases h0:l.length=0
  ·rw[h0];exact⟨_,_,hc.Vt Hv x rows ty hb,empty _ (Ja.1 h0) (.inr rfl)⟩
  ·obtain⟨Q8,hs⟩:=hc.sl Hv x l.length rows ty hb (by omega) hle (ic.2 fun r hr=>by rw[beq_iff_eq];exact hT.rows hr) hn1 hn2;exact⟨_,_,hs,hh.Ds hT rfl⟩
end
end Go.U
