/- A second evaluator, over rows of Lean values, and that it is right over the first. -/
import Derived.Test.YtjenflkegbmkkaaGreatDoorB4
import Derived.Test.YtjenflkegbmkkaaGreatDoorA6
set_option linter.unusedVariables false
set_option linter.unusedSimpArgs false
set_option linter.unusedSectionVars false
open Int renaming toNat_natCast→La
open List renaming getElem?_take→Db,getElem?_append_left→Ka,getD_eq_getElem?_getD→Ia,length_map→Qc,getElem?_map→Tb,getElem?_eq_getElem→Ba,getElem?_eq_none→Ab,map_cons→Pd,length_eq_zero_iff→Ja,length_append→qd,append_nil→Nn,replicate→Ca,append_assoc→xd,all_eq_true→tc
open Nat renaming le_of_eq→Kh,le_trans→Ib,le_of_not_lt→JC,zero_le→je,le_refl→va
open Option renaming map_eq_some_iff→ia
namespace Go.U
open Go
section
variable [TB:GC]{A:V.yh}{m:Mp}{Hv:V.AH}
theorem Sj.cut{c:CT}{l:List (Gb c)}{rows:List (List V.AV)}(h:Sj m (width c) l.length (vw c l) rows)(hn:l.length<=rows.length):RT m c l (rows.take l.length):=
 .of (by simp;omega) fun i row hi hr=>by
  rw[Db,if_pos hi]at hr;obtain⟨Lb,h1,h2,_⟩:=h.row hn hi;rw[hr]at h1;cases h1;exact h2
theorem RT.rest{c:CT}{l:List (Gb c)}{rows:List (List V.AV)}(h:RT m c l rows)(rest:List (List V.AV)):Sj m (width c) l.length (vw c l) (rows++rest):=by
 have g:∀{i:Nat}{row:List V.AV},i<l.length->(rows++rest)[i]?=some row->rows[i]?=some row:=fun{i row}hi hr=>by rwa [Ka (by rw[h.1];exact hi)]at hr
 exact⟨h.2.1,fun i row hi hr=>h.2.2.1 i row hi (g hi hr),fun i row k x a hi hr h1 h2=>h.2.2.2 i row k x a hi (g hi hr) h1 h2⟩
abbrev cI:CT:= .int .i64
abbrev cP:CT:= .pair cI cI
theorem QF{c:CT}{l:List (Gb c)}{i:Nat}{z:Gb c}(h:l[i]?=some z):vw c l i=enc c z:=by simp only[vw,Ia,h,Option.getD_some]
theorem rt1(l:List Int):RT m cI l (l.map V.Cf):= .of (Qc _) fun i row hi hr=>by
 rw[Tb]at hr;obtain⟨z,hz,rfl⟩:=ia.1 hr;have:vw cI l i=[.int .i64 z]:=QF (c:=cI) hz;rw[this];exact .cons (.int _ _) .nil
theorem rt2(l:List (Int×Int)):RT m cP l (l.map V.Mk):= .of (Qc _) fun i row hi hr=>by
 rw[Tb]at hr;obtain⟨z,hz,rfl⟩:=ia.1 hr;have:vw cP l i=[.int .i64 z.1,.int .i64 z.2]:=QF (c:=cP) hz;rw[this];exact .cons (.int _ _) (.cons (.int _ _) .nil)
theorem Tm{l:List Int}{rows:List (List V.AV)}(h:RT m cI l rows):rows=l.map V.Cf:=by
 apply List.ext_getElem?;intro i;rw[Tb];by_cases hi:i<l.length
 ·obtain⟨row,h1,h2,_⟩:=h.2.row (Kh h.1.symm) hi;have:vw cI l i=[.int .i64 l[i]]:=QF (c:=cI) (Ba hi);rw[this]at h2;obtain⟨a,rfl,r⟩:=RL.one h2;cases r;rw[h1,Ba hi];rfl
 ·rw[Ab (Ib (Kh h.1) (JC hi)),Ab (JC hi)];rfl
theorem Jae{l:List (Int×Int)}{rows:List (List V.AV)}(h:RT m cP l rows):rows=l.map V.Mk:=by
 apply List.ext_getElem?;intro i;rw[Tb];by_cases hi:i<l.length
 ·obtain⟨row,h1,h2,_⟩:=h.2.row (Kh h.1.symm) hi;have:vw cP l i=[.int .i64 l[i].1,.int .i64 l[i].2]:=QF (c:=cP) (Ba hi);rw[this]at h2;obtain⟨a,b,rfl,r1,r2⟩:=RL.two h2;cases r1;cases r2;rw[h1,Ba hi];rfl
 ·rw[Ab (Ib (Kh h.1) (JC hi)),Ab (JC hi)];rfl
theorem QA:∀l:List Int,V.Qn (l.map V.Cf)=some l
 |[]=>rfl
 |x::l=>by simp only[Pd,V.Cf,V.Qn];rw[show l.map V.Cf=l.map V.Cf from rfl,QA l];rfl
theorem PA:∀l:List (Int×Int),V.Sp (l.map V.Mk)=some l
 |[]=>rfl
 |x::l=>by simp only[Pd,V.Mk,V.Sp];rw[show l.map V.Mk=l.map V.Mk from rfl,PA l];rfl
theorem mG{c:CT}{l:List (Gb c)}{wm:Nat}{a:V.AV}(hh:RH m ⟨[.cells c l],wm⟩ Hv)(ha:RV m (.all 0) a):
  (l=[]/\(a= .Xa\/a= .Ud))\/∃x rows ty,a= .sl x 0 l.length/\m.ι 0 0=some x/\m.len 0 0=l.length/\Hv.bl[x]?=some (.cells rows (width c) ty)/\l.length<=rows.length/\RT m c l (rows.take l.length):=by
 obtain⟨k1,k2⟩:=hh.Vc 0 _ rfl;cases ha with
 |Yf _ _ _ hz ha=>exact .inl ⟨Ja.1 (by rw[<- k1];exact hz),ha⟩
 |all _ x hx=>
  rcases k2 with⟨_,k3⟩|⟨y,rows,ty,k3,k4,k5,k6⟩
  ·rw[hx]at k3;cases k3
  ·rw[hx]at k3;cases k3;exact .inr ⟨x,rows,ty,by rw[k1],hx,k1,k4,k5,k6.cut k5⟩
theorem Oae{l:List (Int)}{wm:Nat}{a:V.AV}(hh:RH m ⟨[.cells cI l],wm⟩ Hv)(ha:RV m (.all 0) a):
  (l=[]/\(a= .Xa\/a= .Ud))\/∃x rows ty,a= .sl x 0 l.length/\m.ι 0 0=some x/\m.len 0 0=l.length/\Hv.bl[x]?=some (.cells rows 1 ty)/\l.length<=rows.length/\V.Qn (rows.take l.length)=some l:=by
 rcases mG hh ha with h|⟨x,rows,ty,h1,h2,h3,h4,h5,h6⟩
 ·exact .inl h
 ·have e:rows.take l.length=l.map V.Cf:=Tm h6;exact .inr ⟨x,rows,ty,h1,h2,h3,h4,h5,by rw[e];exact QA l⟩
theorem caj{l:List (Int×Int)}{wm:Nat}{a:V.AV}(hh:RH m ⟨[.cells cP l],wm⟩ Hv)(ha:RV m (.all 0) a):
  (l=[]/\(a= .Xa\/a= .Ud))\/∃x rows ty,a= .sl x 0 l.length/\m.ι 0 0=some x/\m.len 0 0=l.length/\Hv.bl[x]?=some (.cells rows 2 ty)/\l.length<=rows.length/\V.Sp (rows.take l.length)=some l:=by
 rcases mG hh ha with h|⟨x,rows,ty,h1,h2,h3,h4,h5,h6⟩
 ·exact .inl h
 ·have e:rows.take l.length=l.map V.Mk:=Jae h6;exact .inr ⟨x,rows,ty,h1,h2,h3,h4,h5,by rw[e];exact PA l⟩
theorem rb1{l:List (Int)}{b x:Nat}{rest:List (List V.AV)}{ty:Option (TypeId×Nat)}(hl:m.len b 0=l.length)(hx:m.ι b 0=some x)(hb:Hv.bl[x]?=some (.cells (l.map V.Cf++rest) 1 ty)):RB m Hv b (.cells cI l):=
 ⟨hl,.inr ⟨x,_,ty,hx,hb,by rw[qd,Qc];exact Nat.le_add_right _ _,(rt1 l).rest _⟩⟩
theorem rb2{l:List (Int×Int)}{b x:Nat}{rest:List (List V.AV)}{ty:Option (TypeId×Nat)}(hl:m.len b 0=l.length)(hx:m.ι b 0=some x)(hb:Hv.bl[x]?=some (.cells (l.map V.Mk++rest) 2 ty)):RB m Hv b (.cells cP l):=
 ⟨hl,.inr ⟨x,_,ty,hx,hb,by rw[qd,Qc];exact Nat.le_add_right _ _,(rt2 l).rest _⟩⟩
theorem rL{k:Nat}{f:FuncId}{Kl:List Int->List Int}(hlen:∀l,(Kl l).length=l.length)(he:A.ext f=some (V.Tn Kl)){sp:Spec}
  (zf:∀X args H K out,sp X args H K=some out->∃l:List Int,args=[.all 0]/\H=⟨[.cells cI l],0⟩/\l.length<4611686018427387904/\K (.Sc []) ⟨[.cells cI (Kl l)],0⟩=some out):Xe (V.call A (k+1)) f sp:=by
 intro X args H K out h;obtain⟨l,rfl,rfl,hn,h'⟩:=zf X args H K out h;refine⟨_,_,h',rfl,fun m Hv us cs hh hl=> ?_⟩;obtain⟨a1,l1,e1,q1,q2⟩:=hl.Wh;have e2:l1=[]:=Ja.1 q2.1;rw[Oq he,e1,e2];rcases Oae hh q1 with⟨rfl,ha⟩|⟨x,rows,ty,rfl,hx,hm,hb,hle,hr⟩
 ·have hs:Kl []=[]:=Ja.1 (by rw[hlen];rfl);have hh:RH m ⟨[.cells cI (Kl ([]:List (Int)))],0⟩ Hv:=by rw[hs];exact hh
  rcases ha with rfl|rfl<;>exact⟨.Sc [],Hv,rfl,.same hh (.Sc [] [] rfl fun i x a h=>by simp at h)⟩
 ·have ag:=hh.wm 0 x hx (je _);have Fh:=hh.set (b:=0) (y:= .cells cI (Kl l)) (yv:= .cells ((Kl l).map V.Cf++rows.drop l.length) 1 ty) ⟨_,rfl,rfl⟩ hx (by
   have jI:=(hh.Ie 0 x hx).2;exact rb1 ((hm.trans (hlen l).symm)) hx (by rw[Ec,if_pos rfl,if_pos jI]))
  refine⟨.Sc [],_,?_,m,Fh.1,.Sc [] [] rfl (fun i x a h=>by simp at h),.refl m,Fh.2⟩;simp only[V.Tn,Nn];rw[hb];simp only[width];rw[if_pos ⟨ag,hle,hn⟩,hr];rfl
theorem oL{k:Nat}{f F:FuncId}{Kl:List (Int×Int)->List (Int×Int)}(hlen:∀l,(Kl l).length=l.length)(he:A.ext f=some (V.Bm F Kl)){sp:Spec}
  (zf:∀X args H K out,sp X args H K=some out->∃l:List (Int×Int),args=[.all 0,.fn F []]/\H=⟨[.cells cP l],0⟩/\l.length<4611686018427387904/\K (.Sc []) ⟨[.cells cP (Kl l)],0⟩=some out):Xe (V.call A (k+1)) f sp:=by
 intro X args H K out h;obtain⟨l,rfl,rfl,hn,h'⟩:=zf X args H K out h;refine⟨_,_,h',rfl,fun m Hv us cs hh hl=> ?_⟩;obtain⟨a1,l1,e1,q1,q2⟩:=hl.Wh;obtain⟨a2,l2,e2,q3,q4⟩:=q2.Wh;have e3:l2=[]:=Ja.1 q4.1;have e4:a2= .fn F []:=by
  cases q3 with
  |fn _ _ us' bg _=>rw[Ja.1 bg]
 rw[Oq he,e1,e2,e3,e4];rcases caj hh q1 with⟨rfl,ha⟩|⟨x,rows,ty,rfl,hx,hm,hb,hle,hr⟩
 ·have hs:Kl []=[]:=Ja.1 (by rw[hlen];rfl);have hh:RH m ⟨[.cells cP (Kl ([]:List (Int×Int)))],0⟩ Hv:=by rw[hs];exact hh
  rcases ha with rfl|rfl<;>exact⟨.Sc [],Hv,by simp[V.Bm],.same hh (.Sc [] [] rfl fun i x a h=>by simp at h)⟩
 ·have ag:=hh.wm 0 x hx (je _);have Fh:=hh.set (b:=0) (y:= .cells cP (Kl l)) (yv:= .cells ((Kl l).map V.Mk++rows.drop l.length) 2 ty) ⟨_,rfl,rfl⟩ hx (by
   have jI:=(hh.Ie 0 x hx).2;exact rb2 ((hm.trans (hlen l).symm)) hx (by rw[Ec,if_pos rfl,if_pos jI]))
  refine⟨.Sc [],_,?_,m,Fh.1,.Sc [] [] rfl (fun i x a h=>by simp at h),.refl m,Fh.2⟩;simp only[V.Bm,Nn,if_true];rw[hb];simp only[width];rw[if_pos ⟨ag,hle,hn⟩,hr];rfl
theorem L0{k:Nat}{f:FuncId}(he:A.ext f=some V.Aw){sp:Spec}
  (zf:∀X args H K out,sp X args H K=some out->∃(l:List Int)(i j:Int),args=[.all 0,.int .i64 i,.int .i64 j]/\H=⟨[.cells cI l],0⟩/\(0<=i/\i<=j/\j<=l.length)/\K (.all 1) ⟨[.dead,.cells cI (l.take i.toNat++l.drop j.toNat)],0⟩=some out):Xe (V.call A (k+1)) f sp:=by
 intro X args H K out h;obtain⟨l,i,j,rfl,rfl,⟨hi,PC,hj⟩,h'⟩:=zf X args H K out h;refine⟨_,_,h',rfl,fun m Hv us cs hh hl=> ?_⟩;obtain⟨a1,l1,e1,q1,q2⟩:=hl.Wh;obtain⟨a2,l2,e2,q3,q4⟩:=q2.Wh;obtain⟨a3,l3,e3,q5,q6⟩:=q4.Wh;have e4:l3=[]:=Ja.1 q6.1;cases q3;cases q5;rw[Oq he,e1,e2,e3,e4];have Si:RH m ⟨[.dead],0⟩ Hv:=hh.kill 0;have HR:∀b,¬live (⟨[.dead],0⟩:UH) b:=fun b⟨z,hz,gJ⟩=>by
  match b,hz with
  |0,hz=>simp at hz;subst hz;simp[Zd]at gJ
  |b+1,hz=>simp at hz
 obtain⟨i,rfl⟩:∃i':Nat,i=i':=⟨i.toNat,by omega⟩;obtain⟨j,rfl⟩:∃j':Nat,j=j':=⟨j.toNat,by omega⟩;simp only[La];rcases Oae hh q1 with⟨rfl,ha⟩|⟨x,rows,ty,rfl,hx,hm,hb,hle,hr⟩
 ·have ei:i=0:=by simp at hj;omega
  have ej:j=0:=by simp at hj;omega
  subst ei;subst ej;have hp:=Si.push (Nc:=Hv) (y:= .cells cI []) (x:=none) (n:=0) (fun b _ _ h _=>absurd h (HR b)) (va _) rfl (fun xv e=>by cases e) ⟨zd _ _ _ _,.inl ⟨rfl,be _ _ _ _⟩⟩;have Ip:Oj m.top m Hv (m.add 1 none 0) Hv:=⟨Mg Si none 0,fun _ _ _=>rfl,fun b _ xv hb=>by
   by_cases e:b=1
   ·subst e;obtain⟨_,e⟩:=Ki hb;cases e
   ·rw[Gf _ _ _ e]at hb;exact .inl ⟨b,_,hb⟩,va _,rfl⟩
  have hv:RV (m.add 1 none 0) (.all 1) a1:= .Yf _ _ (by have:=Si.len;simp[Mp.add,Mp.Ni]at this ⊢) (zd _ _ _ _) ha;rcases ha with rfl|rfl<;>exact⟨_,Hv,rfl,_,hp.1,hv,hp.2,Ip⟩
 ·have ag:=hh.wm 0 x hx (je _);have jI:=(hh.Ie 0 x hx).2;have hlen:(l.take i++l.drop j).length=l.length-(j-i):=by simp;omega
  have hp:=Si.push (Nc:=V.Ra Hv x (.cells ((V.No l i j).map V.Cf++rows.drop l.length) 1 ty)) (y:= .cells cI (l.take i++l.drop j)) (x:=some x) (n:=l.length-(j-i)) (fun b _ _ h _=>absurd h (HR b)) (by simp[V.Ra]) rfl (fun xv e=>by cases e;exact⟨by simp[V.Ra];exact jI,ag,fun b s h _=>absurd h (HR b)⟩)
   (rb1 ((zd _ _ _ _).trans hlen.symm) (be _ _ _ _) (by
    rw[Ec,if_pos rfl,if_pos jI,show V.No l i j=(l.take i++l.drop j)++Ca (j-i) 0 from rfl,List.map_append,xd]))
  have Ip:Oj m.top m Hv (m.add 1 (some x) (l.length-(j-i))) (V.Ra Hv x (.cells ((V.No l i j).map V.Cf++rows.drop l.length) 1 ty)):=⟨Mg Si _ _,fun x' _ JR=>by rw[Ec,if_neg (fun e=>JR 0 0 (by rw[<- e];exact hx))],fun b _ xv hb=>by
   by_cases e:b=1
   ·subst e;obtain⟨_,e⟩:=Ki hb;cases e;exact .inl ⟨0,0,hx⟩
   ·rw[Gf _ _ _ e]at hb;exact .inl ⟨b,_,hb⟩,by simp[V.Ra],rfl⟩
  have hv:RV (m.add 1 (some x) (l.length-(j-i))) (.all 1) (.sl x 0 (l.length-(j-i))):=by
   have:=RV.all (m:=m.add 1 (some x) (l.length-(j-i))) 1 x (be _ _ _ _);rw[zd]at this;exact this
  refine⟨_,_,?_,_,hp.1,hv,hp.2,Ip⟩;simp only[V.Aw,Nn];rw[hb];simp only[width];rw[if_pos ⟨ag,hle,by omega,by omega,by omega⟩,hr];rfl
structure Ss(A:V.yh)(k:Nat)(f:FuncId)(c:CT)(nb:Nat):Prop where
 nil:∀H,V.call A k (.fn f []) [.Xa] H=some (.Xa,H)
 Ud:∀H,V.call A k (.fn f []) [.Ud] H=some (.Ud,H)
 Bt:∀(H:V.AH)(x:Nat)rows ty,H.bl[x]?=some (.cells rows (width c) ty)->V.call A k (.fn f []) [.sl x 0 0] H=some (.Ud,H)
 sl:∀(H:V.AH)(x n:Nat)rows ty,H.bl[x]?=some (.cells rows (width c) ty)->0<n->n<=rows.length->(rows.take n).all (fun r=>r.length==width c)=true->n * nb<=70368744177664->n<9223372036854775808->
  ∃G7,V.call A k (.fn f []) [.sl x 0 n] H=some (.sl H.bl.length 0 n,V.push H (.cells (rows.take n) (width c) G7))
theorem zu{k:Nat}{f:FuncId}{c:CT}{nb:Nat}(hc:Ss A (k+1) f c nb)(hf:∀cs us H,V.call A (k+1) (.fn f cs) us H=V.call A (k+1) (.fn f []) (us++cs) H){sp:Spec}
  (zf:∀X args H K out,sp X args H K=some out->∃l:List (Gb c),args=[.all 0]/\H=⟨[.cells c l],1⟩/\(l.length * nb<=70368744177664/\l.length<9223372036854775808)/\K (.all 1) ⟨[.cells c l,.cells c l],1⟩=some out):Xe (V.call A (k+1)) f sp:=by
 intro X args H K out h;obtain⟨l,rfl,rfl,⟨hn1,hn2⟩,h'⟩:=zf X args H K out h;refine⟨_,_,h',rfl,fun m Hv us cs hh hl=> ?_⟩;obtain⟨a1,l1,e1,q1,q2⟩:=hl.Wh;have e2:l1=[]:=Ja.1 q2.1;rw[hf,e1,e2];have empty:∀a,l=[]->(a= .Xa\/a= .Ud)->Jp m Hv (.all 1) ⟨[.cells c l,.cells c l],1⟩ a Hv:=fun a mJ ha=>by
  subst mJ;have hp:=hh.push (Nc:=Hv) (y:= .cells c []) (x:=none) (n:=0) (fun _ _ _ _ _=>rfl) (va _) rfl (fun xv e=>by cases e) ⟨zd _ _ _ _,.inl ⟨rfl,be _ _ _ _⟩⟩;have Ip:Oj m.top m Hv (m.add 1 none 0) Hv:=⟨Mg hh none 0,fun _ _ _=>rfl,fun b _ xv hb=>by
   by_cases e:b=1
   ·subst e;obtain⟨_,e⟩:=Ki hb;cases e
   ·rw[Gf _ _ _ e]at hb;exact .inl ⟨b,_,hb⟩,va _,rfl⟩
  exact⟨_,hp.1,.Yf _ _ (by simp[Mp.add,Mp.Ni]) (zd _ _ _ _) ha,hp.2,Ip⟩
 rcases mG hh q1 with⟨mJ,ha⟩|⟨x,rows,ty,rfl,hx,hm,hb,hle,hT⟩
 ·rcases ha with rfl|rfl
  ·exact⟨_,_,hc.nil Hv,empty _ mJ (.inl rfl)⟩
  ·exact⟨_,_,hc.Ud Hv,empty _ mJ (.inr rfl)⟩
 ·by_cases h0:l.length=0
  ·rw[h0];exact⟨_,_,hc.Bt Hv x rows ty hb,empty _ (Ja.1 h0) (.inr rfl)⟩
  ·obtain⟨G7,hs⟩:=hc.sl Hv x l.length rows ty hb (by omega) hle (tc.2 fun r hr=>by rw[beq_iff_eq];exact hT.rows hr) hn1 hn2;exact⟨_,_,hs,hh.Ir hT rfl⟩
end
end Go.U
