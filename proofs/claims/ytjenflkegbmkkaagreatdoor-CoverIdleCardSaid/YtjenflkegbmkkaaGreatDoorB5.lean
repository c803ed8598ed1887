/- A second evaluator, over rows of Lean values, and that it is right over the first. -/
import Derived.Test.YtjenflkegbmkkaaGreatDoorB4
import Derived.Test.YtjenflkegbmkkaaGreatDoorA6
set_option linter.unusedVariables false
set_option linter.unusedSimpArgs false
set_option linter.unusedSectionVars false
open Int renaming toNat_natCast→Ca
open List renaming getElem?_take→Ab,getElem?_append_left→Fa,getD_eq_getElem?_getD→Ea,length_map→Ec,getElem?_map→Ob,getElem?_eq_getElem→ya,getElem?_eq_none→mb,map_cons→Dd,length_eq_zero_iff→Da,length_append→Ud,append_nil→Qm,replicate→Ja,map_append→Zu,append_assoc→od,all_eq_true→Yb
open Nat renaming le_of_eq→Ch,le_trans→Ib,le_of_not_lt→uB,zero_le→Nd,le_refl→oa
open Option renaming map_eq_some_iff→ia
namespace Go.U
open Go
section
variable [TB:sB] {A:V.oh} {m:Mp} {Hv:V.AH}
theorem Hj.cut {c:CT} {l:List (Eb c)} {rows:List (List V.AV)} (h:Hj m (width c) l.length (vw c l) rows) (hn:l.length<=rows.length):RT m c l (rows.take l.length):=
 .of (by simp;omega) fun i row hi hr=>by
  rw [Ab,if_pos hi] at hr;obtain ⟨Jb,h1,h2,_⟩:=h.row hn hi;rw [hr] at h1;cases h1;exact h2
theorem RT.rest {c:CT} {l:List (Eb c)} {rows:List (List V.AV)} (h:RT m c l rows) (rest:List (List V.AV)):Hj m (width c) l.length (vw c l) (rows++rest):=by
 have g:∀ {i:Nat} {row:List V.AV},i<l.length->(rows++rest)[i]?=some row->rows[i]?=some row:=fun {i row} hi hr=>by rwa [Fa (by rw [h.1];exact hi)] at hr
 exact ⟨h.2.1,fun i row hi hr=>h.2.2.1 i row hi (g hi hr),fun i row k x a hi hr h1 h2=>h.2.2.2 i row k x a hi (g hi hr) h1 h2⟩
abbrev cI:CT:= .int .i64
abbrev cP:CT:= .pair cI cI
theorem iE {c:CT} {l:List (Eb c)} {i:Nat} {z:Eb c} (h:l[i]?=some z):vw c l i=enc c z:=by simp only [vw,Ea,h,Option.getD_some]
theorem rt1 (l:List Int):RT m cI l (l.map V.nf):= .of (Ec _) fun i row hi hr=>by
 rw [Ob] at hr;obtain ⟨z,hz,rfl⟩:=ia.1 hr;have:vw cI l i=[.int .i64 z]:=iE (c:=cI) hz;rw [this];exact .cons (.int _ _) .nil
theorem rt2 (l:List (Int×Int)):RT m cP l (l.map V.wk):= .of (Ec _) fun i row hi hr=>by
 rw [Ob] at hr;obtain ⟨z,hz,rfl⟩:=ia.1 hr;have:vw cP l i=[.int .i64 z.1,.int .i64 z.2]:=iE (c:=cP) hz;rw [this];exact .cons (.int _ _) (.cons (.int _ _) .nil)
theorem cm {l:List Int} {rows:List (List V.AV)} (h:RT m cI l rows):rows=l.map V.nf:=by
 apply List.ext_getElem?;intro i;rw [Ob];by_cases hi:i<l.length
 · obtain ⟨row,h1,h2,_⟩:=h.2.row (Ch h.1.symm) hi;have:vw cI l i=[.int .i64 l[i]]:=iE (c:=cI) (ya hi);rw [this] at h2;obtain ⟨a,rfl,r⟩:=RL.one h2;cases r;rw [h1,ya hi];rfl
 · rw [mb (Ib (Ch h.1) (uB hi)),mb (uB hi)];rfl
theorem Yab {l:List (Int×Int)} {rows:List (List V.AV)} (h:RT m cP l rows):rows=l.map V.wk:=by
 apply List.ext_getElem?;intro i;rw [Ob];by_cases hi:i<l.length
 · obtain ⟨row,h1,h2,_⟩:=h.2.row (Ch h.1.symm) hi;have:vw cP l i=[.int .i64 l[i].1,.int .i64 l[i].2]:=iE (c:=cP) (ya hi);rw [this] at h2;obtain ⟨a,b,rfl,r1,r2⟩:=RL.two h2;cases r1;cases r2;rw [h1,ya hi];rfl
 · rw [mb (Ib (Ch h.1) (uB hi)),mb (uB hi)];rfl
theorem Ez:∀ l:List Int,V.Tm (l.map V.nf)=some l
 |[]=>rfl
 |x::l=>by simp only [Dd,V.nf,V.Tm];rw [show l.map V.nf=l.map V.nf from rfl,Ez l];rfl
theorem Dz:∀ l:List (Int×Int),V.Jo (l.map V.wk)=some l
 |[]=>rfl
 |x::l=>by simp only [Dd,V.wk,V.Jo];rw [show l.map V.wk=l.map V.wk from rfl,Dz l];rfl
theorem DE {c:CT} {l:List (Eb c)} {wm:Nat} {a:V.AV} (hh:RH m ⟨[.cells c l],wm⟩ Hv) (ha:RV m (.all 0) a):
  (l=[]/\(a= .Wa\/a= .Kd))\/∃ x rows ty,a= .sl x 0 l.length/\m.ι 0 0=some x/\m.len 0 0=l.length/\Hv.bl[x]?=some (.cells rows (width c) ty)/\l.length<=rows.length/\RT m c l (rows.take l.length):=by
 obtain ⟨k1,k2⟩:=hh.Oc 0 _ rfl;cases ha with
 |Nf _ _ _ hz ha=>exact .inl ⟨Da.1 (by rw [<- k1];exact hz),ha⟩
 |all _ x hx=>
  rcases k2 with ⟨_,k3⟩|⟨y,rows,ty,k3,k4,k5,k6⟩
  · rw [hx] at k3;cases k3
  · rw [hx] at k3;cases k3;exact .inr ⟨x,rows,ty,by rw [k1],hx,k1,k4,k5,k6.cut k5⟩
theorem dac {l:List (Int)} {wm:Nat} {a:V.AV} (hh:RH m ⟨[.cells cI l],wm⟩ Hv) (ha:RV m (.all 0) a):
   (l=[]/\(a= .Wa\/a= .Kd))\/∃ x rows ty,a= .sl x 0 l.length/\m.ι 0 0=some x/\m.len 0 0=l.length/\Hv.bl[x]?=some (.cells rows 1 ty)/\l.length<=rows.length/\V.Tm (rows.take l.length)=some l:=by
 rcases DE hh ha with h|⟨x,rows,ty,h1,h2,h3,h4,h5,h6⟩
 · exact .inl h
 · have e:rows.take l.length=l.map V.nf:=cm h6;exact .inr ⟨x,rows,ty,h1,h2,h3,h4,h5,by rw [e];exact Ez l⟩
theorem bag {l:List (Int×Int)} {wm:Nat} {a:V.AV} (hh:RH m ⟨[.cells cP l],wm⟩ Hv) (ha:RV m (.all 0) a):
   (l=[]/\(a= .Wa\/a= .Kd))\/∃ x rows ty,a= .sl x 0 l.length/\m.ι 0 0=some x/\m.len 0 0=l.length/\Hv.bl[x]?=some (.cells rows 2 ty)/\l.length<=rows.length/\V.Jo (rows.take l.length)=some l:=by
 rcases DE hh ha with h|⟨x,rows,ty,h1,h2,h3,h4,h5,h6⟩
 · exact .inl h
 · have e:rows.take l.length=l.map V.wk:=Yab h6;exact .inr ⟨x,rows,ty,h1,h2,h3,h4,h5,by rw [e];exact Dz l⟩
theorem rb1 {l:List (Int)} {b x:Nat} {rest:List (List V.AV)} {ty:Option (TypeId×Nat)} (hl:m.len b 0=l.length) (hx:m.ι b 0=some x) (hb:Hv.bl[x]?=some (.cells (l.map V.nf++rest) 1 ty)):RB m Hv b (.cells cI l):=
 ⟨hl,.inr ⟨x,_,ty,hx,hb,by rw [Ud,Ec];exact Nat.le_add_right _ _,(rt1 l).rest _⟩⟩
theorem rb2 {l:List (Int×Int)} {b x:Nat} {rest:List (List V.AV)} {ty:Option (TypeId×Nat)} (hl:m.len b 0=l.length) (hx:m.ι b 0=some x) (hb:Hv.bl[x]?=some (.cells (l.map V.wk++rest) 2 ty)):RB m Hv b (.cells cP l):=
 ⟨hl,.inr ⟨x,_,ty,hx,hb,by rw [Ud,Ec];exact Nat.le_add_right _ _,(rt2 l).rest _⟩⟩
theorem FJ {k:Nat} {f:FuncId} {Jk:List Int->List Int} (hlen:∀ l,(Jk l).length=l.length) (he:A.ext f=some (V.Wm Jk)) {sp:Spec}
   (jf:∀ X args H K out,sp X args H K=some out->∃ l:List Int,args=[.all 0]/\H=⟨[.cells cI l],0⟩/\l.length<4611686018427387904/\K (.Rc []) ⟨[.cells cI (Jk l)],0⟩=some out):Me (V.call A (k+1)) f sp:=by
 intro X args H K out h;obtain ⟨l,rfl,rfl,hn,h'⟩:=jf X args H K out h;refine ⟨_,_,h',rfl,fun m Hv us cs hh hl=> ?_⟩;obtain ⟨a1,l1,e1,q1,q2⟩:=hl.Oh;have e2:l1=[]:=Da.1 q2.1;rw [Up he,e1,e2];rcases dac hh q1 with ⟨rfl,ha⟩|⟨x,rows,ty,rfl,hx,hm,hb,hle,hr⟩
 · have hs:Jk []=[]:=Da.1 (by rw [hlen];rfl);have hh:RH m ⟨[.cells cI (Jk ([]:List (Int)))],0⟩ Hv:=by rw [hs];exact hh
   rcases ha with rfl|rfl<;>exact ⟨.Rc [],Hv,rfl,.same hh (.Rc [] [] rfl fun i x a h=>by simp at h)⟩
 · have Of:=hh.wm 0 x hx (Nd _);have yh:=hh.set (b:=0) (y:= .cells cI (Jk l)) (yv:= .cells ((Jk l).map V.nf++rows.drop l.length) 1 ty) ⟨_,rfl,rfl⟩ hx (by
    have EG:=(hh.Ae 0 x hx).2;exact rb1 ((hm.trans (hlen l).symm)) hx (by rw [Ac,if_pos rfl,if_pos EG]))
   refine ⟨.Rc [],_,?_,m,yh.1,.Rc [] [] rfl (fun i x a h=>by simp at h),.refl m,yh.2⟩;simp only [V.Wm,Qm];rw [hb];simp only [width];rw [if_pos ⟨Of,hle,hn⟩,hr];rfl
theorem DJ {k:Nat} {f F:FuncId} {Jk:List (Int×Int)->List (Int×Int)} (hlen:∀ l,(Jk l).length=l.length) (he:A.ext f=some (V.Ll F Jk)) {sp:Spec}
   (jf:∀ X args H K out,sp X args H K=some out->∃ l:List (Int×Int),args=[.all 0,.fn F []]/\H=⟨[.cells cP l],0⟩/\l.length<4611686018427387904/\K (.Rc []) ⟨[.cells cP (Jk l)],0⟩=some out):Me (V.call A (k+1)) f sp:=by
 intro X args H K out h;obtain ⟨l,rfl,rfl,hn,h'⟩:=jf X args H K out h;refine ⟨_,_,h',rfl,fun m Hv us cs hh hl=> ?_⟩;obtain ⟨a1,l1,e1,q1,q2⟩:=hl.Oh;obtain ⟨a2,l2,e2,q3,q4⟩:=q2.Oh;have e3:l2=[]:=Da.1 q4.1;have e4:a2= .fn F []:=by
   cases q3 with
   |fn _ _ us' Pf _=>rw [Da.1 Pf]
 rw [Up he,e1,e2,e3,e4];rcases bag hh q1 with ⟨rfl,ha⟩|⟨x,rows,ty,rfl,hx,hm,hb,hle,hr⟩
 · have hs:Jk []=[]:=Da.1 (by rw [hlen];rfl);have hh:RH m ⟨[.cells cP (Jk ([]:List (Int×Int)))],0⟩ Hv:=by rw [hs];exact hh
   rcases ha with rfl|rfl<;>exact ⟨.Rc [],Hv,by simp [V.Ll],.same hh (.Rc [] [] rfl fun i x a h=>by simp at h)⟩
 · have Of:=hh.wm 0 x hx (Nd _);have yh:=hh.set (b:=0) (y:= .cells cP (Jk l)) (yv:= .cells ((Jk l).map V.wk++rows.drop l.length) 2 ty) ⟨_,rfl,rfl⟩ hx (by
    have EG:=(hh.Ae 0 x hx).2;exact rb2 ((hm.trans (hlen l).symm)) hx (by rw [Ac,if_pos rfl,if_pos EG]))
   refine ⟨.Rc [],_,?_,m,yh.1,.Rc [] [] rfl (fun i x a h=>by simp at h),.refl m,yh.2⟩;simp only [V.Ll,Qm,if_true];rw [hb];simp only [width];rw [if_pos ⟨Of,hle,hn⟩,hr];rfl
theorem zY {k:Nat} {f:FuncId} (he:A.ext f=some V.Mu) {sp:Spec}
   (jf:∀ X args H K out,sp X args H K=some out->∃ (l:List Int) (i j:Int),args=[.all 0,.int .i64 i,.int .i64 j]/\H=⟨[.cells cI l],0⟩/\(0<=i/\i<=j/\j<=l.length)/\K (.all 1) ⟨[.dead,.cells cI (l.take i.toNat++l.drop j.toNat)],0⟩=some out):Me (V.call A (k+1)) f sp:=by
 intro X args H K out h;obtain ⟨l,i,j,rfl,rfl,⟨hi,Ky,hj⟩,h'⟩:=jf X args H K out h;refine ⟨_,_,h',rfl,fun m Hv us cs hh hl=> ?_⟩;obtain ⟨a1,l1,e1,q1,q2⟩:=hl.Oh;obtain ⟨a2,l2,e2,q3,q4⟩:=q2.Oh;obtain ⟨a3,l3,e3,q5,q6⟩:=q4.Oh;have e4:l3=[]:=Da.1 q6.1;cases q3;cases q5;rw [Up he,e1,e2,e3,e4];have Ii:RH m ⟨[.dead],0⟩ Hv:=hh.kill 0;have HP:∀ b,¬ live (⟨[.dead],0⟩:UH) b:=fun b ⟨z,hz,vH⟩=>by
   match b,hz with
   |0,hz=>simp at hz;subst hz;simp [Sd] at vH
   |b+1,hz=>simp at hz
 obtain ⟨i,rfl⟩:∃ i':Nat,i=i':=⟨i.toNat,by omega⟩;obtain ⟨j,rfl⟩:∃ j':Nat,j=j':=⟨j.toNat,by omega⟩;simp only [Ca];rcases dac hh q1 with ⟨rfl,ha⟩|⟨x,rows,ty,rfl,hx,hm,hb,hle,hr⟩
 · have ei:i=0:=by simp at hj;omega
   have ej:j=0:=by simp at hj;omega
   subst ei;subst ej;have hp:=Ii.push (Ic:=Hv) (y:= .cells cI []) (x:=none) (n:=0) (fun b _ _ h _=>absurd h (HP b)) (oa _) rfl (fun xv e=>by cases e) ⟨xd _ _ _ _,.inl ⟨rfl,Vd _ _ _ _⟩⟩;have Bo:Ej m.top m Hv (m.add 1 none 0) Hv:=⟨tg Ii none 0,fun _ _ _=>rfl,fun b _ xv hb=>by
    by_cases e:b=1
    · subst e;obtain ⟨_,e⟩:=zi hb;cases e
    · rw [vf _ _ _ e] at hb;exact .inl ⟨b,_,hb⟩,oa _,rfl⟩
   have hv:RV (m.add 1 none 0) (.all 1) a1:= .Nf _ _ (by have:=Ii.len;simp [Mp.add,Mp.Fi] at this ⊢) (xd _ _ _ _) ha;rcases ha with rfl|rfl<;>exact ⟨_,Hv,rfl,_,hp.1,hv,hp.2,Bo⟩
 · have Of:=hh.wm 0 x hx (Nd _);have EG:=(hh.Ae 0 x hx).2;have hlen:(l.take i++l.drop j).length=l.length-(j-i):=by simp;omega
   have hp:=Ii.push (Ic:=V.Ma Hv x (.cells ((V.On l i j).map V.nf++rows.drop l.length) 1 ty)) (y:= .cells cI (l.take i++l.drop j)) (x:=some x) (n:=l.length-(j-i)) (fun b _ _ h _=>absurd h (HP b)) (by simp [V.Ma]) rfl (fun xv e=>by cases e;exact ⟨by simp [V.Ma];exact EG,Of,fun b s h _=>absurd h (HP b)⟩)
    (rb1 ((xd _ _ _ _).trans hlen.symm) (Vd _ _ _ _) (by
      rw [Ac,if_pos rfl,if_pos EG,show V.On l i j=(l.take i++l.drop j)++Ja (j-i) 0 from rfl,Zu,od]))
   have Bo:Ej m.top m Hv (m.add 1 (some x) (l.length-(j-i))) (V.Ma Hv x (.cells ((V.On l i j).map V.nf++rows.drop l.length) 1 ty)):=⟨tg Ii _ _,fun x' _ oZ=>by rw [Ac,if_neg (fun e=>oZ 0 0 (by rw [<- e];exact hx))],fun b _ xv hb=>by
    by_cases e:b=1
    · subst e;obtain ⟨_,e⟩:=zi hb;cases e;exact .inl ⟨0,0,hx⟩
    · rw [vf _ _ _ e] at hb;exact .inl ⟨b,_,hb⟩,by simp [V.Ma],rfl⟩
   have hv:RV (m.add 1 (some x) (l.length-(j-i))) (.all 1) (.sl x 0 (l.length-(j-i))):=by
    have:=RV.all (m:=m.add 1 (some x) (l.length-(j-i))) 1 x (Vd _ _ _ _);rw [xd] at this;exact this
   refine ⟨_,_,?_,_,hp.1,hv,hp.2,Bo⟩;simp only [V.Mu,Qm];rw [hb];simp only [width];rw [if_pos ⟨Of,hle,by omega,by omega,by omega⟩,hr];rfl
structure sr (A:V.oh) (k:Nat) (f:FuncId) (c:CT) (nb:Nat):Prop where
 nil:∀ H,V.call A k (.fn f []) [.Wa] H=some (.Wa,H)
 Kd:∀ H,V.call A k (.fn f []) [.Kd] H=some (.Kd,H)
 Jr:∀ (H:V.AH) (x:Nat) rows ty,H.bl[x]?=some (.cells rows (width c) ty)->V.call A k (.fn f []) [.sl x 0 0] H=some (.Kd,H)
 sl:∀ (H:V.AH) (x n:Nat) rows ty,H.bl[x]?=some (.cells rows (width c) ty)->0<n->n<=rows.length->(rows.take n).all (fun r=>r.length==width c)=true->n * nb<=70368744177664->n<9223372036854775808->
  ∃ L4,V.call A k (.fn f []) [.sl x 0 n] H=some (.sl H.bl.length 0 n,V.push H (.cells (rows.take n) (width c) L4))
theorem Ys {k:Nat} {f:FuncId} {c:CT} {nb:Nat} (hc:sr A (k+1) f c nb) (hf:∀ cs us H,V.call A (k+1) (.fn f cs) us H=V.call A (k+1) (.fn f []) (us++cs) H) {sp:Spec}
   (jf:∀ X args H K out,sp X args H K=some out->∃ l:List (Eb c),args=[.all 0]/\H=⟨[.cells c l],1⟩/\(l.length * nb<=70368744177664/\l.length<9223372036854775808)/\K (.all 1) ⟨[.cells c l,.cells c l],1⟩=some out):Me (V.call A (k+1)) f sp:=by
 intro X args H K out h;obtain ⟨l,rfl,rfl,⟨hn1,hn2⟩,h'⟩:=jf X args H K out h;refine ⟨_,_,h',rfl,fun m Hv us cs hh hl=> ?_⟩;obtain ⟨a1,l1,e1,q1,q2⟩:=hl.Oh;have e2:l1=[]:=Da.1 q2.1;rw [hf,e1,e2];have empty:∀ a,l=[]->(a= .Wa\/a= .Kd)->Co m Hv (.all 1) ⟨[.cells c l,.cells c l],1⟩ a Hv:=fun a CH ha=>by
   subst CH;have hp:=hh.push (Ic:=Hv) (y:= .cells c []) (x:=none) (n:=0) (fun _ _ _ _ _=>rfl) (oa _) rfl (fun xv e=>by cases e) ⟨xd _ _ _ _,.inl ⟨rfl,Vd _ _ _ _⟩⟩;have Bo:Ej m.top m Hv (m.add 1 none 0) Hv:=⟨tg hh none 0,fun _ _ _=>rfl,fun b _ xv hb=>by
     by_cases e:b=1
     · subst e;obtain ⟨_,e⟩:=zi hb;cases e
     · rw [vf _ _ _ e] at hb;exact .inl ⟨b,_,hb⟩,oa _,rfl⟩
   exact ⟨_,hp.1,.Nf _ _ (by simp [Mp.add,Mp.Fi]) (xd _ _ _ _) ha,hp.2,Bo⟩
 rcases DE hh q1 with ⟨CH,ha⟩|⟨x,rows,ty,rfl,hx,hm,hb,hle,hT⟩
 · rcases ha with rfl|rfl
   · exact ⟨_,_,hc.nil Hv,empty _ CH (.inl rfl)⟩
   · exact ⟨_,_,hc.Kd Hv,empty _ CH (.inr rfl)⟩
 · by_cases h0:l.length=0
   · rw [h0];exact ⟨_,_,hc.Jr Hv x rows ty hb,empty _ (Da.1 h0) (.inr rfl)⟩
   · obtain ⟨L4,hs⟩:=hc.sl Hv x l.length rows ty hb (by omega) hle (Yb.2 fun r hr=>by rw [beq_iff_eq];exact hT.rows hr) hn1 hn2;exact ⟨_,_,hs,hh.zq hT rfl⟩
end
end Go.U
