/- A second evaluator, over rows of Lean values, and that it is right over the first. -/
import Derived.Test.YtjenflkegbmkkaaGreatDoorB4
import Derived.Test.YtjenflkegbmkkaaGreatDoorA6
set_option linter.unusedVariables false
set_option linter.unusedSimpArgs false
set_option linter.unusedSectionVars false
namespace Go.U
open Go
section
variable [TB:Tbl] {A:V.Par} {m:Mp} {Hv:V.AH}
theorem RRows.cut {c:CT} {l:List (CellT c)} {rows:List (List V.AV)} (h:RRows m (width c) l.length (vw c l) rows) (hn:l.length<=rows.length):RT m c l (rows.take l.length):=
 .of (by simp;omega) fun i row hi hr=>by
  rw [List.getElem?_take,if_pos hi] at hr;obtain ⟨row',h1,h2,_⟩:=h.row hn hi;rw [hr] at h1;cases h1;exact h2
theorem RT.rest {c:CT} {l:List (CellT c)} {rows:List (List V.AV)} (h:RT m c l rows) (rest:List (List V.AV)):RRows m (width c) l.length (vw c l) (rows++rest):=by
 have g:∀ {i:Nat} {row:List V.AV},i<l.length->(rows++rest)[i]?=some row->rows[i]?=some row:=fun {i row} hi hr=>by rwa [List.getElem?_append_left (by rw [h.1];exact hi)] at hr
 exact ⟨h.2.1,fun i row hi hr=>h.2.2.1 i row hi (g hi hr),fun i row k x a hi hr h1 h2=>h.2.2.2 i row k x a hi (g hi hr) h1 h2⟩
abbrev cI:CT:= .int .i64
abbrev cP:CT:= .pair cI cI
theorem vw_get {c:CT} {l:List (CellT c)} {i:Nat} {z:CellT c} (h:l[i]?=some z):vw c l i=enc c z:=by simp only [vw,List.getD_eq_getElem?_getD,h,Option.getD_some]
theorem rt1 (l:List Int):RT m cI l (l.map V.row1):= .of (List.length_map _) fun i row hi hr=>by
 rw [List.getElem?_map] at hr;obtain ⟨z,hz,rfl⟩:=Option.map_eq_some_iff.1 hr;have:vw cI l i=[.int .i64 z]:=vw_get (c:=cI) hz;rw [this];exact .cons (.int _ _) .nil
theorem rt2 (l:List (Int×Int)):RT m cP l (l.map V.row2):= .of (List.length_map _) fun i row hi hr=>by
 rw [List.getElem?_map] at hr;obtain ⟨z,hz,rfl⟩:=Option.map_eq_some_iff.1 hr;have:vw cP l i=[.int .i64 z.1,.int .i64 z.2]:=vw_get (c:=cP) hz;rw [this];exact .cons (.int _ _) (.cons (.int _ _) .nil)
theorem rows1 {l:List Int} {rows:List (List V.AV)} (h:RT m cI l rows):rows=l.map V.row1:=by
 apply List.ext_getElem?;intro i;rw [List.getElem?_map];by_cases hi:i<l.length
 · obtain ⟨row,h1,h2,_⟩:=h.2.row (Nat.le_of_eq h.1.symm) hi;have:vw cI l i=[.int .i64 l[i]]:=vw_get (c:=cI) (List.getElem?_eq_getElem hi);rw [this] at h2;obtain ⟨a,rfl,r⟩:=RL.one h2;cases r;rw [h1,List.getElem?_eq_getElem hi];rfl
 · rw [List.getElem?_eq_none (Nat.le_trans (Nat.le_of_eq h.1) (Nat.le_of_not_lt hi)),List.getElem?_eq_none (Nat.le_of_not_lt hi)];rfl
theorem rows2 {l:List (Int×Int)} {rows:List (List V.AV)} (h:RT m cP l rows):rows=l.map V.row2:=by
 apply List.ext_getElem?;intro i;rw [List.getElem?_map];by_cases hi:i<l.length
 · obtain ⟨row,h1,h2,_⟩:=h.2.row (Nat.le_of_eq h.1.symm) hi;have:vw cP l i=[.int .i64 l[i].1,.int .i64 l[i].2]:=vw_get (c:=cP) (List.getElem?_eq_getElem hi);rw [this] at h2;obtain ⟨a,b,rfl,r1,r2⟩:=RL.two h2;cases r1;cases r2;rw [h1,List.getElem?_eq_getElem hi];rfl
 · rw [List.getElem?_eq_none (Nat.le_trans (Nat.le_of_eq h.1) (Nat.le_of_not_lt hi)),List.getElem?_eq_none (Nat.le_of_not_lt hi)];rfl
theorem unrow1_map:∀ l:List Int,V.unrow1 (l.map V.row1)=some l
 |[]=>rfl
 |x::l=>by simp only [List.map_cons,V.row1,V.unrow1];rw [show l.map V.row1=l.map V.row1 from rfl,unrow1_map l];rfl
theorem unrow2_map:∀ l:List (Int×Int),V.unrow2 (l.map V.row2)=some l
 |[]=>rfl
 |x::l=>by simp only [List.map_cons,V.row2,V.unrow2];rw [show l.map V.row2=l.map V.row2 from rfl,unrow2_map l];rfl
theorem one_all {c:CT} {l:List (CellT c)} {wm:Nat} {a:V.AV} (hh:RH m ⟨[.cells c l],wm⟩ Hv) (ha:RV m (.all 0) a):
  (l=[]/\(a= .nils\/a= .emp))\/∃ x rows ty,a= .sl x 0 l.length/\m.ι 0 0=some x/\m.len 0 0=l.length/\Hv.bl[x]?=some (.cells rows (width c) ty)/\l.length<=rows.length/\RT m c l (rows.take l.length):=by
 obtain ⟨k1,k2⟩:=hh.blk 0 _ rfl;cases ha with
 |all0 _ _ _ hz ha=>exact .inl ⟨List.length_eq_zero_iff.1 (by rw [<- k1];exact hz),ha⟩
 |all _ x hx=>
  rcases k2 with ⟨_,k3⟩|⟨y,rows,ty,k3,k4,k5,k6⟩
  · rw [hx] at k3;cases k3
  · rw [hx] at k3;cases k3;exact .inr ⟨x,rows,ty,by rw [k1],hx,k1,k4,k5,k6.cut k5⟩
theorem one1 {l:List (Int)} {wm:Nat} {a:V.AV} (hh:RH m ⟨[.cells cI l],wm⟩ Hv) (ha:RV m (.all 0) a):
   (l=[]/\(a= .nils\/a= .emp))\/∃ x rows ty,a= .sl x 0 l.length/\m.ι 0 0=some x/\m.len 0 0=l.length/\Hv.bl[x]?=some (.cells rows 1 ty)/\l.length<=rows.length/\V.unrow1 (rows.take l.length)=some l:=by
 rcases one_all hh ha with h|⟨x,rows,ty,h1,h2,h3,h4,h5,h6⟩
 · exact .inl h
 · have e:rows.take l.length=l.map V.row1:=rows1 h6;exact .inr ⟨x,rows,ty,h1,h2,h3,h4,h5,by rw [e];exact unrow1_map l⟩
theorem one2 {l:List (Int×Int)} {wm:Nat} {a:V.AV} (hh:RH m ⟨[.cells cP l],wm⟩ Hv) (ha:RV m (.all 0) a):
   (l=[]/\(a= .nils\/a= .emp))\/∃ x rows ty,a= .sl x 0 l.length/\m.ι 0 0=some x/\m.len 0 0=l.length/\Hv.bl[x]?=some (.cells rows 2 ty)/\l.length<=rows.length/\V.unrow2 (rows.take l.length)=some l:=by
 rcases one_all hh ha with h|⟨x,rows,ty,h1,h2,h3,h4,h5,h6⟩
 · exact .inl h
 · have e:rows.take l.length=l.map V.row2:=rows2 h6;exact .inr ⟨x,rows,ty,h1,h2,h3,h4,h5,by rw [e];exact unrow2_map l⟩
theorem rb1 {l:List (Int)} {b x:Nat} {rest:List (List V.AV)} {ty:Option (TypeId×Nat)} (hl:m.len b 0=l.length) (hx:m.ι b 0=some x) (hb:Hv.bl[x]?=some (.cells (l.map V.row1++rest) 1 ty)):RB m Hv b (.cells cI l):=
 ⟨hl,.inr ⟨x,_,ty,hx,hb,by rw [List.length_append,List.length_map];exact Nat.le_add_right _ _,(rt1 l).rest _⟩⟩
theorem rb2 {l:List (Int×Int)} {b x:Nat} {rest:List (List V.AV)} {ty:Option (TypeId×Nat)} (hl:m.len b 0=l.length) (hx:m.ι b 0=some x) (hb:Hv.bl[x]?=some (.cells (l.map V.row2++rest) 2 ty)):RB m Hv b (.cells cP l):=
 ⟨hl,.inr ⟨x,_,ty,hx,hb,by rw [List.length_append,List.length_map];exact Nat.le_add_right _ _,(rt2 l).rest _⟩⟩
theorem sort1_spec {k:Nat} {f:FuncId} {srt:List Int->List Int} (hlen:∀ l,(srt l).length=l.length) (he:A.ext f=some (V.sort1X srt)) {sp:Spec}
   (hsp:∀ X args H K out,sp X args H K=some out->∃ l:List Int,args=[.all 0]/\H=⟨[.cells cI l],0⟩/\l.length<4611686018427387904/\K (.tup []) ⟨[.cells cI (srt l)],0⟩=some out):SpecOK (V.call A (k+1)) f sp:=by
 intro X args H K out h;obtain ⟨l,rfl,rfl,hn,h'⟩:=hsp X args H K out h;refine ⟨_,_,h',rfl,fun m Hv us cs hh hl=> ?_⟩;obtain ⟨a1,l1,e1,q1,q2⟩:=hl.cons';have e2:l1=[]:=List.length_eq_zero_iff.1 q2.1;rw [ext_call he,e1,e2];rcases one1 hh q1 with ⟨rfl,ha⟩|⟨x,rows,ty,rfl,hx,hm,hb,hle,hr⟩
 · have hs:srt []=[]:=List.length_eq_zero_iff.1 (by rw [hlen];rfl);have hh:RH m ⟨[.cells cI (srt ([]:List (Int)))],0⟩ Hv:=by rw [hs];exact hh
   rcases ha with rfl|rfl<;>exact ⟨.tup [],Hv,rfl,.same hh (.tup [] [] rfl fun i x a h=>by simp at h)⟩
 · have hwm:=hh.wm 0 x hx (Nat.zero_le _);have hset:=hh.set (b:=0) (y:= .cells cI (srt l)) (yv:= .cells ((srt l).map V.row1++rows.drop l.length) 1 ty) ⟨_,rfl,rfl⟩ hx (by
    have hxl:=(hh.dom 0 x hx).2;exact rb1 ((hm.trans (hlen l).symm)) hx (by rw [vset_get,if_pos rfl,if_pos hxl]))
   refine ⟨.tup [],_,?_,m,hset.1,.tup [] [] rfl (fun i x a h=>by simp at h),.refl m,hset.2⟩;simp only [V.sort1X,List.append_nil];rw [hb];simp only [width];rw [if_pos ⟨hwm,hle,hn⟩,hr];rfl
theorem sort2_spec {k:Nat} {f F:FuncId} {srt:List (Int×Int)->List (Int×Int)} (hlen:∀ l,(srt l).length=l.length) (he:A.ext f=some (V.sort2X F srt)) {sp:Spec}
   (hsp:∀ X args H K out,sp X args H K=some out->∃ l:List (Int×Int),args=[.all 0,.fn F []]/\H=⟨[.cells cP l],0⟩/\l.length<4611686018427387904/\K (.tup []) ⟨[.cells cP (srt l)],0⟩=some out):SpecOK (V.call A (k+1)) f sp:=by
 intro X args H K out h;obtain ⟨l,rfl,rfl,hn,h'⟩:=hsp X args H K out h;refine ⟨_,_,h',rfl,fun m Hv us cs hh hl=> ?_⟩;obtain ⟨a1,l1,e1,q1,q2⟩:=hl.cons';obtain ⟨a2,l2,e2,q3,q4⟩:=q2.cons';have e3:l2=[]:=List.length_eq_zero_iff.1 q4.1;have e4:a2= .fn F []:=by
   cases q3 with
   |fn _ _ us' hl' _=>rw [List.length_eq_zero_iff.1 hl']
 rw [ext_call he,e1,e2,e3,e4];rcases one2 hh q1 with ⟨rfl,ha⟩|⟨x,rows,ty,rfl,hx,hm,hb,hle,hr⟩
 · have hs:srt []=[]:=List.length_eq_zero_iff.1 (by rw [hlen];rfl);have hh:RH m ⟨[.cells cP (srt ([]:List (Int×Int)))],0⟩ Hv:=by rw [hs];exact hh
   rcases ha with rfl|rfl<;>exact ⟨.tup [],Hv,by simp [V.sort2X],.same hh (.tup [] [] rfl fun i x a h=>by simp at h)⟩
 · have hwm:=hh.wm 0 x hx (Nat.zero_le _);have hset:=hh.set (b:=0) (y:= .cells cP (srt l)) (yv:= .cells ((srt l).map V.row2++rows.drop l.length) 2 ty) ⟨_,rfl,rfl⟩ hx (by
    have hxl:=(hh.dom 0 x hx).2;exact rb2 ((hm.trans (hlen l).symm)) hx (by rw [vset_get,if_pos rfl,if_pos hxl]))
   refine ⟨.tup [],_,?_,m,hset.1,.tup [] [] rfl (fun i x a h=>by simp at h),.refl m,hset.2⟩;simp only [V.sort2X,List.append_nil,if_true];rw [hb];simp only [width];rw [if_pos ⟨hwm,hle,hn⟩,hr];rfl
theorem del_spec {k:Nat} {f:FuncId} (he:A.ext f=some V.del1X) {sp:Spec}
   (hsp:∀ X args H K out,sp X args H K=some out->∃ (l:List Int) (i j:Int),args=[.all 0,.int .i64 i,.int .i64 j]/\H=⟨[.cells cI l],0⟩/\(0<=i/\i<=j/\j<=l.length)/\K (.all 1) ⟨[.dead,.cells cI (l.take i.toNat++l.drop j.toNat)],0⟩=some out):SpecOK (V.call A (k+1)) f sp:=by
 intro X args H K out h;obtain ⟨l,i,j,rfl,rfl,⟨hi,hij,hj⟩,h'⟩:=hsp X args H K out h;refine ⟨_,_,h',rfl,fun m Hv us cs hh hl=> ?_⟩;obtain ⟨a1,l1,e1,q1,q2⟩:=hl.cons';obtain ⟨a2,l2,e2,q3,q4⟩:=q2.cons';obtain ⟨a3,l3,e3,q5,q6⟩:=q4.cons';have e4:l3=[]:=List.length_eq_zero_iff.1 q6.1;cases q3;cases q5;rw [ext_call he,e1,e2,e3,e4];have hkill:RH m ⟨[.dead],0⟩ Hv:=hh.kill 0;have hno:∀ b,¬ live (⟨[.dead],0⟩:UH) b:=fun b ⟨z,hz,hz2⟩=>by
   match b,hz with
   |0,hz=>simp at hz;subst hz;simp [liveB] at hz2
   |b+1,hz=>simp at hz
 obtain ⟨i,rfl⟩:∃ i':Nat,i=i':=⟨i.toNat,by omega⟩;obtain ⟨j,rfl⟩:∃ j':Nat,j=j':=⟨j.toNat,by omega⟩;simp only [Int.toNat_natCast];rcases one1 hh q1 with ⟨rfl,ha⟩|⟨x,rows,ty,rfl,hx,hm,hb,hle,hr⟩
 · have ei:i=0:=by simp at hj;omega
   have ej:j=0:=by simp at hj;omega
   subst ei;subst ej;have hp:=hkill.push (Hv':=Hv) (y:= .cells cI []) (x:=none) (n:=0) (fun b _ _ h _=>absurd h (hno b)) (Nat.le_refl _) rfl (fun xv e=>by cases e) ⟨add_len _ _ _ _,.inl ⟨rfl,add_ι _ _ _ _⟩⟩;have hgo:Go' m.top m Hv (m.add 1 none 0) Hv:=⟨add_old hkill none 0,fun _ _ _=>rfl,fun b _ xv hb=>by
    by_cases e:b=1
    · subst e;obtain ⟨_,e⟩:=add_ιs hb;cases e
    · rw [add_ι_ne _ _ _ e] at hb;exact .inl ⟨b,_,hb⟩,Nat.le_refl _,rfl⟩
   have hv:RV (m.add 1 none 0) (.all 1) a1:= .all0 _ _ (by have:=hkill.len;simp [Mp.add,Mp.addF] at this ⊢) (add_len _ _ _ _) ha;rcases ha with rfl|rfl<;>exact ⟨_,Hv,rfl,_,hp.1,hv,hp.2,hgo⟩
 · have hwm:=hh.wm 0 x hx (Nat.zero_le _);have hxl:=(hh.dom 0 x hx).2;have hlen:(l.take i++l.drop j).length=l.length-(j-i):=by simp;omega
   have hp:=hkill.push (Hv':=V.setBl Hv x (.cells ((V.delL l i j).map V.row1++rows.drop l.length) 1 ty)) (y:= .cells cI (l.take i++l.drop j)) (x:=some x) (n:=l.length-(j-i)) (fun b _ _ h _=>absurd h (hno b)) (by simp [V.setBl]) rfl (fun xv e=>by cases e;exact ⟨by simp [V.setBl];exact hxl,hwm,fun b s h _=>absurd h (hno b)⟩)
    (rb1 ((add_len _ _ _ _).trans hlen.symm) (add_ι _ _ _ _) (by
      rw [vset_get,if_pos rfl,if_pos hxl,show V.delL l i j=(l.take i++l.drop j)++List.replicate (j-i) 0 from rfl,List.map_append,List.append_assoc]))
   have hgo:Go' m.top m Hv (m.add 1 (some x) (l.length-(j-i))) (V.setBl Hv x (.cells ((V.delL l i j).map V.row1++rows.drop l.length) 1 ty)):=⟨add_old hkill _ _,fun x' _ hn'=>by rw [vset_get,if_neg (fun e=>hn' 0 0 (by rw [<- e];exact hx))],fun b _ xv hb=>by
    by_cases e:b=1
    · subst e;obtain ⟨_,e⟩:=add_ιs hb;cases e;exact .inl ⟨0,0,hx⟩
    · rw [add_ι_ne _ _ _ e] at hb;exact .inl ⟨b,_,hb⟩,by simp [V.setBl],rfl⟩
   have hv:RV (m.add 1 (some x) (l.length-(j-i))) (.all 1) (.sl x 0 (l.length-(j-i))):=by
    have:=RV.all (m:=m.add 1 (some x) (l.length-(j-i))) 1 x (add_ι _ _ _ _);rw [add_len] at this;exact this
   refine ⟨_,_,?_,_,hp.1,hv,hp.2,hgo⟩;simp only [V.del1X,List.append_nil];rw [hb];simp only [width];rw [if_pos ⟨hwm,hle,by omega,by omega,by omega⟩,hr];rfl
structure CloneCall (A:V.Par) (k:Nat) (f:FuncId) (c:CT) (nb:Nat):Prop where
 nil:∀ H,V.call A k (.fn f []) [.nils] H=some (.nils,H)
 emp:∀ H,V.call A k (.fn f []) [.emp] H=some (.emp,H)
 sl0:∀ (H:V.AH) (x:Nat) rows ty,H.bl[x]?=some (.cells rows (width c) ty)->V.call A k (.fn f []) [.sl x 0 0] H=some (.emp,H)
 sl:∀ (H:V.AH) (x n:Nat) rows ty,H.bl[x]?=some (.cells rows (width c) ty)->0<n->n<=rows.length->(rows.take n).all (fun r=>r.length==width c)=true->n * nb<=70368744177664->n<9223372036854775808->
  ∃ ty',V.call A k (.fn f []) [.sl x 0 n] H=some (.sl H.bl.length 0 n,V.push H (.cells (rows.take n) (width c) ty'))
theorem clone_spec {k:Nat} {f:FuncId} {c:CT} {nb:Nat} (hc:CloneCall A (k+1) f c nb) (hf:∀ cs us H,V.call A (k+1) (.fn f cs) us H=V.call A (k+1) (.fn f []) (us++cs) H) {sp:Spec}
   (hsp:∀ X args H K out,sp X args H K=some out->∃ l:List (CellT c),args=[.all 0]/\H=⟨[.cells c l],1⟩/\(l.length * nb<=70368744177664/\l.length<9223372036854775808)/\K (.all 1) ⟨[.cells c l,.cells c l],1⟩=some out):SpecOK (V.call A (k+1)) f sp:=by
 intro X args H K out h;obtain ⟨l,rfl,rfl,⟨hn1,hn2⟩,h'⟩:=hsp X args H K out h;refine ⟨_,_,h',rfl,fun m Hv us cs hh hl=> ?_⟩;obtain ⟨a1,l1,e1,q1,q2⟩:=hl.cons';have e2:l1=[]:=List.length_eq_zero_iff.1 q2.1;rw [hf,e1,e2];have empty:∀ a,l=[]->(a= .nils\/a= .emp)->HGo m Hv (.all 1) ⟨[.cells c l,.cells c l],1⟩ a Hv:=fun a hl0 ha=>by
   subst hl0;have hp:=hh.push (Hv':=Hv) (y:= .cells c []) (x:=none) (n:=0) (fun _ _ _ _ _=>rfl) (Nat.le_refl _) rfl (fun xv e=>by cases e) ⟨add_len _ _ _ _,.inl ⟨rfl,add_ι _ _ _ _⟩⟩;have hgo:Go' m.top m Hv (m.add 1 none 0) Hv:=⟨add_old hh none 0,fun _ _ _=>rfl,fun b _ xv hb=>by
     by_cases e:b=1
     · subst e;obtain ⟨_,e⟩:=add_ιs hb;cases e
     · rw [add_ι_ne _ _ _ e] at hb;exact .inl ⟨b,_,hb⟩,Nat.le_refl _,rfl⟩
   exact ⟨_,hp.1,.all0 _ _ (by simp [Mp.add,Mp.addF]) (add_len _ _ _ _) ha,hp.2,hgo⟩
 rcases one_all hh q1 with ⟨hl0,ha⟩|⟨x,rows,ty,rfl,hx,hm,hb,hle,hT⟩
 · rcases ha with rfl|rfl
   · exact ⟨_,_,hc.nil Hv,empty _ hl0 (.inl rfl)⟩
   · exact ⟨_,_,hc.emp Hv,empty _ hl0 (.inr rfl)⟩
 · by_cases h0:l.length=0
   · rw [h0];exact ⟨_,_,hc.sl0 Hv x rows ty hb,empty _ (List.length_eq_zero_iff.1 h0) (.inr rfl)⟩
   · obtain ⟨ty',hs⟩:=hc.sl Hv x l.length rows ty hb (by omega) hle (List.all_eq_true.2 fun r hr=>by rw [beq_iff_eq];exact hT.rows hr) hn1 hn2;exact ⟨_,_,hs,hh.newRows hT rfl⟩
end
end Go.U
