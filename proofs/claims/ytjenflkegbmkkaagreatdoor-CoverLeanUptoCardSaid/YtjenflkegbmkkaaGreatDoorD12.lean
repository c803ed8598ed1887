/- What these Lean functions compute: plain arithmetic of congruences, the checks of a graph, the values of its registers. -/
import Derived.Test.YtjenflkegbmkkaaGreatDoorD11
import Derived.Test.YtjenflkegbmkkaaGreatDoorD9
set_option linter.unusedVariables false
set_option linter.unusedSimpArgs false
set_option linter.unusedSectionVars false
open Bool renaming true_or→Qj,and_eq_true→Na,not_false→we,not_true→nh,true_eq_false→Kt,false_eq_true→Jd,toNat_false→fA
open Int renaming eq_ofNat_of_zero_le→Kf,toNat→fa,toNat_natCast→Ca,lt_irrefl→Pb
open List renaming foldl_cons→Og,append_assoc→td,length→da,length_singleton→Ve,length_take→Nb,length_nil→Ng,foldl_append→eA,length_append→qd,take_length→Hf,mem_cons→Vb,pairwise_cons→Vl,zipWith→Ny,length_set→Td,replicate→Ba,length_replicate→Jf,append_nil→zi,take_of_length_le→Zc
open Option renaming bind_some→ga
section
set_option maxRecDepth 20000
namespace Go.U
open Go
abbrev T3:=Int×Int×Int×Int×Int×Int×Int×Int×Int×List Int×List (List Int)×List (List Int)×List Bool×List (Bool×Bool)
abbrev E3:=Int×Int×Int×Int×Int×Int×Int×List Int×List (List Int)×List (List Int)×List Bool×List (Bool×Bool)
def lE(z:Int)(o:LL)(m:M):T3:=(o.1,o.2.2.2,Tm z m.fu,(if m.en=0 then m.at_ else o.1),m.en,m.si,m.ki,m.ti,m.re,m.rg,m.ar,m.ma,o.2.1,o.2.2.1)
def ex3(z:Int)(o:LL)(m:M):E3:=(Tm z m.fu,(if m.en=0 then m.at_ else o.1),m.en,m.si,m.ki,m.ti,m.re,m.rg,m.ar,m.ma,o.2.1,o.2.2.1)
section
variable {g:Ga}{D:List Int}{sc:List Int}{m:M}
theorem T5{o:LL}(hF:Gf g D)(hs:sc.length<=9223372036854775807)(hI:Inv g sc m){z:Int}(hz:z=0\/(z<0/\m.fu=0))(hJ:J1 g o)(er:List za):
  Xo.m (g,g,sc,er) (lE z o m)=if m.en=0 then some (.inl (lE z (Cj g o m) (step g sc m)))else some (.inr (ex3 z o m)):=by
 by_cases he:m.en=0
 ·rw[if_pos he];have h0:=hI.at0 he;have Zab:=Z7 hF hs hI he hz;have hsy:=ER (g:=g) (sc:=sc) he;obtain⟨j,hj⟩:=Kf h0.1;have bu:j<g.1.length:=by omega
  have use:∀y,y∈qe (at' g j)->V.ja y m.rg.length=true:=fun y hy=>Ov hF hI bu hy
  have CW:=(hF.JD j bu).KE;have hp:V.ja (j:Int) o.2.1.length=true:=ag (by rw[hJ.pl];exact bu);have hla:=hJ.la;have hwl:=hJ.wl;have hwy:=hJ.wy;generalize step g sc m=m1 at Zab hsy ⊢;obtain⟨la,P,W,way⟩:=o;obtain⟨fu,a,en,si,ki,ti,re,rg,ar,ma⟩:=m;simp only at he hj use Zab hsy hp hla hwl hwy;subst he;subst hj;have Ro:gx g.1 (fa (j:Int)) Ta=at' g j:=rfl;have Zal:(at' g j).1=15->Bh (at' g j,g.1,g.2.1,g.2.2.1,g.2.2.2.1,g.2.2.2.2.1,g.2.2.2.2.2.1,g.2.2.2.2.2.2.1,g.2.2.2.2.2.2.2,sc,Tm z fu,(j:Int),0,si,ki,ti,re,rg,ar,ma)=some (Bp (at' g j) ⟨fu,(j:Int),0,si,ki,ti,re,rg,ar,ma⟩):=fun h=>by
   obtain⟨t1,t2⟩:=CW h;rw[raa (use _ (by simp[qe,h])) (use _ (by simp[qe,h])) t1 t2];simp only[Bp,h,true_and]
  have Eaj:(at' g j).1≠15->Bp (at' g j) ⟨fu,(j:Int),0,si,ki,ti,re,rg,ar,ma⟩=0:=fun h=>by unfold Bp;rw[if_neg (fun k=>h k.1)]
  have fin:∀(w:Int)(W':List (Bool×Bool)),(Sum.elim (fun r3=>some (Sum.inl ((j:Int),w,r3.1,(j:Int),r3.2.1,r3.2.2.1,r3.2.2.2.1,ti,r3.2.2.2.2,rg,ar,ma,P.set j true,W'))) (fun r4=>some (Sum.inl ((j:Int),w,r4.1,r4.2.1,r4.2.2.1,si,ki,r4.2.2.2.1,r4.2.2.2.2.1,r4.2.2.2.2.2.1,r4.2.2.2.2.2.2.1,r4.2.2.2.2.2.2.2,P.set j true,W'))) (oM (up z m1)):Option (T3 ⊕ E3))=some (Sum.inl (lE z ((j:Int),P.set j true,W',w) m1)):=fun w W'=>by
   unfold oM lE up;simp only;by_cases SI:m1.en=0
   ·obtain⟨e1,e2⟩:=hsy.n SI;rw[if_pos SI,if_pos SI,Sum.elim_inr,e1,e2]
   ·obtain⟨e1,e2,e3,e4⟩:=hsy.e SI;rw[if_neg SI,if_neg SI,Sum.elim_inl,e1,e2,e3,e4]
  simp only[LD.m,Xo,lE,Cj,if_true,decide_true,cond_true,ag bu,Ma,Ro,hp,Zab,ga,Ca,mkw];have tail:∀W':List (Bool×Bool),(cond (decide ((at' g j).1=15)) ((Bh (at' g j,g.1,g.2.1,g.2.2.1,g.2.2.2.1,g.2.2.2.2.1,g.2.2.2.2.2.1,g.2.2.2.2.2.2.1,g.2.2.2.2.2.2.2,sc,Tm z fu,(j:Int),0,si,ki,ti,re,rg,ar,ma)).bind fun r1=>(Sum.elim (fun r3=>some (Sum.inl ((j:Int),r1,r3.1,(j:Int),r3.2.1,r3.2.2.1,r3.2.2.2.1,ti,r3.2.2.2.2,rg,ar,ma,P.set j true,W'))) (fun r4=>some (Sum.inl ((j:Int),r1,r4.1,r4.2.1,r4.2.2.1,si,ki,r4.2.2.2.1,r4.2.2.2.2.1,r4.2.2.2.2.2.1,r4.2.2.2.2.2.2.1,r4.2.2.2.2.2.2.2,P.set j true,W'))) (oM (up z m1)):Option (T3 ⊕ E3)))
    (Sum.elim (fun r3=>some (Sum.inl ((j:Int),0,r3.1,(j:Int),r3.2.1,r3.2.2.1,r3.2.2.2.1,ti,r3.2.2.2.2,rg,ar,ma,P.set j true,W'))) (fun r4=>some (Sum.inl ((j:Int),0,r4.1,r4.2.1,r4.2.2.1,si,ki,r4.2.2.2.1,r4.2.2.2.2.1,r4.2.2.2.2.2.1,r4.2.2.2.2.2.2.1,r4.2.2.2.2.2.2.2,P.set j true,W'))) (oM (up z m1))))=some (Sum.inl (lE z ((j:Int),P.set j true,W',Bp (at' g j) ⟨fu,(j:Int),0,si,ki,ti,re,rg,ar,ma⟩) m1)):=fun W'=>by
   by_cases h:(at' g j).1=15
   ·rw[decide_eq_true h,cond_true,Zal h,ga];exact fin _ W'
   ·rw[decide_eq_false h,cond_false,Eaj h];exact fin 0 W'
  by_cases hl:0<=la
  ·have hW:V.ja la W.length=true:=Xi hl (by rw[hwl];exact hla);rcases hwy with rfl|rfl
   ·simp only[hl,decide_true,cond_true,hW,Ma,if_true];exact tail _
   ·have d:¬(1:Int)=0:=by decide
    simp only[hl,decide_true,cond_true,hW,Ma,if_true,d,decide_false,cond_false,if_false];exact tail _
  ·simp only[hl,decide_false,cond_false,if_false];exact tail _
 ·rw[if_neg he];simp only[LD.m,Xo,lE,ex3,he,decide_false,cond_false]
end
end Go.U
end
section
set_option maxRecDepth 20000
namespace Go.U
open Go
def qi(a:za):List za->List za
 |[]=>[a]
 |y::l=>if Mt a y=true then a::y::l else if y=a then y::l else y::qi a l
def Kz(a:za)(s:Bool×List za)(y:za):Bool×List za:=if Mt a y=true/\s.1=false then(true,s.2++[a]++[y])else(s.1||decide (y=a)||Mt a y,s.2++[y])
theorem qB(a:za):∀(l o:List za),l.foldl (Kz a) (true,o)=(true,o++l)
 |[],o=>by simp
 |y::l,o=>by
  rw[Og,Kz,if_neg (by simp),Qj,Qj,qB a l];simp
theorem rJ(a:za):∀(l o:List za),(if(l.foldl (Kz a) (false,o)).1=true then(l.foldl (Kz a) (false,o)).2 else(l.foldl (Kz a) (false,o)).2++[a])=o++qi a l
 |[],o=>by simp[qi]
 |y::l,o=>by
  rw[Og];by_cases h:Mt a y=true
  ·have e:Kz a (false,o) y=(true,o++[a]++[y]):=by unfold Kz;exact if_pos ⟨h,rfl⟩
   rw[e,qB,qi,if_pos h];simp
  ·have e:Kz a (false,o) y=(decide (y=a),o++[y]):=by
    unfold Kz;refine(if_neg (fun k=>h k.1)).trans ?_;rw[Bool.eq_false_iff.2 h,Bool.false_or,Bool.or_false]
   rw[e,qi,if_neg h];by_cases e:y=a
   ·rw[decide_eq_true e,if_pos e,qB];simp
   ·rw[decide_eq_false e,if_neg e,rJ a l (o++[y]),td];rfl
theorem JO(a:za):∀(l:List za)(s:Bool×List za),(l.foldl (Kz a) s).2.length<=s.2.length+2 * l.length
 |[],s=>by simp
 |y::l,s=>by
  have h1:=JO a l (Kz a s y);have h2:(Kz a s y).2.length<=s.2.length+2:=by unfold Kz;split<;>simp
  rw[Og,List.length_cons];omega
theorem WC{X:Type}{o:List za}{x:za}{Z:Option X}(h:o.length<=3000000):ask (decide ((da o+da ([x]:List za)) * 16<=70368744177664)&&decide (da o+da ([x]:List za)<9223372036854775808)) Z=Z:=
 Sd (by simp only[Na,decide_eq_true_eq,Ve];omega)
theorem jN(a:za)(l:List za)(hl:l.length<=1000000):uz (a,l)=some (qi a l):=by
 have hlen:∀i,((l.take i).foldl (Kz a) (false,[])).2.length<=2 * i:=fun i=>by
  have:=JO a (l.take i) (false,[]);rw[Nb]at this;simp only[Ng]at this;omega
 have step:∀i,i<l.length->Yo.m (a,l) (((l.take i).foldl (Kz a) (false,[])).1,(i:Int),((l.take i).foldl (Kz a) (false,[])).2)=some (.inl (((l.take (i+1)).foldl (Kz a) (false,[])).1,((i+1:Nat):Int),((l.take (i+1)).foldl (Kz a) (false,[])).2)):=fun i hi=>by
  have h':(i:Int)<(l.length:Int):=by omega
  have w:Ea ((i:Int)+1)=((i+1:Nat):Int):=by rw[Lb (by omega) (by omega)];rfl
  have hs:=hlen i;rw[Je vb hi,eA,Og,List.foldl_nil];generalize(l.take i).foldl (Kz a) (false,[])=s at hs ⊢;obtain⟨b,o⟩:=s;simp only at hs;obtain⟨y,hy⟩:∃y,gx l i vb=y:=⟨_,rfl⟩;simp only[LD.m,Yo,nt,h',decide_true,cond_true,ag hi,Ma,Ca,w,yai,hy];have ho:o.length<=3000000:=by omega
  have ho2:(o++[a]).length<=3000000:=by rw[qd,Ve];omega
  have e1:Mt a y=(decide (a.1<y.1)||(decide (a.1=y.1)&&decide (a.2<y.2))):=rfl;unfold Kz;rw[e1];by_cases c1:a.1<y.1
  ·rw[decide_eq_true c1,cond_true];cases b
   ·simp only[we,cond_true,WC ho,WC ho2,Qj,and_self,if_true]
   ·simp only[nh,cond_false,cond_true,WC ho,Qj,Kt,and_false,if_false]
  ·rw[decide_eq_false c1,cond_false];by_cases c2:y.1=a.1
   ·rw[decide_eq_true c2,cond_true,decide_eq_true c2.symm];by_cases c3:a.2<y.2
    ·rw[decide_eq_true c3,cond_true];cases b
     ·simp only[we,cond_true,WC ho,WC ho2,Bool.and_self,Bool.or_true,and_self,if_true]
     ·simp only[nh,cond_false,cond_true,WC ho,Qj,Kt,and_false,if_false]
    ·rw[decide_eq_false c3,cond_false];cases b
     ·simp only[cond_false,WC ho,Bool.and_false,Bool.or_false,Bool.false_or,Jd,false_and,if_false]
     ·simp only[cond_true,WC ho,Qj,Kt,and_false,if_false]
   ·rw[decide_eq_false c2,cond_false,decide_eq_false (show ¬a.1=y.1 from fun e=>c2 e.symm)];cases b
    ·simp only[cond_false,WC ho,Bool.false_and,Bool.or_false,Bool.false_or,Jd,false_and,if_false]
    ·simp only[cond_true,WC ho,Qj,Kt,and_false,if_false]
 have:=Bc (step:=Yo.m (a,l)) (n:=l.length) (fun i=>(((l.take i).foldl (Kz a) (false,[])).1,(i:Int),((l.take i).foldl (Kz a) (false,[])).2)) ((l.foldl (Kz a) (false,[])).1,(l.foldl (Kz a) (false,[])).2) (by omega) (fun t=>l.length-t.2.1.toNat) (fun i _=>by simp) step (by
  simp only[LD.m,Yo,nt,Pb,decide_false,cond_false,Hf])
 have Yu:Ia (Yo.m (a,l)) (false,0,[])=_:=this;have hp:=rJ a l [];have hlf:=hlen l.length;rw[Hf]at hlf;unfold uz bQ;rw[Yu,ga];simp only[List.nil_append]at hp;rw[<- hp];cases h:(l.foldl (Kz a) (false,[])).1
 ·simp only[we,cond_true,Jd,if_false];exact WC (by omega)
 ·simp only[nh,cond_false,if_true]
theorem Bv{a x:za}:∀{l:List za},x∈qi a l↔x=a\/x∈l
 |[]=>by simp[qi]
 |y::l=>by
  unfold qi;split
  ·simp
  ·split
   ·rename_i h;subst h;simp
   ·rw[Vb,Bv (l:=l),Vb];exact⟨fun h=>h.elim (fun h=> .inr (.inl h)) fun h=>h.elim .inl fun h=> .inr (.inr h),fun h=>h.elim (fun h=> .inr (.inl h)) fun h=>h.elim .inl fun h=> .inr (.inr h)⟩
theorem TV{a:za}:∀{l:List za},Srt l->l.Nodup->Srt (qi a l)/\(qi a l).Nodup
 |[],_,_=>⟨List.pairwise_singleton _ _,by simp[qi]⟩
 |y::l,hs,hn=>by
  obtain⟨s1,s2⟩:=Vl.1 hs;obtain⟨n1,n2⟩:=List.nodup_cons.1 hn;unfold qi;split
  ·rename_i h;have lt:∀z∈l,Mt z a=false:=fun z hz=>V.tM a y z (V.Rx a y h) (s1 z hz)
   refine⟨Vl.2 ⟨fun z hz=> ?_,hs⟩,List.nodup_cons.2 ⟨fun hm=> ?_,hn⟩⟩
   ·rcases Vb.1 hz with rfl|hz
    ·exact V.Rx _ _ h
    ·exact lt z hz
   ·rcases Vb.1 hm with e|hm
    ·rw[<- e]at h;have h2:=V.Rx a a h;have h:V.Mt a a=true:=h;rw[h]at h2;cases h2
    ·have h2:=s1 a hm;have h:V.Mt a y=true:=h;rw[h2]at h;cases h
  ·rename_i h;split
   ·exact⟨hs,hn⟩
   ·rename_i e;obtain⟨k1,k2⟩:=TV (a:=a) s2 n2;refine⟨Vl.2 ⟨fun z hz=> ?_,k1⟩,List.nodup_cons.2 ⟨fun hm=> ?_,k2⟩⟩
    ·rcases Bv.1 hz with rfl|hz
     ·exact Bool.eq_false_iff.2 h
     ·exact s1 z hz
    ·exact(Bv.1 hm).elim e n1
theorem O9{E:List za}:∀{Q:List za},Srt E->E.Nodup->Srt (Q.foldl (fun l a=>qi a l) E)/\(Q.foldl (fun l a=>qi a l) E).Nodup/\∀x,x∈Q.foldl (fun l a=>qi a l) E↔x∈E\/x∈Q:=by
 intro Q;induction Q generalizing E with
 |nil=>intro h1 h2;exact⟨h1,h2,fun x=>by simp⟩
 |cons a Q ih=>
  intro h1 h2;obtain⟨k1,k2⟩:=TV (a:=a) h1 h2;obtain⟨q1,q2,q3⟩:=ih k1 k2;refine⟨q1,q2,fun x=> ?_⟩;rw[Og,q3,Bv,Vb];exact⟨fun h=>h.elim (fun h=>h.elim (fun h=> .inr (.inl h)) .inl) fun h=> .inr (.inr h),fun h=>h.elim (fun h=> .inl (.inr h)) fun h=>h.elim (fun h=> .inl (.inl h)) .inr⟩
theorem qJ(a:za):∀l:List za,(qi a l).length<=l.length+1
 |[]=>by simp[qi]
 |y::l=>by
  have:=qJ a l;unfold qi;split
  ·simp
  ·split
   ·simp
   ·simp only[List.length_cons];omega
theorem Ks:∀(Q E:List za),(Q.foldl (fun l a=>qi a l) E).length<=E.length+Q.length
 |[],E=>by simp
 |a::Q,E=>by
  have h1:=Ks Q (qi a E);have h2:=qJ a E;rw[Og,List.length_cons];omega
section
variable {g:Ga}{D:List Int}{sc:List Int}
theorem G5(hF:Gf g D){m:M}(hI:Inv g sc m)(he:m.en=0):(step g sc m).fu<=m.fu:=by
 obtain⟨h0,M9⟩:=hI.at0 he;obtain⟨j,hj⟩:=Kf h0;have bu:j<g.1.length:=by omega
 have k:=fJ (g:=g) (sc:=sc) (x:=at' g j) (m:=m.to (kA (at' g j))) hI.ma hI.re hI.fu.1 he (hF.JD j bu).op;have dc:step g sc m=yn g sc (at' g j) (m.to (kA (at' g j))):=by unfold Go.U.step;rw[hj];rfl
 rw[dc];exact k.fu.2
theorem oad(hF:Gf g D)(hs:sc.length<=9223372036854775807){fu:Int}(vi:fu<=1000000):JF (g,sc,fu)=some (MC g sc fu):=by
 obtain⟨rk,hr,hI,hm⟩:=lM (sc:=sc) hF vi;obtain⟨z,hz⟩:∃z,min fu 0=z:=⟨_,rfl⟩;have hw:=P8 (S:=Xo.m (g,g,sc,(oe g).2.2)) (lE z) (ex3 z) (Cj g) (J1 g) hF (fun o m h ha=>h.next ha.2) (fun m=>z=0\/(z<0/\m.fu=0)) (fun m hI he h=>by
  have h1:=(hI.Yr hF he).1.fu.1;rcases h with h|⟨h,h2⟩
  ·exact .inl h
  ·have:=G5 hF hI he;exact .inr ⟨h,by omega⟩) (fun o m hI hP hJ=>T5 hF hs hI hP hJ (oe g).2.2) hr hI (by simp only[m0];omega) (iW hF) hm
 obtain⟨w1,w2,w3,w4⟩:=hw;have e:DF (g,sc,fu)=some ((C4 g sc fu).2.1,(C4 g sc fu).2.2.1,(if(ls g sc fu).en=1 then[((ls g sc fu).si,(ls g sc fu).ki)]else[]),Tm z (ls g sc fu).fu,(C4 g sc fu).1,(ls g sc fu).en,(ls g sc fu).si,(ls g sc fu).ki,(ls g sc fu).ti,(ls g sc fu).re,(ls g sc fu).rg,(ls g sc fu).ar,(ls g sc fu).ma):=by
  have w2':(ls g sc fu).en≠0:=w2;have w1':Ia (Xo.m (g,g,sc,(oe g).2.2)) ((-1),0,fu,0,0,0,0,0,0,uq g,Up g,[],(oe g).1,(oe g).2.1)=some (ex3 z (C4 g sc fu) (ls g sc fu)):=by
   have e0:Tm z (max fu 0)=fu:=by unfold Tm;split<;>omega
   have:lE z (Z8 g) (m0 g fu)=((-1),0,fu,0,0,0,0,0,0,uq g,Up g,[],(oe g).1,(oe g).2.1):=by
    unfold lE Z8 m0 oe;simp only[e0,if_true]
   rw[<- this];exact w1
  unfold DF aQ;simp only;rw[TN hF,ga,gac hF,ga];simp only;rw[w1',ga];simp only[ex3,if_neg w2'];by_cases h:(ls g sc fu).en=1
  ·rw[decide_eq_true h,cond_true,if_pos h,jN _ _ (by simp[oe]),ga];rfl
  ·rw[decide_eq_false h,cond_false,if_neg h];rfl
 unfold JF uQ;simp only;rw[e,ga];rfl
end
end Go.U
end
section
set_option maxRecDepth 20000
namespace Go.U
open Go
theorem YI{α:Type}{f:α->α->α}{a b:List α}{i:Nat}(d:α)(ha:i<a.length)(hb:i<b.length):Ny f (a.take (i+1)) (b.take (i+1))=Ny f (a.take i) (b.take i)++[f (gx a i d) (gx b i d)]:=by
 rw[Je d ha,Je d hb,List.zipWith_append (by rw[Nb,Nb];omega)];rfl
section
variable {N:Nat}{a b:Pa}
theorem xN(ha:fk N a)(hb:fk N b)(hN:N<=4096){i:Nat}(hi:i<N)(P:List Bool)(W:List (Bool×Bool))(hP:P.length=N)(hW:W.length=N):
  Zm.m (b,a) ((i:Int),P,W)=some (.inl (((i+1:Nat):Int),P.set i (gx a.1 i false||gx b.1 i false),W.set i ((gx a.2.1 i (false,false)).1||(gx b.2.1 i (false,false)).1,(gx a.2.1 i (false,false)).2||(gx b.2.1 i (false,false)).2))):=by
 have a1:=ha.p;have a2:=ha.w;have b1:=hb.p;have b2:=hb.w;have h':(i:Int)<(a.1.length:Int):=by omega
 have w:Ea ((i:Int)+1)=((i+1:Nat):Int):=by rw[Lb (by omega) (by omega)];rfl
 have hg:∀x,gx (W.set i x) i (false,false)=x:=fun x=>by rw[Ym (by omega),if_pos rfl]
 have q1:V.ja (i:Int) a.1.length=true:=ag (by omega);have q2:V.ja (i:Int) b.1.length=true:=ag (by omega);have q3:V.ja (i:Int) a.2.1.length=true:=ag (by omega);have q4:V.ja (i:Int) b.2.1.length=true:=ag (by omega);have q5:V.ja (i:Int) P.length=true:=ag (by omega);have q6:V.ja (i:Int) W.length=true:=ag (by omega);simp only[LD.m,Zm,nt,h',decide_true,cond_true,q1,q2,q3,q4,q5,q6,Ma,Ca,w,Td,List.set_set,hg];cases gx a.1 i false<;>cases(gx a.2.1 i (false,false)).1<;>cases(gx a.2.1 i (false,false)).2<;>simp only[cond_true,cond_false,Qj,Bool.false_or]
theorem E0(ha:fk N a)(hb:fk N b)(hN:N<=4096):Ia (Zm.m (b,a)) (0,Ba N false,Ba N (false,false))=some (Xp a.1 b.1,sn a.2.1 b.2.1):=by
 have a1:=ha.p;have a2:=ha.w;have b1:=hb.p;have b2:=hb.w;have l1:∀i,i<=N->(Xp (a.1.take i) (b.1.take i)).length=i:=fun i hi=>by simp[Xp];omega
 have l2:∀i,i<=N->(sn (a.2.1.take i) (b.2.1.take i)).length=i:=fun i hi=>by simp[sn];omega
 have:=Bc (step:=Zm.m (b,a)) (n:=N) (fun i=>((i:Int),Xp (a.1.take i) (b.1.take i)++Ba (N-i) false,sn (a.2.1.take i) (b.2.1.take i)++Ba (N-i) (false,false))) (Xp a.1 b.1,sn a.2.1 b.2.1) (by omega) (fun t=>N-t.1.toNat) (fun i _=>by simp) (fun i hi=>by
  have k1:=l1 i (by omega);have k2:=l2 i (by omega);rw[xN ha hb hN hi _ _ (by rw[qd,k1,Jf];omega) (by rw[qd,k2,Jf];omega),Rn k1 hi,Rn k2 hi];unfold Xp sn;rw[YI false (show i<a.1.length by omega) (show i<b.1.length by omega),YI (false,false) (show i<a.2.1.length by omega) (show i<b.2.1.length by omega)]) (by
  have h':¬(N:Int)<(a.1.length:Int):=by omega
  simp only[LD.m,Zm,nt,h',decide_false,cond_false,Nat.sub_self,List.replicate_zero,zi];rw[Zc (by omega),Zc (by omega),Zc (by omega),Zc (by omega)])
 simpa[Xp,sn]using this
theorem D0(q:List Bool×List (Bool×Bool))(hE:a.2.2.length<=1000000):Ia (Zo.m ((b,a),q)) (0,[])=some (a.2.2.foldl (fun l x=>qi x l) []):=by
 have:=Bc (step:=Zo.m ((b,a),q)) (n:=a.2.2.length) (fun i=>((i:Int),(a.2.2.take i).foldl (fun l x=>qi x l) [])) (a.2.2.foldl (fun l x=>qi x l) []) (by omega) (fun t=>a.2.2.length-t.1.toNat) (fun i _=>by simp) (fun i hi=>by
  have h':(i:Int)<(a.2.2.length:Int):=by omega
  have w:Ea ((i:Int)+1)=((i+1:Nat):Int):=by rw[Lb (by omega) (by omega)];rfl
  have hl:=Ks (a.2.2.take i) [];rw[Nb]at hl;simp only[Ng]at hl;simp only[LD.m,Zo,nt,h',decide_true,cond_true,ag hi,Ma,Ca,w];rw[jN _ _ (by omega),ga,Je vb hi,eA];rfl) (by
  simp only[LD.m,Zo,nt,Pb,decide_false,cond_false,Hf])
 exact this
theorem xT(q:List Bool×List (Bool×Bool))(E:List za)(hE:b.2.2.length<=300000)(hE2:E.length<=300000):Ia (Ck.m ((b,a),q)) (0,E)=some (b.2.2.foldl (fun l x=>qi x l) E):=by
 have:=Bc (step:=Ck.m ((b,a),q)) (n:=b.2.2.length) (fun i=>((i:Int),(b.2.2.take i).foldl (fun l x=>qi x l) E)) (b.2.2.foldl (fun l x=>qi x l) E) (by omega) (fun t=>b.2.2.length-t.1.toNat) (fun i _=>by simp) (fun i hi=>by
  have h':(i:Int)<(b.2.2.length:Int):=by omega
  have w:Ea ((i:Int)+1)=((i+1:Nat):Int):=by rw[Lb (by omega) (by omega)];rfl
  have hl:=Ks (b.2.2.take i) E;rw[Nb]at hl;simp only[LD.m,Ck,nt,h',decide_true,cond_true,ag hi,Ma,Ca,w];rw[jN _ _ (by omega),ga,Je vb hi,eA];rfl) (by
  simp only[LD.m,Ck,nt,Pb,decide_false,cond_false,Hf])
 exact this
end
section
variable {g:Ga}{D:List Int}
theorem Cov.few(hF:Gf g D){c:Pa}(h:Cov g c):c.2.2.length<=300000:=by
 have:=As _ _ h.nd fun x hx=>(h.e x hx).mem
 have:=BC g;have:=hF.N;omega
theorem zN(hF:Gf g D){a b:Pa}(ha:Cov g a)(hb:Cov g b):xz (b,a.1,a.2.1,a.2.2)=some (vf a b):=by
 have oa:=ha.ok hF;have ob:=hb.ok hF;have a1:=ha.p;have a2:=ha.w;have hN:=hF.N;obtain⟨p1,p2,p3⟩:=O9 (E:=[]) (Q:=a.2.2) .nil List.nodup_nil;obtain⟨r1,r2,r3⟩:=O9 (E:=a.2.2.foldl (fun l x=>qi x l) []) (Q:=b.2.2) p1 p2;have hl:=Ks a.2.2 [];simp only[Ng]at hl;have ea:=ha.few hF;have eb:=hb.few hF;have e3:=E0 oa ob hN;have e9:=D0 (b:=b) (Xp a.1 b.1,sn a.2.1 b.2.1) oa.e;have JL:=xT (a:=a) (Xp a.1 b.1,sn a.2.1 b.2.1) (a.2.2.foldl (fun l x=>qi x l) []) eb (by omega);unfold xz wQ;simp only[nt,a1,a2,Ca];refine(Sd (b:=decide (0<=(g.1.length:Int))&&decide ((g.1.length:Int)<=(g.1.length:Int))&&decide (1 * (g.1.length:Int)<=70368744177664)&&decide ((g.1.length:Int)<9223372036854775808)) (by simp;omega)).trans ?_;refine(Sd (b:=decide (0<=(g.1.length:Int))&&decide ((g.1.length:Int)<=(g.1.length:Int))&&decide (2 * (g.1.length:Int)<=70368744177664)&&decide ((g.1.length:Int)<9223372036854775808)) (by simp;omega)).trans ?_;have e3':Ia (Zm.m (b,a.1,a.2.1,a.2.2)) (0,Ba g.1.length false,Ba g.1.length (false,false))=_:=e3;have e9':Ia (Zo.m ((b,a.1,a.2.1,a.2.2),Xp a.1 b.1,sn a.2.1 b.2.1)) (0,[])=_:=e9;have sam:Ia (Ck.m ((b,a.1,a.2.1,a.2.2),Xp a.1 b.1,sn a.2.1 b.2.1)) (0,a.2.2.foldl (fun l x=>qi x l) [])=_:=JL;rw[e3',ga,e9',ga,sam,ga];congr 1;exact yI rfl rfl (eqE r1 (Sr _) r2 (ha.join hb).nd fun x=>by rw[r3,p3,Gn];simp)
theorem bJ:∀n,Yc (fun _=>1) n=n
 |0=>rfl
 |n+1=>by rw[Yc,bJ n]
theorem RN{N:Nat}(hN:N<=4096){c:Pa}(h:fk N c):sC c=some (AI c:Int):=by
 have hp:=h.p;have hw:=h.w;have he:=h.e;have b1:=fun i=>Fh (f:=fun i=>(gx c.1 i false).toNat) (k:=1) (fun i=>toNat_le _) i
 have b2:=fun i=>Fh (f:=fun i=>(gx c.2.1 i (false,false)).1.toNat+(gx c.2.1 i (false,false)).2.toNat) (k:=2) (fun i=>by have:=toNat_le (gx c.2.1 i (false,false)).1;have:=toNat_le (gx c.2.1 i (false,false)).2;omega) i
 have:=Bc (step:=dr.m c) (n:=N) (fun i=>(((c.2.2.length+Yc (fun i=>(gx c.1 i false).toNat) i+Yc (fun i=>(gx c.2.1 i (false,false)).1.toNat+(gx c.2.1 i (false,false)).2.toNat) i:Nat):Int),(i:Int))) ((c.2.2.length+Yc (fun i=>(gx c.1 i false).toNat) N+Yc (fun i=>(gx c.2.1 i (false,false)).1.toNat+(gx c.2.1 i (false,false)).2.toNat) N:Nat):Int) (by omega) (fun t=>N-t.2.toNat) (fun i _=>by simp) (fun i hi=>by
  have h':(i:Int)<(c.1.length:Int):=by omega
  have w:Ea ((i:Int)+1)=((i+1:Nat):Int):=by rw[Lb (by omega) (by omega)];rfl
  have k1:=b1 i;have k2:=b2 i;have q1:V.ja (i:Int) c.1.length=true:=ag (by omega);have q2:V.ja (i:Int) c.2.1.length=true:=ag (by omega);simp only[LD.m,dr,nt,h',decide_true,cond_true,q1,q2,Ma,Ca,w,Yc];generalize Yc (fun i=>(gx c.1 i false).toNat) i=s1 at *
  generalize Yc (fun i=>(gx c.2.1 i (false,false)).1.toNat+(gx c.2.1 i (false,false)).2.toNat) i=s2 at *
  have wa:∀x:Nat,x<=30000000->Ea ((x:Int)+1)=((x+1:Nat):Int):=fun x hx=>by rw[Lb (by omega) (by omega)];rfl
  have e:∀x y:Nat,x=y->some (Sum.inl (((x:Nat):Int),((i+1:Nat):Int)))=(some (Sum.inl (((y:Nat):Int),((i+1:Nat):Int))):Option ((Int×Int) ⊕ Int)):=fun x y h=>by rw[h]
  cases gx c.1 i false<;>cases(gx c.2.1 i (false,false)).1<;>cases(gx c.2.1 i (false,false)).2<;>simp only[cond_true,cond_false,Bool.toNat_true,fA]
  ·exact e _ _ (by omega)
  ·rw[wa _ (by omega)];exact e _ _ (by omega)
  ·rw[wa _ (by omega)];exact e _ _ (by omega)
  ·rw[wa _ (by omega),wa _ (by omega)];exact e _ _ (by omega)
  ·rw[wa _ (by omega)];exact e _ _ (by omega)
  ·rw[wa _ (by omega),wa _ (by omega)];exact e _ _ (by omega)
  ·rw[wa _ (by omega),wa _ (by omega)];exact e _ _ (by omega)
  ·rw[wa _ (by omega),wa _ (by omega),wa _ (by omega)];exact e _ _ (by omega)) (by
  have h':¬(N:Int)<(c.1.length:Int):=by omega
  simp only[LD.m,dr,nt,h',decide_false,cond_false])
 have Yu:Ia (dr.m c) (nt c.2.2.length,0)=_:=this;unfold sC NQ;rw[Yu,ga];unfold AI;rw[bJ,hp,hw];congr 2;omega
end
end Go.U
end
