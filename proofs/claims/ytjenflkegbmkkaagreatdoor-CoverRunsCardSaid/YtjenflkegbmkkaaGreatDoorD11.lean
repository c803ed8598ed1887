/- What these Lean functions compute: plain arithmetic of congruences, the checks of a graph, the values of its registers. -/
import Derived.Test.YtjenflkegbmkkaaGreatDoorD10
import Derived.Test.YtjenflkegbmkkaaGreatDoorD9
set_option linter.unusedVariables false
set_option linter.unusedSimpArgs false
set_option linter.unusedSectionVars false
open Bool renaming true_or→Ui,and_eq_true→Va,not_false→gf,not_true→Zf,true_eq_false→Ws,false_eq_true→Od
open Int renaming eq_ofNat_of_zero_le→Pf,toNat→fa,toNat_natCast→La,lt_irrefl→Xb
open List renaming foldl_cons→Ve,append_assoc→xd,length_cons→Jb,length→da,length_singleton→Tj,length_take→ic,length_nil→Bb,foldl_append→Qz,foldl_nil→Tw,length_append→qd,take_length→Af,mem_cons→Yb,pairwise_cons→Jl,length_set→qe,replicate→Ca,length_replicate→Of,append_nil→Nn,take_of_length_le→od
open Option renaming bind_some→ga
section
set_option maxRecDepth 20000
namespace Go.U
open Go
abbrev T3:=Int×Int×Int×Int×Int×Int×Int×Int×Int×List Int×List (List Int)×List (List Int)×List Bool×List (Bool×Bool)
abbrev E3:=Int×Int×Int×Int×Int×Int×Int×List Int×List (List Int)×List (List Int)×List Bool×List (Bool×Bool)
def JD(z:Int)(o:UK)(m:M):T3:=(o.1,o.2.2.2,Cm z m.fu,(if m.en=0 then m.at_ else o.1),m.en,m.si,m.ki,m.ti,m.re,m.rg,m.ar,m.ma,o.2.1,o.2.2.1)
def ex3(z:Int)(o:UK)(m:M):E3:=(Cm z m.fu,(if m.en=0 then m.at_ else o.1),m.en,m.si,m.ki,m.ti,m.re,m.rg,m.ar,m.ma,o.2.1,o.2.2.1)
section
variable {g:Ga}{D:List Int}{sc:List Int}{m:M}
theorem E4{o:UK}(hF:Mf g D)(hs:sc.length<=9223372036854775807)(hI:Inv g sc m){z:Int}(hz:z=0\/(z<0/\m.fu=0))(hJ:J1 g o)(er:List Aa):
  Ao.m (g,g,sc,er) (JD z o m)=if m.en=0 then some (.inl (JD z (sj g o m) (step g sc m)))else some (.inr (ex3 z o m)):=by
 by_cases he:m.en=0
 ·rw[if_pos he];have h0:=hI.at0 he;have eab:=Q6 hF hs hI he hz;have hsy:=UQ (g:=g) (sc:=sc) he;obtain⟨j,hj⟩:=Pf h0.1;have It:j<g.1.length:=by omega
  have use:∀y,y∈se (at' g j)->V.ja y m.rg.length=true:=fun y hy=>Av hF hI It hy
  have HV:=(hF.oD j It).oE;have hp:V.ja (j:Int) o.2.1.length=true:=fg (by rw[hJ.pl];exact It);have hla:=hJ.la;have hwl:=hJ.wl;have hwy:=hJ.wy;generalize step g sc m=m1 at eab hsy ⊢;obtain⟨la,P,W,way⟩:=o;obtain⟨fu,a,en,si,ki,ti,re,rg,ar,ma⟩:=m;simp only at he hj use eab hsy hp hla hwl hwy;subst he;subst hj;have Uk:gx g.1 (fa (j:Int)) Ta=at' g j:=rfl;have bal:(at' g j).1=15->vh (at' g j,g.1,g.2.1,g.2.2.1,g.2.2.2.1,g.2.2.2.2.1,g.2.2.2.2.2.1,g.2.2.2.2.2.2.1,g.2.2.2.2.2.2.2,sc,Cm z fu,(j:Int),0,si,ki,ti,re,rg,ar,ma)=some (Vo (at' g j) ⟨fu,(j:Int),0,si,ki,ti,re,rg,ar,ma⟩):=fun h=>by
   obtain⟨t1,t2⟩:=HV h;rw[D_ (use _ (by simp[se,h])) (use _ (by simp[se,h])) t1 t2];simp only[Vo,h,true_and]
  have Nai:(at' g j).1≠15->Vo (at' g j) ⟨fu,(j:Int),0,si,ki,ti,re,rg,ar,ma⟩=0:=fun h=>by unfold Vo;rw[if_neg (fun k=>h k.1)]
  have fin:∀(w:Int)(W':List (Bool×Bool)),(Sum.elim (fun r3=>some (Sum.inl ((j:Int),w,r3.1,(j:Int),r3.2.1,r3.2.2.1,r3.2.2.2.1,ti,r3.2.2.2.2,rg,ar,ma,P.set j true,W'))) (fun r4=>some (Sum.inl ((j:Int),w,r4.1,r4.2.1,r4.2.2.1,si,ki,r4.2.2.2.1,r4.2.2.2.2.1,r4.2.2.2.2.2.1,r4.2.2.2.2.2.2.1,r4.2.2.2.2.2.2.2,P.set j true,W'))) (zL (up z m1)):Option (T3 ⊕ E3))=some (Sum.inl (JD z ((j:Int),P.set j true,W',w) m1)):=fun w W'=>by
   unfold zL JD up;simp only;by_cases lI:m1.en=0
   ·obtain⟨e1,e2⟩:=hsy.n lI;rw[if_pos lI,if_pos lI,Sum.elim_inr,e1,e2]
   ·obtain⟨e1,e2,e3,e4⟩:=hsy.e lI;rw[if_neg lI,if_neg lI,Sum.elim_inl,e1,e2,e3,e4]
  simp only[LD.m,Ao,JD,sj,if_true,decide_true,cond_true,fg It,Oa,Uk,hp,eab,ga,La,mkw];have tail:∀W':List (Bool×Bool),(cond (decide ((at' g j).1=15)) ((vh (at' g j,g.1,g.2.1,g.2.2.1,g.2.2.2.1,g.2.2.2.2.1,g.2.2.2.2.2.1,g.2.2.2.2.2.2.1,g.2.2.2.2.2.2.2,sc,Cm z fu,(j:Int),0,si,ki,ti,re,rg,ar,ma)).bind fun r1=>(Sum.elim (fun r3=>some (Sum.inl ((j:Int),r1,r3.1,(j:Int),r3.2.1,r3.2.2.1,r3.2.2.2.1,ti,r3.2.2.2.2,rg,ar,ma,P.set j true,W'))) (fun r4=>some (Sum.inl ((j:Int),r1,r4.1,r4.2.1,r4.2.2.1,si,ki,r4.2.2.2.1,r4.2.2.2.2.1,r4.2.2.2.2.2.1,r4.2.2.2.2.2.2.1,r4.2.2.2.2.2.2.2,P.set j true,W'))) (zL (up z m1)):Option (T3 ⊕ E3)))
    (Sum.elim (fun r3=>some (Sum.inl ((j:Int),0,r3.1,(j:Int),r3.2.1,r3.2.2.1,r3.2.2.2.1,ti,r3.2.2.2.2,rg,ar,ma,P.set j true,W'))) (fun r4=>some (Sum.inl ((j:Int),0,r4.1,r4.2.1,r4.2.2.1,si,ki,r4.2.2.2.1,r4.2.2.2.2.1,r4.2.2.2.2.2.1,r4.2.2.2.2.2.2.1,r4.2.2.2.2.2.2.2,P.set j true,W'))) (zL (up z m1))))=some (Sum.inl (JD z ((j:Int),P.set j true,W',Vo (at' g j) ⟨fu,(j:Int),0,si,ki,ti,re,rg,ar,ma⟩) m1)):=fun W'=>by
   by_cases h:(at' g j).1=15
   ·rw[decide_eq_true h,cond_true,bal h,ga];exact fin _ W'
   ·rw[decide_eq_false h,cond_false,Nai h];exact fin 0 W'
  by_cases hl:0<=la
  ·have hW:V.ja la W.length=true:=wj hl (by rw[hwl];exact hla);rcases hwy with rfl|rfl
   ·simp only[hl,decide_true,cond_true,hW,Oa,if_true];exact tail _
   ·have d:¬(1:Int)=0:=by decide
    simp only[hl,decide_true,cond_true,hW,Oa,if_true,d,decide_false,cond_false,if_false];exact tail _
  ·simp only[hl,decide_false,cond_false,if_false];exact tail _
 ·rw[if_neg he];simp only[LD.m,Ao,JD,ex3,he,decide_false,cond_false]
end
end Go.U
end
section
set_option maxRecDepth 20000
namespace Go.U
open Go
def ai(a:Aa):List Aa->List Aa
 |[]=>[a]
 |y::l=>if Ft a y=true then a::y::l else if y=a then y::l else y::ai a l
def xz(a:Aa)(s:Bool×List Aa)(y:Aa):Bool×List Aa:=if Ft a y=true/\s.1=false then(true,s.2++[a]++[y])else(s.1||decide (y=a)||Ft a y,s.2++[y])
theorem fB(a:Aa):∀(l o:List Aa),l.foldl (xz a) (true,o)=(true,o++l)
 |[],o=>by simp
 |y::l,o=>by
  rw[Ve,xz,if_neg (by simp),Ui,Ui,fB a l];simp
theorem JI(a:Aa):∀(l o:List Aa),(if(l.foldl (xz a) (false,o)).1=true then(l.foldl (xz a) (false,o)).2 else(l.foldl (xz a) (false,o)).2++[a])=o++ai a l
 |[],o=>by simp[ai]
 |y::l,o=>by
  rw[Ve];by_cases h:Ft a y=true
  ·have e:xz a (false,o) y=(true,o++[a]++[y]):=by unfold xz;exact if_pos ⟨h,rfl⟩
   rw[e,fB,ai,if_pos h];simp
  ·have e:xz a (false,o) y=(decide (y=a),o++[y]):=by
    unfold xz;refine(if_neg (fun k=>h k.1)).trans ?_;rw[Bool.eq_false_iff.2 h,Bool.false_or,Bool.or_false]
   rw[e,ai,if_neg h];by_cases e:y=a
   ·rw[decide_eq_true e,if_pos e,fB];simp
   ·rw[decide_eq_false e,if_neg e,JI a l (o++[y]),xd];rfl
theorem RN(a:Aa):∀(l:List Aa)(s:Bool×List Aa),(l.foldl (xz a) s).2.length<=s.2.length+2 * l.length
 |[],s=>by simp
 |y::l,s=>by
  have h1:=RN a l (xz a s y);have h2:(xz a s y).2.length<=s.2.length+2:=by unfold xz;split<;>simp
  rw[Ve,Jb];omega
theorem DC{X:Type}{o:List Aa}{x:Aa}{Z:Option X}(h:o.length<=3000000):ask (decide ((da o+da ([x]:List Aa)) * 16<=70368744177664)&&decide (da o+da ([x]:List Aa)<9223372036854775808)) Z=Z:=
 Ee (by simp only[Va,decide_eq_true_eq,Tj];omega)
theorem rM(a:Aa)(l:List Aa)(hl:l.length<=1000000):gz (a,l)=some (ai a l):=by
 have hlen:∀i,((l.take i).foldl (xz a) (false,[])).2.length<=2 * i:=fun i=>by
  have:=RN a (l.take i) (false,[]);rw[ic]at this;simp only[Bb]at this;omega
 have step:∀i,i<l.length->Bo.m (a,l) (((l.take i).foldl (xz a) (false,[])).1,(i:Int),((l.take i).foldl (xz a) (false,[])).2)=some (.inl (((l.take (i+1)).foldl (xz a) (false,[])).1,((i+1:Nat):Int),((l.take (i+1)).foldl (xz a) (false,[])).2)):=fun i hi=>by
  have h':(i:Int)<(l.length:Int):=by omega
  have w:Ea ((i:Int)+1)=((i+1:Nat):Int):=by rw[Qb (by omega) (by omega)];rfl
  have hs:=hlen i;rw[If Fb hi,Qz,Ve,Tw];generalize(l.take i).foldl (xz a) (false,[])=s at hs ⊢;obtain⟨b,o⟩:=s;simp only at hs;obtain⟨y,hy⟩:∃y,gx l i Fb=y:=⟨_,rfl⟩;simp only[LD.m,Bo,nt,h',decide_true,cond_true,fg hi,Oa,La,w,Iah,hy];have ho:o.length<=3000000:=by omega
  have ho2:(o++[a]).length<=3000000:=by rw[qd,Tj];omega
  have e1:Ft a y=(decide (a.1<y.1)||(decide (a.1=y.1)&&decide (a.2<y.2))):=rfl;unfold xz;rw[e1];by_cases c1:a.1<y.1
  ·rw[decide_eq_true c1,cond_true];cases b
   ·simp only[gf,cond_true,DC ho,DC ho2,Ui,and_self,if_true]
   ·simp only[Zf,cond_false,cond_true,DC ho,Ui,Ws,and_false,if_false]
  ·rw[decide_eq_false c1,cond_false];by_cases c2:y.1=a.1
   ·rw[decide_eq_true c2,cond_true,decide_eq_true c2.symm];by_cases c3:a.2<y.2
    ·rw[decide_eq_true c3,cond_true];cases b
     ·simp only[gf,cond_true,DC ho,DC ho2,Bool.and_self,Bool.or_true,and_self,if_true]
     ·simp only[Zf,cond_false,cond_true,DC ho,Ui,Ws,and_false,if_false]
    ·rw[decide_eq_false c3,cond_false];cases b
     ·simp only[cond_false,DC ho,Bool.and_false,Bool.or_false,Bool.false_or,Od,false_and,if_false]
     ·simp only[cond_true,DC ho,Ui,Ws,and_false,if_false]
   ·rw[decide_eq_false c2,cond_false,decide_eq_false (show ¬a.1=y.1 from fun e=>c2 e.symm)];cases b
    ·simp only[cond_false,DC ho,Bool.false_and,Bool.or_false,Bool.false_or,Od,false_and,if_false]
    ·simp only[cond_true,DC ho,Ui,Ws,and_false,if_false]
 have:=Xc (step:=Bo.m (a,l)) (n:=l.length) (fun i=>(((l.take i).foldl (xz a) (false,[])).1,(i:Int),((l.take i).foldl (xz a) (false,[])).2)) ((l.foldl (xz a) (false,[])).1,(l.foldl (xz a) (false,[])).2) (by omega) (fun t=>l.length-t.2.1.toNat) (fun i _=>by simp) step (by
  simp only[LD.m,Bo,nt,Xb,decide_false,cond_false,Af])
 have Up:Ma (Bo.m (a,l)) (false,0,[])=_:=this;have hp:=JI a l [];have hlf:=hlen l.length;rw[Af]at hlf;unfold gz kP;rw[Up,ga];simp only[List.nil_append]at hp;rw[<- hp];cases h:(l.foldl (xz a) (false,[])).1
 ·simp only[gf,cond_true,Od,if_false];exact DC (by omega)
 ·simp only[Zf,cond_false,if_true]
theorem Yu{a x:Aa}:∀{l:List Aa},x∈ai a l↔x=a\/x∈l
 |[]=>by simp[ai]
 |y::l=>by
  unfold ai;split
  ·simp
  ·split
   ·rename_i h;subst h;simp
   ·rw[Yb,Yu (l:=l),Yb];exact⟨fun h=>h.elim (fun h=> .inr (.inl h)) fun h=>h.elim .inl fun h=> .inr (.inr h),fun h=>h.elim (fun h=> .inr (.inl h)) fun h=>h.elim .inl fun h=> .inr (.inr h)⟩
theorem cV{a:Aa}:∀{l:List Aa},r_ l->l.Nodup->r_ (ai a l)/\(ai a l).Nodup
 |[],_,_=>⟨List.pairwise_singleton _ _,by simp[ai]⟩
 |y::l,hs,hn=>by
  obtain⟨s1,s2⟩:=Jl.1 hs;obtain⟨n1,n2⟩:=List.nodup_cons.1 hn;unfold ai;split
  ·rename_i h;have lt:∀z∈l,Ft z a=false:=fun z hz=>V.EL a y z (V.Ix a y h) (s1 z hz)
   refine⟨Jl.2 ⟨fun z hz=> ?_,hs⟩,List.nodup_cons.2 ⟨fun hm=> ?_,hn⟩⟩
   ·rcases Yb.1 hz with rfl|hz
    ·exact V.Ix _ _ h
    ·exact lt z hz
   ·rcases Yb.1 hm with e|hm
    ·rw[<- e]at h;have h2:=V.Ix a a h;have h:V.Ft a a=true:=h;rw[h]at h2;cases h2
    ·have h2:=s1 a hm;have h:V.Ft a y=true:=h;rw[h2]at h;cases h
  ·rename_i h;split
   ·exact⟨hs,hn⟩
   ·rename_i e;obtain⟨k1,k2⟩:=cV (a:=a) s2 n2;refine⟨Jl.2 ⟨fun z hz=> ?_,k1⟩,List.nodup_cons.2 ⟨fun hm=> ?_,k2⟩⟩
    ·rcases Yu.1 hz with rfl|hz
     ·exact Bool.eq_false_iff.2 h
     ·exact s1 z hz
    ·exact(Yu.1 hm).elim e n1
theorem I8{E:List Aa}:∀{Q:List Aa},r_ E->E.Nodup->r_ (Q.foldl (fun l a=>ai a l) E)/\(Q.foldl (fun l a=>ai a l) E).Nodup/\∀x,x∈Q.foldl (fun l a=>ai a l) E↔x∈E\/x∈Q:=by
 intro Q;induction Q generalizing E with
 |nil=>intro h1 h2;exact⟨h1,h2,fun x=>by simp⟩
 |cons a Q ih=>
  intro h1 h2;obtain⟨k1,k2⟩:=cV (a:=a) h1 h2;obtain⟨q1,q2,q3⟩:=ih k1 k2;refine⟨q1,q2,fun x=> ?_⟩;rw[Ve,q3,Yu,Yb];exact⟨fun h=>h.elim (fun h=>h.elim (fun h=> .inr (.inl h)) .inl) fun h=> .inr (.inr h),fun h=>h.elim (fun h=> .inl (.inr h)) fun h=>h.elim (fun h=> .inl (.inl h)) .inr⟩
theorem II(a:Aa):∀l:List Aa,(ai a l).length<=l.length+1
 |[]=>by simp[ai]
 |y::l=>by
  have:=II a l;unfold ai;split
  ·simp
  ·split
   ·simp
   ·simp only[Jb];omega
theorem Pr:∀(Q E:List Aa),(Q.foldl (fun l a=>ai a l) E).length<=E.length+Q.length
 |[],E=>by simp
 |a::Q,E=>by
  have h1:=Pr Q (ai a E);have h2:=II a E;rw[Ve,Jb];omega
section
variable {g:Ga}{D:List Int}{sc:List Int}
theorem Q3(hF:Mf g D){m:M}(hI:Inv g sc m)(he:m.en=0):(step g sc m).fu<=m.fu:=by
 obtain⟨h0,G8⟩:=hI.at0 he;obtain⟨j,hj⟩:=Pf h0;have It:j<g.1.length:=by omega
 have k:=yI (g:=g) (sc:=sc) (x:=at' g j) (m:=m.to (Wz (at' g j))) hI.ma hI.re hI.fu.1 he (hF.oD j It).op;have jc:step g sc m=Sm g sc (at' g j) (m.to (Wz (at' g j))):=by unfold Go.U.step;rw[hj];rfl
 rw[jc];exact k.fu.2
theorem sac(hF:Mf g D)(hs:sc.length<=9223372036854775807){fu:Int}(Ll:fu<=1000000):lF (g,sc,fu)=some (Ew g sc fu):=by
 obtain⟨rk,hr,hI,hm⟩:=wL (sc:=sc) hF Ll;obtain⟨z,hz⟩:∃z,min fu 0=z:=⟨_,rfl⟩;have hw:=F7 (S:=Ao.m (g,g,sc,(af g).2.2)) (JD z) (ex3 z) (sj g) (J1 g) hF (fun o m h ha=>h.next ha.2) (fun m=>z=0\/(z<0/\m.fu=0)) (fun m hI he h=>by
  have h1:=(hI.nxt hF he).1.fu.1;rcases h with h|⟨h,h2⟩
  ·exact .inl h
  ·have:=Q3 hF hI he;exact .inr ⟨h,by omega⟩) (fun o m hI hP hJ=>E4 hF hs hI hP hJ (af g).2.2) hr hI (by simp only[m0];omega) (pV hF) hm
 obtain⟨w1,w2,w3,w4⟩:=hw;have e:gF (g,sc,fu)=some ((B2 g sc fu).2.1,(B2 g sc fu).2.2.1,(if(ls g sc fu).en=1 then[((ls g sc fu).si,(ls g sc fu).ki)]else[]),Cm z (ls g sc fu).fu,(B2 g sc fu).1,(ls g sc fu).en,(ls g sc fu).si,(ls g sc fu).ki,(ls g sc fu).ti,(ls g sc fu).re,(ls g sc fu).rg,(ls g sc fu).ar,(ls g sc fu).ma):=by
  have w2':(ls g sc fu).en≠0:=w2;have w1':Ma (Ao.m (g,g,sc,(af g).2.2)) ((-1),0,fu,0,0,0,0,0,0,cq g,Ap g,[],(af g).1,(af g).2.1)=some (ex3 z (B2 g sc fu) (ls g sc fu)):=by
   have e0:Cm z (max fu 0)=fu:=by unfold Cm;split<;>omega
   have:JD z (P7 g) (m0 g fu)=((-1),0,fu,0,0,0,0,0,0,cq g,Ap g,[],(af g).1,(af g).2.1):=by
    unfold JD P7 m0 af;simp only[e0,if_true]
   rw[<- this];exact w1
  unfold gF jP;simp only;rw[gN hF,ga,mab hF,ga];simp only;rw[w1',ga];simp only[ex3,if_neg w2'];by_cases h:(ls g sc fu).en=1
  ·rw[decide_eq_true h,cond_true,if_pos h,rM _ _ (by simp[af]),ga];rfl
  ·rw[decide_eq_false h,cond_false,if_neg h];rfl
 unfold lF DP;simp only;rw[e,ga];rfl
end
end Go.U
end
section
set_option maxRecDepth 20000
namespace Go.U
open Go
theorem rI{α:Type}{f:α->α->α}{a b:List α}{i:Nat}(d:α)(ha:i<a.length)(hb:i<b.length):List.zipWith f (a.take (i+1)) (b.take (i+1))=List.zipWith f (a.take i) (b.take i)++[f (gx a i d) (gx b i d)]:=by
 rw[If d ha,If d hb,List.zipWith_append (by rw[ic,ic];omega)];rfl
section
variable {N:Nat}{a b:vb}
theorem FM(ha:Ti N a)(hb:Ti N b)(hN:N<=4096){i:Nat}(hi:i<N)(P:List Bool)(W:List (Bool×Bool))(hP:P.length=N)(hW:W.length=N):
  Im.m (b,a) ((i:Int),P,W)=some (.inl (((i+1:Nat):Int),P.set i (gx a.1 i false||gx b.1 i false),W.set i ((gx a.2.1 i (false,false)).1||(gx b.2.1 i (false,false)).1,(gx a.2.1 i (false,false)).2||(gx b.2.1 i (false,false)).2))):=by
 have a1:=ha.p;have a2:=ha.w;have b1:=hb.p;have b2:=hb.w;have h':(i:Int)<(a.1.length:Int):=by omega
 have w:Ea ((i:Int)+1)=((i+1:Nat):Int):=by rw[Qb (by omega) (by omega)];rfl
 have hg:∀x,gx (W.set i x) i (false,false)=x:=fun x=>by rw[ou (by omega),if_pos rfl]
 have q1:V.ja (i:Int) a.1.length=true:=fg (by omega);have q2:V.ja (i:Int) b.1.length=true:=fg (by omega);have q3:V.ja (i:Int) a.2.1.length=true:=fg (by omega);have q4:V.ja (i:Int) b.2.1.length=true:=fg (by omega);have q5:V.ja (i:Int) P.length=true:=fg (by omega);have q6:V.ja (i:Int) W.length=true:=fg (by omega);simp only[LD.m,Im,nt,h',decide_true,cond_true,q1,q2,q3,q4,q5,q6,Oa,La,w,qe,List.set_set,hg];cases gx a.1 i false<;>cases(gx a.2.1 i (false,false)).1<;>cases(gx a.2.1 i (false,false)).2<;>simp only[cond_true,cond_false,Ui,Bool.false_or]
theorem mZ(ha:Ti N a)(hb:Ti N b)(hN:N<=4096):Ma (Im.m (b,a)) (0,Ca N false,Ca N (false,false))=some (Dt a.1 b.1,Cr a.2.1 b.2.1):=by
 have a1:=ha.p;have a2:=ha.w;have b1:=hb.p;have b2:=hb.w;have l1:∀i,i<=N->(Dt (a.1.take i) (b.1.take i)).length=i:=fun i hi=>by simp[Dt];omega
 have l2:∀i,i<=N->(Cr (a.2.1.take i) (b.2.1.take i)).length=i:=fun i hi=>by simp[Cr];omega
 have:=Xc (step:=Im.m (b,a)) (n:=N) (fun i=>((i:Int),Dt (a.1.take i) (b.1.take i)++Ca (N-i) false,Cr (a.2.1.take i) (b.2.1.take i)++Ca (N-i) (false,false))) (Dt a.1 b.1,Cr a.2.1 b.2.1) (by omega) (fun t=>N-t.1.toNat) (fun i _=>by simp) (fun i hi=>by
  have k1:=l1 i (by omega);have k2:=l2 i (by omega);rw[FM ha hb hN hi _ _ (by rw[qd,k1,Of];omega) (by rw[qd,k2,Of];omega),sn k1 hi,sn k2 hi];unfold Dt Cr;rw[rI false (show i<a.1.length by omega) (show i<b.1.length by omega),rI (false,false) (show i<a.2.1.length by omega) (show i<b.2.1.length by omega)]) (by
  have h':¬(N:Int)<(a.1.length:Int):=by omega
  simp only[LD.m,Im,nt,h',decide_false,cond_false,Nat.sub_self,List.replicate_zero,Nn];rw[od (by omega),od (by omega),od (by omega),od (by omega)])
 simpa[Dt,Cr]using this
theorem lZ(q:List Bool×List (Bool×Bool))(hE:a.2.2.length<=1000000):Ma (Co.m ((b,a),q)) (0,[])=some (a.2.2.foldl (fun l x=>ai x l) []):=by
 have:=Xc (step:=Co.m ((b,a),q)) (n:=a.2.2.length) (fun i=>((i:Int),(a.2.2.take i).foldl (fun l x=>ai x l) [])) (a.2.2.foldl (fun l x=>ai x l) []) (by omega) (fun t=>a.2.2.length-t.1.toNat) (fun i _=>by simp) (fun i hi=>by
  have h':(i:Int)<(a.2.2.length:Int):=by omega
  have w:Ea ((i:Int)+1)=((i+1:Nat):Int):=by rw[Qb (by omega) (by omega)];rfl
  have hl:=Pr (a.2.2.take i) [];rw[ic]at hl;simp only[Bb]at hl;simp only[LD.m,Co,nt,h',decide_true,cond_true,fg hi,Oa,La,w];rw[rM _ _ (by omega),ga,If Fb hi,Qz];rfl) (by
  simp only[LD.m,Co,nt,Xb,decide_false,cond_false,Af])
 exact this
theorem GS(q:List Bool×List (Bool×Bool))(E:List Aa)(hE:b.2.2.length<=300000)(hE2:E.length<=300000):Ma (jk.m ((b,a),q)) (0,E)=some (b.2.2.foldl (fun l x=>ai x l) E):=by
 have:=Xc (step:=jk.m ((b,a),q)) (n:=b.2.2.length) (fun i=>((i:Int),(b.2.2.take i).foldl (fun l x=>ai x l) E)) (b.2.2.foldl (fun l x=>ai x l) E) (by omega) (fun t=>b.2.2.length-t.1.toNat) (fun i _=>by simp) (fun i hi=>by
  have h':(i:Int)<(b.2.2.length:Int):=by omega
  have w:Ea ((i:Int)+1)=((i+1:Nat):Int):=by rw[Qb (by omega) (by omega)];rfl
  have hl:=Pr (b.2.2.take i) E;rw[ic]at hl;simp only[LD.m,jk,nt,h',decide_true,cond_true,fg hi,Oa,La,w];rw[rM _ _ (by omega),ga,If Fb hi,Qz];rfl) (by
  simp only[LD.m,jk,nt,Xb,decide_false,cond_false,Af])
 exact this
end
section
variable {g:Ga}{D:List Int}
theorem Cov.few(hF:Mf g D){c:vb}(h:Cov g c):c.2.2.length<=300000:=by
 have:=Bx _ _ h.nd fun x hx=>(h.e x hx).mem
 have:=kC g;have:=hF.N;omega
theorem wac(hF:Mf g D){a b:vb}(ha:Cov g a)(hb:Cov g b):mF (b,a.1,a.2.1,a.2.2)=some (uj a b):=by
 have oa:=ha.ok hF;have ob:=hb.ok hF;have a1:=ha.p;have a2:=ha.w;have hN:=hF.N;obtain⟨p1,p2,p3⟩:=I8 (E:=[]) (Q:=a.2.2) .nil List.nodup_nil;obtain⟨r1,r2,r3⟩:=I8 (E:=a.2.2.foldl (fun l x=>ai x l) []) (Q:=b.2.2) p1 p2;have hl:=Pr a.2.2 [];simp only[Bb]at hl;have ea:=ha.few hF;have eb:=hb.few hF;have e3:=mZ oa ob hN;have e9:=lZ (b:=b) (Dt a.1 b.1,Cr a.2.1 b.2.1) oa.e;have nQ:=GS (a:=a) (Dt a.1 b.1,Cr a.2.1 b.2.1) (a.2.2.foldl (fun l x=>ai x l) []) eb (by omega);unfold mF FP;simp only[nt,a1,a2,La];refine(Ee (b:=decide (0<=(g.1.length:Int))&&decide ((g.1.length:Int)<=(g.1.length:Int))&&decide (1 * (g.1.length:Int)<=70368744177664)&&decide ((g.1.length:Int)<9223372036854775808)) (by simp;omega)).trans ?_;refine(Ee (b:=decide (0<=(g.1.length:Int))&&decide ((g.1.length:Int)<=(g.1.length:Int))&&decide (2 * (g.1.length:Int)<=70368744177664)&&decide ((g.1.length:Int)<9223372036854775808)) (by simp;omega)).trans ?_;have e3':Ma (Im.m (b,a.1,a.2.1,a.2.2)) (0,Ca g.1.length false,Ca g.1.length (false,false))=_:=e3;have e9':Ma (Co.m ((b,a.1,a.2.1,a.2.2),Dt a.1 b.1,Cr a.2.1 b.2.1)) (0,[])=_:=e9;have qal:Ma (jk.m ((b,a.1,a.2.1,a.2.2),Dt a.1 b.1,Cr a.2.1 b.2.1)) (0,a.2.2.foldl (fun l x=>ai x l) [])=_:=nQ;rw[e3',ga,e9',ga,qal,ga];congr 1;exact S0 rfl rfl (eqE r1 (dx _) r2 (ha.join hb).nd fun x=>by rw[r3,p3,pR];simp)
theorem uI:∀n,yc (fun _=>1) n=n
 |0=>rfl
 |n+1=>by rw[yc,uI n]
theorem gad{N:Nat}(hN:N<=4096){c:vb}(h:Ti N c):YB c=some (bU c:Int):=by
 have hp:=h.p;have hw:=h.w;have he:=h.e;have b1:=fun i=>uf (f:=fun i=>(gx c.1 i false).toNat) (k:=1) (fun i=>toNat_le _) i
 have b2:=fun i=>uf (f:=fun i=>(gx c.2.1 i (false,false)).1.toNat+(gx c.2.1 i (false,false)).2.toNat) (k:=2) (fun i=>by have:=toNat_le (gx c.2.1 i (false,false)).1;have:=toNat_le (gx c.2.1 i (false,false)).2;omega) i
 have:=Xc (step:=Iq.m c) (n:=N) (fun i=>(((c.2.2.length+yc (fun i=>(gx c.1 i false).toNat) i+yc (fun i=>(gx c.2.1 i (false,false)).1.toNat+(gx c.2.1 i (false,false)).2.toNat) i:Nat):Int),(i:Int))) ((c.2.2.length+yc (fun i=>(gx c.1 i false).toNat) N+yc (fun i=>(gx c.2.1 i (false,false)).1.toNat+(gx c.2.1 i (false,false)).2.toNat) N:Nat):Int) (by omega) (fun t=>N-t.2.toNat) (fun i _=>by simp) (fun i hi=>by
  have h':(i:Int)<(c.1.length:Int):=by omega
  have w:Ea ((i:Int)+1)=((i+1:Nat):Int):=by rw[Qb (by omega) (by omega)];rfl
  have k1:=b1 i;have k2:=b2 i;have q1:V.ja (i:Int) c.1.length=true:=fg (by omega);have q2:V.ja (i:Int) c.2.1.length=true:=fg (by omega);simp only[LD.m,Iq,nt,h',decide_true,cond_true,q1,q2,Oa,La,w,yc];generalize yc (fun i=>(gx c.1 i false).toNat) i=s1 at *
  generalize yc (fun i=>(gx c.2.1 i (false,false)).1.toNat+(gx c.2.1 i (false,false)).2.toNat) i=s2 at *
  have wa:∀x:Nat,x<=30000000->Ea ((x:Int)+1)=((x+1:Nat):Int):=fun x hx=>by rw[Qb (by omega) (by omega)];rfl
  have e:∀x y:Nat,x=y->some (Sum.inl (((x:Nat):Int),((i+1:Nat):Int)))=(some (Sum.inl (((y:Nat):Int),((i+1:Nat):Int))):Option ((Int×Int) ⊕ Int)):=fun x y h=>by rw[h]
  cases gx c.1 i false<;>cases(gx c.2.1 i (false,false)).1<;>cases(gx c.2.1 i (false,false)).2<;>simp only[cond_true,cond_false,Bool.toNat_true,Bool.toNat_false]
  ·exact e _ _ (by omega)
  ·rw[wa _ (by omega)];exact e _ _ (by omega)
  ·rw[wa _ (by omega)];exact e _ _ (by omega)
  ·rw[wa _ (by omega),wa _ (by omega)];exact e _ _ (by omega)
  ·rw[wa _ (by omega)];exact e _ _ (by omega)
  ·rw[wa _ (by omega),wa _ (by omega)];exact e _ _ (by omega)
  ·rw[wa _ (by omega),wa _ (by omega)];exact e _ _ (by omega)
  ·rw[wa _ (by omega),wa _ (by omega),wa _ (by omega)];exact e _ _ (by omega)) (by
  have h':¬(N:Int)<(c.1.length:Int):=by omega
  simp only[LD.m,Iq,nt,h',decide_false,cond_false])
 have Up:Ma (Iq.m c) (nt c.2.2.length,0)=_:=this;unfold YB YP;rw[Up,ga];unfold bU;rw[uI,hp,hw];congr 2;omega
theorem uad(hF:Mf g D){fu:Int}(Ll:fu<=1000000){l:List (List Int)}(hl:HC l):xF (g,l,fu)=some (O7 g l fu):=by
 have hn:=hl.1;unfold xF jQ;simp only;rw[gN hF,ga];have hc:∀i,Cov g ((l.take i).foldl (fun c s=>uj c (Ew g s fu)) (af g)):=fun i=>Rx hF Ll _ _ (fun s hs=>hl.mem (List.mem_of_mem_take hs)) (Er g)
 have:=Xc (step:=Nq.m ((l,fu),g)) (n:=l.length) (fun i=>((i:Int),(l.take i).foldl (fun c s=>uj c (Ew g s fu)) (af g))) (O7 g l fu) (by omega) (fun t=>l.length-t.1.toNat) (fun i _=>by simp) (fun i hi=>by
  have h':(i:Int)<(l.length:Int):=by omega
  have w:Ea ((i:Int)+1)=((i+1:Nat):Int):=by rw[Qb (by omega) (by omega)];rfl
  have h1:=sac (g:=g) hF (hl.2 i hi) Ll;have h2:=wac hF (hc i) (Dw hF (hl.2 i hi) Ll);simp only[LD.m,Nq,nt,h',decide_true,cond_true,fg hi,Oa,La,w];rw[h1,ga,h2,ga,If [] hi,Qz,Ve,Tw]) (by
  simp only[LD.m,Nq,nt,Xb,decide_false,cond_false,Af];rfl)
 have Up:Ma (Nq.m ((l,fu),g)) (0,(af g).1,(af g).2.1,(af g).2.2)=some (O7 g l fu):=this;rw[Up,ga]
end
end Go.U
end
