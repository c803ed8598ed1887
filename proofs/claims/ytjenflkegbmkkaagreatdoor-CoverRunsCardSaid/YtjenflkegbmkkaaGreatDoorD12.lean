/- What these Lean functions compute: plain arithmetic of congruences, the checks of a graph, the values of its registers. -/
import Derived.Test.YtjenflkegbmkkaaGreatDoorD11
import Derived.Lib.ItoaLen
import Derived.Test.YtjenflkegbmkkaaGreatDoorD9
set_option linter.unusedVariables false
set_option linter.unusedSimpArgs false
set_option linter.unusedSectionVars false
open Bool renaming true_and→wk,not_false→gf,not_true→Zf
open ByteArray renaming size→za,empty→Rz,size_append→Sa,append_assoc→Du
open Int renaming lt_irrefl→Xb,toNat_natCast→La
open List renaming length_cons→Jb,length_nil→Bb,length_set→qe
open Nat renaming le_refl→va,zero_le→je
open Option renaming bind_some→ga
section
set_option maxRecDepth 20000
namespace Go.U
open Go
theorem we{x:Int}(h0:0<=x)(h1:x<=3000000):(Kf x).size<=21:=by
 have e:(Kf x).size=(Lib.itoa x).length:=by simp[Kf,za]
 rw[e];exact Lib.itoa_length_le x (by omega) (by omega)
theorem Yx{x:Int}(h0:0<=x)(h1:x<=3000000):Zl x=some (Kf x):=by
 have k1: -9223372036854775808<=x:=by omega
 have k2:x<=9223372036854775807:=by omega
 simp only[Zl,BP,XJ,fP,jC,k1,k2,decide_true,wk,Oa,ga]
theorem su{x:Int}(h0:0<=x)(h1:x<=3000000):lp x=some (Kf x):=by
 simp only[lp,zP,Yx h0 h1,ga]
def Gu(c:vb)(i:Nat):Nat:=(gx c.1 i false).toNat
def wN(c:vb)(i:Nat):Nat:=(gx c.2.1 i (false,false)).1.toNat+(gx c.2.1 i (false,false)).2.toNat
def aN(g:Ga)(i:Nat):Nat:=if(at' g i).1=15 then 2 else if(at' g i).1=21 then 0 else 1
abbrev sNo:ByteArray:=str [110,111,32]
abbrev YU:ByteArray:=str [10]
abbrev aR:ByteArray:=str [111,110,101,32,119,97,121,32]
def mo(c:vb):Nat->ByteArray
 |0=>Rz
 |i+1=>if gx c.1 i false=true then mo c i else mo c i++(sNo++Kf (i:Int)++YU)
def mR(g:Ga)(c:vb)(i:Nat):Bool:=decide ((at' g i).1=15)&&(gx c.1 i false&& !((gx c.2.1 i (false,false)).1==(gx c.2.1 i (false,false)).2))
def NA(c:vb)(i:Nat):ByteArray:=cond (gx c.2.1 i (false,false)).2 (str [49]) (str [48])
def ow(g:Ga)(c:vb)(b:ByteArray):Nat->ByteArray
 |0=>b
 |i+1=>cond (mR g c i) (ow g c b i++(aR++Kf (i:Int)++str [32]++NA c i++YU)) (ow g c b i)
theorem sz1:sNo.size=3:=rfl
theorem sz2:YU.size=1:=rfl
theorem sz3:aR.size=8:=rfl
theorem sz4:(str [32]).size=1:=rfl
theorem sz5(c:vb)(i:Nat):(NA c i).size=1:=by unfold NA;cases(gx c.2.1 i (false,false)).2<;>rfl
theorem Xu(c:vb):∀i,i<=4096->(mo c i).size<=25 * i
 |0,_=>va _
 |i+1,h=>by
  have ih:=Xu c i (by omega);have:=we (x:=(i:Int)) (by omega) (by omega);unfold mo;split
  ·omega
  ·simp only[Sa,sz1,sz2];omega
theorem Tu(g:Ga)(c:vb)(b:ByteArray):∀i,i<=4096->(ow g c b i).size<=b.size+40 * i
 |0,_=>va _
 |i+1,h=>by
  have ih:=Tu g c b i (by omega);have:=we (x:=(i:Int)) (by omega) (by omega);unfold ow;cases mR g c i
  ·simp only[cond_false];omega
  ·simp only[cond_true,Sa,sz2,sz3,sz4,sz5];omega
theorem L1(g:Ga)(i:Nat):aN g i<=2:=by unfold aN;split<;>(try split)<;>omega
theorem LN(c:vb)(i:Nat):wN c i<=2:=by
 have:=toNat_le (gx c.2.1 i (false,false)).1;have:=toNat_le (gx c.2.1 i (false,false)).2;unfold wN;omega
theorem Yg{X:Type}{n m:Nat}{Z:Option X}(h1:n<=1000000000)(h2:m<=1000000000):ask (decide (n+m<=9223372036854775807)) Z=Z:=Ee (by rw[decide_eq_true_eq];omega)
theorem iZ{a b:ByteArray}(h:b.size+a.size<=70368744177664):qp (a,b)=some (nt a.size,b++a):=by
 simp only[qp,h,decide_true,Oa]
section
variable {g:Ga}{c:vb}{N:Nat}
theorem FZ(i:Nat)(z1 z2 z3 z4:Int)(z5:List Wa)(z6 z7:Int)(z8:Ga×Wa×vb×ByteArray):Ma (dj.m (z1,z2,z3,z4,z5,z6,z7,gx c.2.1 i (false,false),z8)) (0,0)=some ((wN c i:Nat):Int):=by
 have w0:Ea ((0:Int)+1)=1:=by decide
 have w1:Ea ((1:Int)+1)=2:=by decide
 have d0:(0:Int)<2:=by decide
 have d1:(1:Int)<2:=by decide
 have d2:¬(1:Int)=0:=by decide
 unfold wN;generalize gx c.2.1 i (false,false)=w;have s0:dj.m (z1,z2,z3,z4,z5,z6,z7,w,z8) (0,0)=some (.inl (((w.1.toNat:Nat):Int),1)):=by
  simp only[LD.m,dj,d0,decide_true,cond_true,w0];cases w.1<;>rfl
 have s1:dj.m (z1,z2,z3,z4,z5,z6,z7,w,z8) (((w.1.toNat:Nat):Int),1)=some (.inl (((w.1.toNat+w.2.toNat:Nat):Int),2)):=by
  simp only[LD.m,dj,d1,d2,decide_true,decide_false,cond_true,cond_false,w1];cases w.1<;>cases w.2<;>rfl
 have s2:dj.m (z1,z2,z3,z4,z5,z6,z7,w,z8) (((w.1.toNat+w.2.toNat:Nat):Int),2)=some (.inr ((w.1.toNat+w.2.toNat:Nat):Int)):=by
  simp only[LD.m,dj,Xb,decide_false,cond_false]
 exact Xc (step:=dj.m (z1,z2,z3,z4,z5,z6,z7,w,z8)) (n:=2) (fun k=>if k=0 then(0,0)else if k=1 then(((w.1.toNat:Nat):Int),1)else(((w.1.toNat+w.2.toNat:Nat):Int),2)) _ (by decide) (fun t=>2-t.2.toNat) (fun k hk=>by
  obtain rfl|rfl|rfl:k=0\/k=1\/k=2:=by omega
  ·rfl
  ·rfl
  ·rfl) (fun k hk=>by
  obtain rfl|rfl:k=0\/k=1:=by omega
  ·exact s0
  ·exact s1) s2
theorem GZ(hN:g.1.length<=4096)(h:Ti g.1.length c):Ma (Kq.m (g.1,nt g.1.length,(g,c))) (0,0,0,0,Rz)=some (((yc (Gu c) g.1.length:Nat):Int),((yc (wN c) g.1.length:Nat):Int),((yc (aN g) g.1.length:Nat):Int),mo c g.1.length):=by
 have hp:=h.p;have hw:=h.w;have:=Xc (step:=Kq.m (g.1,nt g.1.length,(g,c))) (n:=g.1.length) (fun i=>(((yc (Gu c) i:Nat):Int),((yc (wN c) i:Nat):Int),((yc (aN g) i:Nat):Int),(i:Int),mo c i)) (((yc (Gu c) g.1.length:Nat):Int),((yc (wN c) g.1.length:Nat):Int),((yc (aN g) g.1.length:Nat):Int),mo c g.1.length) (by omega) (fun t=>g.1.length-t.2.2.2.1.toNat) (fun i _=>by simp) (fun i hi=>by
  have h':(i:Int)<(g.1.length:Int):=by omega
  have w:Ea ((i:Int)+1)=((i+1:Nat):Int):=by rw[Qb (by omega) (by omega)];rfl
  have b1:=uf (f:=Gu c) (k:=1) (fun i=>toNat_le _) i;have b2:=uf (LN c) i;have b3:=uf (L1 g) i;have m1:=Xu c i (by omega);have i1:=we (x:=(i:Int)) (by omega) (by omega);have w2:=LN c i;have x1:∀a b:Nat,a<=10000000->b<=10->Ea ((a:Int)+(b:Int))=((a+b:Nat):Int):=fun a b ha hb=>by rw[Qb (by omega) (by omega)];rfl
  have y1:Ea (((yc (wN c) i:Nat):Int)+((wN c i:Nat):Int))=((yc (wN c) (i+1):Nat):Int):=x1 _ _ (by omega) (by omega);have y2:=x1 (yc (aN g) i) 2 (by omega) (by omega);have y3:=x1 (yc (aN g) i) 1 (by omega) (by omega);have y4:=x1 (yc (Gu c) i) 1 (by omega) (by omega);have q1:V.ja (i:Int) c.1.length=true:=fg (by omega);have q2:V.ja (i:Int) c.2.1.length=true:=fg (by omega);have Uk:gx g.1 i Ta=at' g i:=rfl;have e8:=fun z1 z2 z3 z4 z5 z6 z7 z8=>FZ (c:=c) i z1 z2 z3 z4 z5 z6 z7 z8
  simp only[LD.m,Kq,nt,h',decide_true,cond_true,fg hi,Oa,La,w,Uk,q1,q2,Yx (x:=(i:Int)) (by omega) (by omega),ga];have e8':∀z1 z2 z3 z4 z5 z6 z7 z8,Ma (dj.m (z1,z2,z3,z4,z5,z6,z7,gx c.2.1 i (false,false),z8)) (0,0)=some ((wN c i:Nat):Int):=e8;have e38:qp (sNo++Kf (i:Int)++YU,mo c i)=some (nt (sNo++Kf (i:Int)++YU).size,mo c i++(sNo++Kf (i:Int)++YU)):=iZ (by simp only[Sa,sz1,sz2];omega);have a1:∀{X:Type}{Z:Option X},ask (decide ((str [110,111,32]).size+(Kf (i:Int)).size<=9223372036854775807)) Z=Z:=Yg (by show 3<=_;omega) (by omega);have a2:∀{X:Type}{Z:Option X},ask (decide ((str [110,111,32]++Kf (i:Int)).size+(str [10]).size<=9223372036854775807)) Z=Z:=Yg (by rw[Sa];have:(str [110,111,32]).size=3:=rfl;omega) (by show 1<=_;omega);rw[e8',ga,y1];simp only[a1,a2,e38,ga];have fin:∀(x:Int)(k:Nat),aN g i=k->x=((yc (aN g) i+k:Nat):Int)->(cond (!gx c.1 i false) (some (Sum.inl (((yc (Gu c) i:Nat):Int),((yc (wN c) (i+1):Nat):Int),x,((i+1:Nat):Int),mo c i++(sNo++Kf (i:Int)++YU)))) (some (Sum.inl (Ea (((yc (Gu c) i:Nat):Int)+1),((yc (wN c) (i+1):Nat):Int),x,((i+1:Nat):Int),mo c i))):Option ((Int×Int×Int×Int×ByteArray) ⊕ (Int×Int×Int×ByteArray)))=some (Sum.inl (((yc (Gu c) (i+1):Nat):Int),((yc (wN c) (i+1):Nat):Int),((yc (aN g) (i+1):Nat):Int),((i+1:Nat):Int),mo c (i+1))):=fun x k hk hx=>by
   have e1:x=((yc (aN g) (i+1):Nat):Int):=by rw[hx,yc,hk]
   rw[<- e1];have p1:yc (Gu c) (i+1)=yc (Gu c) i+(gx c.1 i false).toNat:=rfl;rw[p1,mo];cases gx c.1 i false
   ·rfl
   ·have y4':Ea (((yc (Gu c) i:Nat):Int)+1)=((yc (Gu c) i+1:Nat):Int):=y4;rw[y4'];rfl
  by_cases Zz:(at' g i).1=15
  ·simp only[Zz,decide_true,cond_true];exact fin _ 2 (by unfold aN;rw[if_pos Zz]) y2
  ·simp only[Zz,decide_false,cond_false];by_cases CO:(at' g i).1=21
   ·simp only[CO,decide_true,cond_true];exact fin _ 0 (by unfold aN;rw[if_neg Zz,if_pos CO]) rfl
   ·simp only[CO,decide_false,cond_false];exact fin _ 1 (by unfold aN;rw[if_neg Zz,if_neg CO]) y3) (by
  simp only[LD.m,Kq,nt,Xb,decide_false,cond_false])
 exact this
theorem pT(hN:g.1.length<=4096)(h:Ti g.1.length c)(z1 z2 z3:Int)(b:ByteArray)(hb:b.size<=200000):Ma (jm.m (z1,z2,z3,g.1,nt g.1.length,(g,c))) (0,b)=some (ow g c b g.1.length):=by
 have hp:=h.p;have hw:=h.w;have:=Xc (step:=jm.m (z1,z2,z3,g.1,nt g.1.length,(g,c))) (n:=g.1.length) (fun i=>((i:Int),ow g c b i)) (ow g c b g.1.length) (by omega) (fun t=>g.1.length-t.1.toNat) (fun i _=>by simp) (fun i hi=>by
  have h':(i:Int)<(g.1.length:Int):=by omega
  have w:Ea ((i:Int)+1)=((i+1:Nat):Int):=by rw[Qb (by omega) (by omega)];rfl
  have m1:=Tu g c b i (by omega);have i1:=we (x:=(i:Int)) (by omega) (by omega);have q1:V.ja (i:Int) c.1.length=true:=fg (by omega);have q2:V.ja (i:Int) c.2.1.length=true:=fg (by omega);have Uk:gx g.1 i Ta=at' g i:=rfl;have s1:(str [111,110,101,32,119,97,121,32]).size=8:=rfl;have s2:(str [32]).size=1:=rfl;have s3:(str [49]).size=1:=rfl;have s4:(str [48]).size=1:=rfl;have s5:(str [10]).size=1:=rfl;have e38:∀y:ByteArray,y.size=1->qp (aR++Kf (i:Int)++str [32]++y++YU,ow g c b i)=some (nt (aR++Kf (i:Int)++str [32]++y++YU).size,ow g c b i++(aR++Kf (i:Int)++str [32]++y++YU)):=fun y hy=>iZ (by simp only[Sa,s1,s2,s5,hy];omega)
  have a1:∀{X:Type}{Z:Option X},ask (decide ((str [111,110,101,32,119,97,121,32]).size+(Kf (i:Int)).size<=9223372036854775807)) Z=Z:=Yg (by omega) (by omega);have a2:∀{X:Type}{Z:Option X},ask (decide ((str [111,110,101,32,119,97,121,32]++Kf (i:Int)).size+(str [32]).size<=9223372036854775807)) Z=Z:=Yg (by rw[Sa];omega) (by omega);have a3:∀{X:Type}{Z:Option X}{y:ByteArray},y.size=1->ask (decide ((str [111,110,101,32,119,97,121,32]++Kf (i:Int)++str [32]).size+y.size<=9223372036854775807)) Z=Z:=fun hy=>Yg (by simp only[Sa];omega) (by omega)
  have a4:∀{X:Type}{Z:Option X}{y:ByteArray},y.size=1->ask (decide ((str [111,110,101,32,119,97,121,32]++Kf (i:Int)++str [32]++y).size+(str [10]).size<=9223372036854775807)) Z=Z:=fun hy=>Yg (by simp only[Sa];omega) (by omega)
  simp only[LD.m,jm,nt,h',decide_true,cond_true,fg hi,Oa,La,w,Uk,q1,q2,Yx (x:=(i:Int)) (by omega) (by omega),ga];simp only[a1,a2,a3 s3,a3 s4,a4 s3,a4 s4];rw[ow,mR];by_cases Zz:(at' g i).1=15
  ·simp only[Zz,decide_true,cond_true,wk];cases gx c.1 i false
   ·simp only[cond_false,Bool.false_and]
   ·simp only[cond_true,wk];cases(!((gx c.2.1 i (false,false)).1==(gx c.2.1 i (false,false)).2))
    ·simp only[cond_false]
    ·simp only[cond_true,NA];cases(gx c.2.1 i (false,false)).2
     ·simp only[cond_false];have:=e38 (str [48]) s4;rw[this];rfl
     ·simp only[cond_true];have:=e38 (str [49]) s3;rw[this];rfl
  ·simp only[Zz,decide_false,cond_false,Bool.false_and]) (by
  simp only[LD.m,jm,nt,Xb,decide_false,cond_false])
 exact this
def txt(g:Ga)(c:vb):ByteArray:=
 str [112,108,97,99,101,115,32]++Kf ((yc (Gu c) g.1.length:Nat):Int)++str [32,111,102,32]++Kf (g.1.length:Int)++str [10,119,97,121,115,32]++Kf ((yc (wN c) g.1.length:Nat):Int)++str [32,111,102,32]++Kf ((yc (aN g) g.1.length:Nat):Int)++str [10,101,114,114,111,114,115,32]++Kf (c.2.2.length:Int)++str [10]++ow g c (mo c g.1.length) g.1.length
theorem P3{l:List UInt8}:(str l).size=l.length:=by simp[str,za]
theorem Uz(l r:List UInt8):str l++str r=str (l++r):=by
 apply ByteArray.ext;simp[str]
theorem dZ{a:ByteArray}{x y:Int}(ha:a.size<=100)(h1:0<=x)(h2:x<=3000000)(h3:0<=y)(h4:y<=3000000):PB (a,x,y)=some (a++str [32]++Kf x++str [32,111,102,32]++Kf y++str [10]):=by
 have i1:=we h1 h2;have i2:=we h3 h4;have s1:(str [32]).size=1:=rfl;have s2:(str [32,111,102,32]).size=4:=rfl;have s3:(str [10]).size=1:=rfl;unfold PB AP;simp only;rw[Yg (by omega) (by omega),Yx h1 h2,ga,Yg (by rw[Sa];omega) (by omega),Yg (by simp only[Sa];omega) (by omega),Yx h3 h4,ga,Yg (by simp only[Sa];omega) (by omega),Yg (by simp only[Sa];omega) (by omega)]
theorem MU(hN:g.1.length<=4096):yc (Gu c) g.1.length<=3000000/\yc (wN c) g.1.length<=3000000/\yc (aN g) g.1.length<=3000000:=by
 have b1:=uf (f:=Gu c) (k:=1) (fun i=>toNat_le _) g.1.length;have b2:=uf (LN c) g.1.length;have b3:=uf (L1 g) g.1.length;omega
theorem mad(hN:g.1.length<=4096)(h:Ti g.1.length c):jz (g,c)=some (txt g c):=by
 obtain⟨t1,t2,t3⟩:=MU (c:=c) hN;have he:=h.e;have m1:=Xu c g.1.length hN;have m2:=Tu g c (mo c g.1.length) g.1.length hN;have i1:=we (x:=((yc (Gu c) g.1.length:Nat):Int)) (by omega) (by omega);have i2:=we (x:=(g.1.length:Int)) (by omega) (by omega);have i3:=we (x:=((yc (wN c) g.1.length:Nat):Int)) (by omega) (by omega);have i4:=we (x:=((yc (aN g) g.1.length:Nat):Int)) (by omega) (by omega);have i5:=we (x:=(c.2.2.length:Int)) (by omega) (by omega);have e4:=GZ hN h;have e24:=pT hN h ((yc (Gu c) g.1.length:Nat):Int) ((yc (wN c) g.1.length:Nat):Int) ((yc (aN g) g.1.length:Nat):Int) (mo c g.1.length) (by omega);unfold jz cQ;simp only;rw[e4,ga,e24,ga];simp only[nt];rw[dZ (by rw[P3];decide) (by omega) (by omega) (by omega) (by omega),ga,dZ (by rw[P3];decide) (by omega) (by omega) (by omega) (by omega),ga];unfold txt;generalize yc (Gu c) g.1.length=n1 at *
 generalize yc (wN c) g.1.length=n2 at *
 generalize yc (aN g) g.1.length=n3 at *
 generalize ow g c (mo c g.1.length) g.1.length=o at *
 have s:∀l,(str l).size=l.length:=fun l=>P3
 rw[Yg (by simp only[Sa,s,Jb,Bb];omega) (by simp only[Sa,s,Jb,Bb];omega),Yg (by simp only[Sa,s,Jb,Bb];omega) (by simp only[s,Jb,Bb];omega),Yx (by omega) (by omega),ga,Yg (by simp only[Sa,s,Jb,Bb];omega) (by omega),Yg (by simp only[Sa,s,Jb,Bb];omega) (by simp only[s,Jb,Bb];omega)];simp only[cZ,ga];rw[Yg (by simp only[Sa,s,Jb,Bb];omega) (by omega)];have e1:(str [112,108,97,99,101,115,32]:ByteArray)=str [112,108,97,99,101,115]++str [32]:=by rw[Uz];rfl
 have e2:(str [10,119,97,121,115,32]:ByteArray)=str [10]++(str [119,97,121,115]++str [32]):=by rw[Uz,Uz];rfl
 have e3:(str [10,101,114,114,111,114,115,32]:ByteArray)=str [10]++str [101,114,114,111,114,115,32]:=by rw[Uz];rfl
 rw[e1,e2,e3];simp only[Du]
theorem EZ(hN:g.1.length<=4096)(h:Ti g.1.length c):Ma (Jq.m (g,c)) (0,0,0,str [],0)=some (((yc (Gu c) g.1.length:Nat):Int),((yc (wN c) g.1.length:Nat):Int),((yc (aN g) g.1.length:Nat):Int),mo c g.1.length):=by
 have hp:=h.p;have hw:=h.w;have:=Xc (step:=Jq.m (g,c)) (n:=g.1.length) (fun i=>(((yc (Gu c) i:Nat):Int),((yc (wN c) i:Nat):Int),((yc (aN g) i:Nat):Int),mo c i,(i:Int))) (((yc (Gu c) g.1.length:Nat):Int),((yc (wN c) g.1.length:Nat):Int),((yc (aN g) g.1.length:Nat):Int),mo c g.1.length) (by omega) (fun t=>g.1.length-t.2.2.2.2.toNat) (fun i _=>by simp) (fun i hi=>by
  have h':(i:Int)<(g.1.length:Int):=by omega
  have w:Ea ((i:Int)+1)=((i+1:Nat):Int):=by rw[Qb (by omega) (by omega)];rfl
  have b1:=uf (f:=Gu c) (k:=1) (fun i=>toNat_le _) i;have b2:=uf (LN c) i;have b3:=uf (L1 g) i;have m1:=Xu c i (by omega);have i1:=we (x:=(i:Int)) (by omega) (by omega);have wa:∀x:Nat,x<=30000000->Ea ((x:Int)+1)=((x+1:Nat):Int):=fun x hx=>by rw[Qb (by omega) (by omega)];rfl
  have q1:V.ja (i:Int) c.1.length=true:=fg (by omega);have q2:V.ja (i:Int) c.2.1.length=true:=fg (by omega);have Uk:gx g.1 i Ta=at' g i:=rfl;have s1:(str [110,111,32]).size=3:=rfl;have s2:(str [10]).size=1:=rfl;have c9:∀q2 q3 q5,jy.m ((((yc (Gu c) i:Nat):Int),q2,q3,mo c i,(i:Int)),gx c.1 i false,q5)=some (((yc (Gu c) (i+1):Nat):Int),mo c (i+1)):=fun q2 q3 q5=>by
   simp only[PD.m,jy];have p1:yc (Gu c) (i+1)=yc (Gu c) i+(gx c.1 i false).toNat:=rfl;rw[p1,mo];cases gx c.1 i false
   ·simp only[cond_false];rw[Yg (by omega) (by omega),su (x:=(i:Int)) (by omega) (by omega),ga,Yg (by rw[Sa];omega) (by omega),Yg (by simp only[Sa];omega) (by omega)];simp only[Du];rfl
   ·simp only[cond_true,wa _ (show yc (Gu c) i<=30000000 by omega)];rfl
  have c13:∀(q1 q2 q4 q5)(b1 b2:Bool)(q6)(x:Nat),x<=20000000->Ms.m (q1,q2,(x:Int),q4,q5,b1,b2,q6)=some ((x+b2.toNat:Nat):Int):=fun q1 q2 q4 q5 b1 b2 q6 x hx=>by
   simp only[PD.m,Ms];cases b2
   ·rfl
   ·simp only[cond_true,wa x (by omega)];rfl
  have c15:∀(q1 q2 q4 q5)(b1:Bool)(q6)(x:Nat),x<=20000000->Ls.m (q1,q2,(x:Int),q4,q5,b1,q6)=some ((x+b1.toNat:Nat):Int):=fun q1 q2 q4 q5 b1 q6 x hx=>by
   simp only[PD.m,Ls];cases b1
   ·rfl
   ·simp only[cond_true,wa x (by omega)];rfl
  have c17:∀(q1 q2 q4 q5)(b1:Bool)(q6)(x:Nat),x<=20000000->Ks.m (q1,(x:Int),q2,q4,q5,b1,q6)=some ((x+b1.toNat:Nat):Int):=fun q1 q2 q4 q5 b1 q6 x hx=>by
   simp only[PD.m,Ks];cases b1
   ·rfl
   ·simp only[cond_true,wa x (by omega)];rfl
  have c19:∀(q1 q2 q4 q5)(b1:Bool)(q6)(x:Nat),x<=20000000->Js.m (q1,(x:Int),q2,q4,q5,b1,q6)=some ((x+b1.toNat:Nat):Int):=fun q1 q2 q4 q5 b1 q6 x hx=>by
   simp only[PD.m,Js];cases b1
   ·rfl
   ·simp only[cond_true,wa x (by omega)];rfl
  have t1:=toNat_le (!(decide ((at' g i).1=21)));have t2:=toNat_le (gx c.2.1 i (false,false)).1;have hal:yc (aN g) i+(!(decide ((at' g i).1=21))).toNat+(decide ((at' g i).1=15)).toNat=yc (aN g) (i+1):=by
   rw[yc,aN];by_cases Zz:(at' g i).1=15
   ·have CO:¬(at' g i).1=21:=by omega
    rw[if_pos Zz,decide_eq_true Zz,decide_eq_false CO];rfl
   ·rw[if_neg Zz,decide_eq_false Zz];by_cases CO:(at' g i).1=21
    ·rw[if_pos CO,decide_eq_true CO];rfl
    ·rw[if_neg CO,decide_eq_false CO];rfl
  have hwn:yc (wN c) i+(gx c.2.1 i (false,false)).1.toNat+(gx c.2.1 i (false,false)).2.toNat=yc (wN c) (i+1):=by rw[yc,wN];omega
  simp only[LD.m,Jq,nt,h',decide_true,cond_true,fg hi,Oa,La,w,Uk,q1,q2];rw[c9,ga,c13 _ _ _ _ _ _ _ _ (by omega),ga,c15 _ _ _ _ _ _ _ (by omega),ga,c17 _ _ _ _ _ _ _ (by omega),ga,c19 _ _ _ _ _ _ _ (by omega),ga,hal,hwn]) (by
  simp only[LD.m,Jq,nt,Xb,decide_false,cond_false])
 exact this
theorem mT(hN:g.1.length<=4096)(h:Ti g.1.length c)(z1 z2 z3:Int)(b:ByteArray)(hb:b.size<=200000):Ma (gm.m (z1,z2,z3,(g,c))) (b,0)=some (ow g c b g.1.length):=by
 have hp:=h.p;have hw:=h.w;have:=Xc (step:=gm.m (z1,z2,z3,(g,c))) (n:=g.1.length) (fun i=>(ow g c b i,(i:Int))) (ow g c b g.1.length) (by omega) (fun t=>g.1.length-t.2.toNat) (fun i _=>by simp) (fun i hi=>by
  have h':(i:Int)<(g.1.length:Int):=by omega
  have w:Ea ((i:Int)+1)=((i+1:Nat):Int):=by rw[Qb (by omega) (by omega)];rfl
  have m1:=Tu g c b i (by omega);have i1:=we (x:=(i:Int)) (by omega) (by omega);have q1:V.ja (i:Int) c.1.length=true:=fg (by omega);have q2:V.ja (i:Int) c.2.1.length=true:=fg (by omega);have Uk:gx g.1 i Ta=at' g i:=rfl;have s1:(str [111,110,101,32,119,97,121,32]).size=8:=rfl;have s2:(str [32]).size=1:=rfl;have s5:(str [10]).size=1:=rfl;have s6:=sz5 c i;have r23:Hs.m (z1,z2,z3,(ow g c b i,(i:Int)),(g,c))=some (mR g c i):=by
   simp only[PD.m,Hs,nt,fg hi,Oa,La,Uk,q1,q2,mR];cases decide ((at' g i).1=15)
   ·rfl
   ·simp only[cond_true,wk];cases gx c.1 i false<;>rfl
  have c26:∀q1 q2 q3 q4 q5,Is.m (q1,q2,q3,q4,str [48],(gx c.2.1 i (false,false)).2,q5)=some (NA c i):=fun q1 q2 q3 q4 q5=>by
   simp only[PD.m,Is,NA];cases(gx c.2.1 i (false,false)).2<;>rfl
  have c24:Jo.m (z1,z2,z3,(ow g c b i,(i:Int)),mR g c i,(g,c))=some (ow g c b (i+1)):=by
   rw[ow];have e:∀bb:Bool,Jo.m (z1,z2,z3,(ow g c b i,(i:Int)),bb,(g,c))=some (cond bb (ow g c b i++(aR++Kf (i:Int)++str [32]++NA c i++YU)) (ow g c b i)):=fun bb=>by
    cases bb
    ·rfl
    ·simp only[PD.m,Jo,cond_true,q2,Oa,La];have Gah:=c26 z1 z2 z3 (ow g c b i,(i:Int)) (g,c);simp only[PD.m]at Gah;rw[Gah,ga,Yg (by omega) (by omega),su (x:=(i:Int)) (by omega) (by omega),ga,Yg (by rw[Sa];omega) (by omega),Yg (by simp only[Sa];omega) (by omega),Yg (by simp only[Sa];omega) (by omega),Yg (by simp only[Sa];omega) (by omega)];simp only[Du]
   rw[e]
  simp only[LD.m,gm,nt,h',decide_true,cond_true,w];rw[r23,ga,c24,ga]) (by
  simp only[LD.m,gm,nt,Xb,decide_false,cond_false])
 exact this
theorem lad(hN:g.1.length<=4096)(h:Ti g.1.length c):aC (g,c)=some (txt g c):=by
 obtain⟨t1,t2,t3⟩:=MU (c:=c) hN;have he:=h.e;have m1:=Xu c g.1.length hN;have m2:=Tu g c (mo c g.1.length) g.1.length hN;have i1:=we (x:=((yc (Gu c) g.1.length:Nat):Int)) (by omega) (by omega);have i2:=we (x:=(g.1.length:Int)) (by omega) (by omega);have i3:=we (x:=((yc (wN c) g.1.length:Nat):Int)) (by omega) (by omega);have i4:=we (x:=((yc (aN g) g.1.length:Nat):Int)) (by omega) (by omega);have i5:=we (x:=(c.2.2.length:Int)) (by omega) (by omega);have e4:=EZ hN h;have e24:=mT hN h ((yc (Gu c) g.1.length:Nat):Int) ((yc (wN c) g.1.length:Nat):Int) ((yc (aN g) g.1.length:Nat):Int) (mo c g.1.length) (by omega);unfold aC aQ;rw[e4,ga];simp only;rw[e24,ga];simp only[nt];unfold txt;generalize yc (Gu c) g.1.length=n1 at *
 generalize yc (wN c) g.1.length=n2 at *
 generalize yc (aN g) g.1.length=n3 at *
 generalize ow g c (mo c g.1.length) g.1.length=o at *
 have s:∀l,(str l).size=l.length:=fun l=>P3
 rw[su (by omega) (by omega),ga,Yg (by simp only[s,Jb,Bb];omega) (by omega),Yg (by simp only[Sa,s,Jb,Bb];omega) (by simp only[s,Jb,Bb];omega),su (by omega) (by omega),ga,Yg (by simp only[Sa,s,Jb,Bb];omega) (by omega),Yg (by simp only[Sa,s,Jb,Bb];omega) (by simp only[s,Jb,Bb];omega),su (by omega) (by omega),ga,Yg (by simp only[Sa,s,Jb,Bb];omega) (by omega),Yg (by simp only[Sa,s,Jb,Bb];omega) (by simp only[s,Jb,Bb];omega),su (by omega) (by omega),ga,Yg (by simp only[Sa,s,Jb,Bb];omega) (by omega),Yg (by simp only[Sa,s,Jb,Bb];omega) (by simp only[s,Jb,Bb];omega),su (by omega) (by omega),ga,Yg (by simp only[Sa,s,Jb,Bb];omega) (by omega),Yg (by simp only[Sa,s,Jb,Bb];omega) (by simp only[s,Jb,Bb];omega),Yg (by simp only[Sa,s,Jb,Bb];omega) (by omega)]
end
end Go.U
end
section
set_option maxRecDepth 20000
namespace Go.U
open Go
theorem F6{N:Nat}(hN:N<=4096)(q)(P:List Bool)(W:List (Bool×Bool))(hP:P.length=N)(hW:W.length=N):Ma (Lt.m q) (0,P,W)=some ():=by
 have key:∀k i(P:List Bool)(W:List (Bool×Bool)),P.length=N->W.length=N->i<=N->N-i<k->Pk (Lt.m q) k ((i:Int),P,W)=some ():=by
  intro k;induction k with
  |zero=>intro i P W _ _ _ h;omega
  |succ k ih=>
   intro i P W hP hW hi hk;by_cases h:i<N
   ·have h':(i:Int)<(P.length:Int):=by omega
    have w:Ea ((i:Int)+1)=((i+1:Nat):Int):=by rw[Qb (by omega) (by omega)];rfl
    have e:Lt.m q ((i:Int),P,W)=some (.inl (((i+1:Nat):Int),P.set i (!(gx P i false)),W.set i (true,true))):=by
     simp only[LD.m,Lt,nt,h',decide_true,cond_true,fg (show i<P.length by omega),fg (show i<W.length by omega),Oa,La,w]
    simp only[Pk,e,ga];exact ih (i+1) _ _ (by rw[qe];exact hP) (by rw[qe];exact hW) (by omega) (by omega)
   ·have h':¬(i:Int)<(P.length:Int):=by omega
    have e:Lt.m q ((i:Int),P,W)=some (.inr ()):=by
     simp only[LD.m,Lt,nt,h',decide_false,cond_false]
    simp only[Pk,e,ga]
 exact key 18446744073709551616 0 P W hP hW (je _) (by omega)
theorem Vae(g:Ga)(L:List (List Int))(fu:Int)(hG:x7 g)(hL:ShL L)(hn:L.length<=9223372036854775807):CM (g,L,fu)=some true:=by
 unfold CM G6;obtain⟨r,hr,pJ⟩:=Kag hG;simp only;rw[hr,ga];cases r
 ·simp only[gf,cond_true];rw[l_];rfl
 obtain⟨D,hF⟩:=pJ rfl;have hN:=hF.N;obtain⟨f,hf,hf2⟩:=xad fu;simp only[Zf,cond_false];have Ll:f<=1000000:=by omega
 have hS:=YQ hn hL;have hc:=Qae hF Ll hL;have SK:=uad hF Ll hS;have oQ:=qad hF Ll hS;generalize O7 g L f=c at *
 have ok:=hc.toCov.ok hF;have ok0:=(Er g).ok hF;have e16:jz (g,c.1,c.2.1,c.2.2)=some (txt g c):=mad hN ok;have e17:aC (g,c.1,c.2.1,c.2.2)=some (txt g c):=lad hN ok;have e18:=iad hN ok;have e19:YB (c.1,c.2.1,c.2.2)=some (bU c:Int):=gad hN ok;rw[hf,ga,SK,ga,oQ,ga,iN hN ok ok,ga,decide_eq_true rfl];simp only[Zf,cond_false];rw[DH hF,ga,gN hF,ga,iN hN ok0 ok0,ga,decide_eq_true rfl];simp only[Zf,cond_false];rw[e16,ga,e17,ga];simp only[BEq.rfl,Zf,cond_false];rw[e18,ga,e19,ga,decide_eq_true rfl];simp only[Zf,cond_false];rw[F6 hN _ _ _ ok.p ok.w,ga,ga,iN hN ok ok,ga,decide_eq_true rfl];simp only[cond_true];rw[l_];rfl
theorem faj(g:Ga)(a:List (List Int))(fu:Int)(h0:AE maxLen yy g)(h1:AE maxLen (.slice (.slice (.int .i64))) a)(h2:AE maxLen (.int .i64) fu):CM (g,a,fu)=some true:=
 Vae g a fu (C4 (va _) h0) (F_ (va _) h1) (by have:=h1.1.1;rw[Hx]at this;exact this)
end Go.U
end
