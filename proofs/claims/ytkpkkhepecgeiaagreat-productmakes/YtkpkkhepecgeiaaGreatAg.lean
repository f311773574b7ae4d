/- ProductMakes returns true whatever its arguments are: part 7 of 14. No condition. -/
import Derived.Test.YtkpkkhepecgeiaaGreatAf
import Derived.Test.YtkpkkhepecgeiaaGreatAe
import Derived.ChangeArms
set_option linter.all false
set_option maxRecDepth 8000
set_option maxHeartbeats 9000000
set_option autoImplicit true
set_option relaxedAutoImplicit true
namespace Go.Fx
open Go.Proofs.Tryz
open List renaming length->ae,getD->af,replicate->aA,eraseIdx->aB,range->aC
open Inhabited renaming default->ah
open Option renaming some->ak,none->an
open Bool renaming true->aq,false->ar
open Go.IntKind renaming wrap->au
open Int renaming natAbs->ay,toNat->az
section
variable {P:Program}
def Xj (h:WkL l m):Fin n (.bM l) H (.bM m) H:=by
 refine ⟨fun x y=>∃l m,x = .bM l/\y = .bM m/\WkL l m,fun I β _ s=>⟨I,β,s,fun a f rv b c=>?_,fun _ _ _ _ _ _ h=>h⟩,l,m,rfl,rfl,h⟩;obtain ⟨l,m,rfl,rfl,e⟩:=b;cases c with
 | bM z w =>
  have k:=cG.wkL (I:=I) (β:=β) e ⟨z,w⟩;exact .bM k.1 k.2
def A0 (h:WkL l m) (k:jO 0 (.bM l)=aq):Fin 0 (.bM l) H (.bM m) []:=by refine Fin.trans (j6 (m:=0) (ahZ _) aO k) ?_;exact Xj h
def YC {A n cnt:Nat} {R Q L:List Int} {s:Int} (z:ae R=A+1) (y:DK R) (b:n<=A+1) (a:A < 2000000000) (k:cnt=ae Q) (w:0 < s/\s < B30) {x:Env} (g:aF) :
  WP prog 137 ow (jh [.t 4,.t 5] 0 (.bM [iz Q,iz (jt (R.take n) s).1]) []) ((4,.sl 1 1 0 0 cnt)::(8,.q0 s)::(9,.sl 1 0 A 0 (A+1))::(10,.seq 1 ar (br L))::(11,.q0 (n:Int))::x)
   (ak ⟨1,A,br R⟩::ak ⟨1,0,br Q⟩::g):=by
 refine uz ?_;subst k;refine Y ?_;rw[lS (h:=n) (l:=0) (by simp[bL,Opd.ev,lk,intOf?];omega) (by simp[bL])];refine Y ?_;refine AU 0 A (ob:=⟨1,A,br R⟩) (by simp[aI]) (gV R) (LY (R.take n) s bW (y.take n) w ar) (by
  have:dD 0 A 1 (br R) (AV.sl 1 0 A (0+0) (n - 0)) = .seq 1 ar (br (R.take n)):=by simp[dD,qB,fm,akQ];omega
  simp only[aiS,ajE,this];rfl) rfl rfl ?_;refine Y ?_;refine pD (id:=1) (ver:=0) (ob:=⟨1,0,br Q⟩) (by simp[aI]) (gV Q) ?_;have e:dD 1 0 1 (br Q) (.bM [.sl 1 1 0 0 (ae Q),iz (jt (R.take n) s).1]) = .bM [iz Q,iz (jt (R.take n) s).1]:=by simp[dD,qB,fm];rw[aiv aO]
 show Fin 0 (dD 1 0 1 (br Q) _) _ _ _;rw[e];exact aW rfl rfl
def YB (N:DK a) (v:DK b) (hs:cH b=b) (a9:ae a < 1000000000) (h2:2<=ae b) (b0:ae b<=ae a) :
  WP prog 137 ov (jh [.t 4,.t 5] 0 (.bM [iz (sI (k8 b) (ae a+1 - ae b) (iP a (gB b) 0)).1,iz (jt ((sI (k8 b) (ae a+1 - ae b) (iP a (gB b) 0)).2.take (ae b)) (gB b)).1]) [])
   ((0,iz a)::(1,iz b)::F) []:=by
 refine uz ?_;obtain ⟨n,q⟩:∃n,ae b=n+1:=⟨ae b - 1,aD⟩;have ⟨⟨s0,D⟩,lo,hv,hd,hl,C⟩:=Kk v hs q;have O:0 < vl b:=cn (lq n);have r:0 < vl (k8 b):=by rw[hv];exact al6 O s0
 have hi:=Pc N v hs q (cnt:=ae a - n) aD;have ⟨c1,c2⟩:=tp a (y:=gB b) (c:=0) N ⟨aD,D⟩ aR;have hg:=v.getD (ae b - 1);have ht:=IM v hs aD;have hS:gB b=1073741824 / (af b (ae b - 1) 0+1):=rfl;simp only[B30] at hg;have o:(ah:Int)=0:=rfl;have w1:au .i64 ((ae b:Int) - 1)=((ae b - 1:Nat):Int):=by rw[wrap_i64 (by omega) (by omega)];omega
 have w2:au .i64 (af b (ae b - 1) 0+1)=af b (ae b - 1) 0+1:=wrap_i64 aD aD;have a7:=D;simp only[B30] at a7;have w3:au .i64 ((1073741824:Int).tdiv (af b (ae b - 1) 0+1))=gB b:=by rw[ai6 (by omega),<-hS,wrap_i64 (by omega) (by omega)]
 refine Y4 o w1 w2 w3 ?_;refine ⟨aD,aD,?_⟩;refine jJ (Ta (H:=[]) a (gB b) aD N ⟨aD,D⟩ ar) ?_;refine Y ?_;refine cX (Oo b (gB b) (by omega) v ⟨by omega,D⟩ ar) ?_;have V:(iP b (gB b) 0).take (ae b)=k8 b:=rfl;have sl:=wh b (gB b) 0;have wc:au .i64 (((ae a+1:Nat):Int) - ae b)=((ae a+1 - ae b:Nat):Int):=by rw[wrap_i64 (by omega) (by omega)];omega
 have wd:au .i64 (((ae a+1 - ae b:Nat):Int) - 1)=((ae a+1 - ae b:Nat):Int) - 1:=by rw[wrap_i64 (by omega) (by omega)]
 have U:ae (k8 b)=ae b:=aD;have S:((ae a:Int)+1)=((ae a+1:Nat):Int):=rfl;simp only[go_sem,↓reduceIte,ah9,V,ajx,U,wc,wd];refine ⟨aD,aD,?_⟩;rw[aj9];have m:DK (k8 b):=hd;generalize hL:k8 b=L at *;generalize I:iP a (gB b) 0=R0 at *;have s:ae R0=ae a+1:=by rw[<-I,wh]
 obtain ⟨cnt,K⟩:∃c,c=ae a+1 - ae b:=⟨_,rfl⟩;rw[<-K];refine ym 2 (fun k e H=>∃(j:Nat) (R Q:List Int),j<=cnt/\k=j/\ae R=ae a+1/\DK R/\ae Q=cnt/\vl (R.drop j) < vl L/\sI L cnt R0=((sI L j R).1++Q.drop j,(sI L j R).2)/\H=[ak ⟨1,ae a,br R⟩,ak ⟨1,0,br Q⟩] /\
   e=[(4,.sl 1 1 0 0 cnt),(8,.q0 (gB b)),(9,.sl 1 0 (ae a) 0 (ae a+1)),(10,.seq 1 ar (br L)),(11,.q0 (ae b:Int)),(12,.q0 ((j:Int) - 1))])
  (fun e H=>∃R Q:List Int,ae R=ae a+1/\DK R/\ae Q=cnt/\sI L cnt R0=(Q,R)/\∃g F,H=ak ⟨1,ae a,br R⟩::ak ⟨1,0,br Q⟩::g /\
   e=(4,.sl 1 1 0 0 cnt)::(8,.q0 (gB b))::(9,.sl 1 0 (ae a) 0 (ae a+1))::(10,.seq 1 ar (br L))::(11,.q0 (ae b:Int))::F)
  (n:=cnt) (by rintro k e H ⟨j,R,Q,_,_,_,_,_,_,_,rfl,_⟩;rfl)
  ⟨cnt,R0,aA cnt 0,ahZ _,rfl,s,c2,aO,by rw[show cnt=ae a - n by omega];exact hi,by rw[aih (by simp),aiu],rfl,rfl⟩ ?_ ?_
 .rintro kk _ _ ⟨j,R,Q,hj,a8,w,h,z,B,f,rfl,rfl⟩;by_cases T:j=0
  .subst T;have E:(0<=((0:Nat):Int) - 1)=False:=aie aR;refine Y1 E ?_;rw[ajx] at f;exact ⟨R,Q,w,h,z,f,[],_,rfl,rfl⟩
  .obtain ⟨at_,rfl⟩:∃i,j=i+1:=⟨j - 1,aD⟩;have E:(0<=(at_:Int))=True:=aiq aD;have e1:((at_+1:Nat):Int) - 1=(at_:Int):=aD;have ⟨a1,a2,a3,a4,a5,a6⟩:=Pd h m r (j:=at_) aD B;have x1:au .i64 ((at_:Int)+ae b)=((at_+ae b:Nat):Int):=by rw[wrap_i64 (by omega) (by omega)];rfl
   have x2:au .i64 (((at_+ae b:Nat):Int) - 1)=((at_+ae b - 1:Nat):Int):=by rw[wrap_i64 (by omega) (by omega)];omega
   have x3:au .i64 ((ae b:Int) - 1)=((ae b - 1:Nat):Int):=by rw[wrap_i64 (by omega) (by omega)];omega
   have g1:=h.getD (at_+ae b);have g2:=h.getD (at_+ae b - 1);have g3:=m.getD (ae b - 1);simp only[B30] at g1 g2 g3;have a0:0 < af L (ae b - 1) 0:=by rw[q,show n+1 - 1=n by omega];exact C
   have M:ae (lC L R at_)=n+2:=by simp[lC];omega
   have J:DK (lC L R at_):=(h.drop _).take _;have G:=Uy (L:=L) (W:=lC L R at_) (n:=n) m J aD M C;have k1:af (lC L R at_) (n+1) 0=af R (at_+ae b) 0:=by simp only[lC,af,aj7,ajS];rw[ah1 (by omega),q]
   have k2:af (lC L R at_) n 0=af R (at_+ae b - 1) 0:=by simp only[lC,af,aj7,ajS];rw[ah1 (by omega),q,show at_+(n+1) - 1=at_+n by omega]
   have k3:af L n 0=af L (ae b - 1) 0:=by rw[q,show n+1 - 1=n by omega]
   rw[k1,k2,k3] at G;have x4:au .i64 (af R (at_+ae b) 0*1073741824)=af R (at_+ae b) 0*1073741824:=wrap_i64 aD aD;have x5:au .i64 (af R (at_+ae b) 0*1073741824+af R (at_+ae b - 1) 0)=af R (at_+ae b) 0*1073741824+af R (at_+ae b - 1) 0:=wrap_i64 aD aD;generalize hx:af R (at_+ae b) 0*1073741824+af R (at_+ae b - 1) 0=x at *;have q0:0<=x/\x < 1152921504606846976:=aD;obtain ⟨lt,p⟩:∃lt,lt=af L (ae b - 1) 0:=⟨_,rfl⟩;rw[<-p] at a0 g3 G;have q1:0<=x / lt:=ajY aD aD;have q2:x / lt<=x:=Int.ediv_le_self _ aD;have x6:au .i64 (x.tdiv lt)=x / lt:=by rw[ai6 (by omega),wrap_i64 (by omega) (by omega)]
   simp only[go_sem,↓reduceIte,o,E,e1,x1,x2,x3,x4,x5,x6,hx,aia,<-p];refine ⟨aD,aD,aD,aD,aD,aD,?_⟩;refine YD (cnt:=cnt) (n:=ae b) (A:=ae a) w h m aD aD aD aD aD z.symm ?_ ?_ r fun g=>?_
   .simp only[B30];omega
   .rcases Int.le_total (x / lt) 1073741823 with hm | hm
    .rw[Int.min_eq_left hm];exact G
    .rw[Int.min_eq_right hm];exact a1
   .have x7:au .i64 ((at_:Int) - 1)=(at_:Int) - 1:=wrap_i64 aD aD;refine Y1 x7 ?_;have X:∀l:List Int,((br l).all fun x=>x.all (bp 2))=aq:=fun l=>by simp[br,cN,bp]
    refine ⟨at_,aD,by rw[X,X];rfl,rfl,at_,uu L R at_,Q.set at_ (vl (lC L R at_) / vl L),aD,rfl,by rw[a4,w],a3,by simp[z],a5,?_,rfl,rfl⟩;rw[f,ail (by rw[ah8];omega:at_ < ae (Q.set at_ (vl (lC L R at_) / vl L))),akW,akc aD];simp[sI]
 .rintro _ _ ⟨R,Q,w,h,z,f,g,F,rfl,rfl⟩;rw[f];exact YC w h (by omega) (by omega) z.symm ⟨s0,D⟩ g
def TA (w:DK a) (z:DK b) (p:cH a=a) (c:cH b=b) (f:ae a < 1000000000) (n:ae b < 1000000000) (o:0 < ae b) :
  bg prog 185 [iz a,iz b] (.bM [iz (dvd a b).1,iz (dvd a b).2]):=by
 refine pc func185 zn ?_;refine uz ?_;have y:(ah:Int)=0:=rfl;by_cases i:(ae b:Int)=1
 .have k:ae b=1:=aD;have m:=IM z c o;have l:=z.getD (ae b - 1);rw[k] at m l;have e:((ae b:Int)=1)=True:=aiq i;unfold dvd;rw[ah1 k];refine Y2 e y ?_;refine ⟨aD,aH (LY a (af b 0 0) aD w ⟨m,l.2⟩ ar) rfl rfl ?_⟩;refine Y ?_;exact A0 (.cons (.refl _) (.cons (.full 1 _) .nil)) rfl
 .have k:¬ae b=1:=aD;unfold dvd;rw[ah0 k];refine Y1 i ?_;refine cX (J4 a b aD aD w z p c ar ar) ?_;by_cases j:vl a < vl b
  .have x:((vl a - vl b).sign < 0)=True:=aiq (by rw[aka];omega);rw[ah1 j];refine Y1 x ?_;exact A0 (.cons (.Dz 1) (.cons (.refl _) .nil)) rfl
  .have x:((vl a - vl b).sign < 0)=False:=aie (by rw[aka];omega);rw[ah0 j];refine Y1 x ?_;have g:ae b<=ae a:=by
    rcases aij (ae a) (ae b) with h | h
    .have:=CE w z c h;omega
    .exact h
   exact YB w z c f aD g
def SG (n m:Int) (hm:m≠0):(if (!decide (n.sign=m.sign)) then -((ay n:Int) / ay m) else (ay n:Int) / ay m)=n.tdiv m:=by
 rcases akM n 0 with h | h | h<;>rcases akM m 0 with g | g | g
 .rw[ai0 h,ai0 g];obtain ⟨k,rfl⟩:∃k:Nat,n = -(k:Int):=⟨ay n,aD⟩;obtain ⟨j,rfl⟩:∃k:Nat,m = -(k:Int):=⟨ay m,aD⟩;simp[ai6]
 .exact absurd g hm
 .rw[ai0 h,ai5 g];obtain ⟨k,rfl⟩:∃k:Nat,n = -(k:Int):=⟨ay n,aD⟩;obtain ⟨j,rfl⟩:∃k:Nat,m=(k:Int):=⟨ay m,aD⟩;simp[ai6]
 .subst h;simp
 .exact absurd g hm
 .subst h;simp
 .rw[ai5 h,ai0 g];obtain ⟨k,rfl⟩:∃k:Nat,n=(k:Int):=⟨ay n,aD⟩;obtain ⟨j,rfl⟩:∃k:Nat,m = -(k:Int):=⟨ay m,aD⟩;simp[ai6]
 .exact absurd g hm
 .rw[ai5 h,ai5 g];obtain ⟨k,rfl⟩:∃k:Nat,n=(k:Int):=⟨ay n,aD⟩;obtain ⟨j,rfl⟩:∃k:Nat,m=(k:Int):=⟨ay m,aD⟩;simp[ai6]
def Vk (n m:Int):(if decide (n < 0) then -((ay n:Int) % ay m) else (ay n:Int) % ay m)=n.tmod m:=by
 have x:n.tmod m=n.tmod (ay m:Int):=by
  rcases Int.le_total 0 m with g | g
  .rw[show (ay m:Int)=m by omega]
  .rw[show (ay m:Int) = -m by omega,Int.tmod_neg]
 rw[x];by_cases h:n < 0
 .obtain ⟨k,rfl⟩:∃k:Nat,n = -(k:Int):=⟨ay n,aD⟩;simp only[h,ajH,↓reduceIte,Int.neg_tmod,al1,amE];rw[ajn (by omega)]
 .obtain ⟨k,rfl⟩:∃k:Nat,n=(k:Int):=⟨ay n,aD⟩;simp only[h,ajI,ah5,↓reduceIte,amE];rw[ajn (by omega)]
def PM (k:Nat) (n:Int):qF k (rA n)=aq:=PN k n
def z9 (n:Int):eO (rA n)=aq:=by show (bT (.q0 (rv n))&&(bT (.v0 (rn n))&&(bT (rd n)&&aq)))=aq;rw[JL];rfl
def PG (n m:Int) (k:m≠0) (j:ae (dx (ay n)) < 1000000000) (hm:ae (dx (ay m)) < 1000000000) :
  WP prog 60 nK (jh [.cell 4 aq 3,.cell 5 aq 3] 0 (.bM [rA (n.tdiv m),rA (n.tmod m)]) []) ((2,.fp (rC n) 0)::(3,.fp (rC m) 0)::(4,.ptr 0 0 0 0)::(5,.ptr 1 0 0 0)::p)
   [ak ⟨3,0,[[.q0 0,.v0 ar,.nil]]⟩,ak ⟨3,0,[[.q0 0,.v0 ar,.nil]]⟩]:=by
 refine uz ?_;have ⟨e,x⟩:=lZ (ay n);have ⟨f,y⟩:=lZ (ay m);have b:=uS (ay n);have c:=uS (ay m);have a:0 < ae (dx (ay m)):=akb.2 fun h=>by rw[Gl] at h;omega
 have ⟨z,w,g,i,l,o⟩:=Uz x y c b a;rw[e,f] at z w;simp only[go_sem,↓reduceIte,ahZ];refine aH (CH n) (by simp[bq]) rfl ?_;simp only[go_sem,↓reduceIte,ahZ];refine aH (CH m) (by simp[bq]) rfl ?_;simp only[go_sem,↓reduceIte];refine cX (TA x y b c j hm a) ?_;simp only[go_sem,↓reduceIte,ahZ];refine aH (mK n) (by simp[bq]) rfl ?_;simp only[go_sem,↓reduceIte,ahZ];refine aH (mK m) (by simp[bq]) rfl ?_;simp only[go_sem,↓reduceIte];refine aH (yT (!decide (n.sign=m.sign)) _ aD g ar) rfl (bq _) ?_;rw[z,SG n m k];simp only[go_sem,↓reduceIte,ahZ];refine aH (mK n) (by simp[bq]) rfl ?_;simp only[go_sem,↓reduceIte,FT];refine aH (yT (decide (n < 0)) _ aD i ar) rfl (bq _) ?_;rw[w,Vk];simp only[go_sem,↓reduceIte,ahZ];exact aW rfl (by show (qF 0 (rA (n.tdiv m))&&(qF 0 (rA (n.tmod m))&&aq))=aq;rw[PM,PM];rfl)
def KO (n m:Int) (h:m≠0) (z:ae (dx (ay n)) < 1000000000) (hm:ae (dx (ay m)) < 1000000000):bg prog 178 [rA n,rA m] (.bM [rA (n.tdiv m),rA (n.tmod m)]):=by
 refine pc func178 yq ?_;refine uz ?_;by_cases k:RS n
 .by_cases x:RS m
  .have e:=k.1;have f:=k.2;have g:=x.1;have i:=x.2;have j:ay (n.tdiv m)<=ay n:=by rw[amn];exact alA _ _
   have l:ay (n.tmod m)<=ay n:=by rw[alB];exact Nat.mod_le _ _
   have a:RS (n.tdiv m):=⟨aD,aD⟩;have b:RS (n.tmod m):=⟨aD,aD⟩;have c:au .i64 (n.tdiv m)=n.tdiv m:=wrap_i64 aD aD;rw[gj k,gj x,gj a,gj b];refine Y1 c ?_;exact ⟨h,h,aW rfl rfl⟩
  .have y:((rl n:Int)=0)=True:=oa ▸ aiq k;have w:((rl m:Int)=0)=False:=oa ▸ aie x;refine Y2 y w ?_;exact PG n m h z hm
 .have y:((rl n:Int)=0)=False:=oa ▸ aie k;refine Z1 y ?_;exact PG n m h z hm
def US (x y:Int):Int.gcd y (x.tmod y)=Int.gcd x y:=by unfold Int.gcd;rw[alB,amo (ay x),Nat.gcd_rec (ay y) (ay x),amo]
def aad (n m:Int) (b:ae (dx (ay n)) < 1000000000) (hm:ae (dx (ay m)) < 1000000000):bg prog 176 [rA n,rA m] (rA (Int.gcd n m)):=by
 refine pc func176 CX ?_;refine uz ?_;refine Y ?_;refine Ar 3 (fun k e H=>∃x y:Int,k=ay y/\ae (dx (ay x)) < 1000000000/\ae (dx (ay y)) < 1000000000/\Int.gcd x y=Int.gcd n m/\H=[ak ⟨3,0,[rC x]⟩,ak ⟨3,0,[rC y]⟩,ak ⟨3,0,[[.q0 0,.v0 ar,.nil]]⟩] /\
  e=[(2,.ptr 0 0 0 0),(3,.ptr 1 0 0 0),(4,.ptr 2 0 0 0)]) (n:=ay m) (by rintro k e H ⟨x,y,_,_,_,_,rfl,_⟩;rfl) ⟨n,m,rfl,b,hm,rfl,rfl,rfl⟩ ?_;rintro k _ _ ⟨x,y,g,f,z,w,rfl,rfl⟩;refine Y ?_;refine aH (mK y) (by simp[bq]) rfl ?_;by_cases h:y=0
 .subst h;simp only[go_sem,↓reduceIte,ahZ,Int.sign_zero,ajH,ajl];refine aH (aac x) (by simp[bq]) (bq _) ?_;simp only[go_sem,↓reduceIte,ahZ];refine uA ?_;rw[<-w];simp
 .have c:(y.sign=0)=False:=aie (by rw[ai8];exact h);refine Z1 c ?_;refine aH (KO x y h f z) (by simp[bq]) (by show (eO (rA (x.tdiv y))&&(eO (rA (x.tmod y))&&aq))=aq;rw[z9,z9];rfl) ?_;refine Y ?_;have a:ay (x.tmod y) < ay y:=by rw[alB];exact alh _ aD
  exact ⟨ay (x.tmod y),aD,rfl,y,x.tmod y,rfl,z,alc (C6 aD) z,by rw[US,w],rfl⟩
abbrev xC (x:Rat):List AV:=[.q0 (rv x.num),.v0 (rn x.num),rd x.num,.q0 (rv x.den),.v0 (rn x.den),rd x.den]
abbrev xA (x:Rat):AV := .agg (xC x)
def gR (x:Rat):(xC x).all bT=aq:=by show (bT (.q0 (rv x.num))&&(bT (.v0 (rn x.num))&&(bT (rd x.num)&&(bT (.q0 (rv x.den))&&(bT (.v0 (rn x.den))&&(bT (rd x.den)&&aq))))))=aq;rw[JL,JL];rfl
def TN (x:Rat):eO (xA x)=aq:=gR x
def B5 (h:bT a=aq):eO a=aq:=by cases a<;>first | exact h | (simp[bT] at h;done) | (simp[bT] at h;simp[eO,h])
def bC (x:Rat):bJ (xA x)=aq:=by have h:=gR x;rw[ah4] at h;show (xC x).all eO=aq;rw[ah4];exact fun a k=>B5 (h a k)
def aaf (k:Nat) (x:Rat):jO k (xA x)=aq:=by show (xC x).all (bp k)=aq;have h:=gR x;rw[ah4] at h ⊢;exact fun a y=>tI (h a y) k
def zB (h:a=xA x):Fin 0 a H (xA x) []:=by subst h;exact jK (aaf 0 x)
def XOk (k:Nat) (x:Rat):Prop:=Dg k x.num/\Dg k (x.den:Int)
def fA (h:Dg 400000000 n):ae (dx (ay n)) < 1000000000:=cn (YA h)
def Pu (p q:Int) (i:0 < q) (a:Dg 400000000 p) (x:Dg 400000000 q) :
  WP prog 35 qk (jh [.cell 4 aq 6] 0 (xA (Rat.divInt p q)) []) ((2,.ptr 0 0 0 0)::(3,.ptr 1 0 0 0)::(4,.ptr 2 0 0 0)::z)
   [ak ⟨3,0,[rC p]⟩,ak ⟨3,0,[rC q]⟩,ak ⟨6,0,[[.q0 0,.v0 ar,.nil,.q0 0,.v0 ar,.nil]]⟩]:=by
 refine uz ?_;have f:Int.gcd p q≠0:=fun h=>cn ((amv.1 h).2);have w:=Nat.le_of_dvd aD (Nat.gcd_dvd_right (ay p) (ay q));have dg:Dg 400000000 (Int.gcd p q:Int):=x.le w;have c:((Int.gcd p q:Nat):Int) ∣ p:=Int.gcd_dvd_left ..;have e:((Int.gcd p q:Nat):Int) ∣ q:=amI ..;have j:(Rat.divInt p q).num=p.tdiv (Int.gcd p q):=by rw[ane,ai5 i,aj2,Int.gcd_comm,amZ c]
 have l:((Rat.divInt p q).den:Int)=q.tdiv (Int.gcd p q):=by rw[anf,ah0 (by omega),Int.gcd_comm,amZ e,Int.natCast_ediv];rw[show (ay q:Int)=q by omega]
 have fin:∀{g:aF} {z:Env},WP prog 35 qn (jh [.cell 4 aq 6] 0 (xA (Rat.divInt p q)) []) ((2,.ptr 0 0 0 0)::(3,.ptr 1 0 0 0)::(4,.ptr 2 0 0 0)::z)
   (ak ⟨3,0,[rC (p.tdiv (Int.gcd p q))]⟩::ak ⟨3,0,[rC (q.tdiv (Int.gcd p q))]⟩::ak ⟨6,0,[[.q0 0,.v0 ar,.nil,.q0 0,.v0 ar,.nil]]⟩::g):=fun {g z}=>by refine uz ?_;rw[<-j,<-l];refine Y ?_;exact zB rfl
 refine Y ?_;refine aH (aad p q (fA a) (fA x)) (by simp[bq]) (bq _) ?_;simp only[go_sem,↓reduceIte,ahZ];refine aH (wW 1 aR) rfl (bq _) ?_;refine Y ?_;refine aH (RF _ 1 (fA dg) (alc (k7 (k:=1).2 aR) aR)) (by simp[bq]) rfl ?_;by_cases b:(Int.gcd p q:Int)=1
 .have y:(((Int.gcd p q:Int) - 1).sign=0)=True:=aiq (by rw[b];rfl);rw[b,amT,amT] at fin;refine Z1 y ?_;exact fin
 .have y:(((Int.gcd p q:Int) - 1).sign=0)=False:=aie (by rw[ai8];omega);refine Z1 y ?_;refine aH (KO p _ aD (fA a) (fA dg)) (by simp[bq]) (by show (eO (rA _)&&(eO (rA _)&&aq))=aq;rw[z9,z9];rfl) ?_;refine Y ?_;refine aH (KO q _ aD (fA x) (fA dg)) (by simp[bq]) (by show (eO (rA _)&&(eO (rA _)&&aq))=aq;rw[z9,z9];rfl) ?_;refine Y ?_;exact fin
def KN (p q:Int) (z:q≠0) (x:Dg 400000000 p) (y:Dg 400000000 q):bg prog 148 [rA p,rA q] (xA (Rat.divInt p q)):=by
 refine pc func148 BW ?_;refine uz ?_;refine Y ?_;refine aH (mK q) (by simp[bq]) rfl ?_;by_cases h:q < 0
 .have k:(q.sign < 0)=True:=by rw[FT];exact aiq h
  refine Y1 k ?_;refine aH (Ap p) (by simp[bq]) (bq _) ?_;refine Y ?_;refine aH (Ap q) (by simp[bq]) (bq _) ?_;refine Y ?_;rw[<-Rat.neg_divInt_neg];exact Pu (-p) (-q) aD x.neg y.neg
 .have k:(q.sign < 0)=False:=by rw[FT];exact aie h
  refine Y1 k ?_;exact Pu p q aD x y
def nk (n:Int) (h:-9223372036854775808<=n/\n < 9223372036854775808):bg prog 105 [.q0 n] (xA n):=by refine pw func105 ?_;refine Y ?_;refine aH (wW n h) rfl (bq _) ?_;refine Y ?_;refine aH (wW 1 aR) rfl (bq _) ?_;refine Y ?_;exact zB rfl
def ot (x:Rat):bg prog 120 [xA x] (.q0 x.num.sign):=by refine pw func120 ?_;refine Y ?_;refine aH (mK x.num) (by simp[bq]) rfl ?_;refine Y ?_;exact aW rfl rfl
def Ef (x:Rat):bg prog 124 [xA x] (xA (-x)):=by refine pw func124 ?_;refine Y ?_;refine aH (Ap x.num) (by simp[bq]) (bq _) ?_;refine Y ?_;exact zB rfl
def XE (x y:Rat):Rat.divInt (x.num*y.den+y.num*x.den) (x.den*y.den)=x+y:=by have h:=Rat.divInt_add_divInt x.num y.num (d₁:=x.den) (d₂:=y.den) (cn x.den_pos) (cn y.den_pos);rw[ale,ale] at h;exact h.symm
def PQ (x y:Rat):Rat.divInt (x.num*y.num) (x.den*y.den)=x*y:=by have h:=ang x.num y.num (d₁:=x.den) (d₂:=y.den);rw[ale,ale] at h;exact h.symm
def PO (x y:Rat):Rat.divInt (x.num*y.den) (x.den*y.num)=x / y:=by
 have k:y⁻¹=Rat.divInt y.den y.num:=by have h:=Rat.inv_divInt y.num y.den;rw[ale] at h;exact h
 rw[am6,k];have h:=ang x.num (y.den:Int) (d₁:=x.den) (d₂:=y.num);rw[ale] at h;exact h.symm
def KP (x y:Rat) (h:XOk 100000000 x) (k:XOk 100000000 y):bg prog 174 [xA x,xA y] (xA (x+y)):=by
 refine pw func174 ?_;have z:=h.1.mul k.2;have w:=k.1.mul h.2;have a:=h.2.mul k.2;have b:(x.den:Int)*y.den≠0:=by have c:=x.den_pos;have e:=y.den_pos;exact akE aD aD
 refine Y ?_;refine aH (pd x.num y.den (fA (h.1.mono aR)) (fA (k.2.mono aR))) (by simp[bq]) (bq _) ?_;refine Y ?_;refine aH (pd y.num x.den (fA (k.1.mono aR)) (fA (h.2.mono aR))) (by simp[bq]) (bq _) ?_;refine Y ?_;refine aH (Qc _ _ (fA (z.mono aR)) (fA (w.mono aR))) (by simp[bq]) (bq _) ?_;refine Y ?_;refine aH (pd x.den y.den (fA (h.2.mono aR)) (fA (k.2.mono aR))) (by simp[bq]) (bq _) ?_;refine Y ?_;refine aH (KN _ _ b ((z.add w).mono aR) (a.mono aR)) (by simp[bq]) (bC _) ?_;rw[XE];refine Y ?_;exact zB rfl
def Ix (x y:Rat) (h:XOk 100000000 x) (k:XOk 100000000 y):bg prog 175 [xA x,xA y] (xA (x*y)):=by
 refine pw func175 ?_;have z:=h.1.mul k.1;have w:=h.2.mul k.2;have a:(x.den:Int)*y.den≠0:=by have b:=x.den_pos;have c:=y.den_pos;exact akE aD aD
 refine Y ?_;refine aH (pd x.num y.num (fA (h.1.mono aR)) (fA (k.1.mono aR))) (by simp[bq]) (bq _) ?_;refine Y ?_;refine aH (pd x.den y.den (fA (h.2.mono aR)) (fA (k.2.mono aR))) (by simp[bq]) (bq _) ?_;refine Y ?_;refine aH (KN _ _ a (z.mono aR) (w.mono aR)) (by simp[bq]) (bC _) ?_;rw[PQ];refine Y ?_;exact zB rfl
def GR (x y:Rat) (h:XOk 100000000 x) (k:XOk 100000000 y) (b:y.num≠0):bg prog 123 [xA x,xA y] (xA (x / y)):=by
 refine pw func123 ?_;have z:=h.1.mul k.2;have w:=h.2.mul k.1;have a:(x.den:Int)*y.num≠0:=by have c:=x.den_pos;exact akE aD b
 refine Y ?_;refine aH (pd x.num y.den (fA (h.1.mono aR)) (fA (k.2.mono aR))) (by simp[bq]) (bq _) ?_;refine Y ?_;refine aH (pd x.den y.num (fA (h.2.mono aR)) (fA (k.1.mono aR))) (by simp[bq]) (bq _) ?_;refine Y ?_;refine aH (KN _ _ a (z.mono aR) (w.mono aR)) (by simp[bq]) (bC _) ?_;rw[PO];refine Y ?_;exact zB rfl
def XOk.neg (h:XOk k x):XOk k (-x):=⟨h.1.neg,h.2⟩
def X6 (x y:Rat) (h:XOk 100000000 x) (k:XOk 100000000 y):bg prog 147 [xA x,xA y] (xA (x - y)):=by refine pw func147 ?_;refine Y ?_;refine aH (Ef y) (by simp[bC]) (bC _) ?_;refine Y ?_;refine aH (KP x (-y) h k.neg) (by show (bJ (xA x)&&(bJ (xA (-y))&&aq))=aq;rw[bC,bC];rfl) (bC _) ?_;rw[<-Rat.sub_eq_add_neg];refine Y ?_;exact zB rfl
def J6 (x y:Rat) (h:XOk 100000000 x) (k:XOk 100000000 y):bg prog 122 [xA x,xA y] (.c (.int .i64 (x - y).num.sign)):=by refine pw func122 ?_;refine Y ?_;refine aH (X6 x y h k) (by simp[bC]) (bC _) ?_;refine Y ?_;refine aH (ot (x - y)) (by simp[bC]) rfl ?_;refine Y ?_;exact aW rfl rfl
structure Fm where
 c:List Int
 a:Int
abbrev fC (f:Fm):List AV:=[iz f.c,.q0 f.a]
abbrev wC (f:Fm):List AV:=[.seq 3 ar (f.c.map rC),.q0 (rv f.a),.v0 (rn f.a),rd f.a]
abbrev wA (f:Fm):AV := .agg (wC f)
@[go_sem] def ag6:rC n=[.q0 (rv n),.v0 (rn n),rd n]:=(rfl)
def Cu (n:Int):(rC n).all bT=aq:=z9 n
def GI (l:List Int):(l.map rC).all (fun x=>x.all bT)=aq:=by rw[aj6,ah4];exact fun n _=>Cu n
def GS (h:Wk0 a b):WkL (pre++a::post) (pre++b::post):=by
 induction pre with
 | nil=>exact .cons h (Oq post)
 | cons x l k=>exact .cons (.refl x) k
def Acc.zz {n0:Nat} {H:aF} {k:Nat} {v:AV} {xs:List (List AV)} {pre post:List AV} (h:Acc n0 H k v xs) (n:xs.all (fun x=>x.all bT)=aq) (g:pre.all bT=aq) (i:post.all bT=aq):Fin 0 (.agg (pre++v::post)) H (.agg (pre ++ .seq k ar xs::post)) []:=by
 have f:∀l:List AV,l.all bT=aq->l.all (bp 0)=aq:=fun l y=>by rw[ah4] at y ⊢;exact fun a b=>tI (y a b) 0
 have c:∀w,bp 0 w=aq->jO 0 (.agg (pre++w::post))=aq:=fun w o=>by show (pre++w::post).all (bp 0)=aq;rw[ajk,ais,f _ g,f _ i,o];rfl
 cases h with
 | nil=>exact oP (.agg (GS (.Dz k))) (c _ rfl)
 | sq=>exact oP (.agg (GS (.full k xs))) (c _ rfl)
 | sl p m =>
  refine pD m n ?_;rename_i z ver;have e:∀l:List AV,l.all bT=aq->l.map (fm z ver k xs)=l:=fun l y=>by rw[ah4] at y;exact (ajh fun a b=>Gs (y a b)).trans (amU _)
  have j:fm z ver k xs (AV.sl k z ver 0 (ae xs)) = .seq k ar xs:=by simp[fm]
  show Fin 0 (.agg ((pre++AV.sl k z ver 0 (ae xs)::post).map (fm z ver k xs))) _ _ _;rw[aii,e _ g,aiS,e _ i,j];exact jK (c _ rfl)
def Acc.hZ {n0 k b:Nat} {H:aF} {v:AV} {xs:List (List AV)} {o:Option bz} (h:Acc n0 H k v xs) (a:b < n0):Acc n0 (H.set b o) k v xs :=
 h.aQ (ids:=[b]) ⟨aO,fun j _ y w=>by simp at y;exact aS (ait y)⟩ (fun z x=>by have:=(h.ge z x).1;simp;omega)
def F1 {l:List Int} {i:Nat} (h:i < ae l):l.take (i+1)=l.take i++[af l i 0]:=by rw[aiT h];simp[af,h]
def X5 (n:Int):bg prog 83 [.q0 n] (.v0 (decide (-1152921504606846976<=n/\n<=1152921504606846976))):=by
 refine pw func83 ?_;by_cases h:n<=1152921504606846976
 .refine Y2 h alV ?_;exact aW rfl rfl
 .refine Z2 h and_false ?_;exact aW rfl rfl
abbrev I64 (n:Int):Prop := -9223372036854775808<=n/\n < 9223372036854775808
def adp (f:Fm) (V:ae f.c < 1000000000) (J:∀x,x∈f.c->I64 x) (I:I64 f.a):bg prog 78 [.agg (fC f)] (wA f):=by
 refine pw func78 ?_;refine Y ?_;refine aH (wW f.a I) rfl (bq _) ?_;refine Y ?_;refine aZ (fun n e H=>∃(i:Nat) (v:AV),i<=ae f.c/\n=ae f.c - i/\aI H 0 0=ak ⟨4,0,[[.nil,.q0 0,.v0 ar,.nil]]⟩ /\
  aI H 1 0=ak ⟨4,0,[v::rC f.a]⟩/\Acc 2 H 3 v ((f.c.take i).map rC) /\
  e=[(2,.ptr 0 0 0 0),(3,.ptr 1 0 0 0),(11,iz f.c),(12,.q0 (ae f.c:Int)),(13,.q0 (i:Int))]) ⟨0,.nil,aD,rfl,by simp[aI],by simp[aI],.nil,rfl⟩ ?_;rintro n _ H ⟨i,v,U,hn,m,p,z,rfl⟩;have A:=aP m;have l1:=aP p;have o:=aK m;have y:=aK p;have cv:=z.cell;have k:(ah:Int)=0:=rfl;by_cases g:(i:Int) < (ae f.c:Int)
 .have F:au .i64 ((i:Int)+1)=((i+1:Nat):Int):=by rw[wrap_i64 aD aD];rfl
  refine Y3 g k y ?_;have M:I64 (af f.c i 0):=J _ (by rw[af,ah6 (by omega:i < ae f.c)];exact ajj _);refine ⟨aD,aH (wW _ M) rfl (bq _) ?_⟩;have ⟨O,t,B,C,X,R,S,D,E,T⟩:=z.app aD bW (rC (af f.c i 0));have w:=fun j L=>(z.ge j L).1;have W:aI t 1 0=ak ⟨4,0,[v::rC f.a]⟩:=by rw[X.2 1 l1 (fun h=>by have:=w 1 h;omega)];exact p
  have N:aI t 0 0=ak ⟨4,0,[[.nil,.q0 0,.v0 ar,.nil]]⟩:=by rw[X.2 0 A (fun h=>by have:=w 0 h;omega)];exact m
  have l:=B;have r:=aK W;refine Y5 l r D E F ?_;refine ⟨rfl,ae f.c - (i+1),aD,i+1,O,aD,rfl,?_,?_,?_,rfl⟩
  .rw[aS aR];exact N
  .exact bn (aP W)
  .rw[F1 aD,aii];exact C.hZ aR
 .have q:i=ae f.c:=aD;subst q;have G:∀s K,bk (H.set 0 (ak ⟨4,0,s⟩)) 0 0 K=K ⟨4,0,s⟩:=fun s K=>aK (bn A) K;refine Y5 g y o G cv ?_;rw[aiK] at z;exact (z.hZ (b:=0) aR).zz (pre:=[]) (post:=rC f.a) (GI _) rfl (Cu _)
def ZZ (n:Nat) (x:n < 1000000000):bg prog 80 [.q0 (n:Int)] (.agg [.seq 3 ar (aA n (rC 0)),.q0 0,.v0 ar,.nil]):=by
 refine pw func80 ?_;refine Z0 ?_;refine ⟨aD,?_⟩;have h:Acc 0 [ak ⟨4,0,[[AV.sl 3 1 0 0 n,.q0 0,.v0 ar,.nil]]⟩,ak ⟨3,0,aA n (rC 0)⟩] 3 (.sl 3 1 0 0 n) (aA n (rC 0)):=by
  have:=Acc.sl (n0:=0) (H:=[ak ⟨4,0,[[AV.sl 3 1 0 0 n,.q0 0,.v0 ar,.nil]]⟩,ak ⟨3,0,aA n (rC 0)⟩]) (k:=3) (id:=1) (ver:=0) (xs:=aA n (rC 0)) aR rfl
  rwa [aiY] at this
 exact h.zz (pre:=[]) (post:=[.q0 0,.v0 ar,.nil]) (ajT ▸ GI _) rfl rfl
def X7 (n:Nat) (h:n < 1000000000):bR prog 80 [.q0 (n:Int)] H (.agg [.sl 3 (ae H+1) 0 0 n,.q0 0,.v0 ar,.nil])
  (H++[ak ⟨4,0,[[.sl 3 (ae H+1) 0 0 n,.q0 0,.v0 ar,.nil]]⟩,ak ⟨3,0,aA n (rC 0)⟩]):=by refine cw func80 ?_;refine Z0 ?_;exact ⟨aD,dJ (Wk1.refl _)⟩
def Fm.mul (f:Fm) (k:Int):Fm:=⟨f.c.map (·*k),f.a*k⟩
def V1 (f:Fm) (k:Int) (hl:ae f.c < 1000000000) (U:∀x,x∈f.c->Dg 400000000 x) (T:Dg 400000000 f.a) (I:Dg 400000000 k):bg prog 107 [wA f,rA k] (wA (f.mul k)):=by
 refine pw func107 ?_;refine Y ?_;refine aH (pd f.a k (fA T) (fA I)) (by simp[bq]) (bq _) ?_;refine Y ?_;refine aZ (fun n e H=>∃(i:Nat) (v:AV),i<=ae f.c/\n=ae f.c - i/\aI H 0 0=ak ⟨4,0,[[.nil,.q0 0,.v0 ar,.nil]]⟩ /\
  aI H 1 0=ak ⟨4,0,[v::rC (f.a*k)]⟩/\Acc 2 H 3 v (((f.mul k).c.take i).map rC) /\
  e=[(3,.fp (rC k) 0),(4,.ptr 0 0 0 0),(5,.ptr 1 0 0 0),(14,.seq 3 ar (f.c.map rC)),(15,.q0 (ae f.c:Int)),(16,.q0 (i:Int))]) ⟨0,.nil,aD,rfl,by simp[aI],by simp[aI],.nil,rfl⟩ ?_;rintro n _ H ⟨i,v,hi,hn,t,q,g,rfl⟩;have D:=aP t;have l1:=aP q;have X:=aK t;have W:∀l K,bk (H++l) 1 0 K=K ⟨4,0,[v::rC (f.a*k)]⟩:=fun l K=>aK (by rw[cJ l1];exact q) K;have w:=aK q;have cv:=g.cell;have z:(ah:Int)=0:=rfl;by_cases p:(i:Int) < (ae f.c:Int)
 .have R:=ws i;refine Y3 p z W ?_;have hx:Dg 400000000 (af f.c i 0):=U _ (by rw[af,ah6 (by omega:i < ae f.c)];exact ajj _);refine ⟨aD,aH (pd _ k (fA hx) (fA I)) (by simp[bq]) (bq _) ?_⟩;obtain ⟨r,m⟩:∃r,r=H++[ak (⟨3,0,[rC (af f.c i 0)]⟩:bz)]:=⟨_,rfl⟩;have y:aL H r []:=m ▸ aL.app _ _ _;have A:=g.aQ y aO;have a0:(f.mul k).c.length=ae f.c:=by simp[Fm.mul]
  have ⟨L,H',F,M,G,a4,a5,N,O,a8⟩:=A.app (cn y.1) bW (rC (af f.c i 0*k));have o:=fun j V=>(g.ge j V).1;have J:aI H' 1 0=ak ⟨4,0,[v::rC (f.a*k)]⟩:=by rw[G.2 1 (aiB l1 y.1) (fun h=>by have:=o 1 h;omega),y.2 1 l1 (by simp)];exact q
  have k0:aI H' 0 0=ak ⟨4,0,[[.nil,.q0 0,.v0 ar,.nil]]⟩:=by rw[G.2 0 (aiB D y.1) (fun h=>by have:=o 0 h;omega),y.2 0 D (by simp)];exact t
  have s:∀K,bX 3 v [[.q0 (rv (af f.c i 0*k)),.v0 (rn (af f.c i 0*k)),rd (af f.c i 0*k)]] (H++[ak ⟨3,0,[[.q0 (rv (af f.c i 0)),.v0 (rn (af f.c i 0)),rd (af f.c i 0)]]⟩]) K=K L H':=by rw[m] at F;exact F
  have C:=aK J;refine Y5 s C N O R ?_;refine ⟨rfl,ae f.c - (i+1),aD,i+1,L,aD,rfl,?_,?_,?_,rfl⟩
  .rw[aS (by decide)];exact k0
  .exact bn (aP J)
  .rw[F1 (by omega),aii];have:(f.mul k).c.getD i 0=af f.c i 0*k:=by simp[Fm.mul,af,show i < ae f.c by omega]
   rw[this];exact M.hZ aR
 .have B:i=ae f.c:=aD;subst B;have S:∀E K,bk (H.set 0 (ak ⟨4,0,E⟩)) 0 0 K=K ⟨4,0,E⟩:=fun E K=>aK (bn D) K;refine Y5 p w X S cv ?_;rw[aiv (by simp[Fm.mul])] at g;exact (g.hZ (b:=0) aR).zz (pre:=[]) (post:=rC (f.a*k)) (GI _) rfl (Cu _)
def V0 (f:Fm) (w:ae f.c < 1000000000) (z:∀x,x∈f.c->Dg 400000000 x) (k:Dg 400000000 f.a):bg prog 82 [wA f] (wA (f.mul (-1))):=by
 refine pw func82 ?_;refine Y ?_;refine aH (wW (-1) aR) rfl (bq _) ?_;refine Y ?_;have y:∀g:Fm,bJ (wA g)=aq:=fun g=>by
  show (eO (.seq 3 ar (g.c.map rC))&&((rC g.a).all eO))=aq;have h:=Cu g.a;rw[ah4] at h;have:(rC g.a).all eO=aq:=by rw[ah4];exact fun a k=>B5 (h a k)
  rw[this];rfl
 refine aH (V1 f (-1) w z k (uq _ aR |>.neg)) (by show (bJ (wA f)&&(bJ (rA (-1))&&aq))=aq;rw[y,bq];rfl) (y _) ?_;refine Y ?_;refine aW rfl ?_;show (bp 0 (.seq 3 ar ((f.mul (-1)).c.map rC))&&((rC (f.mul (-1)).a).all (bp 0)))=aq;have h:=Cu (f.mul (-1)).a;rw[ah4] at h;have:(rC (f.mul (-1)).a).all (bp 0)=aq:=by rw[ah4];exact fun a k=>tI (h a k) 0
 rw[this];rfl
def rY (x:Int):Bool:=decide (-1152921504606846976<=x/\x<=1152921504606846976)
def Fm.jW (n:Int) (f:Fm):Bool:=decide (0<=n/\n<=8/\(ae f.c:Int)=n)&&(rY f.a&&f.c.all rY)
def XZ (l m:List Int) (r:ae l < 1000000000) (f g:Bool):bg prog 39 [.seq 1 f (br l),.seq 1 g (br m)] (.v0 (decide (l=m))):=by
 refine pw func39 ?_;have k:(ah:Int)=0:=rfl;by_cases z:(ae l:Int)=ae m
 .refine Z1 z ?_;refine aZ (fun n e H=>∃i:Nat,i<=ae l/\n=ae l - i/\H=[]/\(∀j,j < i->af l j 0=af m j 0) /\
   e=[(0,.seq 1 f (br l)),(1,.seq 1 g (br m)),(12,.q0 (ae m:Int)),(13,.q0 (i:Int))]) ⟨0,aD,rfl,rfl,fun j h=>aD,rfl⟩ ?_;rintro n _ _ ⟨i,p,s,rfl,a,rfl⟩;by_cases x:(i:Int) < (ae m:Int)
  .by_cases y:af l i 0=af m i 0
   .have b:=ws i;refine Z4 x k y b ?_;refine ⟨aD,aD,ae l - (i+1),aD,i+1,aD,rfl,fun j q=>?_,rfl⟩;rcases aij j i with h | h
    .exact a j h
    .rw[show j=i by omega];exact y
   .have w:(af l i 0=af m i 0)=False:=aie y;refine Z3 x k w ?_;exact ⟨aD,aD,aW (by rw[aif (fun h=>y (by rw[h]))]) rfl⟩
  .refine Y1 x ?_;have:l=m:=by refine akH aD fun j c o=>?_;have:=a j aD;simpa[af,c,o] using this
   exact aW (by rw[air this]) rfl
 .refine Z1 z ?_;exact aW (by rw[aif (fun h=>z (by rw[h]))]) rfl
def RD (f g:Fm) (k:ae f.c < 1000000000):bg prog 26 [.agg (fC f),.agg (fC g)] (.v0 (decide (f.a=g.a/\f.c=g.c))):=by
 refine pw func26 ?_;by_cases h:f.a=g.a
 .refine Z1 h ?_;refine cY (XZ f.c g.c k ar ar) ?_;exact aW rfl rfl
 .refine Z1 h ?_;exact aW rfl rfl
def MB {p:Int->Bool} {l:List Int} {i:Nat} (h:i < ae l) (k:∀j,j < i->p (af l j 0)=aq) (x:p (af l i 0)=aq):∀j,j < i+1->p (af l j 0)=aq:=fun j y=>by
 rcases aij j i with h | h
 .exact k j h
 .rw[show j=i by omega];exact x
def MA {p:Int->Bool} {l:List Int} (k:∀j,j < ae l->p (af l j 0)=aq):l.all p=aq:=by rw[ah4];intro x y;obtain ⟨j,h,rfl⟩:=ajD.1 y;have:=k j h;simpa[af,h] using this
def O4 {p:Int->Bool} {l:List Int} {i:Nat} (h:i < ae l) (k:p (af l i 0)=ar):l.all p=ar:=by rw[ajq];exact ⟨af l i 0,by rw[af,ah6 h];exact ajj _,by rw[k];decide⟩
def HF (n:Int) (f:Fm) (K:ae f.c < 1000000000):bg prog 58 [.q0 n,.agg (fC f)] (.v0 (f.jW n)):=by
 refine pw func58 ?_;have y:(ah:Int)=0:=rfl;unfold Fm.jW;have ws:∀x,bg prog 83 [.q0 x] (.v0 (rY x)):=X5;by_cases b:n < 0
 .refine Z1 b ?_;exact aW (by rw[aif (by omega)];rfl) rfl
 by_cases g:8 < n
 .refine Z2 b g ?_;exact aW (by rw[aif (by omega)];rfl) rfl
 by_cases l:(ae f.c:Int)=n
 .rw[air (show 0<=n/\n<=8/\(ae f.c:Int)=n by omega),ajg];refine Z3 b g l ?_;refine aH (ws f.a) rfl rfl ?_;by_cases p:rY f.a=aq
  .refine Z2 l p ?_;refine aZ (fun k e H=>∃i:Nat,i<=ae f.c/\k=ae f.c - i/\H=[]/\(∀j,j < i->rY (af f.c j 0)=aq) /\
    e=[(27,iz f.c),(28,.q0 n),(29,.q0 (i:Int))]) ⟨0,by omega,rfl,rfl,fun j h=>by omega,rfl⟩ ?_;rintro k _ _ ⟨i,s,v,rfl,q,rfl⟩;by_cases w:(i:Int) < n
   .have r:au .i64 ((i:Int)+1)=((i+1:Nat):Int):=by rw[wrap_i64 (by omega) (by omega)];rfl
    refine Y2 w y ?_;refine ⟨by omega,aH (ws _) rfl rfl ?_⟩;by_cases o:rY (af f.c i 0)=aq
    .refine Z2 o r ?_;exact ⟨ae f.c - (i+1),by omega,i+1,by omega,rfl,MB (by omega) q o,rfl⟩
    .have z:rY (af f.c i 0)=ar:=bu o;refine Z1 z ?_;exact aW (by rw[O4 (by omega) z]) rfl
   .refine Y1 w ?_;exact aW (by rw[MA (fun j t=>q j (by omega))]) rfl
  .have m:rY f.a=ar:=bu p;refine Z1 m ?_;exact aW rfl rfl
 .refine Z3 b g l ?_;exact aW aO rfl
structure Cd where
 f:Fm
 e:Bool
abbrev cC (c:Cd):List AV:=[iz c.f.c,.q0 c.f.a,.v0 c.e]
abbrev dC (c:Cd):List AV:=[.seq 3 ar (c.f.c.map rC),.q0 (rv c.f.a),.v0 (rn c.f.a),rd c.f.a,.v0 c.e]
instance:Inhabited Cd:=⟨⟨⟨[],0⟩,ar⟩⟩
def RX (c:Cd):(dC c).all bT=aq:=by show (bT (.seq 3 ar (c.f.c.map rC))&&(bT (.q0 (rv c.f.a))&&(bT (.v0 (rn c.f.a))&&(bT (rd c.f.a)&&(bT (.v0 c.e)&&aq)))))=aq;rw[JL];rfl
def W6 (l:List Cd):(l.map dC).all (fun x=>x.all bT)=aq:=by rw[aj6,ah4];exact fun n _=>RX n
def lP (g:Fm):bJ (wA g)=aq:=by
 show (eO (.seq 3 ar (g.c.map rC))&&((rC g.a).all eO))=aq;have h:=Cu g.a;rw[ah4] at h;have:(rC g.a).all eO=aq:=by rw[ah4];exact fun a k=>B5 (h a k)
 rw[this];rfl
structure FmI (f:Fm):Prop where
 len:f.c.length < 1000000000
 c:∀x,x∈f.c->I64 x
 a:I64 f.a
def uT {α:Type} {g:α->List AV} {l:List α} {i:Nat} {d:α} (h:i < ae l):(l.take (i+1)).map g=(l.take i).map g++[g (af l i d)]:=by rw[aiT h,aii];simp[af,h]
def abm (l:List Cd) (E:ae l < 1000000000) (p:∀c,c∈l->FmI c.f) (b:Bool):bg prog 55 [.seq 3 b (l.map cC)] (.seq 5 ar (l.map dC)):=by
 refine pw func55 ?_;refine Z ?_;refine aZ (fun n e H=>∃(i:Nat) (v:AV),i<=ae l/\n=ae l - i/\Acc 0 H 5 v ((l.take i).map dC) /\
  e=[(3,v),(6,.seq 3 b (l.map cC)),(7,.q0 (ae l:Int)),(8,.q0 (i:Int))]) ⟨0,.nil,aD,rfl,.nil,rfl⟩ ?_;rintro n _ H ⟨i,v,D,F,k,rfl⟩;have cv:=k.cell;by_cases q:(i:Int) < (ae l:Int)
 .have C:au .i64 ((i:Int)+1)=((i+1:Nat):Int):=by rw[wrap_i64 aD aD];rfl
  refine Z ?_;have w:FmI (af l i ah).f:=p _ (by rw[af,ah6 (by omega:i < ae l)];exact ajj _);generalize y:af l i ah=c at *;refine ⟨aD,aH (adp c.f w.len w.c w.a) rfl (lP _) ?_⟩;obtain ⟨g,h⟩:∃g,g=H++[ak (⟨3,0,[cC c]⟩:bz)]:=⟨_,rfl⟩;have x:=k.aQ (h ▸ aL.app _ _ []) aO;have ⟨r,s,j,o,t,K,X,W,A,B⟩:=x.app (aiL _) bW (dC c);rw[h] at j;have m:=j;refine Z ?_;exact ⟨rfl,ae l - (i+1),aD,i+1,r,aD,rfl,by rw[uT (d:=ah) aD,y];exact o,rfl⟩
 .have z:i=ae l:=aD;subst z;refine Z ?_;rw[aiK] at k;exact k.fin (W6 _)
def mT (n:Int) (l:List Cd):Bool:=decide (0<=n/\n<=8/\ae l<=120)&&l.all fun c=>c.f.jW n
def VZ (n:Int) (l:List Cd) (K:ae l < 1000000000) (g:∀c,c∈l->ae c.f.c < 1000000000):bg prog 54 [.agg [.q0 n,.seq 3 ar (l.map cC)]] (.v0 (mT n l)):=by
 refine pw func54 ?_;unfold mT;by_cases q:n < 0
 .refine Z ?_;exact aW (by rw[aif (by omega)];rfl) rfl
 by_cases r:8 < n
 .refine Z ?_;exact aW (by rw[aif (by omega)];rfl) rfl
 by_cases s:(120:Int) < (ae l:Int)
 .refine Z ?_;exact aW (by rw[aif (by omega)];rfl) rfl
 rw[air (show 0<=n/\n<=8/\ae l<=120 by omega),ajg];refine Z ?_;refine aZ (fun k e H=>∃i:Nat,i<=ae l/\k=ae l - i/\(∀j,j < i->(af l j ah).f.jW n=aq) /\
  e=[(1,.fp [.q0 n,.seq 3 ar (l.map cC)] 0),(20,.seq 3 ar (l.map cC)),(21,.q0 (ae l:Int)),(22,.q0 (i:Int))]) ⟨0,aD,rfl,fun j h=>aD,rfl⟩ ?_;rintro k _ H ⟨i,t,v,w,rfl⟩;by_cases m:(i:Int) < (ae l:Int)
 .have p:=ws i;refine Z ?_;have b:af l i ah∈l:=by rw[af,ah6 (by omega:i < ae l)];exact ajj _
  refine ⟨aD,aH (HF n (af l i ah).f (g _ b)) rfl rfl ?_⟩;by_cases z:(af l i ah).f.jW n=aq
  .refine Z ?_;refine ⟨ae l - (i+1),aD,i+1,aD,rfl,fun j a=>?_,rfl⟩;rcases aij j i with h | h
   .exact w j h
   .rw[show j=i by omega];exact z
  .have y:(af l i ah).f.jW n=ar:=bu z;refine Z ?_;exact aW (by rw[ajq.2 ⟨_,b,by rw[y];decide⟩]) rfl
 .refine Z ?_;refine aW ?_ rfl;have:l.all (fun c=>c.f.jW n)=aq:=by rw[ah4];intro x o;obtain ⟨j,a,rfl⟩:=ajD.1 o;have:=w j aD;simpa[af,a] using this
  rw[this]
def gF (n v:Nat):Fm:=⟨(aA n 0).set v 1,0⟩
def Ty (n v:Nat) (hv:v < n) (y:n < 1000000000):bg prog 81 [.q0 (n:Int),.q0 (v:Int)] (wA (gF n v)):=by
 refine pw func81 ?_;refine Z ?_;refine dS (X7 n y) ?_;refine Z ?_;refine aH (wW 1 aR) rfl (bq _) ?_;refine Y ?_;have e:(aA n [AV.q0 (rv 0),.v0 (rn 0),rd 0])[0+v]?=ak [AV.q0 (rv 0),.v0 (rn 0),rd 0]:=by rw[aia,aji,ah1 hv]
 refine ⟨aD,?_⟩;rw[iu e];refine Y ?_;have z:(aA n [AV.q0 (rv 0),.v0 (rn 0),rd 0]).set (0+v) [AV.q0 (rv 1),.v0 (rn 1),rd 1]=(gF n v).c.map rC:=by unfold gF;rw[aia,ajF,ajT]
 rw[z];have x:ae ((gF n v).c.map rC)=n:=by simp[gF]
 have w:aF:=[ak ⟨4,0,[[AV.sl 3 2 0 0 n,.q0 0,.v0 ar,.nil]]⟩];have h:Acc 0 [ak ⟨4,0,[[AV.sl 3 2 0 0 n,.q0 0,.v0 ar,.nil]]⟩,ak ⟨4,0,[[AV.sl 3 2 0 0 n,.q0 0,.v0 ar,.nil]]⟩,ak ⟨3,0,(gF n v).c.map rC⟩,ak ⟨4,0,[[AV.sl 3 2 0 0 n,.q0 0,.v0 ar,.nil]]⟩] 3 (.sl 3 2 0 0 n) ((gF n v).c.map rC):=by
  have:=Acc.sl (n0:=0) (H:=[ak ⟨4,0,[[AV.sl 3 2 0 0 n,.q0 0,.v0 ar,.nil]]⟩,ak ⟨4,0,[[AV.sl 3 2 0 0 n,.q0 0,.v0 ar,.nil]]⟩,ak ⟨3,0,(gF n v).c.map rC⟩,ak ⟨4,0,[[AV.sl 3 2 0 0 n,.q0 0,.v0 ar,.nil]]⟩]) (k:=3) (id:=2) (ver:=0) (xs:=(gF n v).c.map rC) aR rfl
  rwa [x] at this
 exact h.zz (pre:=[]) (post:=[.q0 0,.v0 ar,.nil]) (GI _) rfl rfl
def Idl (H:aF):Prop:=H.all (cg (ae H))=aq
def Hy (h:cg n o=aq) (hm:n<=m):cg m o=aq:=by
 cases o with
 | none=>rfl
 | some z =>
  simp only[cg,ah4] at h ⊢;exact fun x y a k=>eS (h x y a k) hm
def Idl.app (h:Idl H) (k:cg (ae H+1) o=aq):Idl (H++[o]):=by unfold Idl at h ⊢;rw[ajk,ain];simp only[ais,ajd,aiM,aiF,aiV,aia,k];rw[ah4] at h ⊢;exact fun x y=>Hy (h x y) aD
def Idl.set (h:Idl H) (y:cg (ae H) o=aq):Idl (H.set a o):=by
 unfold Idl at h ⊢;rw[ah8,ah4];rw[ah4] at h;intro x z;rcases ai4 z with k | k
 .exact h x k
 .rw[k];exact y
def iI {n k v:Nat} {xs:List (List AV)} (h:xs.all (fun x=>x.all bT)=aq):cg n (ak ⟨k,v,xs⟩)=aq:=by simp only[cg,ah4] at h ⊢;exact fun x z a y=>tI (h x z a y) n
structure RdX (H:aF) (k:Nat) (v:AV) (xs:List (List AV)):Prop where
 len:∀K,gH v K=K (.c (.int .i64 (xs.length:Int)))
 rd:∀H',aL H H' []->∀(i:Nat) (x:List AV),xs[i]?=some x->∃p,(∀(t:IntKind) (K:AV->Prop),mZ k v (.c (.int t (i:Int))) K=K p)/\∀ag n K,LdP ag n p H' K=iX ag x 0 n K
 cell:bB v=true/\v.cells=[v]/\dA v=true
def SlV.yk {H:aF} {k:Nat} {v:AV} {xs:List (List AV)} (h:SlV H k v xs):RdX H k v xs :=
 ⟨fun K=>h.fN K,fun w z i x y=>(h.aQ z aO).read y,h.cell⟩
structure Ln where
 name:Int
 add:Rat
 c:List Rat
instance:Inhabited Ln:=⟨⟨0,0,[]⟩⟩
abbrev cL (l:Ln) (v:AV):List AV:=[.q0 l.name,.q0 (rv l.add.num),.v0 (rn l.add.num),rd l.add.num,.q0 (rv l.add.den),.v0 (rn l.add.den),rd l.add.den,v]
def mL (l:List Rat):(l.map xC).all (fun x=>x.all bT)=aq:=by rw[ah4];intro x h;obtain ⟨q,_,rfl⟩:=aiw.1 h;exact gR q
def qT {l:List Rat} {i:Nat} (h:i < ae l):(l.map xC)[i]?=ak (xC (af l i 0)):=by obtain ⟨x,k⟩:∃x,l[i]?=ak x:=⟨_,ah6 h⟩;rw[ajp,k,af,k,ai3,ai9]
def Acc.aaz {H G:aF} {n0 k:Nat} {v:AV} {xs:List (List AV)} {pre post:List AV} (h:Acc n0 G k v xs) (D:ae H<=n0) (W:xs.all (fun x=>x.all bT)=aq) (p:pre.all bT=aq) (q:post.all bT=aq) (b:aL H G []) (X:Idl H) :
  Fin (ae H) (.agg (pre++v::post)) G (.agg (pre ++ .seq k ar xs::post)) H:=by
 have o:∀l:List AV,l.all bT=aq->l.all (bp (ae H))=aq:=fun l z=>by rw[ah4] at z ⊢;exact fun a e=>tI (z a e) _
 have B:jO (ae H) (.agg (pre ++ .seq k ar xs::post))=aq:=by show (pre++AV.seq k ar xs::post).all (bp (ae H))=aq;rw[ajk,ais,o _ p,o _ q];rfl
 have c:∀{F:aF},aL H F []->Fin (ae H) (.agg (pre ++ .seq k ar xs::post)) F (.agg (pre ++ .seq k ar xs::post)) H:=fun {F} i=>by have:=j6 (n:=ae H) (m:=ae H) (r := .agg (pre ++ .seq k ar xs::post)) (H:=F) (ahZ _) (by rw[i.take];exact X) B;rw[i.take] at this;exact this
 cases h with
 | nil=>exact (dJ (.agg (GS (.Dz k)))).trans (c b)
 | sq=>exact (dJ (.agg (GS (.full k xs)))).trans (c b)
 | sl C K =>
  rename_i y ver;have f:∀l:List AV,l.all bT=aq->l.map (fm y ver k xs)=l:=fun l z=>by rw[ah4] at z;exact (ajh fun a e=>Gs (z a e)).trans (amU _)
  have s:fm y ver k xs (AV.sl k y ver 0 (ae xs)) = .seq k ar xs:=by simp[fm]
  have g:=uy (n:=ae H) (r:=AV.agg (pre++AV.sl k y ver 0 (ae xs)::post)) K W;have t:dD y ver k xs (AV.agg (pre++AV.sl k y ver 0 (ae xs)::post)) = .agg (pre ++ .seq k ar xs::post):=by show AV.agg ((pre++AV.sl k y ver 0 (ae xs)::post).map (fm y ver k xs))=_;rw[aii,f _ p,aiS,f _ q,s]
  rw[t] at g;exact g.trans (c ⟨bu b.1,fun j A _ w=>by rw[aS aD];exact b.2 j A aO w⟩)
def Ln.Bn (l:Ln) (col:Nat) (jn:Ln) (i:Nat):Rat:=if i=col then af l.c col 0*af jn.c i 0 else af l.c i 0+af l.c col 0*af jn.c i 0
def Ln.with (l:Ln) (col:Nat) (jn:Ln):Ln:=⟨l.name,l.add+af l.c col 0*jn.add,(aC (ae l.c)).map (l.Bn col jn)⟩
structure ji (l:Ln):Prop where
 add:XOk 1000000 l.add
 c:∀x,x∈l.c->XOk 1000000 x
 len:l.c.length < 1000000
def XOk.mono (h:XOk a x) (k:a<=b):XOk b x:=⟨h.1.mono k,h.2.mono k⟩
def adw (h:0 < k):XOk k 0:=⟨by show ay (0:Int) < _;exact alS aR,uq k h⟩
def ji.get (h:ji l) (i:Nat):XOk 1000000 (af l.c i 0):=by
 rcases aij i (ae l.c) with k | k
 .exact h.c _ (by rw[af,ah6 k];exact ajj _)
 .have:af l.c i 0=0:=by simp[af,k]
  rw[this];exact adw aR
def XOk.mul (h:XOk a x) (g:XOk b y):XOk (a+b) (x*y):=by
 have k:=h.1.mul g.1;have z:=h.2.mul g.2;have w:0 < ((x.den:Int)*y.den):=by have k:=x.den_pos;have z:=y.den_pos;exact al6 aD aD
 rw[<-PQ x y];refine ⟨k.le ?_,z.le ?_⟩
 .rw[ane,ai5 w,aj2];exact amM _ _
 .rw[anf,ah0 aD];exact alA _ _
def ij:aI (H++l) (ae H+j) v=aI l j v:=by unfold aI;rw[aiC aD,ak2]
def acL:bk (H++l) (ae H+j) v K=bk l j v K:=by unfold bk;rw[ij]
def aeH {H l:aF} {j:Nat} {o:Option bz}:(H++l).set (ae H+j) o=H++l.set j o:=by rw[ajy _ _ aD,ak2]
def acp {H l:aF} {j:Nat}:(H++l).drop (ae H+j)=l.drop j:=by rw[ak6,aih aD,ak2,aiy]
attribute [go_sem] acL aeH acp
def Qe (hH:Idl H) (hv:RdX H 6 v (l.c.map xC)) (hw:RdX H 6 w (b.c.map xC)) (W:ji l) (I:ji b) (b2:ae b.c=ae l.c) (hc:col < ae l.c) :
  bR prog 143 [.agg (cL l v),.q0 (col:Int),.agg (cL b w)] H (.agg (cL (l.with col b) (.seq 6 ar ((l.with col b).c.map xC)))) H:=by
 refine cc func143 BY ?_;refine uz ?_;have cv:=hv.cell;have cw:=hw.cell;have Lv:=hv.len;have Lw:=hw.len;have ⟨p,p1,p2⟩:=hv.rd (H++[ak ⟨8,0,[cL l v]⟩,ak ⟨8,0,[cL b w]⟩,ak ⟨8,0,[[.q0 0,.q0 0,.v0 ar,.nil,.q0 0,.v0 ar,.nil,.nil]]⟩]) (aL.app _ _ _) col _ (qT hc);refine Z ?_;refine aH (Ix _ _ ((W.get col).mono aR) (I.add.mono aR)) (by show (bJ (xA _)&&(bJ (xA _)&&aq))=aq;rw[bC,bC];rfl) (bC _) ?_;refine Z ?_;refine aH (KP _ _ (W.add.mono aR) (((W.get col).mul I.add).mono aR)) (by show (bJ (xA _)&&(bJ (xA _)&&aq))=aq;rw[bC,bC];rfl) (bC _) ?_;refine Z ?_;generalize hs:l.add+af l.c col 0*b.add=s;generalize O:af l.c col 0=f at *;have t:XOk 1000000 f:=O ▸ W.get col;have b3:=W.len;refine ⟨aD,?_⟩;refine aZ (fun n e G=>∃(i:Nat) (u:AV),i<=ae l.c/\n=ae l.c - i/\aL H G [] /\
  aI G (ae H+1) 0=ak ⟨8,0,[cL b w]⟩/\aI G (ae H+2) 0=ak ⟨8,0,[[.q0 0,.q0 0,.v0 ar,.nil,.q0 0,.v0 ar,.nil,.nil]]⟩ /\
  aI G (ae H+3) 0=ak ⟨6,0,[xC f]⟩/\aI G (ae H+4) 0=ak ⟨8,0,[cL ⟨l.name,s,[]⟩ u]⟩/\Acc (ae H+5) G 6 u (((l.with col b).c.take i).map xC) /\
  e=[(1,.q0 (col:Int)),(5,.ptr (ae H+1) 0 0 0),(6,.ptr (ae H+2) 0 0 0),(7,.ptr (ae H+3) 0 0 0),(8,.ptr (ae H+4) 0 0 0),(27,v),(28,.q0 (ae l.c:Int)),(29,.q0 (i:Int))])
  ⟨0,.nil,aD,rfl,aL.app _ _ _,by rw[ij];rfl,by rw[ij];rfl,by rw[ij];rfl,by rw[ij];rfl,.nil,by rw[ah3];rfl⟩ ?_;rintro n _ G ⟨i,u,hi,hn,F,g1,g2,g3,N,E,rfl⟩;have l4:=aP N;have cu:=E.cell;have r1:∀a K,bk (G++a) (ae H+1) 0 K=K ⟨8,0,[cL b w]⟩:=fun a K=>aK (by rw[cJ (by omega)];exact g1) K;have r3:∀a K,bk (G++a) (ae H+3) 0 K=K ⟨6,0,[xC f]⟩:=fun a K=>aK (by rw[cJ (by omega)];exact g3) K;have r4:∀a K,bk (G++a) (ae H+4) 0 K=K ⟨8,0,[cL ⟨l.name,s,[]⟩ u]⟩:=fun a K=>aK (by rw[cJ l4];exact N) K;by_cases L:(i:Int) < (ae l.c:Int)
 .have e1:au .i64 ((i:Int)+1)=((i+1:Nat):Int):=by rw[wrap_i64 (by omega) (by omega)];rfl
  have ⟨q,q1,q2⟩:=hv.rd G F i _ (qT aD);obtain ⟨B,X⟩:∃B,B=G++[ak (⟨6,0,[xC (af l.c i 0)]⟩:bz)]:=⟨_,rfl⟩;have S:aL G B []:=by rw[X];exact aL.app _ _ _
  have ⟨q',q3,T⟩:=hw.rd B (F.trans S) i _ (qT aD);have V:=E.aQ S aO;have b4:(l.with col b).c.length=ae l.c:=by simp[Ln.with]
  have b1:(l.with col b).c.getD i 0=l.Bn col b i:=by simp[Ln.with,af,show i < ae l.c by omega]
  have round:∀y,y=l.Bn col b i->∃k x,(∀K,bX 6 u [xC y] B K=K k x)/\bB k=aq/\k.cells=[k]/\dA k=aq/\(∀K,bk x (ae H+4) 0 K=K ⟨8,0,[cL ⟨l.name,s,[]⟩ u]⟩) /\
    ∃m,m < n/\∃(R:Nat) (u':AV),R<=ae l.c/\m=ae l.c - R/\aL H (x.set (ae H+4) (ak ⟨8,0,[cL ⟨l.name,s,[]⟩ k]⟩)) [] /\
     aI (x.set (ae H+4) (ak ⟨8,0,[cL ⟨l.name,s,[]⟩ k]⟩)) (ae H+1) 0=ak ⟨8,0,[cL b w]⟩/\aI (x.set (ae H+4) (ak ⟨8,0,[cL ⟨l.name,s,[]⟩ k]⟩)) (ae H+2) 0=ak ⟨8,0,[[.q0 0,.q0 0,.v0 ar,.nil,.q0 0,.v0 ar,.nil,.nil]]⟩ /\
     aI (x.set (ae H+4) (ak ⟨8,0,[cL ⟨l.name,s,[]⟩ k]⟩)) (ae H+3) 0=ak ⟨6,0,[xC f]⟩/\aI (x.set (ae H+4) (ak ⟨8,0,[cL ⟨l.name,s,[]⟩ k]⟩)) (ae H+4) 0=ak ⟨8,0,[cL ⟨l.name,s,[]⟩ u']⟩ /\
     Acc (ae H+5) (x.set (ae H+4) (ak ⟨8,0,[cL ⟨l.name,s,[]⟩ k]⟩)) 6 u' (((l.with col b).c.take R).map xC) /\
     ([(1,.q0 (col:Int)),(5,.ptr (ae H+1) 0 0 0),(6,.ptr (ae H+2) 0 0 0),(7,.ptr (ae H+3) 0 0 0),(8,.ptr (ae H+4) 0 0 0),(27,v),(28,.q0 (ae l.c:Int)),(29,.q0 ((i+1:Nat):Int))]:Env) =
      [(1,.q0 (col:Int)),(5,.ptr (ae H+1) 0 0 0),(6,.ptr (ae H+2) 0 0 0),(7,.ptr (ae H+3) 0 0 0),(8,.ptr (ae H+4) 0 0 0),(27,v),(28,.q0 (ae l.c:Int)),(29,.q0 (R:Int))]:=by
   rintro y rfl;have k1:=S.1;have ⟨k,x,g,a2,a3,a4,a5,C,D,U⟩:=V.app aD (by simp;have:=W.len;omega) (xC (l.Bn col b i));have a9:∀j,j∈aG u->ae H+5<=j:=fun j A=>(E.ge j A).1;have M:∀j,j < ae H+5->∀w,aI x j w=aI G j w:=fun j A w=>by rw[a3.2 j (by omega) (fun h=>by have:=a9 j h;omega),S.2 j (by omega) (by simp)]
   have k3:=a3.1;refine ⟨k,x,g,C,D,U,aK (by rw[M _ (by omega)];exact N),ae l.c - (i+1),aD,i+1,k,aD,rfl,⟨by rw[ah8];omega,fun j A _ w=>?_⟩,?_,?_,?_,?_,?_,rfl⟩
   .rw[aS (by omega),M j (by omega)];exact F.2 j A aO w
   .rw[aS (by omega),M _ (by omega)];exact g1
   .rw[aS (by omega),M _ (by omega)];exact g2
   .rw[aS (by omega),M _ (by omega)];exact g3
   .exact bn aD
   .rw[uT (d:=0) (by omega),b1];exact a2.hZ aD
  have wl:6=6:=rfl;by_cases J:(i:Int)=(col:Int)
  .have ⟨k,x,g,C,D,U,ro,fin⟩:=round (f*af b.c i 0) (by unfold Ln.Bn;rw[ah1 (by omega),O]);have z:((i:Int)=(col:Int))=True:=aiq J;rw[X] at g T;simp only[go_sem,↓reduceIte,ahZ,L,q1,q2,r1,r3,r4,z,q3,T];refine aH (Ix f _ (t.mono aR) ((I.get i).mono aR)) (by show (bJ (xA _)&&(bJ (xA _)&&aq))=aq;rw[bC,bC];rfl) (bC _) ?_;have r:∀K,bX 6 u [[.q0 (rv (f*af b.c i 0).num),.v0 (rn (f*af b.c i 0).num),rd (f*af b.c i 0).num,.q0 (rv (f*af b.c i 0).den),.v0 (rn (f*af b.c i 0).den),rd (f*af b.c i 0).den]] (G++[ak ⟨6,0,[[.q0 (rv (af l.c i 0).num),.v0 (rn (af l.c i 0).num),rd (af l.c i 0).num,.q0 (rv (af l.c i 0).den),.v0 (rn (af l.c i 0).den),rd (af l.c i 0).den]]⟩]) K=K k x:=g;refine Y5 r C D ro e1 ?_;exact ⟨rfl,fin⟩
  .have ⟨k,x,g,C,D,U,ro,fin⟩:=round (af l.c i 0+f*af b.c i 0) (by unfold Ln.Bn;rw[ah0 (by omega),O]);have z:((i:Int)=(col:Int))=False:=aie J;rw[X] at g T;simp only[go_sem,↓reduceIte,ahZ,L,q1,q2,r1,r3,r4,z,q3,T,ajI];refine aH (Ix f _ (t.mono aR) ((I.get i).mono aR)) (by show (bJ (xA _)&&(bJ (xA _)&&aq))=aq;rw[bC,bC];rfl) (bC _) ?_;refine Y ?_;refine aH (KP _ _ ((W.get i).mono aR) ((t.mul (I.get i)).mono aR)) (by show (bJ (xA _)&&(bJ (xA _)&&aq))=aq;rw[bC,bC];rfl) (bC _) ?_;have r:∀K,bX 6 u [[.q0 (rv (af l.c i 0+f*af b.c i 0).num),.v0 (rn (af l.c i 0+f*af b.c i 0).num),rd (af l.c i 0+f*af b.c i 0).num,.q0 (rv (af l.c i 0+f*af b.c i 0).den),.v0 (rn (af l.c i 0+f*af b.c i 0).den),rd (af l.c i 0+f*af b.c i 0).den]] (G++[ak ⟨6,0,[[.q0 (rv (af l.c i 0).num),.v0 (rn (af l.c i 0).num),rd (af l.c i 0).num,.q0 (rv (af l.c i 0).den),.v0 (rn (af l.c i 0).den),rd (af l.c i 0).den]]⟩]) K=K k x:=g;refine Y5 r C D ro e1 ?_;exact ⟨rfl,fin⟩
 .have a0:i=ae l.c:=aD;subst a0;have b6:∀K,bk G (ae H+4) 0 K=K ⟨8,0,[cL ⟨l.name,s,[]⟩ u]⟩:=aK N;have b5:∀K,bk G (ae H+2) 0 K=K ⟨8,0,[[.q0 0,.q0 0,.v0 ar,.nil,.q0 0,.v0 ar,.nil,.nil]]⟩:=aK g2;have hS:∀xs K,bk (G.set (ae H+2) (ak ⟨8,0,xs⟩)) (ae H+2) 0 K=K ⟨8,0,xs⟩:=fun xs K=>aK (bn aD) K;refine Z ?_;rw[aiv (by simp[Ln.with])] at E;have hp:([.q0 l.name,.q0 (rv s.num),.v0 (rn s.num),rd s.num,.q0 (rv s.den),.v0 (rn s.den),rd s.den]:List AV).all bT=aq:=by show (bT (.q0 l.name)&&(xC s).all bT)=aq;rw[gR];rfl
  have fin:=(E.hZ (b:=ae H+2) (o:=ak ⟨8,0,[cL ⟨l.name,s,[]⟩ u]⟩) aD).aaz (H:=H) (pre:=[.q0 l.name,.q0 (rv s.num),.v0 (rn s.num),rd s.num,.q0 (rv s.den),.v0 (rn s.den),rd s.den]) (post:=[]) aD (mL _) hp rfl
   ⟨by rw[ah8];exact F.1,fun j A _ w=>by rw[aS (by omega)];exact F.2 j A aO w⟩ hH;have he:(l.with col b).add=s:=by unfold Ln.with;rw[<-hs,O]
  have b0:cL (l.with col b) (.seq 6 ar ((l.with col b).c.map xC))=[.q0 l.name,.q0 (rv s.num),.v0 (rn s.num),rd s.num,.q0 (rv s.den),.v0 (rn s.den),rd s.den]++[.seq 6 ar ((l.with col b).c.map xC)]:=by unfold cL;rw[he];rfl
  rw[b0];exact fin
def yJ (h:dW k H b=ak ys):j4 k a b H K=bO (il k H a ys) fun v=>K v.1 v.2:=by simp only[j4,h,aix]
def Acc.s6 {n0:Nat} {H:aF} {k:Nat} {v y:AV} {xs ys:List (List AV)} (h:Acc n0 H k v xs) (f:dW k H y=ak ys) (s:n0<=ae H) (r:ae xs+ae ys < 4000000000) (i:(xs++ys).all (fun x=>x.all (bp (ae H)))=aq) :
  ∃b H',(∀K,j4 k v y H K=K b H')/\Acc n0 H' k b (xs++ys)/\aL H H' (aG v)/\(H'.drop (ae H)).all (cg (ae H))=aq/\(Idl H->Idl H')/\((xs≠[]->kP v)->xs++ys≠[]->kP b)/\Dt b/\bB b=aq/\b.cells=[b]/\dA b=aq:=by
 have B:Dt v:=by cases h<;>first | rfl | exact trivial
 have l:=h.cell;have same:aL H H (aG v):=aL.refl _ _;have X:(H.drop (ae H)).all (cg (ae H))=aq:=by rw[aiZ];rfl
 have t:∀a:List (List AV),a=xs++ys->((H++[ak (⟨k,0,a⟩:bz)]).drop (ae H)).all (cg (ae H))=aq:=fun a o=>by rw[akV];simp only[ais,ajd,aiM,cg];rw[o];exact i
 have c:∀a:List (List AV),a=xs++ys->Idl H->Idl (H++[ak (⟨k,0,a⟩:bz)]):=fun a o g=>g.app (Hy (by simp only[cg];rw[o];exact i) (by omega:ae H<=ae H+1));cases ys with
 | nil =>
  refine ⟨v,H,fun K=>?_,by rw[aiu];exact h,same,X,id,fun C n=>C (bu n),B,l⟩;rw[yJ f];cases h<;>rfl
 | cons z a =>
  cases h with
  | nil =>
   refine ⟨.sl k (ae H) 0 0 (ae (z::a)),H++[ak ⟨k,0,z::a⟩],fun K=>?_,Acc.sl (xs:=z::a) s ct,aL.app _ _ _,t _ rfl,c _ rfl,fun _ _=>trivial,trivial,rfl,rfl,rfl⟩;rw[yJ f];show bO (if ae (z::a)<=4294967296 then ak (AV.sl k (ae H) 0 0 (ae (z::a)),H++[ak ⟨k,0,z::a⟩]) else an) _=_;rw[ah1 (by simp at r ⊢;omega)];rfl
  | sq =>
   have e:ae xs+ae (z::a)=ae (xs++z::a):=aO;refine ⟨.sl k (ae H) 0 0 (ae (xs++z::a)),H++[ak ⟨k,0,xs++z::a⟩],fun K=>?_,Acc.sl s ct,aL.app _ _ _,t _ rfl,c _ rfl,fun _ _=>trivial,trivial,rfl,rfl,rfl⟩;rw[yJ f];show bO (if k=k/\ae xs+ae (z::a)<=4294967296 then ak (AV.sl k (ae H) 0 0 (ae xs+ae (z::a)),H++[ak ⟨k,0,xs++z::a⟩]) else an) _=_;rw[ah1 ⟨rfl,aD⟩,e];rfl
  | sl A p =>
   rename_i id ver;have m:=aP p;have e:ae xs+ae (z::a)=ae (xs++z::a):=aO;refine ⟨.sl k id (ver+1) 0 (ae (xs++z::a)),H.set id (ak ⟨k,ver+1,xs++z::a⟩),fun K=>?_,Acc.sl A (bn m),⟨aO,fun j _ q w=>by simp[aG] at q;exact aS (ait q)⟩,by rw[aih aO];rfl,fun g=>g.set (by simp only[cg];exact i),fun _ _=>trivial,trivial,rfl,rfl,rfl⟩;have W:j4 k (.sl k id ver 0 (ae xs)) y H K=bX k (.sl k id ver 0 (ae xs)) (z::a) H K:=by rw[yJ f];rfl
   rw[W,oM p aO];refine propext ⟨fun h=>?_,fun h=>⟨rfl,by simp at r ⊢;omega,?_⟩⟩
   .have:=h.2.2;simpa using this
   .simpa using h
def SlV.parts {H:aF} {k:Nat} {v:AV} {xs:List (List AV)} (h:SlV H k v xs) {i:Nat} (n:i < ae xs) :
  ∃a b,(∀(e:Env) (x:Option Opd),bL e (ae xs) (ae xs) x=ak i->∀(K:AV->Prop),yX k e an x v H K=K a)/\(∀(e:Env) (lo:Option Opd),bL e (ae xs) 0 lo=ak (i+1)->∀(G:aF) (K:AV->Prop),yX k e lo an v G K=K b)/\(∀G,aL H G []->dW k G a=ak (xs.take i)/\dW k G b=ak (xs.drop (i+1)))/\aG a=aG v/\aG b=aG v:=by
 have j:∀(e:Env) m,bL e m 0 an=ak 0:=fun e m=>by simp[bL]
 have l:∀e:Env,bL e (ae xs) (ae xs) an=ak (ae xs):=fun e=>by simp[bL]
 cases h with
 | nil=>simp at n
 | seq =>
  rename_i f;refine ⟨.seq k (f&&decide (i=ae xs)) ((xs.take i).drop 0),.seq k (f&&decide (ae xs=ae xs)) ((xs.take (ae xs)).drop (i+1)),fun e x w K=>?_,fun e lo c G K=>?_,fun G _=>⟨by simp[dW],by simp[dW]⟩,rfl,rfl⟩
  .rw[FW];simp only[oY,ajs,w,aix,j,oI]
  .rw[FW];simp only[oY,ajs,l,aix,c,oI]
 | sl g =>
  rename_i z ver p;refine ⟨.sl k z ver (0+0) (i - 0),.sl k z ver (0+(i+1)) (ae xs - (i+1)),fun e x w K=>?_,fun e lo c G K=>?_,fun G o=>?_,rfl,rfl⟩
  .exact lS w (j e i)
  .exact lS (l e) c
  .have y:aI G z ver=ak ⟨k,ver,xs++p⟩:=by rw[o.2 z (aP g) (by simp)];exact g
   constructor
   .simp only[dW,y,aix];rw[ah1 (by simp;omega)];simp[ajU (show i<=ae xs by omega)]
   .simp only[dW,y,aix];rw[ah1 (by simp;omega),aia,alH (by omega),ajU (by simp),aiv (by simp)]
def fZ {xs:List (List AV)} (n:Nat) (h:xs.all (fun x=>x.all bT)=aq):xs.all (fun x=>x.all (bp n))=aq:=by simp only[ah4] at h ⊢;exact fun x y a k=>tI (h x y a k) n
def Pp {H:aF} {v:AV} {l:List Rat} {i:Nat} (q:Idl H) (hv:SlV H 6 v (l.map xC)) (r:i < ae l) (O:ae l < 1000000) :
  bR prog 145 [v,.q0 (i:Int)] H (.seq 6 ar ((aB l i).map xC)) H:=by
 refine cw func145 ?_;have M:=ws i;have N:∀H:aF,(H.drop (ae H)).all (cg (ae H))=aq:=fun H=>by rw[aiZ];rfl
 refine Z ?_;have ⟨a,b,m,n,w,J,L⟩:=hv.parts (i:=i) (by rw[ah3];exact r);rw[m _ _ (by simp[bL,Opd.ev,lk,intOf?];omega)];have ⟨o,_⟩:=w H (aL.refl _ _);obtain ⟨R,e,t,z,f,K,X,W,A,B⟩:=(Acc.sq (n0:=ae H) (H:=H) (k:=6) (xs:=[])).s6 o (ahZ _) bW (fZ _ (by rw[aiy,<-akQ];exact mL _));refine Z ?_;rw[n _ _ (by simp[bL,Opd.ev,lk,intOf?];omega)];have y:=f;have ⟨_,p⟩:=w e y;obtain ⟨S,s,C,g,j,D,E,F,G,I⟩:=z.s6 p y.1 bW (fZ _ (by rw[aiy,<-akQ,<-alv,<-aii];exact mL _));refine Z ?_;refine ⟨DA fun x h=>cn (hv.cV x h),?_⟩;have c:(aB l i).map xC=[]++(l.map xC).take i++(l.map xC).drop (i+1):=by rw[akf,aii,akQ,alv,aiy]
 rw[c];refine g.YP (c ▸ mL _) (y.grow j fun x h=>(z.ge x h).1) q
def TJ (E:Idl H) (hv:SlV H 1 v (br l)) (F:i < ae l) (T:ae l < 1000000) :
  cR prog 144 [v,.q0 (i:Int)] H fun z y=>Acc (ae H) y 1 z (br (aB l i))/\aL H y []/\Idl y/\(aB l i≠[]->kP z)/\Dt z:=by
 refine qw func144 ?_;have R:=ws i;have S:∀H:aF,(H.drop (ae H)).all (cg (ae H))=aq:=fun H=>by rw[aiZ];rfl
 refine Z ?_;have ⟨a,b,A,B,g,N,O⟩:=hv.parts (i:=i) (by rw[ah3];exact F);rw[A _ _ (by simp[bL,Opd.ev,lk,intOf?];omega)];have ⟨C,_⟩:=g H (aL.refl _ _);have ⟨U,m,G,f,n,I,o,p,J,L⟩:=(Acc.sq (n0:=ae H) (H:=H) (k:=1) (xs:=[])).s6 C (ahZ _) bW (fZ _ (by rw[aiy,<-akQ];exact gV _));refine Z ?_;rw[B _ _ (by simp[bL,Opd.ev,lk,intOf?];omega)];have e:=n;have ⟨_,D⟩:=g m e;have ⟨z,y,q,r,s,t,K,X,W,M⟩:=f.s6 D e.1 bW (fZ _ (by rw[aiy,<-akQ,<-alv,<-aii];exact gV _));refine Z2 q t ?_;refine ⟨DA fun c x=>cn (hv.cV c x),?_⟩;have j:(aB l i).map cN=[]++(l.map cN).take i++(l.map cN).drop (i+1):=by rw[akf,aii,akQ,alv,aiy]
 rw[br,j];exact ⟨r,e.grow s fun c x=>(f.ge c x).1,K (o E),fun w=>X (p fun h=>absurd rfl h) (by rw[<-j];simpa using w),W⟩
structure Pl where
 n:Int
 l:List Cd
instance:Inhabited Pl:=⟨⟨0,[]⟩⟩
abbrev p9 (p:Pl):List AV:=[.q0 p.n,.seq 3 ar (p.l.map cC)]
def Pl.iN (most:Int) (p:Pl):Bool := !(decide (most < (ae p.l:Int))&&decide ((ae p.l:Int)<=120) || decide (140 < (ae p.l:Int)))&&p.l.all fun c=>decide ((ae c.f.c:Int)<=40)
def bS {α:Type} {l:List α} {i:Nat} {d:α} (h:i < ae l):af l i d∈l:=by rw[af,ah6 h];exact ajj _
def jk {α:Type} {p:α->Bool} {l:List α} {d:α} (k:∀j,j < ae l->p (af l j d)=aq):l.all p=aq:=by rw[ah4];intro x y;obtain ⟨j,h,rfl⟩:=ajD.1 y;have:=k j h;simpa[af,h] using this
structure As where
 kind:Int
 f:Fm
 low:Int
structure Lc where
 inv:Pl
 dy:Pl
structure Jp where
 cI:Int
 to:Int
 label:Int
 guard:Pl
 cO:List As
structure Zn where
 loc:Int
 set:Pl
structure Au where
 bA:Int
 aJ:List Lc
 aN:List Jp
 init:List Zn
instance:Inhabited Fm:=⟨⟨[],0⟩⟩
instance:Inhabited As:=⟨⟨0,⟨[],0⟩,0⟩⟩
instance:Inhabited Lc:=⟨⟨ah,ah⟩⟩
instance:Inhabited Jp:=⟨⟨0,0,0,ah,[]⟩⟩
instance:Inhabited Zn:=⟨⟨0,ah⟩⟩
abbrev dX (x:As):List AV:=[.q0 x.kind,iz x.f.c,.q0 x.f.a,.q0 x.low]
abbrev iy (x:Lc):List AV:=[.q0 x.inv.n,.seq 3 ar (x.inv.l.map cC),.q0 x.dy.n,.seq 3 ar (x.dy.l.map cC)]
abbrev dI (x:Jp):List AV:=[.q0 x.cI,.q0 x.to,.q0 x.label,.q0 x.guard.n,.seq 3 ar (x.guard.l.map cC),.seq 4 ar (x.cO.map dX)]
abbrev iF (x:Zn):List AV:=[.q0 x.loc,.q0 x.set.n,.seq 3 ar (x.set.l.map cC)]
abbrev c9 (x:Au):List AV:=[.q0 x.bA,.seq 4 ar (x.aJ.map iy),.seq 6 ar (x.aN.map dI),.seq 3 ar (x.init.map iF)]
def sy (l:List Int) (i:Nat):Bool:=decide (1<=af l i 0/\af l i 0<=20/\(i=0\/af l (i - 1) 0 < af l i 0))
def nG (l:List Int):Bool:=(aC (ae l)).all (sy l)
def Pm (h:∀j,j < ae l->sy l j=aq):nG l=aq:=by unfold nG;rw[ah4];intro j k;exact h j (bu k)
def Ks (k:j < ae l) (h:sy l j=ar):nG l=ar:=by unfold nG;rw[ajq];exact ⟨j,bu k,by rw[h];decide⟩
def VT (l:List Int) (X:ae l < 1000000000) (b:Bool):bg prog 18 [.seq 1 b (br l)] (.v0 (nG l)):=by
 refine pw func18 ?_;have k:(ah:Int)=0:=rfl;refine Y ?_;refine aZ (fun n e H=>∃i:Nat,i<=ae l/\n=ae l - i/\(∀j,j < i->sy l j=aq) /\
  e=[(0,.seq 1 b (br l)),(5,.seq 1 b (br l)),(6,.q0 (ae l:Int)),(7,.q0 (i:Int))]) ⟨0,aD,rfl,fun j h=>aD,rfl⟩ ?_;rintro n _ H ⟨i,v,W,r,rfl⟩;by_cases x:(i:Int) < (ae l:Int)
 .have o:=ws i;have t:sy l i=ar->nG l=ar:=fun h=>Ks aD h;have s:∀G:aF,sy l i=aq->∃m,m < n/\∃c:Nat,c<=ae l/\m=ae l - c/\(∀j,j < c->sy l j=aq) /\
    ([(0,.seq 1 b (br l)),(5,.seq 1 b (br l)),(6,.q0 (ae l:Int)),(7,.q0 ((i+1:Nat):Int))]:Env)=[(0,.seq 1 b (br l)),(5,.seq 1 b (br l)),(6,.q0 (ae l:Int)),(7,.q0 (c:Int))]:=fun G h=>by
   refine ⟨ae l - (i+1),aD,i+1,aD,rfl,fun j K=>?_,rfl⟩;rcases aij j i with z | z
   .exact r j z
   .rw[show j=i by omega];exact h
  have w:sy l i=decide (1<=af l i 0/\af l i 0<=20/\(i=0\/af l (i - 1) 0 < af l i 0)):=rfl;have y:∀{H:aF},sy l i=ar->Fin 0 (.v0 ar) H (.v0 (nG l)) []:=fun h=>aW (by rw[t h]) rfl;by_cases z:af l i 0 < 1
  .refine Y3 x k z ?_;exact ⟨aD,y (by rw[w,aif (by omega)])⟩
  by_cases a:20 < af l i 0
  .refine Y4 x k z a ?_;exact ⟨aD,y (by rw[w,aif (by omega)])⟩
  by_cases f:0 < (i:Int)
  .have p:au .i64 ((i:Int) - 1)=((i - 1:Nat):Int):=by rw[wrap_i64 (by omega) (by omega)];omega
   by_cases q:af l i 0<=af l (i - 1) 0
   .refine Z7 x k z a f q p ?_;exact ⟨aD,aD,y (by rw[w,aif (by omega)])⟩
   .refine Z8 x k z a f q o p ?_;exact ⟨aD,aD,s H (by rw[w,air (by omega)])⟩
  .refine Z6 x k z a f o ?_;exact ⟨aD,s H (by rw[w,air (by omega)])⟩
 .have g:i=ae l:=aD;subst g;refine Y1 x ?_;exact aW (by rw[Pm r]) rfl
def Aq (l:List Int) (x:Int) (r:ae l < 1000000000) (b:Bool):bg prog 21 [.seq 1 b (br l),.q0 x] (.v0 (l.contains x)):=by
 refine pw func21 ?_;have k:(ah:Int)=0:=rfl;refine Y ?_;refine aZ (fun n e H=>∃i:Nat,i<=ae l/\n=ae l - i/\(∀j,j < i->af l j 0≠x) /\
  e=[(1,.q0 x),(7,.seq 1 b (br l)),(8,.q0 (ae l:Int)),(9,.q0 (i:Int))]) ⟨0,aD,rfl,fun j h=>aD,rfl⟩ ?_;rintro n _ H ⟨i,q,s,g,rfl⟩;by_cases z:(i:Int) < (ae l:Int)
 .have m:=ws i;by_cases w:af l i 0=x
  .have y:=aiq w;refine Z3 z k y ?_;refine ⟨aD,aW ?_ rfl⟩;have:l.contains x=aq:=by rw[amg,<-w];exact bS aD
   rw[this]
  .have y:=aie w;refine Z4 z k y m ?_;refine ⟨aD,ae l - (i+1),aD,i+1,aD,rfl,fun j c=>?_,rfl⟩;rcases aij j i with f | f
   .exact g j f
   .rw[show j=i by omega];exact w
 .have a:i=ae l:=aD;subst a;refine Y1 z ?_;have:l.contains x=ar:=by rw[<-Bool.not_eq_true,amg];intro p;have ⟨j,c,o⟩:=ajD.1 p;exact g j c (by simp[af,c,o])
  exact aW (by rw[this]) rfl
def Acc.Ke {n0:Nat} {H:aF} {k:Nat} {v:AV} {xs ys:List (List AV)} (h:Acc n0 H k v xs) (i:n0<=ae H) (g:ae xs+ae ys < 4000000000) :
  ∃y H',(∀K,bX k v ys H K=K y H')/\Acc n0 H' k y (xs++ys)/\aL H H' (aG v)/\bB y=aq/\y.cells=[y]/\dA y=aq:=by
 have a:=h.cell;cases ys with
 | nil =>
  refine ⟨v,H,fun K=>?_,by rw[aiu];exact h,aL.refl _ _,a⟩;cases h<;>rfl
 | cons z x =>
  cases h with
  | nil =>
   refine ⟨.sl k (ae H) 0 0 (ae (z::x)),H++[ak ⟨k,0,z::x⟩],fun K=>?_,Acc.sl (xs:=z::x) i ct,aL.app _ _ _,rfl,rfl,rfl⟩;show bO (if ae (z::x)<=4294967296 then ak (AV.sl k (ae H) 0 0 (ae (z::x)),H++[ak ⟨k,0,z::x⟩]) else an) _=_;rw[ah1 (by simp at g ⊢;omega)];rfl
  | sq =>
   have e:ae xs+ae (z::x)=ae (xs++z::x):=aO;refine ⟨.sl k (ae H) 0 0 (ae (xs++z::x)),H++[ak ⟨k,0,xs++z::x⟩],fun K=>?_,Acc.sl i ct,aL.app _ _ _,rfl,rfl,rfl⟩;show bO (if k=k/\ae xs+ae (z::x)<=4294967296 then ak (AV.sl k (ae H) 0 0 (ae xs+ae (z::x)),H++[ak ⟨k,0,xs++z::x⟩]) else an) _=_;rw[ah1 ⟨rfl,aD⟩,e];rfl
  | sl m c =>
   rename_i l ver;have b:=aP c;refine ⟨.sl k l (ver+1) 0 (ae (xs++z::x)),H.set l (ak ⟨k,ver+1,xs++z::x⟩),fun K=>?_,Acc.sl m (bn b),⟨aO,fun j _ f w=>by simp[aG] at f;exact aS (ait f)⟩,rfl,rfl,rfl⟩;have e:ae xs+ae (z::x)=ae (xs++z::x):=aO;rw[oM c aO];refine propext ⟨fun h=>?_,fun h=>⟨rfl,by simp at g ⊢;omega,?_⟩⟩
   .have:=h.2.2;simpa using this
   .simpa using h
def Acc.mk {n0 k n:Nat} {H:aF} {xs:List (List AV)} (x:n=ae xs) (h:n0<=ae H):Acc n0 (H++[ak ⟨k,0,xs⟩]) k (.sl k (ae H) 0 0 n) xs:=by subst x;exact .sl h ct
def Qh (k:Nat) (z:List AV) (a n:AV) (H:aF) (K:AV->aF->Prop):Prop:=bO (match n with
  | .c (.int .i64 m)=>if 0<=m/\m<=4294967296/\ae z=k/\z.all bB=aq then il k H a (aA (az m) z) else an
  | _=>an) fun v=>K v.1 v.2
def aeI:cS P h (.s7 x y k z) e H K=Qh k z (x.ev e) (y.ev e) H K:=nh rfl rfl
def adH:Qh k z a (.q0 m) H K=((0<=m/\m<=4294967296/\ae z=k/\z.all bB=aq)/\bX k a (aA (az m) z) H K):=by
 unfold Qh bX;show bO (if 0<=m/\m<=4294967296/\ae z=k/\z.all bB=aq then _ else _) _=_;by_cases h:0<=m/\m<=4294967296/\ae z=k/\z.all bB=aq
 .rw[ah1 h];exact propext ⟨fun g=>⟨h,g⟩,fun g=>g.2⟩
 .rw[ah0 h];exact propext ⟨fun g=>g.elim,fun g=>(h g.1).elim⟩
attribute [go_sem] aeI adH
def Fm.wide (f:Fm) (b a:Nat):Fm:=⟨aA b 0++f.c++aA a 0,f.a⟩
def J2 (f:Fm) (b a:Nat) (L:ae f.c < 1000000) (J:b < 1000000) (I:a < 1000000):bg prog 38 [.agg (fC f),.q0 (b:Int),.q0 (a:Int)] (.agg (fC (f.wide b a))):=by
 refine pw func38 ?_;refine Z0 ?_;refine ⟨aD,?_⟩;have A:Acc 1 [ak ⟨2,0,[[AV.nil,.q0 0]]⟩,ak ⟨1,0,(aA b 0).map cN⟩] 1 (.sl 1 1 0 0 b) (br (aA b 0)) :=
  Acc.mk (H:=[ak ⟨2,0,[[AV.nil,.q0 0]]⟩]) aO aO;obtain ⟨v,G,q,i,j,D,E,F⟩:=A.Ke (ys:=br f.c) aO bW;have m:aI G 0 0=ak ⟨2,0,[[AV.nil,.q0 0]]⟩:=by rw[j.2 0 aO (by simp[aG])];rfl
 obtain ⟨p,k,r,l,s,t,X,W⟩:=i.Ke (ys:=aA a [.q0 0]) (by have:=j.1;simp at this;omega) bW;have C:∀x,x∈aG v->1<=x:=fun x w=>(i.ge x w).1;have n:aI k 0 0=ak ⟨2,0,[[AV.nil,.q0 0]]⟩:=by rw[s.2 0 (aP m) (fun h=>by have:=C 0 h;omega)];exact m
 have z:∀K,bk k 0 0 K=K ⟨2,0,[[AV.nil,.q0 0]]⟩:=aK n;have y:∀K,bX 1 v (List.map cN (aA a 0)) G K=K p k:=fun K=>by rw[ajT];exact r K
 refine Z1 q ?_;refine ⟨⟨aD,aD⟩,?_⟩;have B:∀g K,bk (k.set 0 (ak ⟨2,0,g⟩)) 0 0 K=K ⟨2,0,g⟩:=fun g K=>aK (bn (aP n)) K;refine Y6 y t X W z B ?_;have e:br (aA b 0)++br f.c++aA a [AV.q0 0]=br (f.wide b a).c:=by show _=br (aA b 0++f.c++aA a 0);simp only[br,aii,ajT];rfl
 rw[e] at l;have:=(l.hZ (b:=0) (o:=ak ⟨2,0,[[p,.q0 f.a]]⟩) aR).zz (pre:=[]) (post:=[.q0 f.a]) (gV _) rfl rfl;exact this
end
section
variable {P:Program} {α:Type}
def wI (w:World):Imm:=fun b o=>w.cell? ⟨b,o,an⟩
def abj (w:World):AP (wI w) w:=fun b o v h=>by
 unfold wI World.cell? at h;split at h
 .exact ⟨_,_,_,by assumption,h⟩
 .cases h
def IH {w:World} {a:Addr} {v:Value} (h:w.cell? a=ak v):a.spot=an/\wI w a.block a.off=ak v:=by
 have ⟨b,o,sp⟩:=a;cases sp with
 | none=>exact ⟨rfl,h⟩
 | some x =>
  unfold World.cell? at h;split at h
  .simp at h
  .cases h
def adi (w:World):Sim (wI w) iO [] w :=
 ⟨abj w,fun k x h=>by simp at h,fun k y x z B a h=>by simp at h,fun k ver B h=>by simp[iO] at h,fun k x n h=>by simp at h⟩
def Nl {β γ:Type} {f:β->Option γ}:∀{l:List β} {xs:List γ},l.mapM f=ak xs->ae xs=ae l/\∀(i:Nat) (x:β),l[i]?=ak x->f x=xs[i]?
 | [],xs,h=>by simp at h;subst h;simp
 | y::ys,xs,h=>by
  rw[am8] at h;simp only[Option.bind_eq_bind,ah7,Option.pure_def,akd] at h;obtain ⟨z,e,g,a,rfl⟩:=h;have ⟨b,c⟩:=Nl a;refine ⟨by simp[b],fun i x k=>?_⟩
  match i with
  | 0=>simp at k;subst k;simpa using e
  | i+1=>simp at k ⊢;exact c i x k
def E3 {w:World} {a:Addr} {n:Nat} {cs:List Value} (h:w.cells? 0 a n=ak cs):ae cs=n/\∀j,j < n->w.cell? (a.add j)=cs[j]?:=by unfold World.cells? at h;rw[ah1 (aiL _)] at h;have ⟨k,x⟩:=Nl h;exact ⟨bu k,fun j y=>x j j (by simp[y])⟩
section
variable {H:Type} {enc:TypeId × Value->H} {w:World} {sp:Nat->Bool} {held:Bool}
def gA (P:Program) (w:World) (enc:TypeId × Value->H) (sp:Nat->Bool) (held:Bool) (t:TypeId) (tr:α->List AV) (Q:α->Prop):Prop :=
 ∀fuel cs x,DataW.trod enc P w 0 sp held fuel t cs=ak x->∃y,Q y/\cG (wI w) iO (tr y) cs
def S4 {t:TypeId} (y:P.underlying t=ak (.int .i64)):gA P w enc sp held t (fun n:Int=>[.q0 n]) I64:=by
 intro fuel a x h;obtain ⟨n,rfl,rfl,z⟩:=DataW.trod_int y h;refine ⟨n,?_,.cons (.c rfl) (.nil _ _)⟩;have:-9223372036854775808<=n/\n<=9223372036854775807:=by
  have k:IntKind.i64.min<=n/\n<=9223372036854775807:=by simpa[Lit.wf] using z
  exact k
 unfold I64;omega
def Rm {t:TypeId} (k:P.underlying t=ak .bool):gA P w enc sp held t (fun b:Bool=>[.v0 b]) (fun _=>True):=by intro fuel y x h;obtain ⟨b,rfl,rfl⟩:=DataW.trod_bool k h;exact ⟨b,trivial,.cons (.c rfl) (.nil _ _)⟩
def rF {t e:TypeId} {k:Nat} {W:α->List AV} {Q:α->Prop} [Inhabited α] (ht:P.underlying t=ak (.slice e)) (hk:P.cellsOf e=k) (C:0 < k) (R:∀x,ae (W x)=k/\(W x).all bB=aq)
  (he:gA P w enc sp held e W Q):gA P w enc sp held t (fun l:List α=>[.seq k ar (l.map W)]) (fun l=>ae l<=maxLen/\∀x,x∈l->Q x):=by
 intro fuel cs x h;rcases DataW.trod_slice ht h with ⟨rfl,_⟩ | ⟨a,len,cap,elems,rest,n,rfl,rfl,rfl,_,G,S,T,B,_,_⟩
 .exact ⟨[],⟨aiL _,fun x D=>by simp at D⟩,.cons (.kf (fun h=>by cases h)) (.nil _ _)⟩
 .rw[hk] at B;have key:∀i,i < len->∃y,Q y/\∃cs,w.cells? 0 (a.add (i*k)) k=ak cs/\cG (wI w) iO (W y) cs:=fun i p=>by have c:=B i p;rw[ah6 (by omega)] at c;have ⟨cs,X,A⟩:=ah7.1 c;have ⟨y,E,J⟩:=he _ _ _ A;exact ⟨y,E,cs,X,J⟩
  let g:Nat->α:=fun i=>if p:i < len then (key i p).choose else ah;have F:∀i,i < len->Q (g i)/\∃cs,w.cells? 0 (a.add (i*k)) k=ak cs/\cG (wI w) iO (W (g i)) cs:=fun i p=>by have:=(key i p).choose_spec;simp only[g,p,dif_pos];exact this
  refine ⟨(aC len).map g,⟨bW,fun x D=>?_⟩,.cons ?_ (.nil _ _)⟩
  .obtain ⟨i,p,rfl⟩:=aiw.1 D;exact (F i (bu p)).1
  .cases len with
   | zero=>exact .kf (fun h=>by cases h)
   | succ m =>
    have O:a.spot=an:=by
     have ⟨_,cs,c,_⟩:=F 0 aD;have X:=(E3 c).2 0 C;have A:w.cell? ((a.add (0*k)).add 0)=ak (cs[0]'(by rw[(E3 c).1];exact C)):=by rw[X];simp
     have e:(a.add (0*k)).add 0=a:=by rw[ano];rfl
     rw[e] at A;exact (IH A).1
    have ⟨b,off,a0⟩:=a;simp only at O;subst O;have q:∀i j z,dL (((aC (m+1)).map g).map W) i j=ak z->∃v,wI w b (off+i*k+j)=ak v/\Rel (wI w) iO z v:=fun i j z K=>by
     unfold dL at K;have ⟨r,c,X⟩:=ah7.1 K;rw[ajp,ajp] at c;rcases aij i (m+1) with p | p
     .rw[amu p] at c;simp only[ai3,akd] at c;subst c;have ⟨_,cs,A,E⟩:=F i p;have ⟨J,h6⟩:=E3 A;have hj:j < k:=by have:=(aid.1 X).1;rw[(R _).1] at this;exact this
      have L:cs[j]?=ak (cs[j]'(by omega)):=by simp[show j < ae cs by omega]
      refine ⟨_,?_,E.2 j z _ X L⟩;have M:=h6 j hj;rw[L] at M;have N:=(IH M).2;have U:(((⟨b,off,an⟩:Addr).add (i*k)).add j).block=b:=by unfold Addr.add;split<;>split<;>rfl
      have V:(((⟨b,off,an⟩:Addr).add (i*k)).add j).off=off+i*k+j:=by
       unfold Addr.add;by_cases K:i*k=0
       .rw[ah1 K];by_cases o:j=0
        .rw[ah1 o];simp[K,o]
        .rw[ah0 o];simp[K]
       .rw[ah0 K];by_cases o:j=0
        .rw[ah1 o];simp[o]
        .rw[ah0 o]
      rw[U,V] at N;exact N
     .rw[aiO (by simpa using p)] at c;cases c
    have s:ae (((aC (m+1)).map g).map W)=m+1:=aO;have:=Rel.seq (I:=wI w) (β:=iO) (f:=ar) (xs:=((aC (m+1)).map g).map W) (b:=b) (off:=off) (cap:=cap) (k:=k) (fun i j=>(wI w b (off+i*k+j)).getD ah)
     (fun x D=>by obtain ⟨y,_,rfl⟩:=aiw.1 D;exact R y)
     (fun i j z K=>by obtain ⟨v,c,X⟩:=q i j z K;rw[c];rfl)
     (fun i j z K=>by obtain ⟨v,c,X⟩:=q i j z K;rw[c];exact X)
     (by rw[s];exact G) (fun h=>by cases h);rw[s] at this;exact this
def lN {t:TypeId} (c:P.underlying t=ak (.struct fs)) (h:DataW.trod enc P w 0 sp held fuel t cs=ak x) :
  ae cs=P.cellsOf t/\∀(i:Nat) (f:Field),fs[i]?=ak f->∃n y,DataW.trod enc P w 0 sp held n f.type ((cs.drop f.offset).take (P.cellsOf f.type))=ak y:=by obtain ⟨e,n,rfl,rfl,z,a,b⟩:=DataW.trod_struct c h;refine ⟨z,fun i f k=>⟨n,e[i]'(a ▸ (aj4.1 k).1),?_⟩⟩;rw[b i f k];simp
def jD {I:Imm} {β:Bet} {xs ys:List AV} {y vs:List Value} (h:cG I β xs y) (g:cG I β ys vs):cG I β (xs++ys) (y++vs):=by
 refine ⟨by rw[ain,ain,h.1,g.1],fun j a v e x=>?_⟩;rcases aij j (ae xs) with k | k
 .rw[aic k] at e;rw[aic (by rw[<-h.1];exact k)] at x;exact h.2 j a v e x
 .rw[aiC k] at e;rw[aiC (by rw[<-h.1];exact k),<-h.1] at x;exact g.2 _ a v e x
end
end
section
variable {P:Program}
def oX (name:Int) (f:Fm):Ln:=⟨name,(f.a:Rat),f.c.map fun x:Int=>(x:Rat)⟩
def WE (name:Int) (f:Fm) (hl:ae f.c < 1000000):bg prog 102 [.q0 name,wA f] (.agg (cL (oX name f) (.seq 6 ar ((oX name f).c.map xC)))):=by
 refine pw func102 ?_;have hd:∀H:aF,(H.drop (ae H)).all (cg (ae H))=aq:=fun H=>by rw[aiZ];rfl
 refine Z ?_;refine aH (wW 1 aR) rfl (bq _) ?_;refine Z ?_;refine aZ (fun n e H=>∃(i:Nat) (v:AV),i<=ae f.c/\n=ae f.c - i/\aI H 0 0=ak ⟨8,0,[[.q0 0,.q0 0,.v0 ar,.nil,.q0 0,.v0 ar,.nil,.nil]]⟩ /\
  aI H 1 0=ak ⟨8,0,[cL (oX name f) v]⟩/\Acc 2 H 6 v (((oX name f).c.take i).map xC) /\
  e=[(4,.ptr 0 0 0 0),(5,.ptr 1 0 0 0),(15,.seq 3 ar (f.c.map rC)),(16,.q0 (ae f.c:Int)),(17,.q0 (i:Int))]) ⟨0,.nil,aD,rfl,rfl,rfl,.nil,rfl⟩ ?_;rintro n _ H ⟨i,v,hi,hn,p,m,z,rfl⟩;have s:=aP p;have l1:=aP m;have cv:=z.cell;have L:(oX name f).c.length=ae f.c:=by simp[oX]
 by_cases I:(i:Int) < (ae f.c:Int)
 .have V:=ws i;have q:∀l K,bk (H++l) 1 0 K=K ⟨8,0,[cL (oX name f) v]⟩:=fun l K=>aK (by rw[cJ l1];exact m) K;refine Z ?_;have y:(ah:Int)=0:=rfl;rw[y];refine ⟨aD,aH (wW 1 aR) rfl (bq _) ?_⟩;generalize M:af f.c i 0=x;obtain ⟨o,w⟩:∃o,o=H++[ak (⟨3,0,[rC x]⟩:bz)]:=⟨_,rfl⟩;have k:aL H o []:=w ▸ aL.app _ _ _;have ⟨C,H',X,E,W,O,R,S,T,U⟩:=(z.aQ k aO).app (cn k.1) bW (xC (x:Rat));have g:=fun j G=>(z.ge j G).1;have B:aI H' 1 0=ak ⟨8,0,[cL (oX name f) v]⟩:=by rw[W.2 1 (aiB l1 k.1) (fun h=>by have:=g 1 h;omega),k.2 1 l1 (by simp)];exact m
  have A:=p;rw[<-k.2 0 s (by simp),<-W.2 0 (aiB s k.1) (fun h=>by have:=g 0 h;omega)] at A;have D:∀K,bX 6 v [[.q0 (rv x),.v0 (rn x),rd x,.q0 (rv 1),.v0 (rn 1),rd 1]] (H++[ak ⟨3,0,[[.q0 (rv x),.v0 (rn x),rd x]]⟩]) K=K C H':=by rw[w] at X;exact X
  have N:=aK B;refine Z ?_;refine ⟨rfl,ae f.c - (i+1),aD,i+1,C,aD,rfl,?_,?_,?_,rfl⟩
  .rw[aS (by decide)];exact A
  .exact bn (aP B)
  .rw[uT (d:=0) (by omega)];have:(oX name f).c.getD i 0=(x:Rat):=by rw[<-M];simp[oX,af,show i < ae f.c by omega]
   rw[this];exact E.hZ aR
 .have r:i=ae f.c:=aD;subst r;have q:=aK m;have F:=aK p;have hS:∀t K,bk (H.set 0 (ak ⟨8,0,t⟩)) 0 0 K=K ⟨8,0,t⟩:=fun t K=>aK (bn s) K;refine Z ?_;rw[aiv (by omega)] at z;have J:([.q0 name,.q0 (rv f.a),.v0 (rn f.a),rd f.a,.q0 (rv 1),.v0 (rn 1),rd 1]:List AV).all bT=aq:=by show (bT (.q0 name)&&(xC (f.a:Rat)).all bT)=aq;rw[gR];rfl
  exact (z.hZ (b:=0) aR).zz (pre:=[.q0 name,.q0 (rv f.a),.v0 (rn f.a),rd f.a,.q0 (rv 1),.v0 (rn 1),rd 1]) (post:=[]) (mL _) J rfl
structure Tb where
 n:Nat
 bh:List Int
 aE:List Ln
 aM:Ln
structure TbD where
 vc:AV
 vl:AV
 aV:List AV
 vg:AV
abbrev dO (ls:List Ln) (vs:List AV):List (List AV):=List.zipWith cL ls vs
def Gw (h:i < ae k) (a:ae vs=ae k):(dO k vs)[i]?=ak (cL (af k i ah) (af vs i .ba)):=by obtain ⟨x,z⟩:∃x,k[i]?=ak x:=⟨_,ah6 h⟩;obtain ⟨y,w⟩:∃y,vs[i]?=ak y:=⟨_,ah6 aD⟩;rw[alL,z,w,af,z,af,w];rfl
def bY (T:Tb) (D:TbD):List AV:=[.c (.int .i64 (T.n:Int)),D.vc,D.vl,.c (.int .i64 T.aM.name),.c (.int .i64 (rv T.aM.add.num)),.c (.bool (rn T.aM.add.num)),rd T.aM.add.num,.c (.int .i64 (rv T.aM.add.den)),.c (.bool (rn T.aM.add.den)),rd T.aM.add.den,D.vg]
structure TbR (H:aF) (t:Nat) (D:TbD) (T:Tb):Prop where
 fj:Idl H
 bF:aI H t 0=some ⟨11,0,[bY T D]⟩
 bh:SlV H 1 D.vc (br T.bh)
 wL:T.bh≠[]->kP D.vc
 aE:SlV H 8 D.vl (dO T.aE D.aV)
 qG:T.aE≠[]->kP D.vl
 gr:Dt D.vl
 cl:D.aV.length=T.aE.length
 rws:∀i,i < T.aE.length->SlV H 6 (D.aV.getD i .ba) ((T.aE.getD i default).c.map xC)
 aM:SlV H 6 D.vg (T.aM.c.map xC)
 pZ:∀id,id∈aG D.vc\/id∈aG D.vl->id≠t
 B6:∀id,id∈aG D.vc->id∉aG D.vl
 ke:∀i,i < T.aE.length->∀id,id∈aG (D.aV.getD i .ba)->id≠t/\id∉aG D.vc/\id∉aG D.vl
 mE:∀id,id∈aG D.vg->id≠t/\id∉aG D.vc/\id∉aG D.vl
def uB (n:Nat) (p:Nat->Bool):Int:=match (aC n).find? p with
 | some i=>i
 | none => -1
def OT (h:i < n) (y:p i=aq) (k:∀j,j < i->p j=ar):uB n p=i:=by
 unfold uB;have:(aC n).find? p=ak i:=by rw[List.find?_range_eq_some];exact ⟨y,bu h,fun j x=>by simp[k j x]⟩
 rw[this]
def OS (h:∀j,j < n->p j=ar):uB n p = -1:=by
 unfold uB;have:(aC n).find? p=an:=by rw[alZ];intro j k;have:=h j (bu k);simp[this]
 rw[this]
def Tb.yw (T:Tb) (l:Ln) (i:Nat):Bool:=decide (af T.bh i 0 < (T.n:Int)) && !decide ((af l.c i 0).num.sign=0)
def Tb.free (T:Tb) (l:Ln):Int:=uB (ae l.c) (T.yw l)
def Wm (h:aL H G []) (k:Idl H):Fin (ae H) (.c v) G (.c v) H:=by have:=j6 (n:=ae H) (m:=ae H) (r := .c v) (H:=G) (ahZ _) (by rw[h.take];exact k) rfl;rw[h.take] at this;exact this
def Xk {H:aF} {t:Nat} {D:TbD} {T:Tb} {l:Ln} {v:AV} (h:TbR H t D T) (hv:RdX H 6 v (l.c.map xC)) (O:ae l.c < 1000000) (M:ae T.bh=ae l.c) :
  bR prog 117 [.ptr t 0 0 0,.agg (cL l v)] H (.q0 (T.free l)) H:=by
 refine cc func117 wZ ?_;refine uz ?_;have cv:=hv.cell;have L:=hv.len;refine Z ?_;refine aZ (fun n e G=>∃i:Nat,i<=ae l.c/\n=ae l.c - i/\aL H G []/\(∀j,j < i->T.yw l j=ar) /\
  e=[(0,.ptr t 0 0 0),(8,v),(9,.q0 (ae l.c:Int)),(10,.q0 (i:Int))]) ⟨0,aD,rfl,aL.app _ _ _,fun j h=>aD,by rw[ah3];rfl⟩ ?_;rintro n _ G ⟨i,N,R,x,o,rfl⟩;have w:=aP h.bF;have X:∀W K,bk (G++W) t 0 K=K ⟨11,0,[bY T D]⟩:=fun W K=>aK (by rw[cJ (aiB w x.1),x.2 t w (by simp)];exact h.bF) K;have cc:=h.bh.yk;by_cases z:(i:Int) < (ae l.c:Int)
 .have s:=ws i;have ⟨p,A,B⟩:=hv.rd G x i _ (qT aD);have ⟨q,C,E⟩:=cc.rd (G++[ak (⟨6,0,[xC (af l.c i 0)]⟩:bz)]) (x.trans (aL.app _ _ _)) i _ (et (l:=T.bh) (i:=i) aD);have a:T.yw l i=ar->∀g,aL G g []->∃m,m < n/\∃f:Nat,f<=ae l.c/\m=ae l.c - f/\aL H g []/\(∀j,j < f->T.yw l j=ar) /\
    ([(0,.ptr t 0 0 0),(8,v),(9,.q0 (ae l.c:Int)),(10,.q0 ((i+1:Nat):Int))]:Env)=[(0,.ptr t 0 0 0),(8,v),(9,.q0 (ae l.c:Int)),(10,.q0 (f:Int))]:=fun J g I=>by
   refine ⟨ae l.c - (i+1),aD,i+1,aD,rfl,x.trans I,fun j F=>?_,rfl⟩;rcases aij j i with k | k
   .exact o j k
   .rw[show j=i by omega];exact J
  by_cases k:af T.bh i 0 < (T.n:Int)
  .simp only[go_sem,↓reduceIte,ahZ,z,A,B,X,bY,C,E,k];refine aH (ot (af l.c i 0)) (by simp[bC]) rfl ?_;by_cases b:(af l.c i 0).num.sign=0
   .have y:((af l.c i 0).num.sign=0)=True:=aiq b;refine Z2 y s ?_;exact a (by unfold Tb.yw;rw[air b];simp) _ (aL.app _ _ _)
   .have y:((af l.c i 0).num.sign=0)=False:=aie b;refine Z ?_;have r:T.free l=(i:Int):=OT aD (by unfold Tb.yw;rw[air k,aif b];rfl) o;rw[r];exact Wm (x.trans (aL.app _ _ _)) h.fj
  .simp only[go_sem,↓reduceIte,ahZ,z,A,B,X,bY,C,E,k,ah5,s];exact a (by unfold Tb.yw;rw[aif k];rfl) _ (aL.app _ _ _)
 .refine Z ?_;have r:T.free l = -1:=OS fun j F=>o j aD;rw[r];exact Wm x h.fj
def SlV.bp {H:aF} {k:Nat} {v:AV} {xs:List (List AV)} (h:SlV H k v xs):bp (ae H) v=aq:=by
 cases h with
 | nil=>rfl
 | seq=>rfl
 | sl x=>simp[Fx.bp,aP x]
def wv (h:bp n D.vc=aq) (k:bp n D.vl=aq) (x:bp n D.vg=aq):(bY T D).all (bp n)=aq:=by show (bp n (.q0 (T.n:Int))&&(bp n D.vc&&(bp n D.vl&&(bp n (.q0 T.aM.name)&&(bp n (.q0 (rv T.aM.add.num))&&(bp n (.v0 (rn T.aM.add.num))&&(bp n (rd T.aM.add.num)&&(bp n (.q0 (rv T.aM.add.den))&&(bp n (.v0 (rn T.aM.add.den))&&(bp n (rd T.aM.add.den)&&(bp n D.vg&&aq)))))))))))=aq;rw[h,k,x,FO,FO];rfl
def j8 (h:bp n v=aq):(cL l v).all (bp n)=aq:=by show (bp n (.q0 l.name)&&(bp n (.q0 (rv l.add.num))&&(bp n (.v0 (rn l.add.num))&&(bp n (rd l.add.num)&&(bp n (.q0 (rv l.add.den))&&(bp n (.v0 (rn l.add.den))&&(bp n (rd l.add.den)&&(bp n v&&aq))))))))=aq;rw[h,FO,FO];rfl
def TbD.ids (D:TbD) (t:Nat):List Nat:=t::(aG D.vc++aG D.vl)
def Tb.cut (T:Tb) (i:Nat):Tb:={T with aE:=aB T.aE i}
def Lq (k:ae vs=ae h):(dO h vs).take i++(dO h vs).drop (i+1)=dO (aB h i) (aB vs i):=by unfold dO;rw[akf,akf,List.zipWith_append bW,List.take_zipWith,List.drop_zipWith]
def Pr (h:∀i,i < ae y->bp n (af vs i .ba)=aq) (w:ae vs=ae y):(dO y vs).all (fun x=>x.all (bp n))=aq:=by
 rw[ah4];intro x a;obtain ⟨j,z,rfl⟩:=ajD.1 a;have k:j < ae y:=by simp at z;omega
 have e:=Gw k w;rw[ah6 z] at e;rw[alw e];exact j8 (h j k)
def Nx (H:aF) (t:Nat) (D:TbD) (T':Tb):AV->aF->Prop:=fun _ H'=>∃D',TbR H' t D' T'/\aL H H' (D.ids t)/\∀id,id∈D'.ids t->id∈D.ids t\/ae H<=id
def Wi (h:TbR H t D T) (I:i < ae T.aE) (hl:ae T.aE < 1000000) :
  cR prog 121 [.ptr t 0 0 0,.q0 (i:Int)] H (Nx H t D (T.cut i)):=by
 refine qw func121 ?_;have A:=aP h.bF;have hd:∀H:aF,(H.drop (ae H)).all (cg (ae H))=aq:=fun H=>by rw[aiZ];rfl
 have hT:∀K,bk H t 0 K=K ⟨11,0,[bY T D]⟩:=aK h.bF;have e1:au .i64 ((i:Int)+1)=((i+1:Nat):Int):=by rw[wrap_i64 aD aD];rfl
 have M:ae (dO T.aE D.aV)=ae T.aE:=by simp[h.cl]
 simp only[go_sem,↓reduceIte,akj,hT,bY];have ⟨a,b,c1,c2,c3,c4,c5⟩:=h.aE.parts (i:=i) aD;rw[M] at c1 c2;rw[c1 _ _ (by simp[bL,Opd.ev,lk,intOf?];omega)];have ⟨d1,_⟩:=c3 H (aL.refl _ _);have p:=Pr (fun j e=>(h.rws j e).bp) h.cl;have W:∀n,ae H<=n->∀l:List (List AV),(∀x,x∈l->x∈dO T.aE D.aV)->l.all (fun x=>x.all (bp n))=aq:=fun n hn l hs=>by rw[ah4] at p ⊢;intro x f;have:=p x (hs x f);rw[ah4] at this ⊢;exact fun a ha=>eS (this a ha) hn
 have ⟨v1,F,a1,U,a3,a4,a5,a6,a7,a8⟩:=(Acc.sq (n0:=ae H) (H:=H) (k:=8) (xs:=[])).s6 d1 (ahZ _) bW (W _ (ahZ _) _ fun x f=>by rw[aiy] at f;exact ajP f);have B:aL H F []:=a3;have G:∀K,bk F t 0 K=K ⟨11,0,[bY T D]⟩:=aK (by rw[B.2 t A aO];exact h.bF);simp only[go_sem,↓reduceIte,akj,a1,a4,G,bY,e1];rw[c2 _ _ (by simp[bL,Opd.ev,lk,intOf?];omega)];have ⟨_,d2⟩:=c3 F B;have ⟨C,o,b1,V,b3,b4,b5,b6,b7,b8⟩:=U.s6 d2 B.1 bW (W _ B.1 _ fun x f=>by
  rw[aiy] at f;rcases aiE.1 f with f | f
  .exact ajP f
  .exact aju f);have r:aL H o []:=B.grow b3 fun z y=>(U.ge z y).1;have s:aI o t 0=ak ⟨11,0,[bY T D]⟩:=by rw[r.2 t A aO];exact h.bF
 have X:∀K,bk o t 0 K=K ⟨11,0,[bY T D]⟩:=aK s;have L:=aP s;simp only[go_sem,↓reduceIte,Nat.reduceLeDiff,akj,b1,b4,X,b8,bY];have g2:=V.ge;have N:=V.cZ;rw[aiy,Lq h.cl] at N;have er:∀j,j < (T.cut i).aE.length->∃g,g < ae T.aE/\(T.cut i).aE.getD j ah=af T.aE g ah/\af (aB D.aV i) j .ba=af D.aV g .ba:=fun j e=>by
  have c:j < ae T.aE - 1:=by rw[show (T.cut i).aE=aB T.aE i from rfl,alk,ah1 I] at e;exact e
  rw[show (T.cut i).aE=aB T.aE i from rfl,getD_erase,getD_erase];by_cases m:j < i
  .rw[ah1 m,ah1 m];exact ⟨j,aD,rfl,rfl⟩
  .rw[ah0 m,ah0 m];exact ⟨j+1,aD,rfl,rfl⟩
 have ix:bp (ae o) C=aq:=N.bp;have im:∀{v:AV},bp (ae H) v=aq->bp (ae o) v=aq:=fun hv=>eS hv r.1;have E:aL o (o.set t (ak ⟨11,0,[bY (T.cut i) ⟨D.vc,C,aB D.aV i,D.vg⟩]⟩)) [t]:=⟨aO,fun j _ e w=>by simp at e;exact aS (ait e)⟩;refine ⟨by rw[aih aO];rfl,⟨aD,DA fun z y=>cn (h.aE.cV z y)⟩,⟨D.vc,C,aB D.aV i,D.vg⟩,⟨?_,?_,?_,h.wL,?_,?_,b7,?_,?_,?_,?_,?_,?_,?_⟩,?_,?_⟩
 .exact (b5 (a5 h.fj)).set (by show ([bY (T.cut i) ⟨D.vc,C,aB D.aV i,D.vg⟩].all fun x=>x.all (bp (ae o)))=aq;rw[ais,wv (T:=T.cut i) (D:=⟨D.vc,C,aB D.aV i,D.vg⟩) (im h.bh.bp) ix (im h.aM.bp)];rfl)
 .exact bn L
 .exact (h.bh.aQ r aO).aQ E (fun z y=>by simp;exact h.pZ z (.inl y))
 .exact N.aQ E (fun z y=>by have:=(g2 z y).1;simp;omega)
 .intro J;refine b6 (a6 fun h=>absurd rfl h) ?_;rw[aiy,Lq h.cl];intro h0;have:=akS ae h0;simp[alk,h.cl,I] at this;apply J;show aB T.aE i=[];exact aiA (by rw[alk,ah1 I];omega)
 .show ae (aB D.aV i)=ae (aB T.aE i);rw[alk,alk,h.cl]
 .intro j e;have ⟨g,c,x1,O⟩:=er j e;show SlV _ 6 (af (aB D.aV i) j .ba) _;rw[x1,O];exact ((h.rws g c).aQ r aO).aQ E (fun z y=>by simp;exact (h.ke g c z y).1)
 .exact (h.aM.aQ r aO).aQ E (fun z y=>by simp;exact (h.mE z y).1)
 .rintro z (y | y)
  .exact h.pZ z (.inl y)
  .have:=(g2 z y).1;omega
 .intro z y hv;have:=h.bh.cV z y;have:=(g2 z hv).1;omega
 .intro j e z y;have ⟨g,c,x1,O⟩:=er j e;have q:z∈aG (af D.aV g .ba):=by rw[<-O];exact y
  have ⟨R,S,y3⟩:=h.ke g c z q;refine ⟨R,S,fun hv=>?_⟩;have:=(h.rws g c).cV z q;have:=(g2 z hv).1;omega
 .intro z y;have ⟨R,S,y3⟩:=h.mE z y;refine ⟨R,S,fun hv=>?_⟩;have:=h.aM.cV z y;have:=(g2 z hv).1;omega
 .refine ⟨by rw[ah8];exact r.1,fun z h1 h2 w=>?_⟩;have:z≠t:=fun he=>h2 (by rw[he];exact aki);rw[aS (ait this),r.2 z h1 aO]
 .intro z y;simp only[TbD.ids,aiz,aiE] at y ⊢;rcases y with y | y | y
  .exact .inl (.inl y)
  .exact .inl (.inr (.inl y))
  .exact .inr (g2 z y).1
def TbR.aQ (h:TbR H t D T) (k:aL H H' []) (x:Idl H'):TbR H' t D T where
 fj:=x
 bF:=by rw[k.2 t (aP h.bF) aO];exact h.bF
 bh:=h.bh.aQ k aO
 wL:=h.wL
 aE:=h.aE.aQ k aO
 qG:=h.qG
 gr:=h.gr
 cl:=h.cl
 rws:=fun i y=>(h.rws i y).aQ k aO
 aM:=h.aM.aQ k aO
 pZ:=h.pZ
 B6:=h.B6
 ke:=h.ke
 mE:=h.mE
def lF:aL H (H.set a o) [a]:=⟨aO,fun j _ h w=>by simp at h;exact aS (ait h)⟩
def TbR.setRow (h:TbR H t D T) (e:i < ae T.aE) (hv:SlV H 6 v (l.c.map xC)) (E:∀id,id∈aG v->id≠t/\id∉aG D.vc/\id∉aG D.vl) :
  ∃a ver tl,D.vl = .sl 8 a ver 0 (ae T.aE)/\aI H a ver=ak ⟨8,ver,dO T.aE D.aV++tl⟩/\a∈aG D.vl /\
   TbR (H.set a (ak ⟨8,ver,(dO T.aE D.aV++tl).set i (cL l v)⟩)) t {D with aV:=D.aV.set i v} {T with aE:=T.aE.set i l}:=by
 have ⟨a,ver,m,tl,b⟩:=h.aE.kP (h.qG (fun G=>by rw[G] at e;simp at e));have B:ae (dO T.aE D.aV)=ae T.aE:=by simp[h.cl]
 rw[B] at m;have z:a∈aG D.vl:=by rw[m];simp[aG]
 have A:=h.pZ a (.inr z);have W:=aP b;have K:=lF (H:=H) (a:=a) (o:=ak ⟨8,ver,(dO T.aE D.aV++tl).set i (cL l v)⟩);have s:(dO T.aE D.aV++tl).set i (cL l v)=dO (T.aE.set i l) (D.aV.set i v)++tl:=by
  rw[amp _ _ aD];congr 1;unfold dO;apply akZ;intro j;rw[akm,alL,alL,akm,akm];by_cases k:i=j
  .subst k;rw[ah1 rfl,ah1 rfl,ah1 rfl,ah1 (by simp[h.cl];exact e),ah1 e,ah1 (by rw[h.cl];exact e)]
  .rw[ah0 k,ah0 k,ah0 k]
 have g:=fun j p q=>(h.ke j p a q).2.2 z;have n:cg (ae H) (ak ⟨8,ver,(dO T.aE D.aV++tl).set i (cL l v)⟩)=aq:=by
  have f:=h.fj;unfold Idl at f;rw[ah4] at f;have q:ak (⟨8,ver,dO T.aE D.aV++tl⟩:bz)∈H:=by
   unfold aI at b;split at b
   .rename_i M r;split at b
    .have:=aiX r;rw[alw b] at this;exact this
    .simp at b
   .simp at b
  have C:=f _ q;simp only[cg,ah4] at C ⊢;intro x I;rcases ai4 I with X | X
  .exact C x X
  .rw[X];have:=j8 (l:=l) hv.bp;rwa [ah4] at this
 have J:∀j,af (T.aE.set i l) j ah=if i=j then l else af T.aE j ah:=fun j=>by
  simp only[af,akm];by_cases k:i=j
  .subst k;rw[ah1 rfl,ah1 e,ah1 rfl];rfl
  .rw[ah0 k,ah0 k]
 have F:∀j,af (D.aV.set i v) j .ba=if i=j then v else af D.aV j .ba:=fun j=>by
  simp only[af,akm];by_cases k:i=j
  .subst k;rw[ah1 rfl,ah1 (by rw[h.cl];exact e),ah1 rfl];rfl
  .rw[ah0 k,ah0 k]
 have L:=fun q=>(E a q).2.2 z;refine ⟨a,ver,tl,m,b,z,⟨h.fj.set n,?_,?_,h.wL,?_,?_,h.gr,?_,?_,?_,h.pZ,h.B6,?_,h.mE⟩⟩
 .rw[aS A];exact h.bF
 .exact h.bh.aQ K (fun id y=>by simp;rintro rfl;exact h.B6 _ y z)
 .show SlV _ 8 D.vl _;rw[m,s];have:SlV (H.set a (ak ⟨8,ver,dO (T.aE.set i l) (D.aV.set i v)++tl⟩)) 8 (.sl 8 a ver 0 (ae (dO (T.aE.set i l) (D.aV.set i v)))) (dO (T.aE.set i l) (D.aV.set i v)) := .sl (bn W)
  rwa [show ae (dO (T.aE.set i l) (D.aV.set i v))=ae T.aE by simp[h.cl]] at this
 .intro _;show kP D.vl;rw[m];trivial
 .show ae (D.aV.set i v)=ae (T.aE.set i l);simp[h.cl]
 .intro j p;have w:j < ae T.aE:=bu p;show SlV _ 6 (af (D.aV.set i v) j .ba) ((af (T.aE.set i l) j ah).c.map xC);rw[J,F];by_cases k:i=j
  .rw[ah1 k,ah1 k];exact hv.aQ K (fun id y=>by simp;rintro rfl;exact L y)
  .rw[ah0 k,ah0 k];exact (h.rws j w).aQ K (fun id y=>by simp;rintro rfl;exact g j w y)
 .exact h.aM.aQ K (fun id y=>by simp;rintro rfl;exact (h.mE _ y).2.2 z)
 .intro j p id y;have w:j < ae T.aE:=bu p;rw[show ({D with aV:=D.aV.set i v}:TbD).aV=D.aV.set i v from rfl,F] at y;by_cases k:i=j
  .rw[ah1 k] at y;exact E id y
  .rw[ah0 k] at y;exact h.ke j w id y
def TbR.yQ (h:TbR H t D T) (hv:SlV H 6 v (l.c.map xC)) (w:∀id,id∈aG v->id≠t/\id∉aG D.vc/\id∉aG D.vl) :
  TbR (H.set t (ak ⟨11,0,[bY {T with aM:=l} {D with vg:=v}]⟩)) t {D with vg:=v} {T with aM:=l}:=by
 have y:=lF (H:=H) (a:=t) (o:=ak ⟨11,0,[bY {T with aM:=l} {D with vg:=v}]⟩);refine ⟨h.fj.set ?_,bn (aP h.bF),?_,h.wL,?_,h.qG,h.gr,h.cl,?_,?_,h.pZ,h.B6,h.ke,w⟩
 .show ([bY {T with aM:=l} {D with vg:=v}].all fun x=>x.all (bp (ae H)))=aq;rw[ais,wv (T:={T with aM:=l}) (D:={D with vg:=v}) h.bh.bp h.aE.bp hv.bp];rfl
 .exact h.bh.aQ y (fun id k=>by simp;exact h.pZ id (.inl k))
 .exact h.aE.aQ y (fun id k=>by simp;exact h.pZ id (.inr k))
 .exact fun j z=>(h.rws j z).aQ y (fun id k=>by simp;exact (h.ke j z id k).1)
 .exact hv.aQ y (fun id k=>by simp;exact (w id k).1)
def TbR.PT (h:TbR H t D T) (hv:SlV H 1 v (br cs)) (c:cs≠[]->kP v) (z:∀id,id∈aG v->id≠t/\id∉aG D.vl/\id∉aG D.vg/\∀i,i < ae T.aE->id∉aG (af D.aV i .ba)) :
  TbR (H.set t (ak ⟨11,0,[bY {T with bh:=cs} {D with vc:=v}]⟩)) t {D with vc:=v} {T with bh:=cs}:=by
 have w:=lF (H:=H) (a:=t) (o:=ak ⟨11,0,[bY {T with bh:=cs} {D with vc:=v}]⟩);refine ⟨h.fj.set ?_,bn (aP h.bF),?_,c,?_,h.qG,h.gr,h.cl,?_,?_,?_,?_,?_,?_⟩
 .show ([bY {T with bh:=cs} {D with vc:=v}].all fun x=>x.all (bp (ae H)))=aq;rw[ais,wv (T:={T with bh:=cs}) (D:={D with vc:=v}) hv.bp h.aE.bp h.aM.bp];rfl
 .exact hv.aQ w (fun id k=>by simp;exact (z id k).1)
 .exact h.aE.aQ w (fun id k=>by simp;exact h.pZ id (.inr k))
 .exact fun j y=>(h.rws j y).aQ w (fun id k=>by simp;exact (h.ke j y id k).1)
 .exact h.aM.aQ w (fun id k=>by simp;exact (h.mE id k).1)
 .rintro id (k | k)
  .exact (z id k).1
  .exact h.pZ id (.inr k)
 .exact fun id k=>(z id k).2.1
 .exact fun j y id k=>⟨(h.ke j y id k).1,fun b=>(z id b).2.2.2 j y k,(h.ke j y id k).2.2⟩
 .exact fun id k=>⟨(h.mE id k).1,fun b=>(z id b).2.2.1 k,(h.mE id k).2.2⟩
def Ln.er (l:Ln) (col:Nat):Ln:={l with c:=aB l.c col}
def Tb.iS (T:Tb) (col i:Nat):Tb:={T with bh:=aB T.bh col,aE:=(T.aE.take i).map (·.er col)++T.aE.drop i}
def Tb.drop (T:Tb) (col:Nat):Tb:={T with bh:=aB T.bh col,aE:=T.aE.map (·.er col),aM:=T.aM.er col}
def OK {T:Tb} {col i:Nat} (h:i<=ae T.aE):(T.iS col i).aE.length=ae T.aE:=by simp[Tb.iS];omega
def OJ {T:Tb} {col i:Nat} (h:i < ae T.aE):(T.iS col i).aE.getD i ah=af T.aE i ah:=by simp only[Tb.iS,af];rw[aiC bW,ah3,aiG,aiQ aD,akO,ajS,alo]
def OL {T:Tb} {col i:Nat} (h:i < ae T.aE):{T.iS col i with aE:=(T.iS col i).aE.set i ((af T.aE i ah).er col)}=T.iS col (i+1):=by
 unfold Tb.iS;congr 1;have e:af T.aE i ah=T.aE[i]:=by simp[af,h]
 rw[e,ajy _ _ bW,ah3,aiG,aiQ aD,akO,ail h,akt,aiT h,aii];simp
def R1 (h:TbR H t D T) (M:col < ae T.bh) (hl:ae T.aE < 1000000) (o:ae T.bh < 1000000) (hw:∀i,i < ae T.aE->(af T.aE i ah).c.length=ae T.bh) (hg:ae T.aM.c=ae T.bh) :
  cR prog 119 [.ptr t 0 0 0,.q0 (col:Int)] H (Nx H t D (T.drop col)):=by
 refine qw func119 ?_;have a0:=aP h.bF;have hT:∀K,bk H t 0 K=K ⟨11,0,[bY T D]⟩:=aK h.bF;refine Z ?_;refine cQ (TJ h.fj h.bh M o) ?_;rintro A E ⟨U,V,w3,w4,w5⟩;have wc:=U.cell;have z:=h.aQ V w3;have J:∀K,bk E t 0 K=K ⟨11,0,[bY T D]⟩:=aK z.bF;have B:=U.ge;have I:=z.PT U.cZ w4 (fun x k=>by
  have g:=(B x k).1;refine ⟨aD,fun X=>?_,fun X=>?_,fun i N X=>?_⟩
  .have:=h.aE.cV x X;omega
  .have:=h.aM.cV x X;omega
  .have:=(h.rws i N).cV x X;omega);have r:∀K,bk (E.set t (ak ⟨11,0,[bY {T with bh:=aB T.bh col} {D with vc:=A}]⟩)) t 0 K=K ⟨11,0,[bY {T with bh:=aB T.bh col} {D with vc:=A}]⟩:=aK I.bF;have Ll:=I.aE.fN;simp only[bY] at r Ll;simp only[go_sem,↓reduceIte,Nat.reduceLeDiff,J,bY,wc,r,Ll];have k3:aL H (E.set t (ak ⟨11,0,[bY {T with bh:=aB T.bh col} {D with vc:=A}]⟩)) (D.ids t):=⟨by rw[ah8];exact V.1,fun x p z w=>by rw[aS (fun s=>z (by rw[<-s];exact aki)),V.2 x p aO]⟩;refine aZ (fun n e G=>∃(i:Nat) (y:TbD),i<=ae T.aE/\n=ae T.aE - i/\y.vl=D.vl/\y.vc=A/\y.vg=D.vg/\TbR G t y (T.iS col i)/\aL H G (D.ids t) /\
  e=[(0,.ptr t 0 0 0),(1,.q0 (col:Int)),(18,.q0 (ae T.aE:Int)),(19,.q0 (i:Int))])
  ⟨0,{D with vc:=A},aD,rfl,rfl,rfl,rfl,by rw[show T.iS col 0={T with bh:=aB T.bh col} by simp[Tb.iS]];exact I,k3,by rw[show ae (dO T.aE D.aV)=ae T.aE by simp[h.cl]];rfl⟩ ?_;rintro n _ G ⟨i,y,N,hn,x1,x2,x3,b,C,rfl⟩;have q:∀K,bk G t 0 K=K ⟨11,0,[bY (T.iS col i) y]⟩:=aK b.bF;by_cases R:(i:Int) < (ae T.aE:Int)
 .have e1:au .i64 ((i:Int)+1)=((i+1:Nat):Int):=by rw[wrap_i64 aD aD];rfl
  have j:i < (T.iS col i).aE.length:=by rw[OK N];omega
  have f:=OJ (T:=T) (col:=col) (i:=i) aD;have m:=b.rws i j;have less:=Pp (i:=col) b.fj m (by rw[f,hw i aD];exact M) (by rw[f,hw i aD];exact o);have ⟨a,ver,tl,y1,y2,y3,y4⟩:=b.setRow (l:=(af T.aE i ah).er col) (v := .seq 6 ar (((af T.aE i ah).er col).c.map xC)) j .seq (by simp[aG]);rw[OL aD] at y4;have rO:∀K,bk G a ver K=K ⟨8,ver,dO (T.iS col i).aE y.aV++tl⟩:=aK y2;have rE:∀K,ElP (dO (T.iS col i).aE y.aV++tl) (0+i) K=K (cL (af T.aE i ah) (af y.aV i .ba)):=iu (by rw[aia,aic (by simp[b.cl];exact j),Gw j b.cl,f]);have W:=rE;simp only[aia] at W;have S:=m.cell;simp only[go_sem,↓reduceIte,R,q,bY,y1,rO,rE];refine ⟨aD,gk less ?_⟩;refine Z4 rO W f e1 ?_;have L:a∈D.ids t:=by rw[x1] at y3;exact ajR _ (akq _ y3)
  refine ⟨aD,ae T.aE - (i+1),aD,i+1,{y with aV:=y.aV.set i (.seq 6 ar (((af T.aE i ah).er col).c.map xC))},aD,rfl,x1,x2,x3,y4,⟨by rw[ah8];exact C.1,fun x p z w=>?_⟩,rfl⟩;rw[aS (fun s=>z (by rw[<-s];exact L)),C.2 x p z]
 .have O:i=ae T.aE:=aD;subst O;have less:=Pp (i:=col) b.fj b.aM (by show col < ae T.aM.c;rw[hg];exact M) (by show ae T.aM.c < _;rw[hg];exact o);have F:=b.aM.cell;refine Z ?_;refine dS less ?_;simp only[go_sem,↓reduceIte,ahZ,q,bY];have h4:=b.yQ (l:=T.aM.er col) (v := .seq 6 ar ((T.aM.er col).c.map xC)) .seq (by simp[aG]);have e:({T.iS col (ae T.aE) with aM:=T.aM.er col}:Tb)=T.drop col:=by simp[Tb.iS,Tb.drop]
  rw[e] at h4;refine ⟨_,h4,⟨by rw[ah8];exact C.1,fun x p z w=>?_⟩,fun x k=>?_⟩
  .rw[aS (fun s=>z (by rw[<-s];exact aki)),C.2 x p z]
  .simp only[TbD.ids,aiz,aiE,x1,x2] at k ⊢;rcases k with k | k | k
   .exact .inl (.inl k)
   .exact .inr (B x k).1
   .exact .inl (.inr (.inr k))
def FF (h:aI H a ver=ak ob):ak ob∈H:=by
 unfold aI at h;split at h
 .rename_i x k;split at h
  .have:=aiX k;rw[alw h] at this;exact this
  .simp at h
 .simp at h
def zN {H:aF} {a k ver i:Nat} {xs:List (List AV)} {y:List AV} (z:Idl H) (h:aI H a ver=ak ⟨k,ver,xs⟩) (e:y.all (bp (ae H))=aq):Idl (H.set a (ak ⟨k,ver,xs.set i y⟩)):=by
 refine z.set ?_;unfold Idl at z;rw[ah4] at z;have b:=z _ (FF h);simp only[cg,ah4] at b ⊢;intro x c;rcases ai4 c with w | w
 .exact b x w
 .rw[w];rwa [ah4] at e
def TbR.ZJ (h:TbR H t D T) (f:i < ae T.bh) (z:Int) :
  ∃a ver tl,D.vc = .sl 1 a ver 0 (ae T.bh)/\aI H a ver=ak ⟨1,ver,br T.bh++tl⟩/\a∈aG D.vc /\
   TbR (H.set a (ak ⟨1,ver,(br T.bh++tl).set i (cN z)⟩)) t D {T with bh:=T.bh.set i z}:=by
 have ⟨a,ver,y,tl,b⟩:=h.bh.kP (h.wL (fun n=>by rw[n] at f;simp at f));rw[ah3] at y;have x:a∈aG D.vc:=by rw[y];simp[aG]
 have e:=h.pZ a (.inl x);have c:=aP b;have g:=lF (H:=H) (a:=a) (o:=ak ⟨1,ver,(br T.bh++tl).set i (cN z)⟩);have w:(br T.bh++tl).set i (cN z)=br (T.bh.set i z)++tl:=by rw[amp _ _ (by simpa using f),br,br,ajF]
 refine ⟨a,ver,tl,y,b,x,⟨zN h.fj b rfl,?_,?_,?_,?_,h.qG,h.gr,h.cl,?_,?_,h.pZ,h.B6,h.ke,h.mE⟩⟩
 .rw[aS e];exact h.bF
 .show SlV _ 1 D.vc _;rw[y,w];have:SlV (H.set a (ak ⟨1,ver,br (T.bh.set i z)++tl⟩)) 1 (.sl 1 a ver 0 (ae (br (T.bh.set i z)))) (br (T.bh.set i z)) := .sl (bn c)
  rwa [show ae (br (T.bh.set i z))=ae T.bh by simp] at this
 .intro _;show kP D.vc;rw[y];trivial
 .exact h.aE.aQ g (fun m k=>by simp;rintro rfl;exact h.B6 _ x k)
 .exact fun j l=>(h.rws j l).aQ g (fun m k=>by simp;rintro rfl;exact (h.ke j l _ k).2.1 x)
 .exact h.aM.aQ g (fun m k=>by simp;rintro rfl;exact (h.mE _ k).2.1 x)
def uJ {T:Tb} {D:TbD} {at_:Nat} {tl:List (List AV)} (k:ae D.aV=ae T.aE) (h:at_ < ae T.aE):(dO T.aE D.aV++tl)[at_]?=ak (cL (af T.aE at_ ah) (af D.aV at_ .ba)):=by rw[aic (by simp[k];exact h),Gw h k]
def ZA {G:aF} {t at_ col f g:Nat} {D:TbD} {T:Tb} {l b:Ln} {v w:AV} {Post:AV->aF->Prop} {er:Env} (h:TbR G t D T) (g6:aI G f 0=ak ⟨8,0,[cL l v]⟩) (I:aI G g 0=ak ⟨8,0,[cL b w]⟩)
  (n6:f∉D.ids t) (n8:g∉D.ids t) (U:SlV G 6 w (b.c.map xC)) (ws:∀id,id∈aG w->id∉D.ids t) (mU:ji T.aM) (a0:ji b) (len:ae b.c=ae T.aM.c) (p:col < ae T.aM.c) (y:col < ae T.bh) (o:at_ < ae T.aE)
  (hq:∀W D',TbR W t D' ⟨T.n,T.bh.set col l.name,T.aE.set at_ b,T.aM.with col b⟩->aL G W (D.ids t)->D'.vc=D.vc->D'.vl=D.vl->Post (.bM []) W) :
  WP prog 119 mu (iZ [] Post) ((0,.ptr t 0 0 0)::(1,.q0 (at_:Int))::(2,.q0 (col:Int))::(6,.ptr f 0 0 0)::(8,.ptr g 0 0 0)::er) G:=by refine uz ?_;have hT:=aK h.bF;have h8:=aK I;have gc:=h.aM.cell;have wc:=U.cell;simp only[go_sem,↓reduceIte,ahZ,hT,bY,h8];refine gk (Qe h.fj h.aM.yk U.yk mU a0 len p) ?_;have L:=h.yQ (l:=T.aM.with col b) (v := .seq 6 ar ((T.aM.with col b).c.map xC)) .seq (by simp[aG]);have S:t∈D.ids t:=aki;obtain ⟨e,k⟩:∃e,e=G.set t (ak (⟨11,0,[bY {T with aM:=T.aM.with col b} {D with vg := .seq 6 ar ((T.aM.with col b).c.map xC)}]⟩:bz)):=⟨_,rfl⟩;rw[<-k] at L;have V:aL G e (D.ids t):=⟨by rw[k,ah8];exact ahZ _,fun id H z w=>by rw[k,aS (fun q=>z (by rw[<-q];exact S))]⟩;have j:=aK L.bF;have F:∀K,bk e f 0 K=K ⟨8,0,[cL l v]⟩:=aK (by rw[V.2 f (aP g6) n6];exact g6);have ⟨a,ver,tl,e1,e2,e3,M⟩:=L.ZJ (i:=col) y l.name;have N:a∈D.ids t:=ajR _ (amr _ e3);have a1:=aK e2;have B:∀K,ElP (br T.bh++tl) col K=K (cN (af T.bh col 0)):=iu (by rw[aic (by simpa using y)];exact et y);have A:D.vc = .sl 1 a ver 0 (ae T.bh):=e1;have a4:∀K,j4 1 .nil .nil G K=j4 1 .nil .nil G K:=fun _=>rfl;simp only[bY] at k j;simp only[go_sem,↓reduceIte,ahZ,hT,bY];rw[<-k];refine Z5 j F A a1 B ?_;refine ⟨aD,?_⟩;obtain ⟨s,x⟩:∃s,s=e.set a (ak (⟨1,ver,(br T.bh++tl).set col (cN l.name)⟩:bz)):=⟨_,rfl⟩;rw[<-x] at M;have X:aL G s (D.ids t):=⟨by rw[x,ah8];exact V.1,fun id H z w=>by rw[x,aS (fun q=>z (by rw[<-q];exact N)),V.2 id H z]⟩;have m:=aK M.bF;have J:∀K,bk s g 0 K=K ⟨8,0,[cL b w]⟩:=aK (by rw[X.2 g (aP I) n8];exact I);have ⟨a',r,a3,f1,f2,f3,h3⟩:=M.setRow (i:=at_) (l:=b) (v:=w) o (U.aQ X ws) (fun id R=>by have:=ws id R;simp only[TbD.ids,aiz,aiE,alJ] at this;exact ⟨this.1,this.2.1,this.2.2⟩);have O:a'∈D.ids t:=ajR _ (akq _ f3);have a2:=aK f2;have C:∀K,ElP (dO T.aE D.aV++a3) at_ K=K (cL (af T.aE at_ ah) (af D.aV at_ .ba)):=iu (uJ h.cl o);have E:D.vl = .sl 8 a' r 0 (ae T.aE):=f1;simp only[bY,cN] at m x;rw[<-x];refine Z6 m J E a2 C wc ?_;refine ⟨aD,hq _ _ h3 ⟨by rw[ah8];exact X.1,fun id H z w=>?_⟩ rfl rfl⟩;rw[aS (fun q=>z (by rw[<-q];exact O)),X.2 id H z]
def Tb.jP (T:Tb) (at_ col:Nat) (b:Ln) (i:Nat):List Ln:=(aC (ae T.aE)).map fun j=>if j < i/\j≠at_ then (af T.aE j ah).with col b else af T.aE j ah
def iQ {T:Tb} {at_ col i:Nat} {b:Ln}:ae (T.jP at_ col b i)=ae T.aE:=by simp[Tb.jP]
def tj {T:Tb} {at_ col i j:Nat} {b:Ln} (h:j < ae T.aE):af (T.jP at_ col b i) j ah=if j < i/\j≠at_ then (af T.aE j ah).with col b else af T.aE j ah:=by unfold Tb.jP;rw[af,ajp,amu h];rfl
def HT {α:Type} {l m:List α} {d:α} (x:ae l=ae m) (h:∀j,j < ae l->af l j d=af m j d):l=m:=by refine akH x fun j k y=>?_;have:=h j k;simpa[af,k,y] using this
def SQ {T:Tb} {at_ col:Nat} {b:Ln}:T.jP at_ col b 0=T.aE :=
 HT (d:=ah) iQ fun j h=>by rw[iQ] at h;rw[tj h,ah0 aD]
def SO {T:Tb} {at_ col:Nat} {b:Ln}:T.jP at_ col b (at_+1)=T.jP at_ col b at_ :=
 HT (d:=ah) (by rw[iQ,iQ]) fun j k=>by
  rw[iQ] at k;rw[tj k,tj k];by_cases h:j < at_
  .rw[ah1 ⟨aD,aD⟩,ah1 ⟨h,aD⟩]
  .rw[ah0 aD,ah0 aD]
def SP {T:Tb} {at_ col i:Nat} {b:Ln} (w:i < ae T.aE) (y:i≠at_):(T.jP at_ col b i).set i ((af T.aE i ah).with col b)=T.jP at_ col b (i+1) :=
 HT (d:=ah) (by rw[ah8,iQ,iQ]) fun j x=>by
  rw[ah8,iQ] at x;rw[tj x];by_cases h:i=j
  .subst h;rw[ah1 ⟨aD,y⟩];simp[af,iQ,w]
  .have e:af ((T.jP at_ col b i).set i ((af T.aE i ah).with col b)) j ah=af (T.jP at_ col b i) j ah:=by simp only[af,akm,ah0 h]
   rw[e,tj x];by_cases k:j < i/\j≠at_
   .rw[ah1 k,ah1 ⟨aD,k.2⟩]
   .rw[ah0 k,ah0 (fun z=>k ⟨aD,z.2⟩)]
def Tb.kz (T:Tb) (at_ col:Nat) (b:Ln) (nm:Int):Tb:=⟨T.n,T.bh.set col nm,(T.jP at_ col b (ae T.aE)).set at_ b,T.aM.with col b⟩
def Zz {G:aF} {t at_ col s b1 r:Nat} {D:TbD} {T:Tb} {l b:Ln} {v w:AV} {Post:AV->aF->Prop} {er:Env} (h:TbR G t D T) (g6:aI G s 0=ak ⟨8,0,[cL l v]⟩) (g8:aI G r 0=ak ⟨8,0,[cL b w]⟩)
  (n6:s∉D.ids t) (n8:r∉D.ids t) (hw:SlV G 6 w (b.c.map xC)) (ws:∀id,id∈aG w->id∉D.ids t) (mU:ji T.aM) (B:ji b) (nu:∀i,i < ae T.aE->ji (af T.aE i ah)/\(af T.aE i ah).c.length=ae T.aM.c)
  (len:ae b.c=ae T.aM.c) (g:col < ae T.aM.c) (N:col < ae T.bh) (M:at_ < ae T.aE) (a1:ae T.aE < 1000000)
  (hq:∀x D',TbR x t D' (T.kz at_ col b l.name)->aL G x (D.ids t)->D'.vc=D.vc->D'.vl=D.vl->Post (.bM []) x) :
  WP prog 119 mr (iZ [] Post) ((0,.ptr t 0 0 0)::(1,.q0 (at_:Int))::(2,.q0 (col:Int))::(6,.ptr s 0 0 0)::(7,.ptr b1 0 0 0)::(8,.ptr r 0 0 0)::er) G:=by
 refine uz ?_;have hT:∀K,bk G t 0 K=K ⟨11,0,[bY T D]⟩:=aK h.bF;have Ll:=h.aE.fN;have S:ae (dO T.aE D.aV)=ae T.aE:=by simp[h.cl]
 rw[S] at Ll;simp only[go_sem,↓reduceIte,hT,bY,Ll];refine aZ (fun n e x=>∃(i:Nat) (D':TbD),i<=ae T.aE/\n=ae T.aE - i/\D'.vl=D.vl/\D'.vc=D.vc/\TbR x t D' {T with aE:=T.jP at_ col b i}/\aL G x (D.ids t) /\
  e=[(0,.ptr t 0 0 0),(1,.q0 (at_:Int)),(2,.q0 (col:Int)),(6,.ptr s 0 0 0),(8,.ptr r 0 0 0),(70,.q0 (ae T.aE:Int)),(71,.q0 (i:Int))])
  ⟨0,D,aD,rfl,rfl,rfl,by rw[SQ];exact h,aL.refl _ _,rfl⟩ ?_;rintro n _ x ⟨i,D',hi,hn,C,I,o,z,rfl⟩;have f:D'.ids t=D.ids t:=by unfold TbD.ids;rw[C,I]
 have J:∀K,bk x t 0 K=K ⟨11,0,[bY {T with aE:=T.jP at_ col b i} D']⟩:=aK o.bF;have U:=g8;rw[<-z.2 r (aP g8) n8] at U;have r6:=g6;rw[<-z.2 s (aP g6) n6] at r6;have h8:∀K,bk x r 0 K=K ⟨8,0,[cL b w]⟩:=aK U;have q:=hw.aQ z ws;by_cases A:(i:Int) < (ae T.aE:Int)
 .have e1:au .i64 ((i:Int)+1)=((i+1:Nat):Int):=by rw[wrap_i64 aD aD];rfl
  by_cases W:(i:Int)=(at_:Int)
  .have j:((i:Int)=(at_:Int))=True:=aiq W;have:i=at_:=aD;subst this;refine Z2 A e1 ?_;exact ⟨ae T.aE - (i+1),aD,i+1,D',aD,rfl,C,I,by rw[SO];exact o,z,rfl⟩
  .have j:((i:Int)=(at_:Int))=False:=aie W;have k:i < ae T.aE:=aD;have y:i < ae (T.jP at_ col b i):=by rw[iQ];exact k
   have X:af (T.jP at_ col b i) i ah=af T.aE i ah:=by rw[tj k,ah0 aD]
   have m:=o.rws i y;have p:SlV x 6 (af D'.aV i .ba) ((af T.aE i ah).c.map xC):=by have:=m;rw[show ({T with aE:=T.jP at_ col b i}:Tb).aE.getD i ah=af T.aE i ah from X] at this;exact this
   have V:=Qe o.fj p.yk q.yk (nu i k).1 B (by rw[(nu i k).2];exact len) (by rw[(nu i k).2];exact g);have ⟨a,ver,tl,y1,y2,y3,y4⟩:=o.setRow (l:=(af T.aE i ah).with col b) (v := .seq 6 ar (((af T.aE i ah).with col b).c.map xC)) y .seq (by simp[aG]);have E:=y4;rw[show ({({T with aE:=T.jP at_ col b i}:Tb) with aE:=({T with aE:=T.jP at_ col b i}:Tb).aE.set i ((af T.aE i ah).with col b)}:Tb)={T with aE:=T.jP at_ col b (i+1)} by rw[<-SP k aD]] at E;have rO:∀K,bk x a ver K=K ⟨8,ver,dO (T.jP at_ col b i) D'.aV++tl⟩:=aK y2;have rE:∀K,ElP (dO (T.jP at_ col b i) D'.aV++tl) i K=K (cL (af T.aE i ah) (af D'.aV i .ba)):=iu (by have:=uJ (T:={T with aE:=T.jP at_ col b i}) (tl:=tl) o.cl y;rw[show ({T with aE:=T.jP at_ col b i}:Tb).aE.getD i ah=af T.aE i ah from X] at this;exact this);have a0:D'.vl = .sl 8 a ver 0 (ae T.aE):=by rw[y1];show AV.sl 8 a ver 0 (ae (T.jP at_ col b i))=_;rw[iQ]
   have a2:=m.cell;have a3:=q.cell;simp only[go_sem,↓reduceIte,ahZ,A,j,ajI,aja,J,bY,a0,rO,rE,h8,aia];refine ⟨aD,gk V ?_⟩;refine Z3 rO rE e1 ?_;have L:a∈D.ids t:=by rw[C] at y3;exact ajR _ (akq _ y3)
   refine ⟨aD,ae T.aE - (i+1),aD,i+1,{D' with aV:=D'.aV.set i (.seq 6 ar (((af T.aE i ah).with col b).c.map xC))},aD,rfl,C,I,E,⟨by rw[ah8];exact z.1,fun id F H w=>?_⟩,rfl⟩;rw[aS (fun he=>H (by rw[<-he];exact L)),z.2 id F H]
 .have O:i=ae T.aE:=aD;subst O;refine Z ?_;refine ZA (T:={T with aE:=T.jP at_ col b (ae T.aE)}) o r6 U (by rw[f];exact n6) (by rw[f];exact n8) q (fun id R=>by rw[f];exact ws id R) mU B len g N (by show at_ < ae (T.jP at_ col b (ae T.aE));rw[iQ];exact M) fun G2 D2 z1 z2 z3 z4=>?_;exact hq G2 D2 z1 ⟨aiJ z.1 z2.1,fun id F H w=>by rw[z2.2 id (aiB F z.1) (by rw[f];exact H),z.2 id F H]⟩ (z3.trans I) (z4.trans C)
def Ln.IG (l:Ln) (col i:Nat):Rat:=if i=col then 1 / af l.c col 0 else -(af l.c i 0 / af l.c col 0)
def Ln.jn (l:Ln) (col:Nat) (nm:Int):Ln:=⟨nm,-(l.add / af l.c col 0),(aC (ae l.c)).map (l.IG col)⟩
def Acc.aal {n0:Nat} {H:aF} {k:Nat} {v:AV} {xs:List (List AV)} (h:Acc n0 H k v xs) (g:n0<=ae H) (m:ae xs < 3000000000) (y:List AV) (f:(xs++[y]).all (fun x=>x.all bT)=aq) :
  ∃z H',(∀K,bX k v [y] H K=K z H')/\Acc n0 H' k z (xs++[y])/\aL H H' (aG v)/\(Idl H->Idl H')/\bB z=aq/\z.cells=[z]/\dA z=aq:=by obtain ⟨z,H',w,a,b,i,c,j,l,e⟩:=h.s6 (y := .seq k aq [y]) (ys:=[y]) (by simp[dW]) g bW (fZ _ f);refine ⟨z,H',fun K=>?_,a,b,c,e⟩;rw[<-w K,zh];simp
def PI (h:TbR H t D T) (C:at_ < ae T.aE) (b0:col < ae T.bh) (L:l=af T.aE at_ ah) (J:b=l.jn col (af T.bh col 0))
  (mU:ji T.aM) (c1:ji b) (nu:∀i,i < ae T.aE->ji (af T.aE i ah)/\(af T.aE i ah).c.length=ae T.aM.c) (c3:ae T.aM.c=ae T.bh) (b9:ae T.aE < 1000000) (h0:(af l.c col 0).num≠0) :
  cR prog 118 [.ptr t 0 0 0,.q0 (at_:Int),.q0 (col:Int)] H (Nx H t D (T.kz at_ col b l.name)):=by
 refine qc func118 vI ?_;refine uz ?_;have ⟨W,b2⟩:=nu at_ C;rw[<-L] at W b2;have c0:=aP h.bF;have z:=h.rws at_ C;rw[<-L] at z;generalize hv:af D.aV at_ .ba=v at *;have vc:=z.cell;have hT:∀K,bk H t 0 K=K ⟨11,0,[bY T D]⟩:=aK h.bF;have b3:∀E K,bk (H++E) t 0 K=K ⟨11,0,[bY T D]⟩:=fun E K=>aK (by rw[cJ c0];exact h.bF) K;have ⟨p,p1,p2⟩:=h.aE.yk.rd H (aL.refl _ _) at_ _ (Gw C h.cl);rw[<-L,hv] at p2;have ⟨q,q1,q2⟩:=z.yk.rd (H++[ak (⟨8,0,[cL l v]⟩:bz)]) (aL.app _ _ _) col _ (qT aD);have kc:aL H (H++[ak (⟨8,0,[cL l v]⟩:bz),ak ⟨6,0,[xC (af l.c col 0)]⟩]) []:=aL.app _ _ _;have ⟨r,r1,r2,r3⟩:=(h.bh.aQ kc aO).wP (et b0);have c2:ig (ae H+2) (aG r)=True:=r3 _ aO;simp only[go_sem,↓reduceIte,Nat.reduceLeDiff,ahZ,hT,b3,bY,p1,p2,q1,q2,r1,r2,vc,ak4,ajx,anm,ajd,akj];refine aH (GR _ _ (W.add.mono aR) ((W.get col).mono aR) h0) (by show (bJ (xA _)&&(bJ (xA _)&&aq))=aq;rw[bC,bC];rfl) (bC _) ?_;simp only[go_sem,↓reduceIte,ajd,akj];refine aH (Ef _) (by simp[bC]) (bC _) ?_;have Lv:=z.fN;rw[ah3] at Lv;simp only[go_sem,↓reduceIte,Nat.reduceLeDiff,ahZ,c2,Lv,ak4,ajx,anm,ajd,akj];have b4:b.add = -(l.add / af l.c col 0):=by rw[J];rfl
 have b6:b.name=af T.bh col 0:=by rw[J];rfl
 have a9:b.c=(aC (ae l.c)).map (l.IG col):=by rw[J];rfl
 have c5:ae b.c=ae l.c:=by rw[a9];simp
 rw[<-b4,<-b6];generalize hf:af l.c col 0=f at *;have a0:XOk 1000000 f:=hf ▸ W.get col;have c4:=W.len;have c6:=z.cV;refine ⟨⟨aD,aD,aD⟩,?_⟩;have N:Idl (H++[ak (⟨8,0,[cL l v]⟩:bz),ak ⟨6,0,[xC f]⟩,ak ⟨8,0,[cL ⟨b.name,b.add,[]⟩ .nil]⟩]):=by have i1:=h.fj.app (o:=ak (⟨8,0,[cL l v]⟩:bz)) (by show ([cL l v].all fun x=>x.all (bp (ae H+1)))=aq;rw[ais,j8 (eS z.bp (by omega))];rfl);have i2:=i1.app (o:=ak (⟨6,0,[xC f]⟩:bz)) (iI (by rw[ais,gR];rfl));have i3:=i2.app (o:=ak (⟨8,0,[cL ⟨b.name,b.add,[]⟩ .nil]⟩:bz)) (by show ([cL ⟨b.name,b.add,[]⟩ .nil].all fun x=>x.all (bp _))=aq;rw[ais,j8 rfl];rfl);simpa using i3
 refine aZ (fun n e G=>∃(i:Nat) (u:AV),i<=ae l.c/\n=ae l.c - i/\aL H G []/\Idl G /\
  aI G (ae H) 0=ak ⟨8,0,[cL l v]⟩/\aI G (ae H+1) 0=ak ⟨6,0,[xC f]⟩/\aI G (ae H+2) 0=ak ⟨8,0,[cL ⟨b.name,b.add,[]⟩ u]⟩/\Acc (ae H+3) G 6 u ((b.c.take i).map xC) /\
  e=[(0,.ptr t 0 0 0),(1,.q0 (at_:Int)),(2,.q0 (col:Int)),(6,.ptr (ae H) 0 0 0),(7,.ptr (ae H+1) 0 0 0),(8,.ptr (ae H+2) 0 0 0),(38,v),(39,.q0 (ae l.c:Int)),(40,.q0 (i:Int))])
  ⟨0,.nil,aD,rfl,aL.app _ _ _,N,ct,by rw[ij];rfl,by rw[ij];rfl,.nil,rfl⟩ ?_;rintro n _ G ⟨i,u,hi,hn,R,hI,g0,g1,g2,O,rfl⟩;have l2:=aP g2;have cu:=O.cell;have s1:∀E K,bk (G++E) (ae H+1) 0 K=K ⟨6,0,[xC f]⟩:=fun E K=>aK (by rw[cJ (by omega)];exact g1) K;have s2:∀E K,bk (G++E) (ae H+2) 0 K=K ⟨8,0,[cL ⟨b.name,b.add,[]⟩ u]⟩:=fun E K=>aK (by rw[cJ (by omega)];exact g2) K;by_cases M:(i:Int) < (ae l.c:Int)
 .have e1:=ws i;have ⟨q',q3,q4⟩:=z.yk.rd G R i _ (qT aD);obtain ⟨S,B⟩:∃S,S=G++[ak (⟨6,0,[xC (af l.c i 0)]⟩:bz)]:=⟨_,rfl⟩;have kp:aL G S []:=by rw[B];exact aL.app _ _ _
  have i1:Idl S:=by rw[B];exact hI.app (iI (by rw[ais,gR];rfl))
  have b5:af b.c i 0=l.IG col i:=by rw[a9];simp[af,show i < ae l.c by omega]
  have round:∀y,y=l.IG col i->∃a s,(∀K,bX 6 u [xC y] S K=K a s)/\bB a=aq/\a.cells=[a]/\dA a=aq/\(∀K,bk s (ae H+2) 0 K=K ⟨8,0,[cL ⟨b.name,b.add,[]⟩ u]⟩) /\
    ∃m,m < n/\∃(i':Nat) (u':AV),i'<=ae l.c/\m=ae l.c - i'/\aL H (s.set (ae H+2) (ak ⟨8,0,[cL ⟨b.name,b.add,[]⟩ a]⟩)) []/\Idl (s.set (ae H+2) (ak ⟨8,0,[cL ⟨b.name,b.add,[]⟩ a]⟩)) /\
     aI (s.set (ae H+2) (ak ⟨8,0,[cL ⟨b.name,b.add,[]⟩ a]⟩)) (ae H) 0=ak ⟨8,0,[cL l v]⟩/\aI (s.set (ae H+2) (ak ⟨8,0,[cL ⟨b.name,b.add,[]⟩ a]⟩)) (ae H+1) 0=ak ⟨6,0,[xC f]⟩ /\
     aI (s.set (ae H+2) (ak ⟨8,0,[cL ⟨b.name,b.add,[]⟩ a]⟩)) (ae H+2) 0=ak ⟨8,0,[cL ⟨b.name,b.add,[]⟩ u']⟩/\Acc (ae H+3) (s.set (ae H+2) (ak ⟨8,0,[cL ⟨b.name,b.add,[]⟩ a]⟩)) 6 u' ((b.c.take i').map xC) /\
     ([(0,.ptr t 0 0 0),(1,.q0 (at_:Int)),(2,.q0 (col:Int)),(6,.ptr (ae H) 0 0 0),(7,.ptr (ae H+1) 0 0 0),(8,.ptr (ae H+2) 0 0 0),(38,v),(39,.q0 (ae l.c:Int)),(40,.q0 ((i+1:Nat):Int))]:Env) =
      [(0,.ptr t 0 0 0),(1,.q0 (at_:Int)),(2,.q0 (col:Int)),(6,.ptr (ae H) 0 0 0),(7,.ptr (ae H+1) 0 0 0),(8,.ptr (ae H+2) 0 0 0),(38,v),(39,.q0 (ae l.c:Int)),(40,.q0 (i':Int))]:=by
   rintro y rfl;have k1:=kp.1;have ⟨a,s,F,a2,a3,a4,U,V,a8⟩:=(O.aQ kp aO).aal aD bW (xC (l.IG col i)) (by rw[ajk,mL,ais,gR];rfl);have X:∀j,j∈aG u->ae H+3<=j:=fun j hj=>(O.ge j hj).1;have oG:∀j,j < ae H+3->∀w,aI s j w=aI G j w:=fun j hj w=>by rw[a3.2 j (by omega) (fun h=>by have:=X j h;omega),kp.2 j (by omega) (by simp)]
   have k3:=a3.1;have a5:aI s (ae H+2) 0=ak ⟨8,0,[cL ⟨b.name,b.add,[]⟩ u]⟩:=by rw[oG _ (by omega)];exact g2
   refine ⟨a,s,F,U,V,a8,aK a5,ae l.c - (i+1),aD,i+1,a,aD,rfl,⟨by rw[ah8];omega,fun j hj _ w=>?_⟩,?_,?_,?_,?_,?_,rfl⟩
   .rw[aS (by omega),oG j (by omega)];exact R.2 j hj aO w
   .have:=zN (i:=0) (y:=cL ⟨b.name,b.add,[]⟩ a) (a4 i1) a5 (j8 a2.cZ.bp);simpa using this
   .rw[aS (by omega),oG _ (by omega)];exact g0
   .rw[aS (by omega),oG _ (by omega)];exact g1
   .exact bn aD
   .rw[uT (d:=0) (by omega),b5];exact a2.hZ aD
  by_cases b1:(i:Int)=(col:Int)
  .have ⟨a,s,F,U,V,a8,ro,fin⟩:=round (((1:Int):Rat) / f) (by unfold Ln.IG;rw[ah1 (by omega),hf];rfl);have A:((i:Int)=(col:Int))=True:=aiq b1;rw[B] at F;refine Z5 M q3 q4 s2 A ?_;refine aH (nk 1 aR) rfl (bC _) ?_;refine Y1 s1 ?_;refine aH (GR ((1:Int):Rat) f ⟨uq _ aR,uq _ aR⟩ (a0.mono aR) h0) (by show (bJ (xA _)&&(bJ (xA _)&&aq))=aq;rw[bC,bC];rfl) (bC _) ?_;have I:∀K,bX 6 u [[.c (.int .i64 (rv (((1:Int):Rat) / f).num)),.c (.bool (rn (((1:Int):Rat) / f).num)),rd (((1:Int):Rat) / f).num,.c (.int .i64 (rv (((1:Int):Rat) / f).den)),.c (.bool (rn (((1:Int):Rat) / f).den)),rd (((1:Int):Rat) / f).den]] (G++[ak ⟨6,0,[[.q0 (rv (af l.c i 0).num),.v0 (rn (af l.c i 0).num),rd (af l.c i 0).num,.q0 (rv (af l.c i 0).den),.v0 (rn (af l.c i 0).den),rd (af l.c i 0).den]]⟩]) K=K a s:=F;refine Y5 I U V ro e1 ?_;exact ⟨rfl,fin⟩
  .have ⟨a,s,F,U,V,a8,ro,fin⟩:=round (-(af l.c i 0 / f)) (by unfold Ln.IG;rw[ah0 (by omega),hf]);have A:((i:Int)=(col:Int))=False:=aie b1;rw[B] at F;refine Z6 M q3 q4 s1 s2 A ?_;refine aH (GR (af l.c i 0) f ((W.get i).mono aR) (a0.mono aR) h0) (by show (bJ (xA _)&&(bJ (xA _)&&aq))=aq;rw[bC,bC];rfl) (bC _) ?_;refine Y ?_;refine aH (Ef _) (by simp[bC]) (bC _) ?_;have I:∀K,bX 6 u [[.q0 (rv (-(af l.c i 0 / f)).num),.v0 (rn (-(af l.c i 0 / f)).num),rd (-(af l.c i 0 / f)).num,.q0 (rv (-(af l.c i 0 / f)).den),.v0 (rn (-(af l.c i 0 / f)).den),rd (-(af l.c i 0 / f)).den]] (G++[ak ⟨6,0,[[.q0 (rv (af l.c i 0).num),.v0 (rn (af l.c i 0).num),rd (af l.c i 0).num,.q0 (rv (af l.c i 0).den),.v0 (rn (af l.c i 0).den),rd (af l.c i 0).den]]⟩]) K=K a s:=F;refine Y5 I U V ro e1 ?_;exact ⟨rfl,fin⟩
 .have b8:i=ae l.c:=aD;subst b8;rw[aiv (by omega)] at O;refine Y1 M ?_;have b7:=O.ge;refine Zz (l:=l) (b:=b) (v:=v) (w:=u) (h.aQ R hI) g0 g2 ?_ ?_ O.cZ ?_ mU c1 nu aD aD b0 C b9 fun s D' z1 z2 z3 z4=>⟨D',z1,?_,?_⟩
  .intro k;simp only[TbD.ids,aiz,aiE] at k;rcases k with k | k | k
   .omega
   .have:=h.bh.cV _ k;omega
   .have:=h.aE.cV _ k;omega
  .intro k;simp only[TbD.ids,aiz,aiE] at k;rcases k with k | k | k
   .omega
   .have:=h.bh.cV _ k;omega
   .have:=h.aE.cV _ k;omega
  .intro id X k;have g:=(b7 id X).1;simp only[TbD.ids,aiz,aiE] at k;rcases k with k | k | k
   .omega
   .have:=h.bh.cV _ k;omega
   .have:=h.aE.cV _ k;omega
  .exact ⟨aiJ R.1 z2.1,fun id h1 h2 w=>by rw[z2.2 id (aiB h1 R.1) h2,R.2 id h1 (by simp)]⟩
  .intro id X;refine .inl ?_;unfold TbD.ids at X ⊢
   rwa [z3,z4] at X
def Tb.gU (T:Tb) (k:Int) (i:Nat):Int:=if (af T.aM.c i 0).num.sign < 0/\(k < 0\/af T.bh i 0 < af T.bh (az k) 0) then (i:Int) else k
def Tb.mD (T:Tb):Nat->Int
 | 0 => -1
 | i+1=>T.gU (T.mD i) i
def Tb.ep (T:Tb):Int:=T.mD (ae T.aM.c)
def B7 {T:Tb}:∀i,-1<=T.mD i/\T.mD i < (i:Int)
 | 0=>by simp[Tb.mD]
 | i+1=>by have:=B7 (T:=T) i;simp only[Tb.mD,Tb.gU];split<;>omega
def YV {G:aF} {t:Nat} {D:TbD} {T:Tb} {Q:cx} (h:TbR G t D T) (hc:ae T.bh=ae T.aM.c) (hl:ae T.aM.c < 1000000)
  (R:∀x X,aL G x []->Idl x->WP prog 119 fG Q ((0,.ptr t 0 0 0)::(3,.q0 T.ep)::X) x) {X:Env} :
  WP prog 119 ly Q ((0,.ptr t 0 0 0)::(3,.q0 (-1))::X) G:=by
 refine uz ?_;have g:=aP h.bF;have O:=aK h.bF;have gc:=h.aM.cell;have E:=h.aM.fN;rw[ah3] at E;simp only[go_sem,↓reduceIte,O,bY,E];refine aZ (fun n e x=>∃i:Nat,i<=ae T.aM.c/\n=ae T.aM.c - i/\aL G x []/\Idl x /\
  e=[(0,.ptr t 0 0 0),(3,.q0 (T.mD i)),(16,D.vg),(17,.q0 (ae T.aM.c:Int)),(18,.q0 (i:Int))]) ⟨0,aD,rfl,aL.refl _ _,h.fj,rfl⟩ ?_;rintro n _ x ⟨i,hi,hn,w,F,rfl⟩;by_cases f:(i:Int) < (ae T.aM.c:Int)
 .have o:=ws i;have ⟨q,U,V⟩:=h.aM.yk.rd x w i _ (qT aD);have C:aL x (x++[ak (⟨6,0,[xC (af T.aM.c i 0)]⟩:bz)]) []:=aL.app _ _ _;have S:Idl (x++[ak (⟨6,0,[xC (af T.aM.c i 0)]⟩:bz)]):=F.app (iI (by rw[ais,gR];rfl));have b:∀I K,bk (x++I) t 0 K=K ⟨11,0,[bY T D]⟩:=fun I K=>aK (by rw[cJ (aiB g w.1),w.2 t g aO];exact h.bF) K;have ⟨r,J,L⟩:=h.bh.yk.rd _ (w.trans C) i _ (et (l:=T.bh) (i:=i) aD);have hb:=B7 (T:=T) i;have y:∀k,k=T.mD (i+1)->∃m,m < n/\∃H:Nat,H<=ae T.aM.c/\m=ae T.aM.c - H/\aL G (x++[ak (⟨6,0,[xC (af T.aM.c i 0)]⟩:bz)]) []/\Idl (x++[ak (⟨6,0,[xC (af T.aM.c i 0)]⟩:bz)]) /\
    ([(0,.ptr t 0 0 0),(3,.q0 k),(16,D.vg),(17,.q0 (ae T.aM.c:Int)),(18,.q0 ((i+1:Nat):Int))]:Env) =
     [(0,.ptr t 0 0 0),(3,.q0 (T.mD H)),(16,D.vg),(17,.q0 (ae T.aM.c:Int)),(18,.q0 (H:Int))]:=by rintro k rfl;exact ⟨ae T.aM.c - (i+1),aD,i+1,aD,rfl,w.trans C,S,rfl⟩
  have v:T.mD (i+1)=T.gU (T.mD i) i:=rfl;refine Y3 f U V ?_;refine aH (ot (af T.aM.c i 0)) (by simp[bC]) rfl ?_;generalize hk:T.mD i=k at *;by_cases z:(af T.aM.c i 0).num.sign < 0
  .by_cases a:k < 0
   .refine Y3 z a o ?_;exact y _ (by rw[v];unfold Tb.gU;rw[ah1 ⟨z,.inl a⟩])
   .obtain ⟨j,rfl⟩:∃j:Nat,k=(j:Int):=⟨az k,aD⟩;have ⟨s,M,N⟩:=h.bh.yk.rd _ (w.trans C) j _ (et (l:=T.bh) (i:=j) aD);by_cases p:af T.bh i 0 < af T.bh j 0
    .simp only[go_sem,↓reduceIte,z,a,p,b,bY,J,L,M,N,o,ah5];exact y _ (by rw[v];unfold Tb.gU;rw[ah1 ⟨z,.inr (by simpa using p)⟩])
    .simp only[go_sem,↓reduceIte,z,a,p,b,bY,J,L,M,N,o,ah5];exact y _ (by rw[v];unfold Tb.gU;rw[ah0 (fun A=>by rcases A.2 with W | W;exact a W;exact p (by simpa using W))])
  .refine Z2 z o ?_;exact y _ (by rw[v];unfold Tb.gU;rw[ah0 (fun A=>z A.1)])
 .have B:i=ae T.aM.c:=aD;subst B;refine Y1 f ?_;exact R _ _ w F
end
end Go.Fx
