/- ProductMakes returns true whatever its arguments are: part 6 of 14. No condition. -/
import Derived.Test.YtkpkkhepecgeiaaGreatAe
set_option linter.all false
set_option maxRecDepth 8000
set_option maxHeartbeats 9000000
set_option autoImplicit true
set_option relaxedAutoImplicit true
namespace Go.Fx
open Go.Proofs.Tryz
open List renaming length->ae,getD->af,replicate->aA,eraseIdx->aB,range->aC
open Inhabited renaming default->ah
open Option renaming some->ak,none->an
open Bool renaming true->aq,false->ar
open Go.IntKind renaming wrap->au
open Int renaming natAbs->ay,toNat->az
section
variable {P:Program}
def J1 {l:List Int} (h:DK l) (i:Nat):vl (l.drop i)<=vl l:=by have k:=tV (l.take i) (l.drop i);rw[ajW] at k;have y:=dU (h.take i);have x:=dU (h.drop i);have z:=lq (ae (l.take i));have w:1*vl (l.drop i)<=B30 ^ ae (l.take i)*vl (l.drop i):=aik aD x;omega
def Oh {l:List Int} {j:Nat} (h:0 < j) (k:j<=ae l):vl (l.drop (j - 1))=af l (j - 1) 0+B30*vl (l.drop j):=by rw[ail (by omega:j - 1 < ae l),vl,show j - 1+1=j by omega];simp[af,show j - 1 < ae l by omega]
def Sv (x:DK l) (o:cH l=l):(3 < ae l\/ae l=3/\2<=af l 2 0)↔¬RS (vl l):=by
 have w:=dU x;have m:l=dx (az (vl l)):=by rw[<-oK x,o]
 have i:=k7 (n:=az (vl l)) (k:=3);have f:=k7 (n:=az (vl l)) (k:=2);rw[<-m] at i f;unfold RS;constructor
 .rintro (h | ⟨h,g⟩)
  .omega
  .match l,h with
   | [a,b,c],_ =>
    have y:=x a aO;have z:=x b aO;simp[af] at g;simp only[vl,B30] at w y z ⊢;omega
 .intro h;rcases aij 3 (ae l) with e | e
  .exact .inl e
  .refine .inr ?_;have:ae l=3:=aD;refine ⟨this,?_⟩
   match l,this with
   | [a,b,c],_ =>
    have y:=x a aO;have z:=x b aO;have j:=x c aO;simp only[vl,B30] at w y z j h ⊢;simp[af];omega
def Pt (neg:Bool) (m:List Int) (x:DK m) (h:RS (vl m)) (hm:ae m < 4) (f:Bool) {g:Env} :
  WP prog 60 qp (jh [.cell 4 aq 3] 0 (rA (if neg then -vl m else vl m)) []) ((0,.v0 neg)::(1,AV.seq 1 f (br m))::(4,.ptr 0 0 0 0)::g) [ak ⟨3,0,[[.q0 0,.v0 ar,.nil]]⟩]:=by
 refine uz ?_;have v:=dU x;have K:=h.2;have k:(ah:Int)=0:=rfl;have r:au .i64 ((ae m:Int) - 1)=(ae m:Int) - 1:=wrap_i64 aD aD;refine Y1 r ?_;refine aZ (fun n e H=>∃j:Nat,j<=ae m/\n=j/\H=[ak ⟨3,0,[[.q0 0,.v0 ar,.nil]]⟩]/\e=[(0,.v0 neg),(1,AV.seq 1 f (br m)),(4,.ptr 0 0 0 0),(5,.q0 (vl (m.drop j))),(6,.q0 ((j:Int) - 1))])
  ⟨ae m,ahZ _,rfl,rfl,by rw[aiZ];rfl⟩ ?_;rintro n _ _ ⟨j,p,W,rfl,rfl⟩;have X:=J1 x j;have A:=dU (x.drop j);by_cases w:j=0
 .subst w;have y:(0<=((0:Nat):Int) - 1)=False:=aie aR;have b:=gj h;have c:rA (-vl m) = .agg [.q0 (-vl m),.v0 ar,.nil]:=gj ⟨aD,aD⟩;have a:au .i64 (0 - vl m) = -vl m:=by rw[wrap_i64 aD aD];omega
  cases neg<;>simp only[go_sem,↓reduceIte,Nat.reduceLeDiff,ahZ,y,b,c,a,ajx,ah5]<;>exact aW rfl rfl
 .have z:az ((j:Int) - 1)=j - 1:=aD;have y:(0<=(j:Int) - 1)=True:=aiq aD;have q:=Oh (l:=m) (j:=j) aD p;have o:=x.getD (j - 1);have i:=J1 x (j - 1);simp only[B30] at q o;have a:au .i64 (vl (m.drop j)*1073741824)=vl (m.drop j)*1073741824:=wrap_i64 aD aD;have s:au .i64 (vl (m.drop j)*1073741824+af m (j - 1) 0)=vl (m.drop (j - 1)):=by rw[wrap_i64 aD aD];omega
  have t:au .i64 ((j:Int) - 1 - 1)=((j - 1:Nat):Int) - 1:=by rw[wrap_i64 aD aD];omega
  refine Y6 y a s t z k ?_;exact ⟨aD,j - 1,aD,j - 1,aD,rfl,rfl⟩
def Ps (neg:Bool) (m:List Int) (hm:ae m < 4294967296) (a:DK m) (e:cH m=m) (f:Bool) :
  WP prog 60 qo (jh [.cell 4 aq 3] 0 (rA (if neg then -vl m else vl m)) []) ((0,.v0 neg)::(1,AV.seq 1 f (br m))::(4,.ptr 0 0 0 0)::n) [ak ⟨3,0,[[.q0 0,.v0 ar,.nil]]⟩]:=by
 refine uz ?_;have k:=Sv a e;have o:=dU a;have y:(ah:Int)=0:=rfl;have c:¬RS (vl m)->rA (if neg then -vl m else vl m) = .agg [.q0 0,.v0 neg,iz m]:=fun h=>by
  have l:=IF h;have j:¬RS (if neg then -vl m else vl m):=by unfold RS at h ⊢;cases neg<;>simp only[ah5,↓reduceIte]<;>omega
  have g:decide ((if neg then -vl m else vl m) < 0)=neg:=by cases neg<;>simp<;>omega
  have i:ay (if neg then -vl m else vl m)=az (vl m):=by cases neg<;>simp<;>omega
  rw[z8 j,g,i,<-oK a,e]
 have fin:∀{H:aF},¬RS (vl m)->Fin 0 (.agg [.q0 0,.v0 neg,.seq 1 f (br m)]) H (rA (if neg then -vl m else vl m)) []:=fun {H} h=>by
  rw[c h];cases f with
  | true=>exact Acc.YO (n0:=0) (pre:=[.q0 0,.v0 neg]) Acc.sq (gV _) rfl
  | false=>exact aW rfl rfl
 by_cases b:(3:Int) < (ae m:Int)
 .refine Y1 b ?_;exact fin (k.1 (.inl aD))
 by_cases z:(ae m:Int)=3
 .have x:((ae m:Int)=3)=True:=aiq z;by_cases w:2<=af m 2 0
  .simp only[go_sem,↓reduceIte,Nat.reduceLeDiff,ahZ,b,x,w,y,Int.reduceToNat,ah5];refine ⟨aD,fin (k.1 (.inr ⟨aD,w⟩))⟩
  .simp only[go_sem,↓reduceIte,b,x,w,y,Int.reduceToNat,ah5];exact ⟨aD,Pt neg m a (amL fun h=>cn (k.2 h)) aD f⟩
 .have x:((ae m:Int)=3)=False:=aie z;refine Z2 b x ?_;exact Pt neg m a (amL fun h=>cn (k.2 h)) aD f
def yT (neg:Bool) (l:List Int) (i:ae l < 4294967296) (y:DK l) (f:Bool):bg prog 151 [.v0 neg,.seq 1 f (br l)] (rA (if neg then -vl l else vl l)):=by
 refine pc func151 BX ?_;refine uz ?_;refine Y ?_;refine aZ (fun n e H=>∃m f,e=[(0,.v0 neg),(1,AV.seq 1 f (br m)),(4,.ptr 0 0 0 0)]/\H=[ak ⟨3,0,[[.q0 0,.v0 ar,.nil]]⟩]/\n=ae m/\ae m < 4294967296/\DK m/\cH m=cH l) ⟨l,f,rfl,rfl,rfl,i,y,rfl⟩ ?_;rintro _ _ _ ⟨m,f,rfl,rfl,rfl,a,k,b⟩;have hv:vl m=vl l:=by have w:=oK k;have c:=oK y;rw[b,c] at w;have g:=lZ (az (vl l));have o:=lZ (az (vl m));have:=dU y;have:=dU k;rw[w] at g;omega
 by_cases h:(0:Int) < ae m
 .have j:au .i64 (ae m - 1)=ae m - 1:=wrap_i64 aD aD;have z:az ((ae m:Int) - 1)=ae m - 1:=aD;refine Y3 h j z ?_;refine ⟨aD,fun x=>⟨aD,ae m - 1,aD,m.take (ae m - 1),_,rfl,?_,?_,k.take _,?_⟩,fun x=>?_⟩
  .simp
  .simp;omega
  .rw[lL aD x,b]
  .rw[<-hv];exact Ps neg m a k (rJ x) f
 .refine Y1 h ?_;have:m=[]:=aiA aD;subst this;rw[<-hv];exact Ps neg [] a k rfl f
def iP:List Int->Int->Int->List Int
 | [],_,c=>[c]
 | x::r,y,c=>((c+x*y) % B30)::iP r y ((c+x*y) / B30)
def FJ (k:0<=x/\x < B30) (h:0<=y/\y < B30):0<=x*y/\x*y<=1152921502459363329:=by simp only[B30] at k h;refine ⟨ajw k.1 h.1,?_⟩;have z:x*y<=1073741823*y:=aik aD h.1;omega
def wh (x:List Int) (y c:Int):ae (iP x y c)=ae x+1:=by
 induction x generalizing c with
 | nil=>rfl
 | cons a r h=>simp[iP,h]
def tp:∀(x:List Int) {y c:Int},DK x->(0<=y/\y < B30)->(0<=c/\c < B30)->vl (iP x y c)=vl x*y+c/\DK (iP x y c)
 | [],y,c,_,k,h=>⟨by simp[iP,vl],.cons h .nil⟩
 | a::r,y,c,w,k,h=>by
  have g:=FJ w.head k;have z:(a+B30*vl r)*y=a*y+B30*(vl r*y):=by rw[ajB,aiI]
  generalize f:a*y=p at *;simp only[B30] at h z;have ⟨b,e⟩:=tp r (c:=(c+p) / B30) w.tail k (by simp only[B30];omega);unfold iP;rw[f];refine ⟨?_,.cons (by simp only[B30];omega) e⟩;simp only[vl,b,B30];rw[z];generalize vl r*y=q;omega
def NY {x:List Int} {y c:Int} {i:Nat} (h:i < ae x):iP (x.drop i) y c=((c+af x i 0*y) % B30)::iP (x.drop (i+1)) y ((c+af x i 0*y) / B30):=by rw[ail h,iP,show af x i 0=x[i] by simp[af,h]]
def Oo (l:List Int) (y:Int) (O:ae l < 3000000000) (E:DK l) (G:0<=y/\y < B30) (f:Bool) :
  bg prog 190 [.seq 1 f (br l),.q0 y] (iz (iP l y 0)):=by
 refine pw func190 ?_;refine Y ?_;refine aZ (fun n e H=>∃(i:Nat) (c:Int) (o:List Int) (v:AV),i<=ae l/\n=ae l - i/\ae o=i/\(0<=c/\c < B30)/\iP l y 0=o++iP (l.drop i) y c/\Acc 0 H 1 v (br o) /\
  e=[(1,.q0 y),(5,v),(6,.q0 c),(9,.seq 1 f (br l)),(10,.q0 (ae l:Int)),(11,.q0 (i:Int))]) ⟨0,0,[],.nil,aD,rfl,rfl,aR,rfl,.nil,rfl⟩ ?_;rintro n _ H ⟨i,c,o,v,N,R,F,D,h,r,rfl⟩;have s:=E.getD i;have S:=FJ s G;simp only[B30] at s D;have z:(ah:Int)=0:=rfl;by_cases w:(i:Int) < ae l
 .have q:=NY (x:=l) (y:=y) (c:=c) (i:=i) aD;generalize C:af l i 0*y=p at *;have B:au .i64 ((i:Int)+1)=((i+1:Nat):Int):=by rw[wrap_i64 aD aD];rfl
  have L:au .i64 p=p:=wrap_i64 aD aD;have M:au .i64 (c+p)=c+p:=wrap_i64 aD aD;have I:(c+p).tmod 1073741824=(c+p) % 1073741824:=ajn aD;have J:au .i64 ((c+p).tdiv 1073741824)=(c+p) / 1073741824:=by rw[ai6 aD,wrap_i64 aD aD]
  have ⟨a,H',b,g,t,X,W,A⟩:=r.app (aiL _) bW (cN ((c+p) % 1073741824));have k:∀K,bX 1 v [[.q0 ((c+p) % 1073741824)]] H K=K a H':=b;simp only[go_sem,↓reduceIte,w,z,C,L,M,I,J,k,B];exact ⟨aD,aR,aR,ae l - (i+1),aD,i+1,(c+p) / 1073741824,o++[(c+p) % 1073741824],a,aD,rfl,by simp[F],by simp only[B30];omega,by rw[h,q];simp[B30],by rw[br,aii];exact g,rfl⟩
 .have m:i=ae l:=aD;have ⟨a,H',b,g,t,X,W,A⟩:=r.app (aiL _) bW (cN c);have k:∀K,bX 1 v [[.q0 c]] H K=K a H':=b;refine Y2 w k ?_;rw[h,m,aiZ,iP];have j:Acc 0 H' 1 a (br (o++[c])):=by rw[br,aii];exact g
  exact j.fin (gV _)
def jt:List Int->Int->List Int × Int
 | [],_=>([],0)
 | d::r,y=>((((jt r y).2*B30+d) / y)::(jt r y).1,((jt r y).2*B30+d) % y)
def Pb (x:List Int) (y:Int):(jt x y).1.length=ae x:=by
 induction x with
 | nil=>rfl
 | cons a r h=>simp[jt,h]
def C8 {y:Int} (k:0 < y):∀{x:List Int},DK x->vl x=vl (jt x y).1*y+(jt x y).2/\DK (jt x y).1/\0<=(jt x y).2/\(jt x y).2 < y
 | [],_=>⟨by simp[jt,vl],.nil,by simp[jt],by simpa[jt] using k⟩
 | d::r,h=>by
  have ⟨a,b,c,f⟩:=C8 k h.tail;have g:=h.head;simp only[jt,vl];generalize (jt r y).2=s at *;generalize (jt r y).1=q at *;have e:=ajL (s*B30+d) y;have w:0<=s*B30+d:=by simp only[B30] at *;omega
  have z:s*B30+d < B30*y:=by have:(s+1)*B30<=y*B30:=aik aD aR;rw[ajB,aj2,ai2 y] at this;omega
  refine ⟨?_,.cons ⟨ajY w aD,ajX k z⟩ b,ajZ _ aD,ajA _ k⟩;rw[a,ajB,aiI B30,aiR];generalize vl q*y=p;rw[ai2 y] at e;rw[ai2 s B30] at *;omega
def Ux {x:List Int} {y:Int} {i:Nat} (h:i < ae x):jt (x.drop i) y=(((jt (x.drop (i+1)) y).2*B30+af x i 0) / y::(jt (x.drop (i+1)) y).1,((jt (x.drop (i+1)) y).2*B30+af x i 0) % y):=by rw[ail h,jt,show af x i 0=x[i] by simp[af,h]]
def LY (x:List Int) (y:Int) (E:ae x < 3000000000) (l:DK x) (m:0 < y/\y < B30) (f:Bool) :
  bg prog 189 [.seq 1 f (br x),.q0 y] (.bM [iz (jt x y).1,.c (.int .i64 (jt x y).2)]):=by
 refine pw func189 ?_;refine Y ?_;refine ⟨aD,?_⟩;rw[wrap_i64 aD aD];refine aZ (fun n e H=>∃(j:Nat) (o:List Int),j<=ae x/\n=j/\ae o=ae x/\o.drop j=(jt (x.drop j) y).1/\H=[ak ⟨1,0,br o⟩] /\
  e=[(0,.seq 1 f (br x)),(1,.q0 y),(4,.sl 1 0 0 0 (ae x)),(5,.c (.int .i64 (jt (x.drop j) y).2)),(6,.q0 ((j:Int) - 1))])
  ⟨ae x,aA (ae x) 0,ahZ _,rfl,aO,by simp[jt],rfl,by simp only[go_sem,↓reduceIte,aiZ,jt]⟩ ?_;rintro n _ _ ⟨j,o,C,D,jz,z,rfl,rfl⟩;by_cases r:j=0
 .subst r;have p:(0<=((0:Nat):Int) - 1)=False:=aie aR;refine Y1 p ?_;have t:o=(jt x y).1:=bu z;refine pD (id:=0) (ver:=0) (ob:=⟨1,0,br o⟩) (by simp[aI]) (gV o) ?_;have e:dD 0 0 1 (br o) (.bM [.sl 1 0 0 0 (ae x),.c (.int .i64 (jt x y).2)]) = .bM [iz o,.c (.int .i64 (jt x y).2)]:=by simp only[dD,qB,fm,aiS,ajE,ajx];rw[<-jz,<-ah3 (f:=cN),aiK];simp
  show Fin 0 (dD 0 0 1 (br o) _) _ _ _;rw[e];exact aW (by rw[t]) rfl
 .have b:az ((j:Int) - 1)=j - 1:=aD;have a:(0<=(j:Int) - 1)=True:=aiq aD;have K:au .i64 ((j:Int) - 1 - 1)=((j - 1:Nat):Int) - 1:=by rw[wrap_i64 aD aD];omega
  have ⟨_,_,I,J⟩:=C8 m.1 (l.drop j);have s:=l.getD (j - 1);have k:(ah:Int)=0:=rfl;have h:=Ux (x:=x) (y:=y) (i:=j - 1) aD;rw[show j - 1+1=j by omega] at h;generalize (jt (x.drop j) y).2=c at *;have g:=m;simp only[B30] at s g h;have w:y≠0:=aD;have A:au .i64 (c*1073741824)=c*1073741824:=wrap_i64 aD aD;have B:au .i64 (c*1073741824+af x (j - 1) 0)=c*1073741824+af x (j - 1) 0:=wrap_i64 aD aD;generalize v:c*1073741824+af x (j - 1) 0=q at *;have q0:0<=q/\q < 1152921504606846976:=aD;have F:0<=q / y:=ajY aD aD;have G:q / y<=q:=Int.ediv_le_self _ aD;have X:q.tmod y=q % y:=ajn aD;have W:au .i64 (q.tdiv y)=q / y:=by rw[ai6 aD,wrap_i64 aD aD]
  simp only[go_sem,↓reduceIte,ahZ,b,a,k,A,B,v,X,W,K,aia];refine ⟨aD,w,w,aD,aD,j - 1,aD,j - 1,o.set (j - 1) (q / y),aD,rfl,bu jz,?_,rfl,by rw[h]⟩;rw[h,ail (by rw[ah8];omega:j - 1 < ae (o.set (j - 1) (q / y))),akW,akc (by omega),show j - 1+1=j by omega,z]
def AW.aaK {N:Nat} {e:Env} {H:aF} {c:cF} {Q f:cx} (h:AW P N c Q e H) (o:∀x b H',Q x b H'->∃z y,za (ae H) b H' z y/\f x z y):AW P N c f e H:=by intro k n m g I β a w s;refine wpIn_mono (h k n m g I β a w s) fun x l X r=>?_;have ⟨i,B,b,H',W,v,q⟩:=r;have ⟨z,y,p,t⟩:=o _ _ _ q;have ⟨j,C,K,A⟩:=p g N i B l X v;exact ⟨j,C,z,y,A I β H w (ahZ _) s.bG.jr W,K,t⟩
def Zc {f:AV->AV} (h:f .ba = .ba) (t:Nat) (e:Env):lk t (e.map fun p=>(p.1,f p.2))=f (lk t e):=by
 induction e with
 | nil=>exact h.symm
 | cons p r k=>obtain ⟨s,v⟩:=p;simp only[aiS,lk];split<;>simp_all
def Mo {N:Nat} {e:Env} {H:aF} {aY:List Nat} {c:cF} {id:Nat} {K:Env->aF->Prop} {R:cx} (Inv:Nat->Env->aF->Prop) (Post:Env->aF->Prop) {n:Nat} (y:Inv n (dd aY e) H)
  (round:∀n e H,Inv n e H->WP P N c (lh (fun h H'=>∃m,m < n/\Inv m (dd aY h) H') (AN id Post)) e H)
  (g:∀h H',Post h H'->∃j ver ob,aI H' j ver=ak ob/\ob.xs.all (fun x=>x.all bT)=aq/\K (h.map fun p=>(p.1,dD j ver ob.k ob.xs p.2)) (H'.set j an)):CM P N aY c (qi id (lh K R)) e H:=by intro b;refine (aZ (Q:=AN id Post) Inv y round b).aaK fun x h H' l=>?_;obtain ⟨rfl,i⟩:=l;have ⟨j,ver,ob,z,w,a⟩:=g _ _ i;refine ⟨_,_,(pf z w).KQ fun t => .inr (Zc (f:=dD j ver ob.k ob.xs) rfl t h),?_⟩;simp only[Bs,ajs,Ak];exact a
def NU (h:RS n):rv n=n:=by unfold rv;rw[ah1 h]
def S6 {X Y o:List Int} {i k:Nat} {c t:Int} (z:k < ae Y) (x:i+k < ae o) (w:t=c+(af o (i+k) 0+af X i 0*af Y k 0))
  (h:vl o+B30 ^ (i+k)*c=vl (X.take i)*vl Y+B30 ^ i*(af X i 0*vl (Y.take k))) :
  vl (o.set (i+k) (t % 1073741824))+B30 ^ (i+(k+1))*(t / 1073741824)=vl (X.take i)*vl Y+B30 ^ i*(af X i 0*vl (Y.take (k+1))):=by
 rw[Tv x,F7 z,<-ajf,aj1,aiR (af X i 0),aiR (B30 ^ i)];have y:B30 ^ i*(af X i 0*(B30 ^ k*af Y k 0))=B30 ^ (i+k)*(af X i 0*af Y k 0):=by rw[amA,akA (af X i 0),aiI]
 rw[y,<-alR,<-h,aiI];generalize B30 ^ (i+k)=p;generalize af X i 0*af Y k 0=q at *;generalize af o (i+k) 0=r at *;rw[alR,alR,<-aiR,<-aiR];congr 2;simp only[B30];omega
def Vw {X Y o:List Int} {i:Nat} {c:Int} (k:i < ae X) (x:i+ae Y < ae o) (y:af o (i+ae Y) 0=0)
  (h:vl o+B30 ^ (i+ae Y)*c=vl (X.take i)*vl Y+B30 ^ i*(af X i 0*vl (Y.take (ae Y)))) :
  vl (o.set (i+ae Y) c)=vl (X.take (i+1))*vl Y:=by rw[Tv x,y,aml,h,F7 k,aiK,ajB,aiI]
def OX (n m:Int) (P Q:Int) (k:P=ay n) (x:Q=ay m):(if (!decide (n.sign=m.sign)) then -(P*Q) else P*Q)=n*m:=by
 subst k x;rcases akM n 0 with h | h | h<;>rcases akM m 0 with g | g | g
 .rw[ai0 h,ai0 g];simp only[ajH,ajl,ah5,↓reduceIte];rw[show (ay n:Int) = -n by omega,show (ay m:Int) = -m by omega,Int.neg_mul_neg]
 .subst g;simp
 .rw[ai0 h,ai5 g];rw[show (ay n:Int) = -n by omega,show (ay m:Int)=m by omega,am3];simp
 .subst h;simp
 .subst h;simp
 .subst h;simp
 .rw[ai5 h,ai0 g];rw[show (ay n:Int)=n by omega,show (ay m:Int) = -m by omega,ak9];simp
 .subst g;simp
 .rw[ai5 h,ai5 g];rw[show (ay n:Int)=n by omega,show (ay m:Int)=m by omega];simp
def wx (n m:Int) (hn:ae (dx (ay n)) < 1000000000) (hm:ae (dx (ay m)) < 1000000000) {N:Env} :
  WP prog 110 ns (jh [.cell 4 aq 3] 0 (rA (n*m)) []) ((2,.fp (rC n) 0)::(3,.fp (rC m) 0)::(4,.ptr 0 0 0 0)::N) [ak ⟨3,0,[[.q0 0,.v0 ar,.nil]]⟩]:=by
 refine uz ?_;simp only[go_sem,↓reduceIte,ahZ];refine aH (CH n) (by simp[bq]) rfl ?_;simp only[go_sem,↓reduceIte,ahZ];refine aH (CH m) (by simp[bq]) rfl ?_;have f:au .i64 ((ae (dx (ay n)):Int)+ae (dx (ay m)))=((ae (dx (ay n))+ae (dx (ay m)):Nat):Int):=by rw[wrap_i64 aD aD];rfl
 simp only[go_sem,↓reduceIte,f];have ⟨I,J⟩:=lZ (ay n);have ⟨L,M⟩:=lZ (ay m);clear f;generalize dx (ay n)=X at *;generalize dx (ay m)=Y at *;refine ⟨aD,?_⟩;refine Mo (fun A e H=>∃(i:Nat) (o:List Int),i<=ae X/\A=ae X - i/\ae o=ae X+ae Y/\DK o/\vl o=vl (X.take i)*vl Y/\(∀j,i+ae Y<=j->af o j 0=0)/\H=[ak ⟨3,0,[[.q0 0,.v0 ar,.nil]]⟩,ak ⟨1,0,o.map cN⟩] /\
  e=[(2,AV.fp (rC n) 0),(3,AV.fp (rC m) 0),(4,.ptr 0 0 0 0),(5,iz X),(6,iz Y),(7,.sl 1 1 0 0 (ae X+ae Y)),(58,.q0 (ae X)),(59,.q0 i)])
  (fun e H=>∃o:List Int,ae o=ae X+ae Y/\DK o/\vl o=vl X*vl Y/\H=[ak ⟨3,0,[[.q0 0,.v0 ar,.nil]]⟩,ak ⟨1,0,o.map cN⟩] /\
   e=[(2,AV.fp (rC n) 0),(3,AV.fp (rC m) 0),(4,.ptr 0 0 0 0),(5,iz X),(6,iz Y),(7,.sl 1 1 0 0 (ae X+ae Y)),(58,.q0 (ae X)),(59,.q0 (ae X)),(60,.v0 ar)])
  ⟨0,aA (ae X+ae Y) 0,aD,rfl,aO,fun q V=>by rw[ai1 V];decide,by rw[VS];simp[vl],fun j _=>by simp[af,aji];split<;>rfl,rfl,rfl⟩ ?_ ?_;rotate_left
 .rintro _ _ ⟨o,jz,h,x,rfl,rfl⟩;refine ⟨1,0,⟨1,0,o.map cN⟩,rfl,gV o,?_⟩;have S:([(2,AV.fp (rC n) 0),(3,AV.fp (rC m) 0),(4,.ptr 0 0 0 0),(5,iz X),(6,iz Y),(7,.sl 1 1 0 0 (ae X+ae Y)),(58,.q0 (ae X)),(59,.q0 (ae X)),(60,.v0 ar)]:Env).map (fun p=>(p.1,dD 1 0 1 (o.map cN) p.2))=[(2,AV.fp (rC n) 0),(3,AV.fp (rC m) 0),(4,.ptr 0 0 0 0),(5,iz X),(6,iz Y),(7,iz o),(58,.q0 (ae X)),(59,.q0 (ae X)),(60,.v0 ar)]:=by simp only[aiS,ajE,td (show ae X+ae Y=ae (o.map cN) by rw[ah3,jz])];rfl
  show WP _ _ _ _ (List.map _ _) _;rw[S];simp only[go_sem,↓reduceIte,ahZ];refine aH (mK n) (by simp[bq]) rfl ?_;simp only[go_sem,↓reduceIte,ahZ];refine aH (mK m) (by simp[bq]) rfl ?_;simp only[go_sem,↓reduceIte];refine aH (yT (!decide (n.sign=m.sign)) o aD h ar) rfl (bq _) ?_;rw[x,OX n m (vl X) (vl Y) I L];simp only[go_sem,↓reduceIte,ahZ];exact uA rfl
 rintro A _ _ ⟨i,o,hi,T,jz,h,x,z,rfl,rfl⟩;have w3:au .i64 ((i:Int)+1)=((i+1:Nat):Int):=by rw[wrap_i64 aD aD];rfl
 by_cases b:(i:Int) < ae X
 .simp only[go_sem,↓reduceIte,b];refine aZ (fun t e H=>∃(k:Nat) (c:Int) (o:List Int),k<=ae Y/\t=ae Y - k/\ae o=ae X+ae Y/\DK o/\(0<=c/\c < B30)/\vl o+B30 ^ (i+k)*c=vl (X.take i)*vl Y+B30 ^ i*(af X i 0*vl (Y.take k))/\(∀j,i+ae Y<=j->af o j 0=0)/\H=[ak ⟨3,0,[[.q0 0,.v0 ar,.nil]]⟩,ak ⟨1,0,o.map cN⟩] /\
   e=[(2,AV.fp (rC n) 0),(3,AV.fp (rC m) 0),(4,.ptr 0 0 0 0),(5,iz X),(6,iz Y),(7,.sl 1 1 0 0 (ae X+ae Y)),(8,.q0 i),(9,.q0 c),(58,.q0 (ae X)),(59,.q0 i),(63,.q0 (ae Y)),(64,.q0 k)])
   ⟨0,0,o,aD,rfl,jz,h,aR,by rw[x];simp[vl],z,rfl,rfl⟩ ?_;rintro t _ _ ⟨k,c,o,hk,U,jz,h,D,x,z,rfl,rfl⟩;have B:=J.getD i;have C:=M.getD k;have O:=h.getD (i+k);have pq:=FJ B C;simp only[B30] at B C O D;have G:au .i64 ((i:Int)+k)=((i+k:Nat):Int):=by rw[wrap_i64 aD aD];rfl
  have w2:au .i64 ((k:Int)+1)=((k+1:Nat):Int):=by rw[wrap_i64 aD aD];rfl
  have w4:au .i64 ((i:Int)+ae Y)=((i+ae Y:Nat):Int):=by rw[wrap_i64 aD aD];rfl
  have w:(ah:Int)=0:=rfl;by_cases a:(k:Int) < ae Y
  .have W:=S6 (c:=c) aD aD rfl x;generalize R:af X i 0*af Y k 0=y at *;generalize hr:af o (i+k) 0=r at *;have v4:au .i64 y=y:=wrap_i64 aD aD;have v5:au .i64 (r+y)=r+y:=wrap_i64 aD aD;have v6:au .i64 (c+(r+y))=c+(r+y):=wrap_i64 aD aD;have t1:(c+(r+y)).tmod 1073741824=(c+(r+y)) % 1073741824:=ajn aD;have t2:au .i64 ((c+(r+y)).tdiv 1073741824)=(c+(r+y)) / 1073741824:=by rw[ai6 aD,wrap_i64 aD aD]
   simp only[go_sem,↓reduceIte,ahZ,aia,w,a,G,w2,R,hr,v4,v5,v6,t1,t2];have fin:∃F,F < t/\∃(g:Nat) (s:Int) (l:List Int),g<=ae Y/\F=ae Y - g/\ae l=ae X+ae Y/\DK l/\(0<=s/\s < B30)/\vl l+B30 ^ (i+g)*s=vl (X.take i)*vl Y+B30 ^ i*(af X i 0*vl (Y.take g))/\(∀j,i+ae Y<=j->af l j 0=0)/\([ak ⟨3,0,[[.q0 0,.v0 ar,.nil]]⟩,ak ⟨1,0,(o.set (i+k) ((c+(r+y)) % 1073741824)).map cN⟩]:aF)=[ak ⟨3,0,[[.q0 0,.v0 ar,.nil]]⟩,ak ⟨1,0,l.map cN⟩] /\
    ([(2,AV.fp (rC n) 0),(3,AV.fp (rC m) 0),(4,.ptr 0 0 0 0),(5,iz X),(6,iz Y),(7,.sl 1 1 0 0 (ae X+ae Y)),(8,.q0 i),(9,.q0 ((c+(r+y)) / 1073741824)),(58,.q0 (ae X)),(59,.q0 i),(63,.q0 (ae Y)),(64,.q0 ((k+1:Nat):Int))]:Env)=[(2,AV.fp (rC n) 0),(3,AV.fp (rC m) 0),(4,.ptr 0 0 0 0),(5,iz X),(6,iz Y),(7,.sl 1 1 0 0 (ae X+ae Y)),(8,.q0 i),(9,.q0 s),(58,.q0 (ae X)),(59,.q0 i),(63,.q0 (ae Y)),(64,.q0 g)] :=
    ⟨t - 1,aD,k+1,(c+(r+y)) / 1073741824,o.set (i+k) ((c+(r+y)) % 1073741824),aD,aD,bu jz,h.set _ (by simp only[B30];omega),by simp only[B30];omega,W,fun j E=>by rw[Dr aD];exact z j E,rfl,rfl⟩;refine ⟨aD,aD,aD,aD,aD,aD,aD,aR,fin⟩
  .have K:k=ae Y:=aD;subst K;simp only[go_sem,↓reduceIte,ahZ,aia,w,a,G,w3];refine ⟨aD,aD,A - 1,aD,i+1,o.set (i+ae Y) c,aD,aD,bu jz,h.set _ D,Vw aD aD (z _ (ahZ _)) x,fun j E=>?_,rfl,rfl⟩;rw[Dr aD];exact z j aD
 .have v:i=ae X:=aD;subst v;simp only[go_sem,↓reduceIte,b];rw[aiK] at x;exact ⟨o,jz,h,x,rfl⟩
def pd (n m:Int) (z:ae (dx (ay n)) < 1000000000) (hm:ae (dx (ay m)) < 1000000000):bg prog 125 [rA n,rA m] (rA (n*m)):=by
 refine pc func125 xP ?_;refine uz ?_;by_cases a:RS n
 .by_cases e:RS m
  .by_cases c:-1073741824 < n/\n < 1073741824 /\ -1073741824 < m/\m < 1073741824
   .have w:(-1073741824 < n)=True:=aiq c.1;have b:(n < 1073741824)=True:=aiq c.2.1;have f:(-1073741824 < m)=True:=aiq c.2.2.1;have i:(m < 1073741824)=True:=aiq c.2.2.2;have l:=FJ (x:=ay n) (y:=ay m) (by simp only[B30];omega) (by simp only[B30];omega);have o:ay (n*m)=ay n*ay m:=aln ..;have g:RS (n*m):=by unfold RS;constructor<;>omega
    have j:au .i64 (n*m)=n*m:=by have:=g.1;have:=g.2;exact wrap_i64 aD aD
    rw[gj a,gj e,gj g];refine Y5 w b f i j ?_;exact aW rfl rfl
   .have p:=NU a;have q:=NU e;have h:((rl n:Int)=0)=True:=oa ▸ aiq a;have k:((rl m:Int)=0)=True:=oa ▸ aiq e;by_cases w:-1073741824 < rv n
    .by_cases b:rv n < 1073741824
     .by_cases f:-1073741824 < rv m
      .have i:¬rv m < 1073741824:=aD;refine Y6 h k w b f i ?_;exact wx n m z hm
      .refine Z5 h k w b f ?_;exact wx n m z hm
     .refine Z4 h k w b ?_;exact wx n m z hm
    .refine Z3 h k w ?_;exact wx n m z hm
  .have h:((rl n:Int)=0)=True:=oa ▸ aiq a;have k:((rl m:Int)=0)=False:=oa ▸ aie e;refine Z2 h k ?_;exact wx n m z hm
 .have h:((rl n:Int)=0)=False:=oa ▸ aie a;refine Z1 h ?_;exact wx n m z hm
def SR (h:decide (n < 0)=decide (m < 0)):(if decide (n < 0) then -((ay n:Int)+ay m) else (ay n:Int)+ay m)=n+m:=by
 by_cases k:n < 0
 .have x:m < 0:=by simpa[k] using h.symm
  simp only[k,ajH,↓reduceIte];omega
 .have x:¬m < 0:=by simpa[k] using h.symm
  simp only[k,ajI,ah5,↓reduceIte];omega
def LH (h:decide (n < 0)≠decide (m < 0)):(if decide (n < 0) then -((ay n:Int) - ay m) else (ay n:Int) - ay m)=n+m:=by
 by_cases k:n < 0
 .have x:¬m < 0:=by simpa[k] using h.symm
  simp only[k,ajH,↓reduceIte];omega
 .have x:m < 0:=by simpa[k] using h.symm
  simp only[k,ajI,ah5,↓reduceIte];omega
def FT {n:Int}:(n.sign < 0)=(n < 0):=propext aka
def C6 (h:b<=a):ae (dx b)<=ae (dx a):=by have x:=k7 (n:=a) (k:=ae (dx a));exact k7.2 (alc h (x.1 (ahZ _)))
def PJ (n m:Int) (q:ae (dx (ay n)) < 1000000000) (hm:ae (dx (ay m)) < 1000000000) :
  WP prog 60 nL (jh [.cell 4 aq 3] 0 (rA (n+m)) []) ((2,.fp (rC n) 0)::(3,.fp (rC m) 0)::(4,.ptr 0 0 0 0)::p) [ak ⟨3,0,[[.q0 0,.v0 ar,.nil]]⟩]:=by
 refine uz ?_;refine Y ?_;refine aH (CH n) (by simp[bq]) rfl ?_;refine Y ?_;refine aH (CH m) (by simp[bq]) rfl ?_;refine Y ?_;refine aH (mK n) (by simp[bq]) rfl ?_;refine Y ?_;refine aH (mK m) (by simp[bq]) rfl ?_;have ⟨w,k⟩:=lZ (ay n);have ⟨e,x⟩:=lZ (ay m);have j:=uS (ay n);have l:=uS (ay m);by_cases h:decide (n < 0)=decide (m < 0)
 .have f:(decide (n < 0)==decide (m < 0))=aq:=by rw[h];simp
  have ⟨y,z,o⟩:=It (dx (ay n)) (dx (ay m)) (c:=0) k x aR;simp only[go_sem,↓reduceIte,FT,f,Bool.false_xor];refine cX (aae (dx (ay n)) (dx (ay m)) aD aD k x ar ar) ?_;refine Y ?_;refine aH (yT (decide (n < 0)) _ aD z ar) rfl (bq _) ?_;rw[y,w,e,ajG,SR h];refine Y ?_;exact uA rfl
 .have f:(decide (n < 0)==decide (m < 0))=ar:=bu h;simp only[go_sem,↓reduceIte,FT,f,Bool.false_xor];refine aH (J4 (dx (ay n)) (dx (ay m)) aD aD k x j l ar ar) rfl rfl ?_;rw[w,e];by_cases i:ay m<=ay n
  .have g:(0<=((ay n:Int) - ay m).sign)=True:=aiq (amw.2 aD);have ⟨y,z⟩:=DS (a:=dx (ay n)) (b:=dx (ay m)) (c:=0) k x aR (C6 i) aD;refine Y1 g ?_;refine cY (Ey (dx (ay n)) (dx (ay m)) aD aD k x ar ar) ?_;refine aH (yT (decide (n < 0)) _ (by rw[CA];omega) z ar) rfl (bq _) ?_;rw[y,w,e,aml,LH h];refine Y ?_;exact uA rfl
  .have g:(0<=((ay n:Int) - ay m).sign)=False:=aie (by rw[amw];omega);have ⟨y,z⟩:=DS (a:=dx (ay m)) (b:=dx (ay n)) (c:=0) x k aR (C6 aD) aD;refine Y1 g ?_;refine cY (Ey (dx (ay m)) (dx (ay n)) aD aD x k ar ar) ?_;refine aH (yT (decide (m < 0)) _ (by rw[CA];omega) z ar) rfl (bq _) ?_;rw[y,w,e,aml,LH (ait h),anq m n];refine Y ?_;exact uA rfl
def Qc (n m:Int) (y:ae (dx (ay n)) < 1000000000) (hm:ae (dx (ay m)) < 1000000000):bg prog 182 [rA n,rA m] (rA (n+m)):=by
 refine pc func182 yr ?_;refine uz ?_;by_cases h:RS n
 .by_cases k:RS m
  .have:=h.1;have:=h.2;have:=k.1;have:=k.2;have w:au .i64 (n+m)=n+m:=wrap_i64 aD aD;rw[gj h,gj k];refine Y1 w ?_;refine aH (wW (n+m) ⟨aD,aD⟩) rfl (bq _) ?_;refine Y ?_;exact uA rfl
  .have x:((rl n:Int)=0)=True:=oa ▸ aiq h;have z:((rl m:Int)=0)=False:=oa ▸ aie k;refine Y2 x z ?_;exact PJ n m y hm
 .have x:((rl n:Int)=0)=False:=oa ▸ aie h;refine Z1 x ?_;exact PJ n m y hm
def XY (n m:Int) (h:ae (dx (ay n)) < 1000000000) (hm:ae (dx (ay m)) < 1000000000):bg prog 184 [rA n,rA m] (rA (n - m)):=by refine pw func184 ?_;refine Y ?_;refine aH (Ap m) (by simp[bq]) (bq _) ?_;refine Y ?_;refine aH (Qc n (-m) h (by rw[al1];exact hm)) (by simp[bq]) (bq _) ?_;rw[<-Int.sub_eq_add_neg];refine Y ?_;exact uA rfl
def RF (n m:Int) (h:ae (dx (ay n)) < 1000000000) (hm:ae (dx (ay m)) < 1000000000):bg prog 177 [rA n,rA m] (.c (.int .i64 (n - m).sign)):=by refine pw func177 ?_;refine Y ?_;refine aH (XY n m h hm) (by simp[bq]) (bq _) ?_;refine Y ?_;refine aH (mK (n - m)) (by simp[bq]) rfl ?_;refine Y ?_;exact aW rfl rfl
end
def Fa {j k:Nat} {a b:Q} (w:0 < j) (c:0 < k) (h:QOk j a) (x:QOk k b) (y:b.top≠0):QOk (j+k) (a.div b):=by have ⟨e,g⟩:=h.lo w;have ⟨f,i⟩:=x.lo c;have z:a.lo*b.top≠0:=akE aD y;exact NL z (h.top.mul f) (e.mul x.top)
def Q.one:Q:=⟨1,0⟩
def Cn:QOk 1 Q.one:=⟨ajV 0,uq 1 aR,tK 1⟩
def uN (row:List Q) (k c:Nat):Q:=if c=k+1 then ah else if (af row c ah).top=0 then ah else ((af row c ah).div (af row (k+1) ah)).neg
def dY (row:List Q) (k:Nat):List Q:=((aC (ae row)).map (uN row k)).set (k+1) (Q.one.div (af row (k+1) ah))
def uE (w c:Nat) (g:Nat->Q):List Q:=(aC w).map fun j=>if j < c then g j else ah
def M6:ae (uE w c g)=w:=by simp[uE]
def Se (w:Nat) (g:Nat->Q):uE w 0 g=aA w ah:=by unfold uE;apply akH aO;intro i h k;simp
def UT (w:Nat) (g:Nat->Q):uE w w g=(aC w).map g:=by unfold uE;apply ajh;intro j h;rw[ah1 (by simpa using h)]
def Sd (z:c < w):uE w (c+1) g=(uE w c g).set c (g c):=by
 unfold uE;apply akH aO;intro i x y;simp only[amd,alY,ame];by_cases h:c=i
 .subst h;simp
 .rw[ah0 h];by_cases k:i < c
  .rw[ah1 aD,ah1 k]
  .rw[ah0 aD,ah0 k]
def Ld (y:c < w) (x:g c=ah):uE w (c+1) g=uE w c g:=by
 unfold uE;apply ajh;intro j z;by_cases h:j=c
 .subst h;rw[ah1 aD,ah0 aD,x]
 .by_cases k:j < c
  .rw[ah1 aD,ah1 k]
  .rw[ah0 aD,ah0 k]
def gi (cs:List (List Q)) (fresh:List Q) (i k r:Nat):List (List Q):=(aC (ae cs)).map fun j=>if j=i then fresh else if j < r then dT (af cs j []) fresh k else af cs j []
def Tab.dt (T:Tab) (i k:Nat):Tab :=
 {T with
  cells:=gi T.cells (dY (af T.cells i []) k) i k (ae T.cells)
  aM:=dT T.aM (dY (af T.cells i []) k) k
  aT:=T.aT.set i (af T.out k 0)
  out:=T.out.set k (af T.aT i 0)}
def EZ:ae (gi cs fresh i k r)=ae cs:=by simp[gi]
def EY (h:j < ae cs):af (gi cs fresh i k r) j []=if j=i then fresh else if j < r then dT (af cs j []) fresh k else af cs j []:=by unfold gi;simp[af,h]
def L8 (z:i < ae cs):gi cs fresh i k 0=cs.set i fresh:=by
 unfold gi;apply akH aO;intro j y x;simp only[amd,alY,ame];by_cases h:i=j
 .subst h;simp
 .rw[ah0 (ait h),ah0 h];simp at x;simp[af,x]
def L6 (h:r=i):gi cs fresh i k (r+1)=gi cs fresh i k r:=by
 unfold gi;apply ajh;intro j z;by_cases x:j=i
 .rw[ah1 x,ah1 x]
 .rw[ah0 x,ah0 x];by_cases y:j < r
  .rw[ah1 aD,ah1 y]
  .rw[ah0 aD,ah0 y]
def L7 (b:r < ae cs) (h:r≠i):gi cs fresh i k (r+1)=(gi cs fresh i k r).set r (dT (af cs r []) fresh k):=by
 unfold gi;apply akH aO;intro j w a;simp only[amd,alY,ame];by_cases y:r=j
 .subst y;rw[ah1 rfl,ah0 h,ah1 aD]
 .rw[ah0 y];by_cases x:j=i
  .rw[ah1 x,ah1 x]
  .rw[ah0 x,ah0 x];by_cases z:j < r
   .rw[ah1 aD,ah1 z]
   .rw[ah0 aD,ah0 z]
structure fQ (T:Tab):Prop where
 nl:T.n < 1000000
 rl:T.aU.length < 1000000
 bl:T.aT.length=T.cells.length
 ml:T.cells.length < 1000000
 wl:T.out.length < 999999
 row:∀i,i < T.cells.length->(T.cells.getD i []).length=T.out.length+1
 gl:T.aM.length=T.out.length+1
 p8:∀i,i < T.cells.length->∀x,x∈T.cells.getD i []->QOk 100000 x
 mU:∀x,x∈T.aM->QOk 100000 x
def SlV.kP {H:aF} {k:Nat} {v:AV} {xs:List (List AV)} (h:SlV H k v xs) (x:kP v):∃id ver,v = .sl k id ver 0 (ae xs)/\SlL H k id ver xs:=by
 cases h with
 | nil=>exact x.elim
 | seq=>exact x.elim
 | sl h=>exact ⟨_,_,rfl,_,h⟩
structure bK (H H':aF) (t:Nat) (D D':bD):Prop where
 len:H.length<=H'.length
 aY:∀id,id < H.length->¬fJ t D id->∀w,aI H' id w=aI H id w
 new:∀id,fJ t D' id->fJ t D id\/H.length<=id
def ec {α:Type} [Inhabited α] {l:List α} {i:Nat} (h:i < ae l):af l i ah∈l:=by
 have:af l i ah=l[i]:=by simp[af,h]
 rw[this];exact ajj h
def Cw (w:Nat):aA w [AV.q0 0,.nil,.q0 0,.nil]=(aA w (ah:Q)).map qC:=by rw[ajT,Ct]
def DN (h:ae fresh=ae l):ae (dT l fresh k)=ae l:=by
 unfold dT;split
 .rfl
 .simp[h]
def zY (h:ck H t D T) (P:fQ T) (R:i < ae T.cells) (hk:k < ae T.out) (hp:(af (af T.cells i []) (k+1) ah).top≠0) :
  cR prog 155 [.ptr t 0 0 0,.q0 (i:Int),.q0 (k:Int)] H fun r H'=>r = .bM []/\∃D',ck H' t D' (T.dt i k)/\bK H H' t D D':=by
 refine qw func155 ?_;have hm:=P.ml;have l0:=P.wl;have g0:T.out≠[]:=fun h0=>by rw[h0] at hk;simp at hk
 have j7:∀i,i < ae T.cells->kP (af D.aV i .ba):=fun i R=>(h.live.1 i R).2 (by rw[P.row i R];omega);have ⟨d1,b7,g8,g6⟩:=(h.rws i R).kP (j7 i R);have k4:=P.row i R;have a0:=P.p8 i R;rw[ah3] at g8;have ⟨S,a9,m,k7⟩:=h.cells.live (fun h0=>by have z:=h.cl;have q:=akS ae h0;simp only[ah3,aiV] at q;omega);rw[ah3] at m;have e1:au .i64 ((k:Int)+1)=((k+1:Nat):Int):=by rw[wrap_i64 aD aD];rfl
 have hT:∀K,bk H t 0 K=K ⟨6,0,[[.q0 (T.n:Int),D.rv,D.vb,D.vo,D.vc,D.vg]]⟩:=aK h.bF;have i9:(D.aV.map fun v=>[v])[i]?=ak [af D.aV i .ba]:=by simp[af,show i < ae D.aV by rw[h.cl];exact R]
 have ⟨pc,c1,c2⟩:=h.cells.cZ.read i9;obtain ⟨pp,p1,p2⟩:=(h.rws i R).read (iW (show k+1 < ae (af T.cells i []) by omega));rw[m] at c1;rw[g8] at p1 c2;generalize j6:af T.cells i []=row at *;have a8:=a0 _ (ec (show k+1 < ae row by omega));have h9:(ae row:Int)<=4294967296:=aD;have nn:∀n:Nat,(0<=(n:Int)):=fun n=>aD;generalize c7:af row (k+1) ah=p at *;simp only[go_sem,↓reduceIte,ahZ,aia,e1,hT,m,c1,c2,p1,p2,h9,nn,ajV];have hz:=Cw (ae row);obtain ⟨H1,U⟩:∃H1,H1=H++[ak ⟨4,0,[qC p]⟩,ak ⟨4,0,aA (ae row) [AV.q0 0,.nil,.q0 0,.nil]⟩]:=⟨_,rfl⟩;rw[<-U];have a5:aL H H1 []:=by rw[U];exact aL.app _ _ _
 have d4:aI H1 (ae H) 0=ak ⟨4,0,[qC p]⟩:=by rw[U];exact ct
 have i4:SlL H1 4 (ae H+1) 0 ((uE (ae row) 0 (uN row k)).map qC):=by refine ⟨[],?_⟩;rw[U,Se,<-hz,aiu];show aI (H++([ak ⟨4,0,[qC p]⟩]++[ak ⟨4,0,_⟩])) (ae H+1) 0=_;rw[<-aio];have e:ae H+1=ae (H++[ak (⟨4,0,[qC p]⟩:bz)]):=aO;rw[e];exact ct
 have b8:=h.aQ a5 aO;have lt:∀id,fJ t D id->id < ae H:=fun id c3=>h.lt c3;clear U;refine aZ (fun n e G=>∃c,c<=ae row/\n=ae row - c/\aL H1 G [ae H+1]/\SlL G 4 (ae H+1) 0 ((uE (ae row) c (uN row k)).map qC) /\
  e=[(0,.ptr t 0 0 0),(1,.q0 (i:Int)),(2,.q0 (k:Int)),(6,.sl 4 d1 b7 0 (ae row)),(7,.ptr (ae H) 0 0 0),(8,.sl 4 (ae H+1) 0 0 (ae row)),(27,.q0 (ae row:Int)),(28,.q0 (c:Int))]) (n:=ae row)
  ⟨0,aiL _,rfl,aL.refl _ _,i4,rfl⟩ ?_;rintro n _ G ⟨c,hc,rfl,kc,sc,rfl⟩;have k3:d1 < ae H:=by obtain ⟨tl,F⟩:=g6;exact aP F
 have g7:SlL G 4 d1 b7 (row.map qC):=(g6.aQ a5 aO).aQ kc bW;have i5:aI G (ae H) 0=ak ⟨4,0,[qC p]⟩:=by rw[kc.2 _ (aP d4) aO];exact d4
 have d5:∀K,bk G (ae H) 0 K=K ⟨4,0,[qC p]⟩:=aK i5;have e2:au .i64 ((c:Int)+1)=((c+1:Nat):Int):=by rw[wrap_i64 aD aD];rfl
 by_cases c5:(c:Int) < (ae row:Int)
 .have A:c < ae row:=aD;by_cases b9:c=k+1
  .have V:((c:Int)=((k+1:Nat):Int))=True:=aiq aD;refine Z4 e1 e2 c5 V ?_;exact ⟨ae row - (c+1),aD,c+1,A,rfl,kc,by rw[Ld A (by unfold uN;rw[ah1 b9])];exact sc,rfl⟩
  .have V:((c:Int)=((k+1:Nat):Int))=False:=aie aD;have ⟨p3,r1,r2⟩:=(g7.cZ (n:=ae row) aO).read (iW A);have j8:=a0 _ (ec A);generalize h6:af row c ah=x at *;refine Z5 e1 c5 V r1 r2 ?_;refine aH (j9 x) (by simp[bE]) rfl ?_;by_cases F:x.top=0
   .have c8:(x.top.sign=0)=True:=aiq (by rw[F];rfl);refine Y2 c8 e2 ?_;exact ⟨ae row - (c+1),aD,c+1,A,rfl,kc,by rw[Ld A (by unfold uN;rw[ah0 b9,h6,ah1 F])];exact sc,rfl⟩
   .have c8:(x.top.sign=0)=False:=aie (fun h=>F (ai8.1 h));have ⟨p4,v1,_,_,vw⟩:=sc.rw (i:=c) (n:=ae row) (by rw[ah3,M6];exact A) (by rw[ah3,M6]) jC;have ⟨H3,u1,u2,u3,u4⟩:=vw (qA (x.div p).neg) rfl (sX _);refine Z4 c8 r1 r2 d5 ?_;refine aH (Cq x p (j8.mono aR) (a8.mono aR) hp) (by simp[bE]) (bE _) ?_;refine Y ?_;refine aH (Ny (x.div p)) (by simp[bE]) (bE _) ?_;refine Y3 v1 u1 e2 ?_;refine ⟨ae row - (c+1),aD,c+1,A,rfl,kc.trans (aL.write u3 u4),?_,rfl⟩;rw[Sd A,ajF];have:uN row k c=(x.div p).neg:=by unfold uN;rw[ah0 b9,h6,ah0 F,c7]
    rw[this];exact u2
 .have i8:c=ae row:=by omega
  subst i8;rw[UT] at sc;have ⟨p4,v1,_,_,vw⟩:=sc.rw (i:=k+1) (n:=ae row) bW aO jC;have ⟨H3,u1,u2,u3,u4⟩:=vw (qA (Q.one.div p)) rfl (sX _);have I:dY row k=((aC (ae row)).map (uN row k)).set (k+1) (Q.one.div p):=by unfold dY;rw[c7]
  have i3:SlL H3 4 (ae H+1) 0 ((dY row k).map qC):=by rw[I,ajF];exact u2
  have c0:ae (dY row k)=ae row:=by unfold dY;simp
  have h8:aL H1 H3 [ae H+1]:=kc.trans (aL.write u3 u4);have W:ck H3 t D T:=b8.aQ h8 (fun id c3 hm=>by have:=lt id c3;simp at hm;omega);have d6:∀K,bk H3 t 0 K=K ⟨6,0,[[.q0 (T.n:Int),D.rv,D.vb,D.vo,D.vc,D.vg]]⟩:=aK W.bF;have i0:∀x,x∈dY row k->QOk 400000 x:=by
   intro x F;rw[I] at F;rcases ai4 F with F | rfl
   .obtain ⟨c,hc,rfl⟩:=aiw.1 F;have i7:c < ae row:=bu hc;unfold uN;split
    .exact Mu _
    .split
     .exact Mu _
     .rw[c7];exact ((Fa aR aR (a0 _ (ec i7)) a8 hp).neg).mono aR
   .exact (Fa aR aR Cn a8 hp).mono aR
  have e8:SlL H3 1 S a9 (D.aV.map fun v=>[v]):=by
   rcases W.cells with ⟨z,_⟩ | ⟨id,ver,z,q⟩
   .rw[m] at z;simp at z
   .rw[m] at z;simp at z;obtain ⟨rfl,rfl⟩:=z;exact q
  have b5:i < ae D.aV:=by rw[h.cl];exact R
  have ⟨p5,x1,_,_,xw⟩:=e8.rw (i:=i) (n:=ae D.aV) (bu b5) aO (by intro x F;obtain ⟨a,_,rfl⟩:=aiw.1 F;rfl);have ⟨H4,y1,y2,y3,y4⟩:=xw (.sl 4 (ae H+1) 0 0 (ae row)) rfl rfl;have f9:qA (⟨1,0⟩:Q)=qA Q.one:=rfl;have f:=W.newRow (r:=i) (l:=dY row k) (a:=ae H+1) (ver:=0) R m (fun j1=>cn (lt _ j1)) i3 (by rw[c0];exact y2) (aL.write y3 y4);have b4:SlL H4 4 (ae H+1) 0 ((dY row k).map qC):=i3.aQ (aL.write y3 y4) (by have:=lt S (.inr ⟨.c,by simp[bD.v,m,aG]⟩);simp;omega);rw[c0] at f;obtain ⟨y,X⟩:∃y:bD,y={D with aV:=D.aV.set i (.sl 4 (ae H+1) 0 0 (ae row))}:=⟨_,rfl⟩;rw[<-X] at f;have a4:y.vc = .sl 1 S a9 0 (ae D.aV):=by rw[X];exact m
  have d7:∀K,bk H4 t 0 K=K ⟨6,0,[[.q0 (T.n:Int),y.rv,y.vb,y.vo,y.vc,y.vg]]⟩:=aK f.bF;have d0:aL H1 H4 [ae H+1,S]:=(h8.mono aO).trans ((aL.write y3 y4).mono aO);refine Y2 c5 e1 ?_;refine aH (ru 1 aR) rfl (bE _) ?_;rw[f9];refine Z1 d5 ?_;refine aH (Cq Q.one p (Cn.mono aR) (a8.mono aR) hp) (by simp[bE]) (bE _) ?_;refine Z8 v1 u1 d6 m x1 y1 d7 a4 ?_;have k5:ae y.aV=ae D.aV:=by rw[X];simp
  have J:af y.aV i .ba = .sl 4 (ae H+1) 0 0 (ae row):=by rw[X];simp[af,b5]
  have j0:ae H+1∈aG (y.v (.r i)):=by simp only[bD.v,J];simp[aG]
  have b6:∀id,fJ t y id->fJ t D id\/ae H<=id:=by
   rintro id (rfl | ⟨s,hs⟩)
   .exact .inl (.inl rfl)
   .by_cases g9:s = .r i
    .subst g9;simp only[bD.v,J,aG,akX] at hs;right;omega
    .left;right;refine ⟨s,?_⟩;rw[X] at hs;cases s with
     | r j =>
      have:j≠i:=fun he=>g9 (by rw[he]);simp only[bD.v] at hs ⊢;rw[show af (D.aV.set i (.sl 4 (ae H+1) 0 0 (ae row))) j .ba=af D.aV j .ba by simp[af,ajc (ait this)]] at hs;exact hs
     | _=>exact hs
  have e6:fJ t D S := .inr ⟨.c,by simp[bD.v,m,aG]⟩;have zX:ae H<=ae H4/\∀id,id < ae H->¬fJ t D id->∀w,aI H4 id w=aI H id w:=by refine ⟨aiJ a5.1 d0.1,fun id z q w=>?_⟩;rw[d0.2 id (aiB z a5.1) (by simp;exact ⟨aD,fun he=>q (he ▸ e6)⟩),a5.2 id z aO]
  have k9:ae D.aV < 1000000:=by rw[h.cl];exact hm
  have h4:y.vg=D.vg:=by rw[X]
  have h3:y.vb=D.vb:=by rw[X]
  have h5:y.vo=D.vo:=by rw[X]
  clear d6 W x1 y1 v1 u1 c1 c2 p1 p2 xw vw;refine aZ (fun n e G=>∃r,r<=ae D.aV/\n=ae D.aV - r/\ck G t y {T with cells:=gi T.cells (dY row k) i k r}/\SlL G 4 (ae H+1) 0 ((dY row k).map qC) /\
   (ae H<=ae G/\∀id,id < ae H->¬fJ t D id->∀w,aI G id w=aI H id w) /\
   e=[(0,.ptr t 0 0 0),(1,.q0 (i:Int)),(2,.q0 (k:Int)),(8,.sl 4 (ae H+1) 0 0 (ae row)),(72,.q0 (ae D.aV:Int)),(73,.q0 (r:Int))]) (n:=ae D.aV)
   ⟨0,aiL _,rfl,by rw[L8 R];exact f,b4,zX,rfl⟩ ?_;clear f d7 b4 zX d0;rintro n _ G ⟨r,hr,rfl,tc,fc,oc,rfl⟩;have d8:∀K,bk G t 0 K=K ⟨6,0,[[.q0 (T.n:Int),y.rv,y.vb,y.vo,y.vc,y.vg]]⟩:=aK tc.bF;have e3:au .i64 ((r:Int)+1)=((r+1:Nat):Int):=by rw[wrap_i64 aD aD];rfl
  have d3:SlV G 4 (.sl 4 (ae H+1) 0 0 (ae row)) ((dY row k).map qC):=fc.cZ (by simp[c0]);by_cases c4:(r:Int) < (ae D.aV:Int)
  .have O:r < ae T.cells:=cn h.cl;by_cases a1:r=i
   .have a2:((r:Int)=(i:Int))=True:=aiq aD;refine Z3 c4 a2 e3 ?_;exact ⟨ae D.aV - (r+1),aD,r+1,aD,rfl,by rw[L6 a1];exact tc,fc,oc,rfl⟩
   .have a2:((r:Int)=(i:Int))=False:=aie (by omega);have e9:af (gi T.cells (dY row k) i k r) r []=af T.cells r []:=by rw[EY O,ah0 a1,ah0 aD]
    have a3:r < ae (gi T.cells (dY row k) i k r):=by rw[EZ];exact O
    have ⟨a,ver,C,d9⟩:=(tc.rws r a3).kP ((tc.live.1 r a3).2 (by simp only;rw[e9,P.row r O];omega));simp only[e9] at C d9;rw[ah3] at C;have e7:(y.aV.map fun v=>[v])[r]?=ak [af y.aV r .ba]:=by simp[af,show r < ae y.aV by omega]
    have ⟨pr,z1,z2⟩:=tc.cells.cZ.read e7;rw[a4] at z1;rw[C] at z2;have b0:a∉aG (.sl 4 (ae H+1) 0 0 (ae row)):=by
     have:a∈aG (y.v (.r r)):=by simp only[bD.v,C];simp[aG]
     have:=tc.sep (.r r) (.r i) (bu a1) a this;simp only[bD.v,J] at this;exact this
    have l1:=P.row r O;have E:=JM (vt := .ptr t 0 0 0) (k:=k) d9 d3 b0 aD aD aD (P.p8 r O) i0;refine Z6 c4 a2 d8 a4 z1 z2 ?_;refine cQ E ?_;rintro _ H5 ⟨rfl,s1,s2⟩;refine Y1 e3 ?_;have e0:fJ t D a:=by
     rcases b6 a (.inr ⟨.r r,by simp only[bD.v,C];simp[aG]⟩) with z | z
     .exact z
     .right;refine ⟨.r r,?_⟩;have:af y.aV r .ba=af D.aV r .ba:=by rw[X];simp[af,ajc (ait a1)]
      simp only[bD.v,<-this,C];simp[aG]
    refine ⟨ae D.aV - (r+1),aD,r+1,aD,rfl,?_,fc.aQ s2 (by simpa[aG] using ait (by simpa[aG] using b0)),⟨aiJ oc.1 s2.1,fun id z q w=>by rw[s2.2 id (aiB z oc.1) (by simp;exact fun he=>q (he ▸ e0)),oc.2 id z q]⟩,rfl⟩;have:=tc.setRow a3 C (l:=dT (af T.cells r []) (dY row k) k) (by rw[DN aD]) s1 s2;rw[L7 O a1];exact this
  .have j5:r=ae D.aV:=aD;subst j5;have f7:ae D.aV=ae T.cells:=h.cl;have ⟨gid,k2,M,f0⟩:=(tc.aM.cZ (by show 0 < ae T.aM;rw[P.gl];omega)).kP (tc.live.2.2 (by show 2<=ae T.aM;rw[P.gl];omega));simp only at M f0;rw[ah3] at M;have f6:gid∉aG (.sl 4 (ae H+1) 0 0 (ae row)):=by
    have:gid∈aG (y.v .g):=by simp only[bD.v,M];simp[aG]
    have:=tc.sep .g (.r i) aO gid this;simp only[bD.v,J] at this;exact this
   have k8:=P.gl;have E:=JM (vt := .ptr t 0 0 0) (k:=k) f0 d3 f6 aD aD aD P.mU i0;refine Z3 c4 d8 M ?_;refine cQ E ?_;rintro _ H6 ⟨rfl,s1,s2⟩;have B:=tc.yQ M (l:=dT T.aM (dY row k) k) (by rw[DN aD]) s1 s2;have f5:fJ t D gid := .inr ⟨.g,by simp only[bD.v,<-h4,M];simp[aG]⟩;have o6:ae H<=ae H6/\∀id,id < ae H->¬fJ t D id->∀w,aI H6 id w=aI H id w :=
    ⟨aiJ oc.1 s2.1,fun id z q w=>by rw[s2.2 id (aiB z oc.1) (by simp;exact fun he=>q (he ▸ f5)),oc.2 id z q]⟩;have i6:∀K,bk H6 t 0 K=K ⟨6,0,[[.q0 (T.n:Int),y.rv,y.vb,y.vo,y.vc,y.vg]]⟩:=aK B.bF;have k6:=P.bl;have ⟨d2,k1,L,e4⟩:=B.aT.live (fun h0=>by have q:=akS ae h0;simp only[ah3,aiV] at q;omega);have ⟨a6,db,N,c6⟩:=B.out.live (fun h0=>by have q:=akS ae h0;simp only[ah3,aiV] at q;omega);simp only at L e4 N c6;rw[ah3] at L N;have c9:∀(l:List Int) (x:List AV),x∈l.map cN->ae x=1:=by intro l x F;obtain ⟨a,_,rfl⟩:=aiw.1 F;rfl
   have h7:∀(l:List Int) (j:Nat),j < ae l->af (l.map cN) j []=cN (af l j 0):=by intro l j hj;simp[af,hj]
   have ⟨pb,b1,b2,b3,bw⟩:=e4.rw (i:=i) (n:=ae T.aT) (by rw[ah3];show i < ae T.aT;omega) aO (c9 _);have ⟨po,o1,o2,o3,_⟩:=c6.rw (i:=k) (n:=ae T.out) (bu hk) aO (c9 _);rw[h7 T.aT i aD] at b2;rw[h7 T.out k hk] at o2;have ⟨H7,f1,f2,f3,f4⟩:=bw (.q0 (af T.out k 0)) rfl rfl;have i1:=B.VB L (l:=T.aT.set i (af T.out k 0)) aO (by rw[ajF];exact f2) (aL.write f3 f4);have j3:a6≠d2:=by
    have z:a6∈aG (y.v .o):=by simp only[bD.v,N];simp[aG]
    have:=B.sep .o .b aO a6 z;simp only[bD.v,L,aG,akX] at this;exact this
   have j2:SlL H7 1 a6 db (T.out.map cN):=c6.aQ (aL.write f3 f4) (bu j3);have ⟨k0,q1,q2,q3,qw⟩:=j2.rw (i:=k) (n:=ae T.out) (bu hk) aO (c9 _);have j4:k0=po:=by rw[q3,o3]
   subst j4;have ⟨H8,g1,g2,g3,g4⟩:=qw (.q0 (af T.aT i 0)) rfl rfl;have i2:=i1.ZK N (l:=T.out.set k (af T.aT i 0)) aO (by rw[ajF];exact g2) (aL.write g3 g4) g0;have a7:∀n,cN n=[.q0 n]:=fun n=>rfl;simp only[go_sem,↓reduceIte,aia,i6,L,N,b1,b2,o1,o2,a7,f1,g1];have e5:fJ t D d2 := .inr ⟨.b,by simp only[bD.v,<-h3,L];simp[aG]⟩;have f8:fJ t D a6 := .inr ⟨.o,by simp only[bD.v,<-h5,N];simp[aG]⟩;refine ⟨y,?_,⟨aD,fun id z q w=>?_,b6⟩⟩
   .have g5:T.dt i k={T with cells:=gi T.cells (dY row k) i k (ae D.aV),aM:=dT T.aM (dY row k) k,aT:=T.aT.set i (af T.out k 0),out:=T.out.set k (af T.aT i 0)}:=by unfold Tab.dt;rw[j6,f7]
    rw[g5];exact i2
   .rw[g4 id (fun he=>q (he ▸ f8)),f4 id (fun he=>q (he ▸ e5)),o6.2 id z q]
instance:Inhabited dB:=⟨⟨[],ah,ar,ar⟩⟩
def Tab.gm (T:Tab) (v:Int):Bool:=decide ((T.n:Int)<=v)&&decide (v < (T.n:Int)+ae T.aU)&&(af T.aU (az (v - T.n)) ah).eq
def Tab.du (T:Tab) (v:Int):Bool:=decide ((T.n:Int)<=v) && !T.gm v
def S7 (r:dB) (K:AV->Prop):iX ar (de r) 5 1 K=K (.v0 r.eq):=rfl
def Vy (h:ck H t D T) (x:T.aU≠[]):∃f,D.rv = .seq 6 f (T.aU.map de):=by
 have z:=h.aU;have y:=h.lI;generalize D.rv=v at *;generalize k:T.aU.map de=w at *;cases z with
 | nil=>simp at k;exact absurd k x
 | seq=>exact ⟨_,rfl⟩
 | sl _=>simp[aG] at y
def Hp (h:ck H t D T) (j:T.n < 1000000) (l:ae T.aU < 1000000):bR prog 152 [.ptr t 0 0 0,.q0 v] H (.v0 (T.gm v)) H:=by
 refine cw func152 ?_;have w:=aK h.bF;have i:∀K,gH D.rv K=K (.q0 (ae T.aU:Int)):=fun K=>by rw[h.aU.fN,ah3]
 have a:au .i64 ((T.n:Int)+ae T.aU)=(T.n:Int)+ae T.aU:=wi;by_cases y:(T.n:Int)<=v
 .by_cases k:v < (T.n:Int)+ae T.aU
  .have ⟨f,x⟩:=Vy h (fun c=>by rw[c] at k;simp at k;omega);have b:au .i64 (v - T.n)=v - T.n:=wi;have e:(0:Int)<=v - T.n:=aD;have g:v - T.n < (ae T.aU:Int):=aD;rw[x] at w;have z:∀K,gH (.seq 6 f (T.aU.map de)) K=K (.q0 (ae T.aU:Int)):=fun K=>x ▸ i K;simp only[go_sem,↓reduceIte,aia,y,k,a,b,w,z,e,g,S7];have:T.gm v=(af T.aU (az (v - T.n)) ah).eq:=by unfold Tab.gm;simp[y,k]
   rw[this];exact dJ (Wk1.refl _)
  .refine Z ?_;have:T.gm v=ar:=by unfold Tab.gm;simp[k]
   rw[this];exact dJ (Wk1.refl _)
 .refine Z ?_;have:T.gm v=ar:=by unfold Tab.gm;simp[y]
  rw[this];exact dJ (Wk1.refl _)
def wm (h:ck H t D T) (x:T.n < 1000000) (y:ae T.aU < 1000000):bR prog 160 [.ptr t 0 0 0,.q0 v] H (.v0 (T.du v)) H:=by
 refine cw func160 ?_;have z:=aK h.bF;by_cases k:(T.n:Int)<=v
 .refine Z ?_;refine dS (Hp h x y) ?_;refine Z ?_;have:T.du v = !T.gm v:=by unfold Tab.du;simp[k]
  rw[this];exact dJ (Wk1.refl _)
 .refine Z ?_;have:T.du v=ar:=by unfold Tab.du;simp[k]
  rw[this];exact dJ (Wk1.refl _)
def da:List Int->Int->Int
 | [],_ => -1
 | a::r,x=>if x=a then 0 else if da r x < 0 then -1 else da r x+1
def tN (l:List Int) (x:Int):-1<=da l x/\da l x < ae l:=by
 induction l with
 | nil=>simp[da]
 | cons a r h =>
  simp only[da,aiF];split
  .omega
  .split<;>omega
def Q1 {l:List Int} {x:Int} {j:Nat} (z:j < ae l) (h:af l j 0=x) (y:∀i,i < j->af l i 0≠x):da l x=j:=by
 induction l generalizing j with
 | nil=>simp at z
 | cons a r w =>
  cases j with
  | zero=>simp at h;simp[da,h]
  | succ j =>
   have k:=y 0 aD;simp at k h z;have:=w (j:=j) aD (by simpa[af] using h) (fun i b=>by have:=y (i+1) aD;simpa using this);simp only[da];rw[ah0 (ait k),this,ah0 aD];omega
def Sh (k:∀i,i < ae l->af l i 0≠x):da l x = -1:=by
 induction l with
 | nil=>rfl
 | cons a r z =>
  have h:=k 0 aO;simp at h;simp only[da];rw[ah0 (ait h),z (fun i y=>by have:=k (i+1) (by simpa using y);simpa using this)];rfl
def et {l:List Int} {i:Nat} (h:i < ae l):(l.map cN)[i]?=ak [.q0 (af l i 0)]:=by simp[h,cN]
def vV {H:aF} {v:AV} {l:List Int} {x:Int} (h:SlV H 1 v (l.map cN)) (X:ae l < 1000000):bR prog 116 [v,.q0 x] H (.q0 (da l x)) H:=by
 refine cw func116 ?_;have s:∀K,gH v K=K (.q0 (ae l:Int)):=fun K=>by rw[h.fN,ah3]
 refine Z ?_;refine aZ (fun n e g=>∃c,c<=ae l/\n=ae l - c/\g=H/\(∀i,i < c->af l i 0≠x) /\
  e=[(0,v),(1,.q0 x),(7,.q0 (ae l:Int)),(8,.q0 (c:Int))]) (n:=ae l) ⟨0,aiL _,rfl,rfl,fun i m=>aD,rfl⟩ ?_;rintro n _ _ ⟨c,t,rfl,rfl,w,rfl⟩;by_cases b:(c:Int) < (ae l:Int)
 .have k:c < ae l:=aD;have ⟨p,o,q⟩:=h.read (et k);have r:=ws c;by_cases z:x=af l c 0
  .have y:=aiq z;refine Y4 b o q y ?_;rw[Q1 k z.symm w];exact dJ (Wk1.refl _)
  .have y:=aie z;refine Z ?_;refine ⟨ae l - (c+1),aD,c+1,k,rfl,?_,rfl⟩;intro i m;rcases aij i c with f | f
   .exact w i f
   .rw[show i=c by omega];exact fun j=>z j.symm
 .have a:c=ae l:=aD;subst a;refine Z ?_;rw[Sh w];exact dJ (Wk1.refl _)
section
variable {P:Program}
def cR.fin {f:FuncId} {args:List AV} {H:aF} {R S:AV->aF->Prop} (h:cR P f args H R) (g:∀r H',R r H'->∃y x,Fin (ae H) r H' y x/\S y x):cR P f args H S:=by refine ⟨h.1,fun I β w p s k=>(h.2 I β w p s k).mono ?_⟩;rintro A q ⟨rv,r,H',a,K,e,t,n,l,j⟩;have ⟨y,x,⟨W,z,c⟩,i⟩:=g r H' j;have ⟨b,X,o,m,v⟩:=z a K q n;exact ⟨rv,y,x,b,X,e,v I β H w (ahZ _) s.jr t,o,m _ _ _ c l,i⟩
def cR.drop {f:FuncId} {args:List AV} {H:aF} {r0:AV} (h:cR P f args H fun r H'=>r=r0/\aL H H' []) (o:bJ r0=aq):bR P f args H r0 H:=by
 refine ⟨h.1,fun I β w X s a=>(h.2 I β w X s a).mono ?_⟩;rintro A D ⟨rv,r,H',m,E,e,y,l,q,rfl,p⟩;have z:∀{x:Nat} {ob},H[x]?=ak (ak ob)->H'[x]?=ak (ak ob):=by
  intro x ob k;have c:=(aid.1 k).1;have g:aI H x ob.ver=ak ob:=by unfold aI;rw[k];simp
  rw[<-p.2 x c aO] at g;exact (dF g).1
 refine ⟨rv,m,β,e,⟨y.fP,.refl _,ahZ _,y.size,y.os,y.tape,y.output,y.frame,fun b n => .inl n⟩,⟨l.fP,fun x ob k=>?_,s.inj,s.jr,s.ver⟩,q.bJ o β⟩;have ⟨B,i,j,K⟩:=s.obj x ob k;have ⟨W,t,C,v⟩:=l.obj x ob (z k);have:=y.ue _ _ _ i;rw[t] at this;cases this;exact ⟨_,i,j,K.jr j y.ue (.refl _) v⟩
def cR.list {f:FuncId} {args:List AV} {H:aF} {l:List Q} (h:cR P f args H fun r H'=>∃id n,r = .sl 4 id 0 0 n/\n=ae l/\ae H<=id/\aI H' id 0=ak ⟨4,0,l.map qC⟩/\aL H H' []) :
  bR P f args H (.seq 4 ar (l.map qC)) H:=by
 refine cR.drop (r0 := .seq 4 ar (l.map qC)) (h.fin ?_) rfl;rintro _ H' ⟨id,n,rfl,rfl,z,k,y⟩;refine ⟨.seq 4 ar (l.map qC),H'.set id an,?_,rfl,by rw[ah8];exact y.1,fun j b _ w=>?_⟩
 .have:=uy (n:=ae H) (r := .sl 4 id 0 0 (ae l)) k (by show (l.map qC).all (fun x=>x.all bT)=aq;rw[ah4];intro x c;obtain ⟨a,_,rfl⟩:=aiw.1 c;exact z7 a);have e:dD id 0 4 (l.map qC) (.sl 4 id 0 0 (ae l)) = .seq 4 ar (l.map qC):=by simp only[dD,qB,fm,ajx];rw[ah1 aO,ah1 aO,aiv aO]
  rw[e] at this;exact this
 .rw[aS aD];exact y.2 j b aO w
def Cs (T:Tab) (acc:List Q) (i:Nat):List Q:=if 0<=af T.aT i 0/\af T.aT i 0 < (T.n:Int) then acc.set (az (af T.aT i 0)) (af (af T.cells i []) 0 ah) else acc
def Tab.Bg (T:Tab) (c:Nat):List Q:=(aC c).foldl (Cs T) (aA T.n ah)
def Tab.sV (T:Tab):List Q:=T.Bg (ae T.cells)
def JJ (T:Tab) (c:Nat):T.Bg (c+1)=Cs T (T.Bg c) c:=by unfold Tab.Bg;rw[ajK,akN];rfl
def LJ (T:Tab) (c:Nat):ae (T.Bg c)=T.n:=by
 induction c with
 | zero=>simp[Tab.Bg]
 | succ c h=>rw[JJ];unfold Cs;split<;>simp[h]
def Io (h:ck H t D T) (q:fQ T):bR prog 130 [.ptr t 0 0 0] H (.seq 4 ar (T.sV.map qC)) H:=by
 refine cR.list (qw func130 ?_);have a0:=q.nl;have A:=q.bl;have V:=q.ml;have U:=aK h.bF;have nn:∀n:Nat,(0<=(n:Int)):=fun n=>aD;have F:(T.n:Int)<=4294967296:=aD;have S:∀K,gH D.vb K=K (.q0 (ae T.cells:Int)):=fun K=>by rw[h.aT.cZ.fN,ah3,A]
 have G:t < ae H:=aP h.bF;have hz:=Cw T.n;have j:∀K,bk (H++[ak ⟨4,0,aA T.n [.q0 0,.nil,.q0 0,.nil]⟩]) t 0 K=K ⟨6,0,[[.q0 (T.n:Int),D.rv,D.vb,D.vo,D.vc,D.vg]]⟩:=aK (by rw[cJ G];exact h.bF);simp only[go_sem,↓reduceIte,aia,U,nn,ajV,F,j,S];obtain ⟨m,x⟩:∃m,m=H++[ak ⟨4,0,aA T.n [AV.q0 0,.nil,.q0 0,.nil]⟩]:=⟨_,rfl⟩;rw[<-x];have J:aL H m []:=by rw[x];exact aL.app _ _ _
 have W:aI m (ae H) 0=ak ⟨4,0,(T.Bg 0).map qC⟩:=by rw[x,hz];exact ct
 clear x j;refine aZ (fun n e s=>∃c,c<=ae T.cells/\n=ae T.cells - c/\aL H s []/\aI s (ae H) 0=ak ⟨4,0,(T.Bg c).map qC⟩ /\
  e=[(0,.ptr t 0 0 0),(3,.sl 4 (ae H) 0 0 T.n),(14,D.vb),(15,.q0 (ae T.cells:Int)),(16,.q0 (c:Int))]) (n:=ae T.cells) ⟨0,aiL _,rfl,J,W,rfl⟩ ?_;rintro n _ s ⟨c,hc,rfl,g,o,rfl⟩;have r:=h.aQ g aO;have l:=aK r.bF;have X:=ws c;by_cases y:(c:Int) < (ae T.cells:Int)
 .have k:c < ae T.cells:=aD;obtain ⟨p,L,M⟩:=r.aT.cZ.read (et (show c < ae T.aT by omega));have b:=JJ T c;have z:=LJ T c;generalize hv:af T.aT c 0=v at *;by_cases a:0<=v
  .by_cases f:v < (T.n:Int)
   .have C:(D.aV.map fun v=>[v])[c]?=ak [af D.aV c .ba]:=by simp[af,show c < ae D.aV by rw[h.cl];exact k]
    have ⟨p3,q1,q2⟩:=r.cells.cZ.read C;have a1:=q.row c k;have ⟨p4,r1,r2⟩:=(r.rws c k).read (i:=0) (iW aD);have ⟨p5,R,_,_,sw⟩:=SlL.NV o (i:=az v) (n:=T.n) (by rw[ah3,z];omega) (by rw[ah3,z]) jC;have ⟨H2,u1,u2,u3,u4⟩:=sw (qA (af (af T.cells c []) 0 ah)) rfl (sX _);have I:((az v:Nat):Int)=v:=aD;rw[I] at R;have N:∀(t:IntKind) (K:AV->Prop),mZ 4 (af D.aV c .ba) (.c (.int t 0)) K=K p4:=r1;simp only[go_sem,↓reduceIte,ahZ,aia,y,L,M,a,f,l,q1,q2,X,R,N,r2,u1];refine ⟨ae T.cells - (c+1),aD,c+1,k,rfl,⟨by rw[u3];exact g.1,fun O a f w=>by rw[u4 O (by omega),g.2 O a f]⟩,?_,rfl⟩;rw[b];unfold Cs;rw[hv,ah1 ⟨a,f⟩,ajF];exact u2
   .refine Z7 y L M a f l X ?_;refine ⟨ae T.cells - (c+1),aD,c+1,k,rfl,g,?_,rfl⟩;rw[b];unfold Cs;rw[hv,ah0 (fun E=>f E.2)];exact o
  .refine Z5 y L M a X ?_;refine ⟨ae T.cells - (c+1),aD,c+1,k,rfl,g,?_,rfl⟩;rw[b];unfold Cs;rw[hv,ah0 (fun E=>a E.1)];exact o
 .have B:c=ae T.cells:=aD;subst B;refine Y1 y ?_;exact ⟨ae H,T.n,rfl,by unfold Tab.sV;rw[LJ],ahZ _,o,g⟩
def HJ (H:aF) (l:List Q) (r:AV) (H':aF):Prop:=r = .sl 4 (ae H) 0 0 (ae l)/\ae H'=ae H+1/\aI H' (ae H) 0=ak ⟨4,0,l.map qC⟩/\aL H H' []
def HJ.eq (h:HJ H l r H'):H'=H++[ak ⟨4,0,l.map qC⟩]:=by
 have ⟨_,e,a,b⟩:=h;apply akZ;intro i;rcases aj0 i (ae H) with k | k | k
 .rw[aic k];have z:=b.2 i k aO;rw[ah6 k,ah6 (by omega:i < ae H')];congr 1;cases w:H[i] with
  | none =>
   cases x:H'[i] with
   | none=>rfl
   | some y =>
    have:=z y.ver;unfold aI at this;rw[ah6 k,ah6 (by omega:i < ae H'),w,x] at this;simp at this
  | some y =>
   have:=z y.ver;unfold aI at this;rw[ah6 k,ah6 (by omega:i < ae H'),w] at this;cases x:H'[i] with
   | none=>rw[x] at this;simp at this
   | some c =>
    rw[x] at this;simp only[ajs] at this;split at this
    .simpa using this
    .simp at this
 .subst k;rw[(dF a).1];simp
 .rw[aiO aD,aiO bW]
def cR.Zv (h:cR P f args H (HJ H l)):bR P f args H (.sl 4 (ae H) 0 0 (ae l)) (H++[ak ⟨4,0,l.map qC⟩]):=by refine ⟨h.1,fun I β w b s k=>(h.2 I β w b s k).mono ?_⟩;rintro j m ⟨rv,r,i,y,g,e,c,a,z,x⟩;have he:=x.eq;obtain ⟨rfl,_⟩:=x;subst he;exact ⟨rv,y,g,e,c,a,z⟩
def cR.QY (h:cR P f args H (HJ H l)):bR P f args H (.seq 4 ar (l.map qC)) H :=
 cR.list (h.mono fun r z ⟨k,_,x,y⟩=>⟨ae H,ae l,k,rfl,ahZ _,x,y⟩)
def te (T:Tab) (l:List Q) (acc:List Q) (k:Nat):List Q :=
 if (T.n:Int)<=af T.out k 0/\af T.out k 0 < (T.n:Int)+ae T.aU then acc.set (az (af T.out k 0 - T.n)) (af l (k+1) ah) else acc
def Tab.pE (T:Tab) (l:List Q) (c:Nat):List Q:=(aC c).foldl (te T l) (aA (ae T.aU) ah)
def Tab.mult (T:Tab) (l:List Q):List Q:=T.pE l (ae T.out)
def zS (T:Tab) (l:List Q) (c:Nat):T.pE l (c+1)=te T l (T.pE l c) c:=by unfold Tab.pE;rw[ajK,akN];rfl
def wM (T:Tab) (l:List Q) (c:Nat):ae (T.pE l c)=ae T.aU:=by
 induction c with
 | zero=>simp[Tab.pE]
 | succ c h=>rw[zS];unfold te;split<;>simp[h]
def Kx {H:aF} {t:Nat} {D:bD} {T:Tab} {vl:AV} {l:List Q} (h:ck H t D T) (hn:T.n < 1000000) (hr:ae T.aU < 1000000) (ho:ae T.out < 1000000) (hl:SlV H 4 vl (l.map qC)) (a0:ae l=ae T.out+1) :
  cR prog 133 [.ptr t 0 0 0,vl] H (HJ H (T.mult l)):=by
 refine qw func133 ?_;have hT:=aK h.bF;have nn:∀n:Nat,(0<=(n:Int)):=fun n=>aD;have F:(ae T.aU:Int)<=4294967296:=aD;have A:∀K,gH D.rv K=K (.q0 (ae T.aU:Int)):=fun K=>by rw[h.aU.fN,ah3]
 have V:∀K,gH D.vo K=K (.q0 (ae T.out:Int)):=fun K=>by rw[h.out.cZ.fN,ah3]
 have G:t < ae H:=aP h.bF;have hz:=Cw (ae T.aU);have q:∀K,bk (H++[ak ⟨4,0,aA (ae T.aU) [.q0 0,.nil,.q0 0,.nil]⟩]) t 0 K=K ⟨6,0,[[.q0 (T.n:Int),D.rv,D.vb,D.vo,D.vc,D.vg]]⟩:=aK (by rw[cJ G];exact h.bF);simp only[go_sem,↓reduceIte,aia,hT,nn,ajV,F,q,V,A];obtain ⟨o,k⟩:∃o,o=H++[ak ⟨4,0,aA (ae T.aU) [AV.q0 0,.nil,.q0 0,.nil]⟩]:=⟨_,rfl⟩;rw[<-k];have J:aL H o []:=by rw[k];exact aL.app _ _ _
 have E:ae o=ae H+1:=by rw[k];simp
 have W:aI o (ae H) 0=ak ⟨4,0,(T.pE l 0).map qC⟩:=by rw[k,hz];exact ct
 clear k q;refine aZ (fun n e r=>∃c,c<=ae T.out/\n=ae T.out - c/\aL H r []/\ae r=ae H+1/\aI r (ae H) 0=ak ⟨4,0,(T.pE l c).map qC⟩ /\
  e=[(0,.ptr t 0 0 0),(1,vl),(5,.sl 4 (ae H) 0 0 (ae T.aU)),(17,D.vo),(18,.q0 (ae T.out:Int)),(19,.q0 (c:Int))]) (n:=ae T.out) ⟨0,aiL _,rfl,J,E,W,rfl⟩ ?_;rintro n _ r ⟨c,hc,rfl,j,f,s,rfl⟩;have S:=h.aQ j aO;have lc:=hl.aQ j aO;have b:=aK S.bF;have X:=ws c;have N:au .i64 ((T.n:Int)+ae T.aU)=(T.n:Int)+ae T.aU:=wi;by_cases y:(c:Int) < (ae T.out:Int)
 .have x:c < ae T.out:=aD;have ⟨p,L,M⟩:=S.out.cZ.read (et x);have g:=zS T l c;have z:=wM T l c;generalize hv:af T.out c 0=v at *;by_cases a:(T.n:Int)<=v
  .by_cases m:v < (T.n:Int)+ae T.aU
   .have U:au .i64 (v - T.n)=v - T.n:=wi;have ⟨p4,r1,r2⟩:=lc.read (i:=c+1) (iW aD);have ⟨p5,R,_,_,sw⟩:=SlL.NV s (i:=az (v - T.n)) (n:=ae T.aU) (by rw[ah3,z];omega) (by rw[ah3,z]) jC;have ⟨H2,u1,u2,u3,u4⟩:=sw (qA (af l (c+1) ah)) rfl (sX _);have I:((az (v - T.n):Nat):Int)=v - T.n:=aD;rw[I] at R;simp only[go_sem,↓reduceIte,ahZ,aia,y,L,M,a,m,b,A,X,N,U,R,r1,r2,u1];refine ⟨ae T.out - (c+1),aD,c+1,x,rfl,⟨by rw[u3];exact j.1,fun O a m w=>by rw[u4 O aD,j.2 O a m]⟩,aD,?_,rfl⟩;rw[g];unfold te;rw[hv,ah1 ⟨a,m⟩,ajF];exact u2
   .simp only[go_sem,↓reduceIte,aia,y,L,M,a,m,b,A,X,N];refine ⟨ae T.out - (c+1),aD,c+1,x,rfl,j,f,?_,rfl⟩;rw[g];unfold te;rw[hv,ah0 (fun C=>m C.2)];exact s
  .refine Z6 y L M a b X ?_;refine ⟨ae T.out - (c+1),aD,c+1,x,rfl,j,f,?_,rfl⟩;rw[g];unfold te;rw[hv,ah0 (fun C=>a C.1)];exact s
 .have B:c=ae T.out:=aD;subst B;refine Y1 y ?_;exact ⟨by unfold Tab.mult;rw[wM],f,s,j⟩
def yP (T:Tab) (k:Nat) (by':Q) (acc:List Q) (i:Nat):List Q :=
 if 0<=af T.aT i 0/\af T.aT i 0 < (T.n:Int) then acc.set (az (af T.aT i 0)) ((af (af T.cells i []) (k+1) ah).mul by') else acc
def Tab.sO (T:Tab) (k:Nat) (by':Q) (c:Nat):List Q :=
 (aC c).foldl (yP T k by') (if af T.out k 0 < (T.n:Int) then (aA T.n ah).set (az (af T.out k 0)) by' else aA T.n ah)
def Tab.ny (T:Tab) (k:Nat) (by':Q):List Q:=T.sO k by' (ae T.cells)
def HA (T:Tab) (k:Nat) (b:Q) (c:Nat):T.sO k b (c+1)=yP T k b (T.sO k b c) c:=by unfold Tab.sO;rw[ajK,akN];rfl
def JK (T:Tab) (k:Nat) (b:Q) (c:Nat):ae (T.sO k b c)=T.n:=by
 induction c with
 | zero=>unfold Tab.sO;simp only[amq,amz];split<;>simp
 | succ c h=>rw[HA];unfold yP;split<;>simp[h]
def S0 (h:ck H t D T) (r:fQ T) (hk:k < ae T.out) (hb:QOk 1 b) (a6:0<=af T.out k 0) :
  cR prog 131 [.ptr t 0 0 0,.q0 (k:Int),qA b] H (HJ H (T.ny k b)):=by
 refine qc func131 GX ?_;refine uz ?_;have a4:=r.nl;have R:=r.bl;have a3:=r.ml;have a7:=r.wl;have hT:∀K,bk H t 0 K=K ⟨6,0,[[.q0 (T.n:Int),D.rv,D.vb,D.vo,D.vc,D.vg]]⟩:=aK h.bF;have nn:∀n:Nat,(0<=(n:Int)):=fun n=>aD;have E:(T.n:Int)<=4294967296:=aD;have hL:∀K,gH D.vb K=K (.q0 (ae T.cells:Int)):=fun K=>by rw[h.aT.cZ.fN,ah3,R]
 have a1:t < ae H:=aP h.bF;have hz:=Cw T.n;have ek:=ws k;have A:∀K,bk (H++[ak ⟨4,0,aA T.n [.q0 0,.nil,.q0 0,.nil]⟩]) t 0 K=K ⟨6,0,[[.q0 (T.n:Int),D.rv,D.vb,D.vo,D.vc,D.vg]]⟩:=aK (by rw[cJ a1];exact h.bF);have I:=h.aQ (aL.app H [ak ⟨4,0,aA T.n [.q0 0,.nil,.q0 0,.nil]⟩] []) aO;have ⟨po,o1,o2⟩:=I.out.cZ.read (et hk);have loop:∀(q:aF),aL H q []->ae q=ae H+1->aI q (ae H) 0=ak ⟨4,0,(T.sO k b 0).map qC⟩ ->
   WP prog 71 uh (iZ [.t 6] (HJ H (T.ny k b))) [(0,.ptr t 0 0 0),(1,.q0 (k:Int)),(5,.fp (qC b) 0),(7,.sl 4 (ae H) 0 0 T.n)] q:=by
  intro q y a0 O;have t1:=h.aQ y aO;have B:∀K,bk q t 0 K=K ⟨6,0,[[.q0 (T.n:Int),D.rv,D.vb,D.vo,D.vc,D.vg]]⟩:=aK t1.bF;refine uz ?_;refine Z2 B hL ?_;refine aZ (fun n e X=>∃c,c<=ae T.cells/\n=ae T.cells - c/\aL H X []/\ae X=ae H+1/\aI X (ae H) 0=ak ⟨4,0,(T.sO k b c).map qC⟩ /\
   e=[(0,.ptr t 0 0 0),(1,.q0 (k:Int)),(5,.fp (qC b) 0),(7,.sl 4 (ae H) 0 0 T.n),(36,D.vb),(37,.q0 (ae T.cells:Int)),(38,.q0 (c:Int))]) (n:=ae T.cells) ⟨0,aiL _,rfl,y,a0,O,rfl⟩ ?_;rintro n _ X ⟨c,hc,rfl,s,l,J,rfl⟩;have L:=h.aQ s aO;have C:∀K,bk X t 0 K=K ⟨6,0,[[.q0 (T.n:Int),D.rv,D.vb,D.vo,D.vc,D.vg]]⟩:=aK L.bF;have N:=ws c;by_cases a:(c:Int) < (ae T.cells:Int)
  .have x:c < ae T.cells:=by omega
   obtain ⟨p,p1,p2⟩:=L.aT.cZ.read (et (show c < ae T.aT by omega));have m:=HA T k b c;have j:=JK T k b c;generalize hv:af T.aT c 0=v at *;by_cases z:0<=v
   .by_cases g:v < (T.n:Int)
    .have U:(D.aV.map fun v=>[v])[c]?=ak [af D.aV c .ba]:=by simp[af,show c < ae D.aV by rw[h.cl];exact x]
     have ⟨p3,q1,q2⟩:=L.cells.cZ.read U;have a5:=r.row c x;have ⟨p4,r1,r2⟩:=(L.rws c x).read (i:=k+1) (iW aD);have a2:=r.p8 c x _ (ec (show k+1 < ae (af T.cells c []) by omega));have ⟨p5,G,_,_,sw⟩:=SlL.NV J (i:=az v) (n:=T.n) (by rw[ah3,j];omega) (by rw[ah3,j]) jC;have ⟨H2,u1,u2,M,u4⟩:=sw (qA ((af (af T.cells c []) (k+1) ah).mul b)) rfl (sX _);have o:((az v:Nat):Int)=v:=aD;rw[o] at G;simp only[go_sem,↓reduceIte,ahZ,aia,a,p1,p2,z,g,C,q1,q2,ek,r1,r2];refine aH (SL _ b (a2.mono aR) (hb.mono aR)) (by simp[bE]) (bE _) ?_;refine Y3 G u1 N ?_;refine ⟨ae T.cells - (c+1),aD,c+1,x,rfl,⟨by rw[M];exact s.1,fun F z g w=>by rw[u4 F (by omega),s.2 F z g]⟩,aD,?_,rfl⟩;rw[m];unfold yP;rw[hv,ah1 ⟨z,g⟩,ajF];exact u2
    .refine Z7 a p1 p2 z g C N ?_;refine ⟨ae T.cells - (c+1),aD,c+1,x,rfl,s,l,?_,rfl⟩;rw[m];unfold yP;rw[hv,ah0 (fun V=>g V.2)];exact J
   .refine Z5 a p1 p2 z N ?_;refine ⟨ae T.cells - (c+1),aD,c+1,x,rfl,s,l,?_,rfl⟩;rw[m];unfold yP;rw[hv,ah0 (fun V=>z V.1)];exact J
  .have S:c=ae T.cells:=aD;subst S;refine Y1 a ?_;exact ⟨by unfold Tab.ny;rw[JK],l,J,s⟩
 have y:aL H (H++[ak ⟨4,0,aA T.n [.q0 0,.nil,.q0 0,.nil]⟩]) []:=aL.app _ _ _;have W:aI (H++[ak ⟨4,0,aA T.n [.q0 0,.nil,.q0 0,.nil]⟩]) (ae H) 0=ak ⟨4,0,(aA T.n (ah:Q)).map qC⟩:=by rw[hz];exact ct
 by_cases f:af T.out k 0 < (T.n:Int)
 .have ⟨p5,G,_,_,sw⟩:=SlL.NV W (i:=az (af T.out k 0)) (n:=T.n) (by rw[ah3,aiY];omega) aO jC;have ⟨H2,u1,u2,M,u4⟩:=sw (qA b) rfl (sX _);have o:((az (af T.out k 0):Nat):Int)=af T.out k 0:=aD;rw[o] at G;simp only[go_sem,↓reduceIte,ahZ,aia,hT,nn,ajV,E,A,o1,o2,f,G,u1];refine loop H2 ⟨by rw[M];simp,fun F z g w=>by rw[u4 F (by omega),y.2 F z g]⟩ (by rw[M];simp) ?_;rw[u2];unfold Tab.sO;simp only[amq,amz];rw[ah1 f,ajF];rfl
 .have hl:=loop _ y aO (by rw[W];unfold Tab.sO;simp only[amq,amz];rw[ah0 f]);simp only[go_sem,↓reduceIte,aia,hT,nn,ajV,E,A,o1,o2,f];exact hl
def abD:List.drop (ae H+1) (H++o::l)=l:=by rw[ak6];simp
def abE:List.drop (ae H+2) (H++o::h::l)=l:=by rw[ak6];simp
attribute [go_sem] abD abE
attribute [go_sem] ajd
def gU (T:Tab) (k:Int) (c:Nat):Int :=
 if T.du (af T.out c 0)=aq/\(af T.aM (c+1) ah).top < 0/\(k < 0\/af T.out c 0 < af T.out (az k) 0) then c else k
def Tab.fB (T:Tab) (c:Nat):Int:=(aC c).foldl (gU T) (-1)
def Tab.ep (T:Tab):Int:=T.fB (ae T.out)
def By (T:Tab) (c:Nat):T.fB (c+1)=gU T (T.fB c) c:=by unfold Tab.fB;rw[ajK,akN];rfl
def ux (T:Tab) (c:Nat):-1<=T.fB c/\T.fB c < c:=by
 induction c with
 | zero=>simp[Tab.fB]
 | succ c h=>rw[By];unfold gU;split<;>omega
def Tab.quot (T:Tab) (k i:Nat):Q:=(af (af T.cells i []) 0 ah).div (af (af T.cells i []) (k+1) ah).neg
def nX (T:Tab) (k:Nat) (s:Int × Q) (i:Nat):Int × Q :=
 if T.du (af T.aT i 0)=aq/\(af (af T.cells i []) (k+1) ah).top < 0 then
  if s.1 < 0\/((T.quot k i).sub s.2).top < 0\/(((T.quot k i).sub s.2).top=0/\af T.aT i 0 < af T.aT (az s.1) 0) then (i,T.quot k i) else s
 else s
def Tab.eM (T:Tab) (k c:Nat):Int × Q:=(aC c).foldl (nX T k) (-1,ah)
def Tab.lv (T:Tab) (k:Nat):Int:=(T.eM k (ae T.cells)).1
def Dw (T:Tab) (k c:Nat):T.eM k (c+1)=nX T k (T.eM k c) c:=by unfold Tab.eM;rw[ajK,akN];rfl
def yD (T:Tab) (k c:Nat):-1<=(T.eM k c).1/\(T.eM k c).1 < c /\
  (0<=(T.eM k c).1->(T.eM k c).2=T.quot k (T.eM k c).1.toNat/\(af (T.cells.getD (T.eM k c).1.toNat []) (k+1) ah).top < 0/\T.du (T.aT.getD (T.eM k c).1.toNat 0)=aq):=by
 induction c with
 | zero=>simp[Tab.eM]
 | succ c h =>
  rw[Dw];unfold nX;split
  .rename_i x;split
   .refine ⟨by show (-1:Int)<=(c:Int);omega,by show (c:Int) < ((c+1:Nat):Int);omega,fun _=>⟨aO,bu x.2,bu x.1⟩⟩
   .exact ⟨h.1,aD,h.2.2⟩
  .exact ⟨h.1,aD,h.2.2⟩
def Tab.mq (T:Tab):Tab ⊕ Int:=if T.ep < 0 then .inr (-1) else if T.lv (az T.ep) < 0 then .inr T.ep else .inl (T.dt (az (T.lv (az T.ep))) (az T.ep))
inductive pH:Nat->Tab->Tab->Int->Prop
 | stop {T:Tab} {r:Int}:fQ T->T.mq = .inr r->pH 0 T T r
 | go {n:Nat} {T T' T'':Tab} {r:Int}:fQ T->T.mq = .inl T'->pH n T' T'' r->pH (n+1) T T'' r
def pH.w (h:pH n T k r):fQ T:=by cases h<;>assumption
def bK.refl (H:aF) (t:Nat) (D:bD):bK H H t D D:=⟨ahZ _,fun _ _ _ _=>rfl,fun _ h => .inl h⟩
def bK.trans (h:bK H G t D a) (g:bK G F t a b):bK H F t D b :=
 ⟨aiJ h.len g.len,fun x k z w=>by
  rw[g.aY x (aiB k h.len) (fun c=>(h.new x c).elim z (fun e=>aD)),h.aY x k z],fun x y=>by
  rcases g.new x y with k | k
  .exact h.new x k
  .exact .inr (aiJ h.len k)⟩
def bK.aQ (h:aL H G []):bK H G t D D:=⟨h.1,fun x k _ w=>h.2 x k aO w,fun _ h => .inl h⟩
def PL (x:fQ T) (z:k < ae T.out) (h:i < ae T.cells) (y:(af (af T.cells i []) (k+1) ah).top≠0):QOk 200000 (T.quot k i):=by have w:=x.row i h;have o1:=x.p8 i h _ (ec (show 0 < ae (af T.cells i []) by omega));have o2:=x.p8 i h _ (ec (show k+1 < ae (af T.cells i []) by omega));have:=Fa aR aR o1 o2.neg (by show -_≠0;omega);exact this
def yR {x:Int}:(x.sign < 0)=(x < 0):=propext aka
def qM {x:Int}:(x.sign=0)=(x=0):=propext ai8
def C4 (hd:pH n T a8 r) (h:ck H t D T) :
  cR prog 132 [.ptr t 0 0 0] H fun v H'=>v = .q0 r/\∃D',ck H' t D' a8/\bK H H' t D D':=by
 refine qw func132 ?_;refine Z ?_;refine aZ (fun m e A=>∃y z,pH m y a8 r/\ck A t z y/\bK H A t D z/\e=[(0,.ptr t 0 0 0)]) (n:=n) ⟨T,D,hd,h,bK.refl _ _ _,rfl⟩ ?_;clear hd h;rintro m _ a ⟨y,z,hd,h,ho,rfl⟩;have I:=hd.w;have b6:=I.nl;have c0:=I.rl;have c6:=I.bl;have e3:=I.ml;have e5:=I.wl;have e2:=I.gl;have hT:=aK h.bF;have d9:∀K,gH z.vo K=K (.q0 (ae y.out:Int)):=fun K=>by rw[h.out.cZ.fN,ah3]
 have d2:=aP h.bF;refine Z ?_;refine aZ (fun m e A=>∃c,c<=ae y.out/\m=ae y.out - c/\a=A/\e=[(0,.ptr t 0 0 0),(3,.q0 (y.fB c)),(15,z.vo),(16,.q0 (ae y.out:Int)),(17,.q0 (c:Int))]) (n:=ae y.out)
  ⟨0,aiL _,rfl,rfl,rfl⟩ ?_;rintro m' _ _ ⟨c,hc,rfl,rfl,rfl⟩;by_cases b5:(c:Int) < (ae y.out:Int)
 .have l:c < ae y.out:=aD;have ⟨p,p1,p2⟩:=h.out.cZ.read (et l);have W:=By y c;have ⟨c9,d0⟩:=ux y c;have e1:=ws c;have next:∀x:Int,x=y.fB (c+1)->∃m,m < ae y.out - c/\∃o,o<=ae y.out/\m=ae y.out - o/\a=a /\
    ([(0,.ptr t 0 0 0),(3,.q0 x),(15,z.vo),(16,.q0 (ae y.out:Int)),(17,.q0 ((c+1:Nat):Int))]:Env)=[(0,.ptr t 0 0 0),(3,.q0 (y.fB o)),(15,z.vo),(16,.q0 (ae y.out:Int)),(17,.q0 (o:Int))] :=
   fun x hx=>⟨ae y.out - (c+1),aD,c+1,l,rfl,rfl,by rw[hx]⟩
  generalize hv:af y.out c 0=v at *;refine Z ?_;refine dS (wm h b6 c0) ?_;cases C:y.du v with
  | false =>
   refine Z ?_;simpa only[go_sem] using next _ (by rw[W];unfold gU;rw[hv,C];simp)
  | true =>
   obtain ⟨p3,q1,q2⟩:=(h.aM.cZ (by omega)).read (i:=c+1) (iW (show c+1 < ae y.aM by omega));generalize V:af y.aM (c+1) ah=g at *;refine Z ?_;refine aH (j9 g) (by simp[bE]) rfl ?_;have c1:(g.top.sign < 0)=(g.top < 0):=yR;by_cases J:g.top < 0
   .have c3:(g.top.sign < 0)=True:=by rw[c1];exact aiq J
    by_cases b:y.fB c < 0
    .refine Z ?_;simpa only[go_sem] using next _ (by rw[W];unfold gU;rw[hv,C,V,ah1 ⟨rfl,J,.inl b⟩])
    .obtain ⟨p4,r1,r2⟩:=h.out.cZ.read (et (show az (y.fB c) < ae y.out by omega));have a7:((az (y.fB c):Nat):Int)=y.fB c:=aD;rw[a7] at r1;by_cases h3:v < af y.out (az (y.fB c)) 0
     .refine Z ?_;simpa only[go_sem] using next _ (by rw[W];unfold gU;rw[hv,C,V,ah1 ⟨rfl,J,.inr h3⟩])
     .refine Z ?_;simpa only[go_sem] using next _ (by rw[W];unfold gU;rw[hv,C,V,ah0 (fun X=>X.2.2.elim b h3)])
   .have c3:(g.top.sign < 0)=False:=by rw[c1];exact aie J
    refine Z ?_;simpa only[go_sem] using next _ (by rw[W];unfold gU;rw[hv,C,V,ah0 (fun X=>J X.2.1)])
 .have a4:c=ae y.out:=aD;subst a4;by_cases c8:y.fB (ae y.out) < 0
  .refine Z ?_;have hr:y.mq = .inr (-1):=by unfold Tab.mq Tab.ep;rw[ah1 c8]
   cases hd with
   | stop _ b=>rw[hr] at b;cases b;exact ⟨rfl,z,h,ho⟩
   | go _ b _=>rw[hr] at b;simp at b
  .obtain ⟨k,hk⟩:∃k:Nat,y.fB (ae y.out)=(k:Int):=⟨az (y.fB (ae y.out)),by omega⟩;have a5:k < ae y.out:=cn ((ux y (ae y.out)).2);have d8:∀K,gH z.vb K=K (.q0 (ae y.cells:Int)):=fun K=>by rw[h.aT.cZ.fN,ah3,c6]
   have c5:∀K,bk (a++[ak ⟨4,0,[[.q0 0,.nil,.q0 0,.nil]]⟩]) t 0 K=K ⟨6,0,[[.q0 (y.n:Int),z.rv,z.vb,z.vo,z.vc,z.vg]]⟩:=aK (by rw[cJ d2];exact h.bF);have d6:((k:Int) < 0)=False:=aie aD;rw[hk];refine Z ?_;obtain ⟨H2,L⟩:∃H2,H2=a++[ak ⟨4,0,[[AV.q0 0,.nil,.q0 0,.nil]]⟩]:=⟨_,rfl⟩;rw[<-L];have c2:aL a H2 []:=by rw[L];exact aL.app _ _ _
   have a9:aI H2 (ae a) 0=ak ⟨4,0,[qC (y.eM k 0).2]⟩:=by rw[L];exact ct
   have b4:ae a < ae H2:=by rw[L];simp
   clear L c5;refine aZ (fun m e A=>∃c,c<=ae y.cells/\m=ae y.cells - c/\aL a A []/\ae a < ae A/\aI A (ae a) 0=ak ⟨4,0,[qC (y.eM k c).2]⟩ /\
    e=[(0,.ptr t 0 0 0),(3,.q0 (k:Int)),(6,.c (.int .i64 (y.eM k c).1)),(7,.ptr (ae a) 0 0 0),(59,z.vb),(60,.q0 (ae y.cells:Int)),(61,.q0 (c:Int))]) (n:=ae y.cells)
    ⟨0,aiL _,rfl,c2,b4,a9,rfl⟩ ?_;clear c2 a9 b4 hc b5;rintro m' _ A ⟨c,hc,rfl,kc,a0,hO,rfl⟩;have O:=h.aQ kc aO;have e0:=aK O.bF;by_cases b5:(c:Int) < (ae y.cells:Int)
   .have l:c < ae y.cells:=aD;obtain ⟨p,p1,p2⟩:=O.aT.cZ.read (et (show c < ae y.aT by omega));have W:=Dw y k c;have ⟨c9,d0,d1⟩:=yD y k c;have e1:=ws c;have ek:=ws k;have next:∀(s:Int × Q) (G:aF),s=y.eM k (c+1)->aL a G []->ae a < ae G->aI G (ae a) 0=ak ⟨4,0,[qC s.2]⟩->∃m,m < ae y.cells - c/\∃o,o<=ae y.cells/\m=ae y.cells - o/\aL a G []/\ae a < ae G/\aI G (ae a) 0=ak ⟨4,0,[qC (y.eM k o).2]⟩ /\
      ([(0,.ptr t 0 0 0),(3,.q0 (k:Int)),(6,.q0 s.1),(7,.ptr (ae a) 0 0 0),(59,z.vb),(60,.q0 (ae y.cells:Int)),(61,.q0 ((c+1:Nat):Int))]:Env)=[(0,.ptr t 0 0 0),(3,.q0 (k:Int)),(6,.c (.int .i64 (y.eM k o).1)),(7,.ptr (ae a) 0 0 0),(59,z.vb),(60,.q0 (ae y.cells:Int)),(61,.q0 (o:Int))] :=
     fun s G C J b h3=>⟨ae y.cells - (c+1),aD,c+1,l,rfl,J,b,by rw[<-C];exact h3,by rw[C]⟩
    have c7:(z.aV.map fun v=>[v])[c]?=ak [af z.aV c .ba]:=by simp[af,show c < ae z.aV by rw[h.cl];exact l]
    have ⟨p3,q1,q2,q3⟩:=O.cells.cZ.wP c7;have d7:=I.row c l;have ⟨p4,r1,r2,r3⟩:=(O.rws c l).wP (i:=k+1) (iW aD);have ⟨p5,s1,s2,s3⟩:=(O.rws c l).wP (i:=0) (iW aD);have e7:∀(t:IntKind) (K:AV->Prop),mZ 4 (af z.aV c .ba) (.c (.int t 0)) K=K p5:=s1;have d5:=I.p8 c l _ (ec (show k+1 < ae (af y.cells c []) by omega));have d3:=I.p8 c l _ (ec (show 0 < ae (af y.cells c []) by omega));have b8:=PL I a5 l;have b7:y.quot k c=(af (af y.cells c []) 0 ah).div (af (af y.cells c []) (k+1) ah).neg:=rfl;generalize hv:af y.aT c 0=v at *;generalize hx:af (af y.cells c []) (k+1) ah=x at *;generalize e6:af (af y.cells c []) 0 ah=x0 at *;refine Z ?_;refine dS (wm O b6 c0) ?_;cases C:y.du v with
    | false =>
     refine Z1 e1 ?_;simpa only[go_sem] using next _ A (by rw[W];unfold nX;rw[hv,C];simp) kc a0 hO
    | true =>
     refine Z ?_;refine aH (j9 x) (by simp[bE]) rfl ?_;by_cases E:x.top < 0
     .have a2:(0<=x.top.sign)=False:=aie (cn (aka.2 E));have a1:(ae A=t)=False:=aie (cn (aP O.bF));refine Z ?_;have b3:=Cq x0 x.neg (d3.mono aR) (d5.neg.mono aR) (by show -_≠0;omega);have b9:=b8 aD;rw[<-b7] at b3;clear b7 b8 s2;generalize hq:y.quot k c=q at *;refine aH (Ny x) (by simp[bE]) (bE _) ?_;refine Z ?_;refine aH b3 (by simp[bE]) (bE _) ?_;have R:∀K,bk (A++[ak ⟨4,0,[qC q]⟩]) (ae a) 0 K=K ⟨4,0,[qC (y.eM k c).2]⟩:=aK (by rw[cJ a0];exact hO);have b0:∀K,bk (A++[ak ⟨4,0,[qC q]⟩]) t 0 K=K ⟨6,0,[[.q0 (y.n:Int),z.rv,z.vb,z.vo,z.vc,z.vg]]⟩:=aK (by rw[cJ (aP O.bF)];exact O.bF);generalize e4:y.eM k c=f at *;have kq:aL a (A++[ak ⟨4,0,[qC q]⟩]) []:=kc.trans (aL.app _ _ _);have tq:=h.aQ kq aO;have a6:ae a < ae (A++[ak (⟨4,0,[qC q]⟩:bz)]):=bW;have c4:aI (A++[ak ⟨4,0,[qC q]⟩]) (ae a) 0=ak ⟨4,0,[qC f.2]⟩:=by rw[cJ a0];exact hO
      have kg:aL a (List.set (A++[ak (⟨4,0,[qC q]⟩:bz)]) (ae a) (ak ⟨4,0,[qC q]⟩)) []:=⟨by rw[ah8];exact kq.1,fun id J b w=>by rw[aS (by omega)];exact kq.2 id J b w⟩;have take:=fun (X:nX y k f c=((c:Int),q))=>next ((c:Int),q) _ (by rw[W,X]) kg (by rw[ah8];exact a6) (bn a6)
      have skip:=fun (X:nX y k f c=f)=>next f _ (by rw[W,X]) kq a6 c4
      simp only[go_sem] at take skip;by_cases M:f.1 < 0
      .have a3:(0<=f.1)=False:=aie aD;refine Z8 a1 q3 r3 s3 M a3 R e1 ?_;exact take (by unfold nX;rw[hv,C,hx,ah1 ⟨rfl,E⟩,ah1 (.inl M),hq])
      .have a3:(0<=f.1)=True:=aiq aD;have d4:QOk 200000 f.2:=by have ⟨g1,g2,g3⟩:=d1 aD;rw[g1];exact PL I a5 aD aD
       refine Z6 a1 q3 r3 s3 a3 R ?_;refine aH (SK q f.2 (b9.mono aR) (d4.mono aR)) (by simp[bE]) rfl ?_;have b1:((q.sub f.2).top.sign < 0)=((q.sub f.2).top < 0):=yR;have b2:((q.sub f.2).top.sign=0)=((q.sub f.2).top=0):=qM;by_cases N:(q.sub f.2).top < 0
       .have B:((q.sub f.2).top.sign < 0)=True:=by rw[b1];exact aiq N
        refine Z4 M R e1 B ?_;exact take (by unfold nX;rw[hv,C,hx,ah1 ⟨rfl,E⟩,hq,ah1 (.inr (.inl N))])
       .have B:((q.sub f.2).top.sign < 0)=False:=by rw[b1];exact aie N
        by_cases S:(q.sub f.2).top=0
        .have F:((q.sub f.2).top.sign=0)=True:=by rw[b2];exact aiq S
         obtain ⟨p6,t1,t2⟩:=tq.aT.cZ.read (et (show az f.1 < ae y.aT by omega));have a7:((az f.1:Nat):Int)=f.1:=aD;rw[a7] at t1;by_cases U:v < af y.aT (az f.1) 0
         .simp only[go_sem,↓reduceIte,ahZ,aia,M,R,e1,B,F,b0,t1,t2,U];exact take (by unfold nX;rw[hv,C,hx,ah1 ⟨rfl,E⟩,hq,ah1 (.inr (.inr ⟨S,U⟩))])
         .refine Z8 M e1 B F b0 t1 t2 U ?_;exact skip (by unfold nX;rw[hv,C,hx,ah1 ⟨rfl,E⟩,hq,ah0 (fun X=>X.elim M (fun X=>X.elim N (fun X=>U X.2)))])
        .have F:((q.sub f.2).top.sign=0)=False:=by rw[b2];exact aie S
         refine Z4 M e1 B F ?_;exact skip (by unfold nX;rw[hv,C,hx,ah1 ⟨rfl,E⟩,hq,ah0 (fun X=>X.elim M (fun X=>X.elim N (fun X=>S X.1)))])
     .have a2:=aiq (by have J:=amw.2 (show 0<=x.top by omega);exact J);refine Y2 a2 e1 ?_;simpa only[go_sem] using next _ A (by rw[W];unfold nX;rw[hv,C,hx,ah0 (fun X=>E X.2)]) kc a0 hO
   .have a4:c=ae y.cells:=aD;subst a4;by_cases M:(y.eM k (ae y.cells)).1 < 0
    .refine Z ?_;have hr:y.mq = .inr (k:Int):=by unfold Tab.mq;rw[show y.ep=(k:Int) from hk,ah0 (by omega),ah9];unfold Tab.lv;rw[ah1 M]
     cases hd with
     | stop _ b=>rw[hr] at b;cases b;exact ⟨rfl,z,O,ho.trans (bK.aQ kc)⟩
     | go _ b _=>rw[hr] at b;simp at b
    .refine Z ?_;have ⟨g1,g2,g3⟩:=yD y k (ae y.cells);obtain ⟨j,hj⟩:∃j:Nat,(y.eM k (ae y.cells)).1=(j:Int):=⟨(y.eM k (ae y.cells)).1.toNat,aD⟩;have hr:y.mq = .inl (y.dt j k):=by unfold Tab.mq;rw[show y.ep=(k:Int) from hk,ah0 (by omega),ah9];unfold Tab.lv;rw[ah0 M,hj,ah9]
     rw[hj] at g2 g3 ⊢;rw[ah9] at g3;have g4:=(g3 aD).2.1;refine cQ (zY O I (i:=j) (k:=k) aD a5 aD) ?_;rintro _ H5 ⟨rfl,D5,t5,o5⟩;refine Z ?_;cases hd with
     | stop _ b=>rw[hr] at b;simp at b
     | go _ b h3 =>
      rw[hr] at b;cases b;exact ⟨_,aj3 _,_,D5,h3,t5,(ho.trans (bK.aQ kc)).trans o5⟩
def lS {k id ver i n h l:Nat} {e:Env} {lo x:Option Opd} {H:aF} {K:AV->Prop} (y:bL e n n x=ak h) (z:bL e h 0 lo=ak l):yX k e lo x (.sl k id ver i n) H K=K (.sl k id ver (i+l) (h - l)):=by
 unfold yX;have:oY e lo x an k (.sl k id ver i n)=ak (.sl k id ver (i+l) (h - l)):=by simp only[oY,ajs,y,z,aix]
 rw[this];rfl
def Is {k id ver i n h l:Nat} {e:Env} {lo x:Option Opd} {H:aF} {xs:List (List AV)} {K:AV->Prop} (a:aI H id ver=ak ⟨k,ver,xs⟩) (y:bL e n n x=an) (z:bL e (ae xs - i) n x=ak h) (w:bL e h 0 lo=ak l) :
  yX k e lo x (.sl k id ver i n) H K=K (.sl k id ver (i+l) (h - l)):=by
 unfold yX;have:oY e lo x an k (.sl k id ver i n)=an:=by simp only[oY,ajs,y,Option.bind_none]
 rw[this];simp only[a,aix,ajs,z,w];rfl
def CS {k id ver n i:Nat} {H:aF} {xs tl:List (List AV)} {K:AV->aF->Prop} (z:aI H id ver=ak ⟨k,ver,xs++tl⟩) (l:i < ae xs) (g:n=ae xs) :
  j4 k (.sl k id ver 0 i) (.sl k id ver (i+1) (n - (i+1))) H K=K (.sl k id ver 0 (n - 1)) (H.set id (ak ⟨k,ver,aB xs i++(xs.drop (n - 1)++tl)⟩)):=by
 subst g;have c:dW k H (.sl k id ver (i+1) (ae xs - (i+1)))=ak (xs.drop (i+1)):=by simp only[dW,z,aix];rw[ah1 ⟨trivial,trivial,by simp;omega⟩,alH (by omega),ajU (by simp),aiv (by simp)]
 unfold j4;rw[c];simp only[aix];have a:=aP z;have y:=(dF z).1;by_cases j:i+1=ae xs
 .have x:xs.drop (i+1)=[]:=aih aD;rw[x];have w:aB xs i++(xs.drop (ae xs - 1)++tl)=xs++tl:=by rw[akf,x,<-aio,aiu,show ae xs - 1=i by omega,ajW]
  have e:H.set id (ak ⟨k,ver,xs++tl⟩)=H:=by rw[ah6 a] at y;have:H[id]=ak ⟨k,ver,xs++tl⟩:=bu y;rw[<-this];simp
  have f:ae xs - 1=i:=aD;rw[w,e,f];rfl
 .have b:(xs.drop (i+1)).isEmpty=ar:=by
   cases h:xs.drop (i+1) with
   | nil=>have:=akS ae h;simp at this;omega
   | cons _ _=>rfl
  have hv:il k H (.sl k id ver 0 i) (xs.drop (i+1))=ak (.sl k id ver 0 (ae xs - 1),H.set id (ak ⟨k,ver,aB xs i++(xs.drop (ae xs - 1)++tl)⟩)):=by unfold il;rw[b];simp only[ah5,ajO,z,aix];rw[ah0 (by simp;omega),ah1 ⟨trivial,by simp;omega,trivial⟩];have w:i+ae (xs.drop (i+1))=ae xs - 1:=bW;rw[aia,w,ajU (by omega),alH (by omega),<-akf]
  rw[hv];rfl
def TT (a:AV) (z:List AV) (H:aF) (K:AV->aF->Prop):Prop:=bO (match a with
  | .nil=>ak (.ba,H)
  | .sl _ id ver i n=>(aI H id ver).bind fun ob=>if i+n<=ae ob.xs/\ae z=ob.k/\z.all bB=aq then
    ak (.ba,H.set id (ak ⟨ob.k,ver,ob.xs.take i++aA n z++ob.xs.drop (i+n)⟩)) else an
  | _=>an) fun v=>K v.1 v.2
@[go_sem] def af0:cS P h (.zq x z) e H K=TT (x.ev e) z H K:=nh rfl rfl
def HN {k id ver i n:Nat} {z:List AV} {H:aF} {xs tl:List (List AV)} {x:List AV} {K:AV->aF->Prop} (w:aI H id ver=ak ⟨k,ver,xs++(x::tl)⟩) (h:i=ae xs) (y:n=1) (a:ae z=k/\z.all bB=aq) :
  TT (.sl k id ver i n) z H K=K .ba (H.set id (ak ⟨k,ver,xs++z::tl⟩)):=by
 subst h y;unfold TT;simp only[w,aix];rw[ah1 ⟨aO,a⟩];have:List.take (ae xs) (xs++x::tl)++aA 1 z++List.drop (ae xs+1) (xs++x::tl)=xs++z::tl:=by rw[List.take_left,<-ajo,akV];simp
 rw[this];rfl
def Ek {H:aF} {id ver n i:Nat} {xs tl:List (List AV)} (b:aI H id ver=ak ⟨1,ver,xs++tl⟩) (w:i < ae xs) (a:n=ae xs) (o:n < 1000000) :
  bR prog 158 [.sl 1 id ver 0 n,.q0 (i:Int),.q0 ((i+1:Nat):Int)] H (.sl 1 id ver 0 (n - 1)) (H.set id (ak ⟨1,ver,aB xs i++[.q0 0]::tl⟩)):=by
 refine cw func158 ?_;have c:(0:Int)<=(n:Int):=aD;have e:(0:Int)<=(i:Int):=by omega
 have f:(0:Int)<=((i+1:Nat):Int):=by omega
 have g:((i+1:Nat):Int)<=(n:Int):=by omega
 have j:(i:Int)<=((i+1:Nat):Int):=by omega
 have m:((i:Int)=((i+1:Nat):Int))=False:=aie (by omega);have y:=aP b;have k:xs.drop (n - 1)=[af xs (n - 1) []]:=by rw[ail (by omega)];simp[af,show n - 1 < ae xs by omega,show n - 1+1=ae xs by omega]
 have z:aI (H.set id (ak ⟨1,ver,aB xs i++(xs.drop (n - 1)++tl)⟩)) id ver=ak ⟨1,ver,aB xs i++(af xs (n - 1) []::tl)⟩:=by rw[bn y,k];rfl
 have x:ae (aB xs i)=n - 1:=by rw[aiP w,a]
 simp only[go_sem,↓reduceIte,aia,ah9,c,e,f,g,j,m,ajV];rw[lS (h:=i) (l:=0) (by simp[bL,Opd.ev,lk,intOf?];omega) (by simp[bL])];refine Z0 ?_;rw[lS (h:=n) (l:=i+1) (by simp[bL]) (by simp[bL,Opd.ev,lk,intOf?];omega)];simp only[go_sem,↓reduceIte,aia,amP];rw[CS b w a];refine Y ?_;rw[Is z (h:=n) (l:=n - 1) (by simp[bL,Opd.ev,lk,intOf?];omega) (by simp[bL,Opd.ev,lk,intOf?,x];omega) (by simp[bL,Opd.ev,lk,intOf?])];refine Z0 ?_;rw[HN z (by rw[x]) aD ⟨rfl,rfl⟩];simp only[go_sem,↓reduceIte,ans];exact dJ (Wk1.refl _)
def El {H:aF} {id ver n i:Nat} {xs tl:List (List AV)} (b:aI H id ver=ak ⟨1,ver,xs++tl⟩) (w:i < ae xs) (a:n=ae xs) (o:n < 1000000) :
  bR prog 159 [.sl 1 id ver 0 n,.q0 (i:Int),.q0 ((i+1:Nat):Int)] H (.sl 1 id ver 0 (n - 1)) (H.set id (ak ⟨1,ver,aB xs i++[.nil]::tl⟩)):=by
 refine cw func159 ?_;have c:(0:Int)<=(n:Int):=aD;have e:(0:Int)<=(i:Int):=by omega
 have f:(0:Int)<=((i+1:Nat):Int):=by omega
 have g:((i+1:Nat):Int)<=(n:Int):=by omega
 have j:(i:Int)<=((i+1:Nat):Int):=by omega
 have m:((i:Int)=((i+1:Nat):Int))=False:=aie (by omega);have y:=aP b;have k:xs.drop (n - 1)=[af xs (n - 1) []]:=by rw[ail (by omega)];simp[af,show n - 1 < ae xs by omega,show n - 1+1=ae xs by omega]
 have z:aI (H.set id (ak ⟨1,ver,aB xs i++(xs.drop (n - 1)++tl)⟩)) id ver=ak ⟨1,ver,aB xs i++(af xs (n - 1) []::tl)⟩:=by rw[bn y,k];rfl
 have x:ae (aB xs i)=n - 1:=by rw[aiP w,a]
 simp only[go_sem,↓reduceIte,aia,ah9,c,e,f,g,j,m,ajV];rw[lS (h:=i) (l:=0) (by simp[bL,Opd.ev,lk,intOf?];omega) (by simp[bL])];refine Z0 ?_;rw[lS (h:=n) (l:=i+1) (by simp[bL]) (by simp[bL,Opd.ev,lk,intOf?];omega)];simp only[go_sem,↓reduceIte,aia,amP];rw[CS b w a];refine Y ?_;rw[Is z (h:=n) (l:=n - 1) (by simp[bL,Opd.ev,lk,intOf?];omega) (by simp[bL,Opd.ev,lk,intOf?,x];omega) (by simp[bL,Opd.ev,lk,intOf?])];refine Z0 ?_;rw[HN z (by rw[x]) aD ⟨rfl,rfl⟩];simp only[go_sem,↓reduceIte,ans];exact dJ (Wk1.refl _)
def Hi {H:aF} {id ver n i:Nat} {xs tl:List (List AV)} (b:aI H id ver=ak ⟨4,ver,xs++tl⟩) (w:i < ae xs) (a:n=ae xs) (o:n < 1000000) :
  bR prog 163 [.sl 4 id ver 0 n,.q0 (i:Int),.q0 ((i+1:Nat):Int)] H (.sl 4 id ver 0 (n - 1)) (H.set id (ak ⟨4,ver,aB xs i++[.q0 0,.nil,.q0 0,.nil]::tl⟩)):=by
 refine cw func163 ?_;have c:(0:Int)<=(n:Int):=aD;have e:(0:Int)<=(i:Int):=by omega
 have f:(0:Int)<=((i+1:Nat):Int):=by omega
 have g:((i+1:Nat):Int)<=(n:Int):=by omega
 have j:(i:Int)<=((i+1:Nat):Int):=by omega
 have m:((i:Int)=((i+1:Nat):Int))=False:=aie (by omega);have y:=aP b;have k:xs.drop (n - 1)=[af xs (n - 1) []]:=by rw[ail (by omega)];simp[af,show n - 1 < ae xs by omega,show n - 1+1=ae xs by omega]
 have z:aI (H.set id (ak ⟨4,ver,aB xs i++(xs.drop (n - 1)++tl)⟩)) id ver=ak ⟨4,ver,aB xs i++(af xs (n - 1) []::tl)⟩:=by rw[bn y,k];rfl
 have x:ae (aB xs i)=n - 1:=by rw[aiP w,a]
 simp only[go_sem,↓reduceIte,aia,ah9,c,e,f,g,j,m,ajV];rw[lS (h:=i) (l:=0) (by simp[bL,Opd.ev,lk,intOf?];omega) (by simp[bL])];refine Z0 ?_;rw[lS (h:=n) (l:=i+1) (by simp[bL]) (by simp[bL,Opd.ev,lk,intOf?];omega)];simp only[go_sem,↓reduceIte,aia,amP];rw[CS b w a];refine Y ?_;rw[Is z (h:=n) (l:=n - 1) (by simp[bL,Opd.ev,lk,intOf?];omega) (by simp[bL,Opd.ev,lk,intOf?,x];omega) (by simp[bL,Opd.ev,lk,intOf?])];refine Z0 ?_;rw[HN z (by rw[x]) aD ⟨rfl,rfl⟩];simp only[go_sem,↓reduceIte,ans];exact dJ (Wk1.refl _)
structure RdV (H:aF) (v:AV) (l:List Int):Prop where
 len:∀K,gH v K=K (.c (.int .i64 (l.length:Int)))
 rd:∀H',aL H H' []->∀i,i < l.length->∃p,(∀(t:IntKind) (K:AV->Prop),mZ 1 v (.c (.int t (i:Int))) K=K p)/\∀ag n K,LdP ag n p H' K=iX ag (cN (l.getD i 0)) 0 n K
def RdV.seq (H:aF) (f:Bool) (l:List Int):RdV H (.seq 1 f (br l)) l:=by refine ⟨fun K=>by rw[Ng],fun k _ i y=>⟨.fp (cN (af l i 0)) 0,fun t K=>?_,fun x n K=>rfl⟩⟩;rw[M9,ah9];refine propext ⟨fun h=>h.2,fun h=>⟨⟨rfl,aD,aD⟩,h⟩⟩
def RdV.win {H:aF} {id ver o n:Nat} {pre l tl:List Int} (h:aI H id ver=ak ⟨1,ver,br (pre++l++tl)⟩) (a:o=ae pre) (w:n=ae l):RdV H (.sl 1 id ver o n) l:=by
 subst a w;refine ⟨fun K=>rfl,fun k z i y=>⟨.ptr id ver (ae pre+i) 0,fun t K=>?_,fun b n K=>?_⟩⟩
 .rw[Ch];refine propext ⟨fun h=>h.2,fun h=>⟨⟨rfl,aD,aD⟩,h⟩⟩
 .have x:aI k id ver=ak ⟨1,ver,br (pre++l++tl)⟩:=by rw[z.2 id (aP h) aO];exact h
  have e:(br (pre++l++tl))[ae pre+i]?=ak (cN (af l i 0)):=by rw[ajp,aio,aiC aD,aic aD];simp[af,y]
  rw[Ci,aK x,Po,iu e,GG]
def aL.grow (h:aL H x []) (g:aL x H' ids) (y:∀id,id∈ids->ae H<=id):aL H H' [] :=
 ⟨aiJ h.1 g.1,fun id k _ w=>by rw[g.2 id (aiB k h.1) (fun z=>by have:=y id z;omega),h.2 id k aO]⟩
def aL.take (h:aL H H' []):H'.take (ae H)=H:=by
 have f:=h.1;refine Jb bW fun k w=>?_;have x:k < ae H:=by simp at w;omega
 have e:eH (H'.take (ae H)) k=eH H' k:=by unfold eH;rw[aj7,ah1 x]
 rw[e];have c:=h.2 k x aO;have a:∀(K:aF) (ob:bz),eH K k=ak ob↔aI K k ob.ver=ak ob:=by
  intro K ob;unfold eH aI;cases K[k]? with
  | none=>simp
  | some o=>cases o with
   | none=>simp
   | some b =>
    simp only[Option.join_some,akd];constructor
    .rintro rfl;simp
    .intro h;split at h
     .simpa using h
     .simp at h
 cases z:eH H k with
 | some ob=>rw[a] at z ⊢;rw[c];exact z
 | none =>
  cases y:eH H' k with
  | none=>rfl
  | some ob=>rw[a,c,<-a,z] at y;simp at y
def TU (k:Nat) (a b:AV) (H:aF) (K:AV->aF->Prop):Prop:=bO (match a,b with
  | .sl k' id ver i n,.seq k2 _ ys=>(aI H id ver).bind fun ob=>if k'=k/\k2=k/\ob.k=k/\i+n<=ae ob.xs/\ae ys<=n then
    ak (.ba,H.set id (ak ⟨ob.k,ver,ob.xs.take i++ys++ob.xs.drop (i+ae ys)⟩)) else an
  | _,_=>an) fun v=>K v.1 v.2
@[go_sem] def af1:cS P h (.AX x y k) e H K=TU k (x.ev e) (y.ev e) H K:=nh rfl rfl
def W5 {k id ver i n:Nat} {f:Bool} {ys xs:List (List AV)} {H:aF} {K:AV->aF->Prop} (y:aI H id ver=ak ⟨k,ver,xs⟩) (h:i+n<=ae xs) (x:ae ys<=n) :
  TU k (.sl k id ver i n) (.seq k f ys) H K=K .ba (H.set id (ak ⟨k,ver,xs.take i++ys++xs.drop (i+ae ys)⟩)):=by unfold TU;simp only[y,aix];rw[ah1 ⟨trivial,trivial,trivial,h,x⟩];rfl
def QD (hv:RdV H v l) (D:RdV H w m) (L:ae l < 4294967296) (hm:ae m < 4294967296) (k:DK l) (x:DK m) (t:cH l=l) (K:cH m=m) :
  bR prog 187 [v,w] H (.c (.int .i64 (vl l - vl m).sign)) H:=by
 refine cw func187 ?_;have g:=hv.len;have j:=D.len;by_cases r:(ae l:Int)=ae m
 .have y:ae l=ae m:=aD;have G:au .i64 ((ae m:Int) - 1)=(ae m:Int) - 1:=wi;simp only[go_sem,↓reduceIte,g,j,r,G,ajl];refine aZ (fun n e E=>∃i:Nat,i<=ae l/\n=i/\E=H/\l.drop i=m.drop i/\e=[(0,v),(1,w),(5,AV.c (Value.int IntKind.i64 ((i:Int) - 1)))]) ⟨ae l,ahZ _,rfl,rfl,by rw[aiZ,y,aiZ],by rw[y];rfl⟩ ?_;rintro n _ _ ⟨i,J,M,rfl,f,rfl⟩;by_cases F:i=0
  .subst F;have b:(0<=((0:Nat):Int) - 1)=False:=aie aR;refine Y1 b ?_;have:l=m:=bu f;exact dJ (by rw[this];simp;exact Wk1.refl _)
  .have s:((i:Int) - 1)=((i - 1:Nat):Int):=by omega
   have b:(0<=((i - 1:Nat):Int))=True:=aiq aD;have I:au .i64 (((i - 1:Nat):Int) - 1)=((i - 1:Nat):Int) - 1:=by rw[wrap_i64 (by omega) (by omega)]
   have h:l.drop (i - 1+1)=m.drop (i - 1+1):=by rw[show i - 1+1=i by omega];exact f
   have ⟨p,X,W⟩:=hv.rd _ (aL.refl _ _) (i - 1) aD;have ⟨q,A,B⟩:=D.rd _ (aL.refl _ _) (i - 1) aD;rw[s];rcases akM (af l (i - 1) 0) (af m (i - 1) 0) with z | z | z
   .have a:(af l (i - 1) 0 < af m (i - 1) 0)=True:=aiq z;refine Y6 X W A B b a ?_;refine dJ ?_;rw[sign_neg (by have:=J0 k x (by omega) (by omega) h z;omega)];exact Wk1.refl _
   .have a:(af l (i - 1) 0 < af m (i - 1) 0)=False:=aie aD;have o:(af m (i - 1) 0 < af l (i - 1) 0)=False:=aie aD;refine Y8 X W A B b a o I ?_;refine ⟨i - 1,aD,i - 1,aD,rfl,?_,rfl⟩;rw[ail (by omega:i - 1 < ae l),ail (by omega:i - 1 < ae m),h];congr 1;simpa[af,show i - 1 < ae l by omega,show i - 1 < ae m by omega] using z
   .have a:(af l (i - 1) 0 < af m (i - 1) 0)=False:=aie aD;have o:(af m (i - 1) 0 < af l (i - 1) 0)=True:=aiq z;refine Y7 X W A B b a o ?_;refine dJ ?_;rw[qL (by have:=J0 x k (by omega) (by omega) h.symm z;omega)];exact Wk1.refl _
 .by_cases C:(ae l:Int) < ae m
  .simp only[go_sem,↓reduceIte,g,j,r,C,aja];refine dJ ?_;rw[sign_neg (by have:=CE k x K (by omega);omega)];exact Wk1.refl _
  .simp only[go_sem,↓reduceIte,g,j,r,C,aja];refine dJ ?_;rw[qL (by have:=CE x k t (by omega);omega)];exact Wk1.refl _
def XN {H:aF} {id ver n:Nat} {l:List Int} {tl:List (List AV)} (h:aI H id ver=ak ⟨1,ver,br l++tl⟩) (b:n=ae l) (a:ae l < 4294967296) :
  bR prog 191 [.sl 1 id ver 0 n] H (.sl 1 id ver 0 (ae (cH l))) H:=by
 subst b;refine cw func191 ?_;refine Y ?_;refine aZ (fun n e x=>∃m:List Int,(∃t,aI H id ver=ak ⟨1,ver,br m++t⟩)/\e=[(0,AV.sl 1 id ver 0 (ae m))]/\x=H/\n=ae m/\ae m < 4294967296/\cH m=cH l) ⟨l,⟨_,h⟩,rfl,rfl,rfl,a,rfl⟩ ?_;rintro _ _ x ⟨m,⟨t,z⟩,rfl,rfl,rfl,f,w⟩;have k:cH m=m->Fin (ae x) (AV.sl 1 id ver 0 (ae m)) x (AV.sl 1 id ver 0 (ae (cH l))) x:=fun h=>by rw[<-w,h];exact dJ (Wk1.refl _)
 by_cases h:(0:Int) < ae m
 .have c:au .i64 (ae m - 1)=((ae m - 1:Nat):Int):=by rw[wrap_i64 (by omega) (by omega)];omega
  have rd:∀K,bk x id ver (LdO ar (0+(ae m - 1)) 0 1 K)=K (.q0 (af m (ae m - 1) 0)):=fun K=>by
   have e:(br m++t)[ae m - 1]?=ak (cN (af m (ae m - 1) 0)):=by rw[aic (by simp;omega),ajp];simp[af,show ae m - 1 < ae m by omega]
   rw[aK z,Po,aia,iu e,GG];rfl
  refine Y3 h c rd ?_;refine ⟨aD,fun y=>?_,fun y=>k (rJ y)⟩;rw[lS (h:=ae m - 1) (l:=0) (by simp[bL,Opd.ev,lk,intOf?]) (by simp[bL])];refine Y ?_;refine ⟨ae m - 1,aD,m.take (ae m - 1),⟨br (m.drop (ae m - 1))++t,?_⟩,?_,?_,?_,?_⟩
  .rw[z,<-aio,<-aii,ajW]
  .simp
  .simp
  .simp;omega
  .rw[lL (by omega) y,w]
 .refine Y1 h ?_;have:m=[]:=aiA aD;subst this;exact k rfl
def Acc.YP {H H':aF} {k:Nat} {v:AV} {xs:List (List AV)} (h:Acc (ae H) H' k v xs) (g:xs.all (fun x=>x.all bT)=aq) (y:aL H H' []) (f:H.all (cg (ae H))=aq):Fin (ae H) v H' (.seq k ar xs) H:=by
 have z:∀{G:aF},aL H G []->Fin (ae H) (.seq k ar xs) G (.seq k ar xs) H:=fun {G} c=>by have:=j6 (n:=ae H) (m:=ae H) (r := .seq k ar xs) (H:=G) (ahZ _) (by rw[c.take];exact f) rfl;rw[c.take] at this;exact this
 cases h with
 | nil=>exact (dJ (.cell (.Dz k))).trans (z y)
 | sq=>exact (dJ (.cell (.full k xs))).trans (z y)
 | sl l e =>
  rename_i a ver;have b:=uy (n:=ae H) (r:=AV.sl k a ver 0 (ae xs)) e g;rw[show dD a ver k xs (AV.sl k a ver 0 (ae xs)) = .seq k ar xs from td rfl] at b;exact b.trans (z ⟨bu y.1,fun j i _ w=>by rw[aS aD];exact y.2 j i aO w⟩)
def L9 (hH:H.all (cg (ae H))=aq) (W:RdV H r a) (A:RdV H s b) (a7:ae a < 3000000000) (a8:ae b < 3000000000) (ha:DK a) (hb:DK b) :
  bR prog 188 [r,s] H (iz (nz a b 0)) H:=by
 refine cc func188 ou ?_;refine uz ?_;have L1:=W.len;have S:=A.len;simp only[go_sem,↓reduceIte,L1];refine aZ (fun n e G=>∃(i:Nat) (c:Int) (o:List Int) (v:AV),i<=ae a/\n=ae a - i/\ae o=i/\(0<=c/\c<=1)/\nz a b 0=o++nz (a.drop i) (b.drop i) c/\Acc (ae H) G 1 v (br o)/\aL H G [] /\
  e=[(0,r),(1,s),(5,v),(6,.q0 (-c)),(9,.q0 (ae a:Int)),(10,.q0 (i:Int))]) ⟨0,0,[],.nil,aD,rfl,rfl,aR,rfl,.nil,aL.refl _ _,rfl⟩ ?_;rintro n _ G ⟨i,c,o,v,hi,hn,ho,hc,f,E,t,rfl⟩;by_cases j:(i:Int) < ae a
 .have F:=ha.getD i;have I:=hb.getD i;simp only[B30] at F I;have T:=ws i;have x1:au .i64 (-c+af a i 0)=af a i 0 - c:=by rw[wrap_i64 (by omega) (by omega)];omega
  have x2:au .i64 (af a i 0 - c - af b i 0)=af a i 0 - af b i 0 - c:=by rw[wrap_i64 (by omega) (by omega)];omega
  have zc:¬(i:Int) < ae b->af b i 0=0:=fun h=>by simp[af,show ae b<=i by omega]
  have ⟨p,p1,p2⟩:=W.rd _ t i aD;have q1:∀{Q:cx} {U:Env} {N:Nat} (u:Int),u=af a i 0 - af b i 0 - c->(∀x k,Acc (ae H) k 1 x (br (o++[(af a i 0 - af b i 0 - c) % B30]))->aL H k []->Q .normal [(0,r),(1,s),(5,x),(6,.q0 ((af a i 0 - af b i 0 - c) / B30)),(9,.q0 (ae a:Int)),(10,.q0 (i:Int))] k) ->
    WP prog N jo Q ((0,r)::(1,s)::(5,v)::(6,.q0 u)::(9,.q0 (ae a:Int))::(10,.q0 (i:Int))::U) G:=fun {Q U N} u hu V=>by
   rw[<-hu] at V;have a0:-1073741824<=u/\u < 1073741824:=aD;refine uz ?_;have ⟨x,k,a1,a2,a3,a4,a5,a6⟩:=E.app t.1 bW (cN (u % 1073741824));have g:∀K,bX 1 v [[.q0 (u % 1073741824)]] G K=K x k:=a1;have C:=V x k (by rw[br,aii];exact a2) (t.grow a3 fun id L=>(E.ge id L).1);by_cases X:u < 0
   .have O:au .i64 (u+1073741824)=u % 1073741824:=by rw[wrap_i64 (by omega) (by omega)];omega
    have R:u / B30 = -1:=by simp only[B30];omega
    rw[R] at C;refine Y3 X O g ?_;exact C
   .have O:u=u % 1073741824:=aD;have R:u / B30=0:=by simp only[B30];omega
    rw[R] at C;rw[<-O] at g;refine Y2 X g ?_;exact C
  have round:∀x k,Acc (ae H) k 1 x (br (o++[(af a i 0 - af b i 0 - c) % B30]))->aL H k []->∃m,m < n/\∃(l:Nat) (B:Int) (M:List Int) (w:AV),l<=ae a/\m=ae a - l/\ae M=l/\(0<=B/\B<=1)/\nz a b 0=M++nz (a.drop l) (b.drop l) B/\Acc (ae H) k 1 w (br M)/\aL H k [] /\
    ([(0,r),(1,s),(5,x),(6,.q0 ((af a i 0 - af b i 0 - c) / B30)),(9,.q0 (ae a:Int)),(10,.q0 ((i+1:Nat):Int))]:Env)=[(0,r),(1,s),(5,w),(6,.q0 (-B)),(9,.q0 (ae a:Int)),(10,.q0 (l:Int))]:=fun x k y z =>
   ⟨ae a - (i+1),aD,i+1,-((af a i 0 - af b i 0 - c) / B30),_,x,aD,rfl,by simp[ho],by simp only[B30];omega,by rw[f,NW (by omega)];simp,y,z,by rw[Int.neg_neg]⟩;by_cases D:(i:Int) < (ae b:Int)
  .have ⟨q,r1,r2⟩:=A.rd _ t i aD;simp only[go_sem,↓reduceIte,j,D,S,p1,p2,r1,r2,x1,x2];refine q1 _ rfl fun x k y z=>?_;refine Y1 T ?_;exact round x k y z
  .simp only[go_sem,↓reduceIte,j,D,S,p1,p2,x1];refine q1 _ (cn (zc D)) fun x k y z=>?_;refine Y1 T ?_;exact round x k y z
 .have J:i=ae a:=aD;refine Y1 j ?_;rw[f,J,aiZ,nz,aiu];exact E.YP (gV _) t hH
inductive EP (H:aF):AV->aF->List Int->Prop
 | nil:EP H .nil H []
 | sl {o:List Int} {i:Nat}:o.length=i+1->EP H (.sl 1 H.length i 0 (i+1)) (H++[some ⟨1,i,br o⟩]) o
def EP.app (h:EP H v G o) (w:ae o < 4000000000) (y:Int):∃k x,(∀K,bX 1 v [[.q0 y]] G K=K k x)/\EP H k x (o++[y])/\bB k=aq/\k.cells=[k]/\dA k=aq:=by
 cases h with
 | nil =>
  refine ⟨_,_,fun K=>?_,EP.sl (i:=0) (o:=[y]) rfl,rfl,rfl,rfl⟩;rw[vD];simp[cN]
 | sl z =>
  rename_i i;refine ⟨_,_,fun K=>?_,EP.sl (i:=i+1) (o:=o++[y]) (by simp[z]),rfl,rfl,rfl⟩;rw[oM (xs:=br o) (ct (l:=[])) (by simp[z])];refine propext ⟨fun h=>?_,fun h=>⟨rfl,bW,?_⟩⟩
  .have:=h.2.2;simpa[br,cN] using this
  .simpa[br,cN] using h
def Ta (l:List Int) (y:Int) (T:ae l < 3000000000) (E:DK l) (I:0<=y/\y < B30) (f:Bool) :
  bR prog 190 [.seq 1 f (br l),.q0 y] H (.sl 1 (ae H) (ae l) 0 (ae l+1)) (H++[ak ⟨1,ae l,br (iP l y 0)⟩]):=by
 refine cw func190 ?_;refine Y ?_;refine aZ (fun n e G=>∃(i:Nat) (c:Int) (o:List Int) (v:AV),i<=ae l/\n=ae l - i/\ae o=i/\(0<=c/\c < B30)/\iP l y 0=o++iP (l.drop i) y c/\EP H v G o /\
  e=[(1,.q0 y),(5,v),(6,.q0 c),(9,.seq 1 f (br l)),(10,.q0 (ae l:Int)),(11,.q0 (i:Int))]) ⟨0,0,[],.nil,aD,rfl,rfl,aR,rfl,.nil,rfl⟩ ?_;rintro n _ G ⟨i,c,o,v,S,U,F,D,h,q,rfl⟩;have r:=E.getD i;have V:=FJ r I;simp only[B30] at r D;have k:(ah:Int)=0:=rfl;by_cases z:(i:Int) < ae l
 .have m:=NY (x:=l) (y:=y) (c:=c) (i:=i) aD;generalize C:af l i 0*y=p at *;have A:au .i64 ((i:Int)+1)=((i+1:Nat):Int):=by rw[wrap_i64 aD aD];rfl
  have M:au .i64 p=p:=wrap_i64 aD aD;have N:au .i64 (c+p)=c+p:=wrap_i64 aD aD;have J:(c+p).tmod 1073741824=(c+p) % 1073741824:=ajn aD;have L:au .i64 ((c+p).tdiv 1073741824)=(c+p) / 1073741824:=by rw[ai6 aD,wrap_i64 aD aD]
  have ⟨s,t,w,a,K,X,W⟩:=q.app aD ((c+p) % 1073741824);simp only[go_sem,↓reduceIte,z,k,C,M,N,J,L,w,A];exact ⟨aD,aR,aR,ae l - (i+1),aD,i+1,(c+p) / 1073741824,o++[(c+p) % 1073741824],s,aD,rfl,by simp[F],by simp only[B30];omega,by rw[h,m];simp[B30],a,rfl⟩
 .have g:i=ae l:=aD;have ⟨s,t,w,a,K,X,W⟩:=q.app aD c;refine Y2 z w ?_;rw[h,g,aiZ,iP];generalize B:o++[c]=O at *;have b:ae O=ae l+1:=by rw[<-B];simp;omega
  cases a with
  | nil=>simp at b
  | sl R =>
   rename_i j;have:j=ae l:=aD;subst this;exact dJ (Wk1.refl _)
def fW:List Int->(Int->Bool)->Int
 | [],_ => -1
 | a::r,g=>if g a=aq then 0 else if fW r g < 0 then -1 else fW r g+1
def Db (l:List Int) (g:Int->Bool):-1<=fW l g/\fW l g < ae l:=by
 induction l with
 | nil=>simp[fW]
 | cons a r h =>
  simp only[fW,aiF];split
  .omega
  .split<;>omega
def OR {l:List Int} {g:Int->Bool} {j:Nat} (y:j < ae l) (h:g (af l j 0)=aq) (x:∀i,i < j->g (af l i 0)=ar):fW l g=j:=by
 induction l generalizing j with
 | nil=>simp at y
 | cons a r z =>
  cases j with
  | zero=>simp at h;simp[fW,h]
  | succ j =>
   have k:=x 0 aD;simp at k h y;have:=z (j:=j) aD (by simpa[af] using h) (fun i w=>by have:=x (i+1) aD;simpa using this);simp only[fW];rw[ah0 (by simp[k]),this,ah0 aD];omega
def QW (k:∀i,i < ae l->g (af l i 0)=ar):fW l g = -1:=by
 induction l with
 | nil=>rfl
 | cons a r y =>
  have h:=k 0 aO;simp at h;simp only[fW];rw[ah0 (by simp[h]),y (fun i x=>by have:=k (i+1) (by simpa using x);simpa using this)];rfl
def IZ (h:0<=fW l g):g (af l (az (fW l g)) 0)=aq/\∀i,i < az (fW l g)->g (af l i 0)=ar:=by
 induction l with
 | nil=>simp[fW] at h
 | cons a r b =>
  simp only[fW] at h ⊢;split
  .rename_i k;exact ⟨bu k,fun i y=>by simp at y⟩
  .rename_i k;rw[ah0 k] at h;split
   .rename_i x;rw[ah1 x] at h;omega
   .rename_i x;have ⟨z,w⟩:=b aD;have e:az (fW r g+1)=az (fW r g)+1:=aD;rw[e];refine ⟨bu z,fun i y=>?_⟩;cases i with
    | zero=>simpa using k
    | succ i=>simpa using w i aD
def Fu {H:aF} {v:AV} {l:List Int} {f:FuncId} {k:List AV} {g:Int->Bool} (h:SlV H 1 v (l.map cN)) (W:ae l < 1000000)
  (m:∀x,x∈l->bR prog f (.q0 x::k) H (.v0 (g x)) H):bR prog 153 [v,.fn f [] k] H (.q0 (fW l g)) H:=by
 refine cw func153 ?_;have t:∀K,gH v K=K (.q0 (ae l:Int)):=fun K=>by rw[h.fN,ah3]
 refine Z ?_;refine aZ (fun n e j=>∃c,c<=ae l/\n=ae l - c/\H=j/\(∀i,i < c->g (af l i 0)=ar) /\
  e=[(0,v),(1,.fn f [] k),(7,.q0 (ae l:Int)),(8,.q0 (c:Int))]) (n:=ae l) ⟨0,aiL _,rfl,rfl,fun i o=>aD,rfl⟩ ?_;rintro n _ _ ⟨c,X,rfl,rfl,z,rfl⟩;by_cases q:(c:Int) < (ae l:Int)
 .have y:c < ae l:=aD;have ⟨p,A,B⟩:=h.read (et y);have s:=ws c;have r:af l c 0∈l:=by
   have:af l c 0=l[c]:=by simp[af,y]
   rw[this];exact ajj y
  refine Z ?_;refine dS (m _ r) ?_;cases b:g (af l c 0) with
  | true =>
   refine Z ?_;rw[OR y b z];exact dJ (Wk1.refl _)
  | false =>
   refine Z ?_;refine ⟨ae l - (c+1),aD,c+1,y,rfl,?_,rfl⟩;intro i o;rcases aij i c with a | a
   .exact z i a
   .rw[show i=c by omega];exact b
 .have w:c=ae l:=aD;subst w;refine Z ?_;rw[QW z];exact dJ (Wk1.refl _)
def Tab.fh (T:Tab) (k:Nat) (c:Nat):Int:=(aC c).foldl (fun b i=>if 0<=b then b else if T.du (af T.aT i 0)=aq/\(af (af T.cells i []) (k+1) ah).top≠0 then (i:Int) else b) (-1)
def Tab.qz (T:Tab) (k:Nat):Tab:=if (T.n:Int)<=af T.out k 0 then T else if T.fh k (ae T.cells) < 0 then T else T.dt (az (T.fh k (ae T.cells))) k
def Tab.eb (T:Tab) (c:Nat):Tab:=(aC c).foldl Tab.qz T
def Tab.yx (T:Tab):Tab:=T.eb (ae T.out)
def zK (T:Tab) (k c:Nat):T.fh k (c+1)=if 0<=T.fh k c then T.fh k c else if T.du (af T.aT c 0)=aq/\(af (af T.cells c []) (k+1) ah).top≠0 then (c:Int) else T.fh k c:=by unfold Tab.fh;rw[ajK,akN];rfl
def xU (T:Tab) (c:Nat):T.eb (c+1)=(T.eb c).qz c:=by unfold Tab.eb;rw[ajK,akN];rfl
def M3 {T:Tab} {k c d:Nat} (h:0<=T.fh k c):T.fh k (c+d)=T.fh k c:=by
 induction d with
 | zero=>rfl
 | succ d x=>rw[<-ajf,zK,x,ah1 h]
def lH (T:Tab) (i k:Nat):(T.dt i k).out.length=ae T.out:=by simp[Tab.dt]
def Fo (T:Tab) (c:Nat):(T.eb c).out.length=ae T.out:=by
 induction c with
 | zero=>rfl
 | succ c h =>
  rw[xU];unfold Tab.qz;split
  .exact h
  .split
   .exact h
   .rw[lH];exact h
def M5 (s:∀c,fQ (T.eb c)) (h:ck H t D T) :
  cR prog 128 [.ptr t 0 0 0] H fun v H'=>v = .bM []/\∃D',ck H' t D' T.yx/\bK H H' t D D':=by
 refine qw func128 ?_;have hT:=aK h.bF;have I:∀K,gH D.vo K=K (.q0 (ae T.out:Int)):=fun K=>by rw[h.out.cZ.fN,ah3]
 refine Z ?_;refine aZ (fun n e B=>∃c z,c<=ae T.out/\n=ae T.out - c/\ck B t z (T.eb c)/\bK H B t D z /\
  e=[(0,.ptr t 0 0 0),(9,.q0 (ae T.out:Int)),(10,.q0 (c:Int))]) (n:=ae T.out) ⟨0,D,aiL _,rfl,h,bK.refl _ _ _,rfl⟩ ?_;clear h hT I;have X:=(s 0).wl;rintro n _ A ⟨c,z,hc,rfl,h,C,rfl⟩;have jz:=Fo T c;have U:=xU T c;have o:=s c;generalize J:T.eb c=y at *;have X:ae T.out < 999999:=X;have R:=o.nl;have S:=o.rl;have L:=o.bl;have a4:=o.ml;have hT:∀K,bk A t 0 K=K ⟨6,0,[[.q0 (y.n:Int),z.rv,z.vb,z.vo,z.vc,z.vg]]⟩:=aK h.bF;have a1:∀K,gH z.vb K=K (.q0 (ae y.cells:Int)):=fun K=>by rw[h.aT.cZ.fN,ah3,L]
 by_cases a3:(c:Int) < (ae T.out:Int)
 .have r:c < ae y.out:=aD;have ⟨p,p1,p2⟩:=h.out.cZ.read (et r);have e1:=ws c;have next:∀(G:aF) (W:bD) (E:Tab),E=y.qz c->ck G t W E->bK H G t D W->∃m,m < ae T.out - c/\∃f z,f<=ae T.out/\m=ae T.out - f/\ck G t z (T.eb f)/\bK H G t D z /\
    ([(0,.ptr t 0 0 0),(9,.q0 (ae T.out:Int)),(10,.q0 ((c+1:Nat):Int))]:Env)=[(0,.ptr t 0 0 0),(9,.q0 (ae T.out:Int)),(10,.q0 (f:Int))] :=
   fun G W E q F h3=>⟨ae T.out - (c+1),aD,c+1,W,aD,rfl,by rw[U,<-q];exact F,h3,rfl⟩
  by_cases hv:(y.n:Int)<=af y.out c 0
  .refine Z ?_;exact next _ z _ (by unfold Tab.qz;rw[ah1 hv]) h C
  .refine Z ?_;refine aZ (fun m e B=>∃i,i<=ae y.cells/\m=ae y.cells - i/\A=B/\y.fh c i < 0 /\
    e=[(0,.ptr t 0 0 0),(2,.q0 (c:Int)),(9,.q0 (ae T.out:Int)),(10,.q0 (c:Int)),(28,z.vb),(29,.q0 (ae y.cells:Int)),(30,.q0 (i:Int))]) (n:=ae y.cells)
    ⟨0,aiL _,rfl,rfl,by simp[Tab.fh],rfl⟩ ?_;rintro m _ _ ⟨i,hi,rfl,rfl,hf,rfl⟩;by_cases a2:(i:Int) < (ae y.cells:Int)
   .have a:i < ae y.cells:=aD;obtain ⟨p3,q1,q2⟩:=h.aT.cZ.read (et (show i < ae y.aT by omega));have V:=ws i;have g:=zK y c i;rw[ah0 (by omega)] at g;have w:y.fh c (i+1) < 0->∃m,m < ae y.cells - i/\∃j,j<=ae y.cells/\m=ae y.cells - j/\A=A/\y.fh c j < 0 /\
      ([(0,.ptr t 0 0 0),(2,.q0 (c:Int)),(9,.q0 (ae T.out:Int)),(10,.q0 (c:Int)),(28,z.vb),(29,.q0 (ae y.cells:Int)),(30,.q0 ((i+1:Nat):Int))]:Env) =
      [(0,.ptr t 0 0 0),(2,.q0 (c:Int)),(9,.q0 (ae T.out:Int)),(10,.q0 (c:Int)),(28,z.vb),(29,.q0 (ae y.cells:Int)),(30,.q0 (j:Int))] :=
     fun q=>⟨ae y.cells - (i+1),aD,i+1,a,rfl,rfl,q,rfl⟩;simp only[go_sem] at w;refine Z ?_;refine dS (wm h R S) ?_;cases hs:y.du (af y.aT i 0) with
    | false =>
     refine Z1 V ?_;exact w (by rw[g,hs];simp;omega)
    | true =>
     have ek:=e1;have N:(z.aV.map fun v=>[v])[i]?=ak [af z.aV i .ba]:=by simp[af,show i < ae z.aV by rw[h.cl];exact a]
     have ⟨p4,r1,r2⟩:=h.cells.cZ.read N;have a0:=o.row i a;have ⟨p5,s1,s2⟩:=(h.rws i a).read (i:=c+1) (iW aD);generalize hx:af (af y.cells i []) (c+1) ah=x at *;refine Z ?_;refine aH (j9 x) (by simp[bE]) rfl ?_;by_cases b:x.top=0
     .have l:(x.top.sign=0)=True:=by rw[qM];exact aiq b
      refine Z2 l V ?_;exact w (by rw[g,b];simp;omega)
     .have l:(x.top.sign=0)=False:=by rw[qM];exact aie b
      refine Z ?_;refine cQ (zY h o (i:=i) (k:=c) a r (by rw[hx];exact b)) ?_;rintro _ H5 ⟨rfl,D5,t5,o5⟩;refine Z ?_;refine next _ D5 _ ?_ t5 (C.trans o5)
      have q:y.fh c (i+1)=i:=by rw[g,hs];simp[b]
      have F:y.fh c (ae y.cells)=i:=by have:=M3 (T:=y) (k:=c) (c:=i+1) (d:=ae y.cells - (i+1)) aD;rw[show i+1+(ae y.cells - (i+1))=ae y.cells by omega] at this;rw[this,q]
      unfold Tab.qz;rw[ah0 hv,F,ah0 (by omega),ah9]
   .have O:i=ae y.cells:=aD;subst O;refine Z ?_;exact next _ z _ (by unfold Tab.qz;rw[ah0 hv,ah1 hf]) h C
 .have M:c=ae T.out:=aD;subst M;refine Z ?_;exact ⟨z,by unfold Tab.yx;rw[J];exact h,C⟩
def gk (h:bR P f args H r H) (k:K r H):nF P .aY f args H K:=⟨r,h,k⟩
def qH {α γ:Type} {f:α->γ} {l:List α} {i:Nat}:aB (l.map f) i=(aB l i).map f:=by apply akZ;intro j;simp only[am5,ajp];split<;>rfl
def Tab.jT (T:Tab) (i:Nat) (v:Int):Bool:=decide (v < (T.n:Int)) && !decide ((af (af T.cells i []) (az (da T.out v+1)) ah).top=0)
def Tab.yu (T:Tab) (i:Nat):Int:=fW T.out (T.jT i)
def R3 {i:Nat} (h:ck H t D T) (l:fQ T) (m:aI H x 0=ak ⟨1,0,[[.ptr t 0 0 0]]⟩) (q:aI H b 0=ak ⟨1,0,[[.q0 (i:Int)]]⟩) (a:i < ae T.cells) (v:Int) :
  bR prog 154 [.q0 v,.ptr x 0 0 0,.ptr b 0 0 0] H (.v0 (T.jT i v)) H:=by
 refine cw func154 ?_;have c:=aK h.bF;have p:=aK q;have e:=aK m;have r:=l.wl;by_cases hv:v < (T.n:Int)
 .have w:(D.aV.map fun v=>[v])[i]?=ak [af D.aV i .ba]:=by simp[af,show i < ae D.aV by rw[h.cl];exact a]
  have ⟨C,s,K⟩:=h.cells.cZ.read w;have ⟨A,B⟩:=tN T.out v;have g:=l.row i a;obtain ⟨j,f⟩:∃j:Nat,da T.out v+1=(j:Int):=⟨az (da T.out v+1),aD⟩;have o:au .i64 (da T.out v+1)=(j:Int):=by rw[wrap_i64 aD aD];exact f
  have ⟨E,X,W⟩:=(h.rws i a).read (i:=j) (iW aD);have z:T.jT i v = !decide ((af (af T.cells i []) j ah).top=0):=by unfold Tab.jT;rw[f,ah9];simp[hv]
  generalize m:af (af T.cells i []) j ah=x at *;refine Z6 e c hv p s K ?_;refine gk (vV h.out.cZ aD) ?_;refine Z3 o X W ?_;refine aH (j9 x) (by simp[bE]) rfl ?_;by_cases y:x.top=0
  .have k:(x.top.sign=0)=True:=by rw[qM];exact aiq y
   refine Z1 k ?_;rw[z,y];exact dJ (Wk1.refl _)
  .have k:(x.top.sign=0)=False:=by rw[qM];exact aie y
   refine Z1 k ?_;have:T.jT i v=aq:=by rw[z];simp[y]
   rw[this];exact dJ (Wk1.refl _)
 .refine Z3 e c hv ?_;have:T.jT i v=ar:=by unfold Tab.jT;simp[hv]
  rw[this];exact dJ (Wk1.refl _)
def Slot.sk (i:Nat):Slot->Slot
 | .r j => .r (if j < i then j else j+1)
 | s=>s
def Slot.Ah {i:Nat} {s s':Slot} (h:s.sk i=s'.sk i):s=s':=by cases s<;>cases s'<;>simp only[Slot.sk,Slot.r.injEq,reduceCtorEq] at h ⊢;split at h<;>split at h<;>omega
def Tab.del (T:Tab) (i:Nat):Tab:={T with aT:=aB T.aT i,cells:=aB T.cells i}
def getD_erase {α:Type} {l:List α} {i j:Nat} {d:α}:af (aB l i) j d=if j < i then af l j d else af l (j+1) d:=by simp only[af,am5];split<;>rfl
def ck.Yz (h:ck H t D T) (l:i < ae T.cells) (F:ae T.aT=ae T.cells)
  (W:D.vb = .sl 1 y k 0 (ae T.aT)) (A:D.vc = .sl 1 z cver 0 (ae T.cells))
  (I:aI H' t 0=ak ⟨6,0,[[.q0 (T.n:Int),D.rv,.sl 1 y k 0 (ae T.aT - 1),D.vo,.sl 1 z cver 0 (ae T.cells - 1),D.vg]]⟩)
  (m:aI H' y k=ak ⟨1,k,aB (T.aT.map cN) i++M::K⟩) (p:aI H' z cver=ak ⟨1,cver,aB (D.aV.map fun v=>[v]) i++N::X⟩) (f:aL H H' [t,y,z]) :
  ck H' t {D with vb := .sl 1 y k 0 (ae T.aT - 1),vc := .sl 1 z cver 0 (ae T.cells - 1),aV:=aB D.aV i} (T.del i):=by
 have J:y∈aG (D.v .b):=by simp only[bD.v,W];simp[aG]
 have L:z∈aG (D.v .c):=by simp only[bD.v,A];simp[aG]
 have a:=h.cl;have cK:∀s,s ≠ .b->s ≠ .c->∀w,w∈aG (D.v s)->w∉[t,y,z]:=by
  intro s C E w x B;simp at B;rcases B with rfl | rfl | rfl
  .exact h.top s x
  .exact h.sep s .b C _ x J
  .exact h.sep s .c E _ x L
 have hv:∀s,aG (({D with vb := .sl 1 y k 0 (ae T.aT - 1),vc := .sl 1 z cver 0 (ae T.cells - 1),aV:=aB D.aV i}:bD).v s)=aG (D.v (s.sk i)):=by
  intro s;cases s with
  | b=>simp only[bD.v,W,Slot.sk];rfl
  | o=>rfl
  | c=>simp only[bD.v,A,Slot.sk];rfl
  | g=>rfl
  | r j=>simp only[bD.v,getD_erase,Slot.sk];split<;>rfl
 refine ⟨I,h.aU.aQ f (fun w x=>by rw[h.lI] at x;simp at x),h.lI,.inr ⟨y,k,?_,M::K,?_⟩,h.out.aQ f (cK .o aO aO),.inr ⟨z,cver,?_,N::X,?_⟩,?_,fun j e=>?_,h.aM.aQ f (cK .g aO aO),⟨fun j e=>?_,h.live.2⟩,fun s=>?_,fun s O q w x=>?_⟩
 .simp only[Tab.del,ah3,aiP (show i < ae T.aT by omega)]
 .simp only[Tab.del];rw[<-qH];exact m
 .simp only[ah3,aiP (show i < ae D.aV by omega),a]
 .simp only;rw[<-qH];exact p
 .simp only[Tab.del];rw[aiP (by omega),aiP l,a]
 .simp only[Tab.del] at e ⊢;rw[aiP l] at e;rw[getD_erase,getD_erase];split
  .exact (h.rws j aD).aQ f (cK (.r j) aO aO)
  .exact (h.rws (j+1) aD).aQ f (cK (.r (j+1)) aO aO)
 .simp only[Tab.del] at e ⊢;rw[aiP l] at e;rw[getD_erase,getD_erase];split
  .exact h.live.1 j aD
  .exact h.live.1 (j+1) aD
 .rw[hv];exact h.top _
 .rw[hv] at x ⊢;exact h.sep _ _ (fun G=>q (Slot.Ah G)) w x
def Th (l:List Int):∃k,l=cH l++aA k 0:=by
 induction c:ae l using Nat.strongRecOn generalizing l with
 | _ n b =>
  by_cases h:af l (ae l - 1) 0=0
  .by_cases w:0 < ae l
   .have a:=lL w h;have ⟨k,y⟩:=b (ae (l.take (ae l - 1))) bW (l.take (ae l - 1)) rfl;refine ⟨k+1,?_⟩;rw[a] at y;have z:l.drop (ae l - 1)=[0]:=by
     rw[ail (by omega:ae l - 1 < ae l),aih (by omega)];have:l[ae l - 1]=af l (ae l - 1) 0:=by simp[af,show ae l - 1 < ae l by omega]
     rw[this,h]
    have x:l=l.take (ae l - 1)++l.drop (ae l - 1):=(ajW _ _).symm;rw[z,y,aio] at x;rw[alQ];exact x
   .have:l=[]:=aiA aD;subst this;exact ⟨0,rfl⟩
  .exact ⟨0,by rw[rJ h];simp⟩
def Oi (h:DK l):vl (cH l)=vl l/\DK (cH l)/\cH (cH l)=cH l:=by have k:=dU h;rw[oK h,uS];have:=lZ (az (vl l));exact ⟨aD,this.2,rfl⟩
def Ui {H:aF} {id ver o n:Nat} {pre W tl:List Int} {K:AV->aF->Prop} (b:aI H id ver=ak ⟨1,ver,br (pre++W++tl)⟩) (x:o=ae pre) (y:n=ae W) (z:0 < ae W) (w:ae W<=4294967296) :
  j4 1 (.seq 1 aq []) (.sl 1 id ver o n) H K=K (.sl 1 (ae H) 0 0 (ae W)) (H++[ak ⟨1,0,br W⟩]):=by
 subst x y;have h:dW 1 H (.sl 1 id ver (ae pre) (ae W))=ak (br W):=by simp only[dW,b,aix];rw[ah1 aO];congr 1;rw[<-alv,<-akQ,aio,akV,List.take_left]
 have k:il 1 H (.seq 1 aq []) (br W)=ak (.sl 1 (ae H) 0 0 (ae W),H++[ak ⟨1,0,br W⟩]):=by
  cases W with
  | nil=>simp at z
  | cons a r =>
   show (if 1=1/\ae []+ae (br (a::r))<=4294967296 then ak (AV.sl 1 (ae H) 0 0 (ae []+ae (br (a::r))),H++[ak ⟨1,0,[]++br (a::r)⟩]) else an)=_;rw[ah1 (by simp at w ⊢;omega)];simp
 simp only[j4,h,aix,k,oI]
def Ra (n v:Nat) (l:List Int):cg n (ak ⟨1,v,br l⟩)=aq:=by unfold cg;simp[br,cN,bp]
def lC (L R:List Int) (j:Nat):List Int:=(R.drop j).take (ae L+1)
def uu (L R:List Int) (j:Nat):List Int:=R.take j++nz (lC L R j) (iP L (vl (lC L R j) / vl L) 0) 0++R.drop (j+ae L+1)
def sI (L:List Int):Nat->List Int->List Int × List Int
 | 0,R=>([],R)
 | j+1,R=>((sI L j (uu L R j)).1++[vl (lC L R j) / vl L],(sI L j (uu L R j)).2)
def YD {A at_ n cnt:Nat} {R Q L:List Int} {s e:Int} {K:cx} {M:Env} (S:ae R=A+1) (O:DK R) (X:DK L) (hn:ae L=n) (a0:0 < n) (hb:at_+n < A+1) (hA:A < 2000000000) (V:at_ < ae Q) (f:cnt=ae Q)
  (C:0<=e/\e < B30) (t:vl (lC L R at_) < (e+1)*vl L) (z:0 < vl L)
  (hq:∀g,K .normal [(4,.sl 1 1 0 0 cnt),(8,.q0 s),(9,.sl 1 0 A 0 (A+1)),(10,.seq 1 ar (br L)),(11,.q0 (n:Int)),(12,.q0 (at_:Int))]
   (ak ⟨1,A,br (uu L R at_)⟩::ak ⟨1,0,br (Q.set at_ (vl (lC L R at_) / vl L))⟩::g)) :
  WP prog 137 oy K ((4,.sl 1 1 0 0 cnt)::(8,.q0 s)::(9,.sl 1 0 A 0 (A+1))::(10,.seq 1 ar (br L))::(11,.q0 (n:Int))::(12,.q0 (at_:Int))::(13,.q0 e)::M)
   [ak ⟨1,A,br R⟩,ak ⟨1,0,br Q⟩]:=by
 refine uz ?_;subst hn f;have p:ae (lC L R at_)=ae L+1:=by simp[lC];omega
 have w:DK (lC L R at_):=(O.drop _).take _;have o:R=R.take at_++lC L R at_++R.drop (at_+ae L+1):=by unfold lC;rw[aio,show at_+ae L+1=at_+(ae L+1) by omega,<-ajo,ajW,ajW]
 have i:∀g,aI (ak ⟨1,A,br R⟩::g) 0 A=ak ⟨1,A,br (R.take at_++lC L R at_++R.drop (at_+ae L+1))⟩:=fun g=>by rw[<-o];simp[aI]
 have a1:ae (R.take at_)=at_:=bW;generalize T:lC L R at_=W at *;have U:=dU w;refine Y ?_;refine ym 2 (fun k m H=>∃x:Int,0<=x/\x < B30/\k=az x/\vl W < (x+1)*vl L/\H=[ak ⟨1,A,br R⟩,ak ⟨1,0,br Q⟩]/\m=[(4,.sl 1 1 0 0 (ae Q)),(8,.q0 s),(9,.sl 1 0 A 0 (A+1)),(10,.seq 1 ar (br L)),(11,.q0 (ae L:Int)),(12,.q0 (at_:Int)),(13,.q0 x)])
  (fun m H=>∃g,H=ak ⟨1,A,br (uu L R at_)⟩::ak ⟨1,0,br Q⟩::g/\m=[(4,.sl 1 1 0 0 (ae Q)),(8,.q0 s),(9,.sl 1 0 A 0 (A+1)),(10,.seq 1 ar (br L)),(11,.q0 (ae L:Int)),(12,.q0 (at_:Int)),(13,.q0 (vl W / vl L))])
  (n:=az e) (by rintro k m H ⟨x,_,_,_,_,rfl,_⟩;rfl) ⟨e,C.1,C.2,rfl,t,rfl,rfl⟩ ?_ ?_
 .rintro k _ _ ⟨x,j,b,rfl,v,rfl,rfl⟩;have ⟨s1,G⟩:=tp L (y:=x) (c:=0) X ⟨j,b⟩ aR;have s3:=wh L x 0;have ⟨t1,t2,t3⟩:=Oi G;have ⟨u1,u2,u3⟩:=Oi w;have ⟨kk,r⟩:=Th W;have a2:=xK W;have D:=xK (iP L x 0);have I:au .i64 ((at_:Int)+ae L)=((at_+ae L:Nat):Int):=by rw[wrap_i64 (by omega) (by omega)];rfl
  have J:au .i64 (((at_+ae L:Nat):Int)+1)=((at_+ae L+1:Nat):Int):=by rw[wrap_i64 (by omega) (by omega)];rfl
  refine Y ?_;refine cY (Oo L x (by omega) X ⟨j,b⟩ ar) ?_;refine cX (X3 (iP L x 0) (by omega) ar) ?_;refine Y2 I J ?_;rw[lS (h:=at_+ae L+1) (l:=at_) (by simp[bL,Opd.ev,lk,intOf?];omega) (by simp[bL,Opd.ev,lk,intOf?];omega)];refine Y ?_;rw[Ui (i _) (by omega) (by omega) (by omega) (by omega)];refine Y ?_;refine gk (XN (H:=[ak ⟨1,A,br R⟩,ak ⟨1,0,br Q⟩]++[ak ⟨1,0,br W⟩]) (id:=2) (ver:=0) (l:=W) (tl:=[]) (by simp[aI]) rfl aD) ?_;refine Y ?_;refine gk (QD (RdV.seq _ ar (cH (iP L x 0))) (RdV.win (pre:=[]) (l:=cH W) (tl:=aA kk 0) (by rw[aiy,<-r];simp[aI]) rfl rfl) aD aD t2 u2 t3 u3) ?_;rw[t1,u1,s1,ajG];by_cases B:vl L*x<=vl W
  .have a:((vl L*x - vl W).sign<=0)=True:=aiq (by rw[<-ali,amV];omega);refine Y3 I J a ?_;have E:x=vl W / vl L:=by have e1:=ajL (vl W) (vl L);have e2:=ajZ (vl W) (by omega:vl L≠0);have e3:=ajA (vl W) z;refine Int.le_antisymm (anc z (by rw[ai2];exact B)) ?_;have:=ajX z v;omega
   have N:uu L R at_=R.take at_++nz W (iP L x 0) 0++R.drop (at_+ae L+1):=by rw[E];unfold uu;rw[T]
   rw[lS (h:=at_+ae L+1) (l:=at_) (by simp[bL,Opd.ev,lk,intOf?];omega) (by simp[bL,Opd.ev,lk,intOf?];omega)];refine Y ?_;refine dS (L9 (by simp[Ra]) (RdV.win (i _) aD aD) (RdV.seq _ ar (iP L x 0)) aD aD w G) ?_;refine Y ?_;rw[lS (h:=A+1) (l:=at_) (by simp[bL]) (by simp[bL,Opd.ev,lk,intOf?];omega)];refine Y ?_;rw[W5 (xs:=br R) (by simp[aI]) (by simp;omega) (by simp[CA];omega)];have q:(br R).take (0+at_)++br (nz W (iP L x 0) 0)++(br R).drop (0+at_+ae (br (nz W (iP L x 0) 0)))=br (uu L R at_):=by rw[N,br,br,br,aii,aii,ah3,CA,p,aia,akQ,alv,ajf]
   rw[q];simp only[go_sem,↓reduceIte,akt];exact ⟨[ak ⟨1,0,br W⟩],rfl,by rw[E]⟩
  .have a:((vl L*x - vl W).sign<=0)=False:=aie (by rw[Int.not_le,amV];omega);have F:1<=x:=by
    rcases ajQ x 1 with h | h
    .have:x=0:=aD;subst this;simp at B;omega
    .exact h
   have w3:au .i64 (x - 1)=x - 1:=by simp only[B30] at b;exact wrap_i64 aD aD
   refine Y2 a w3 ?_;refine ⟨az (x - 1),aD,by simp[cN,bp],rfl,x - 1,aD,aD,rfl,?_,rfl⟩;rw[Int.sub_add_cancel,ai2];omega
 .rintro _ _ ⟨g,rfl,rfl⟩;refine Y ?_;rw[aia];exact ⟨aD,aD,hq g⟩
end
def ma (j:Nat):vl l=vl (l.take j)+B30 ^ ae (l.take j)*vl (l.drop j):=by
 have:=tV (l.take j) (l.drop j)
 rwa [ajW] at this
def HQ (k:DK l) (h:vl l < B30 ^ n):vl (l.drop n)=0:=by
 have z:=dU (k.drop n);rcases aij n (ae l) with x | x
 .have e:=ma (l:=l) n;rw[aiG,aiQ aD] at e;have w:=dU (k.take n);have a:=lq n;rcases ajQ 0 (vl (l.drop n)) with y | y
  .exfalso;have:B30 ^ n*1<=B30 ^ n*vl (l.drop n):=aip aD aD;omega
  .omega
 .rw[aih x];rfl
def Pd (z:DK R) (H:DK L) (x:0 < vl L) (S:j+ae L < ae R) (X:vl (R.drop (j+1)) < vl L) :
  vl (lC L R j) < B30*vl L/\(0<=vl (lC L R j) / vl L/\vl (lC L R j) / vl L < B30)/\DK (uu L R j)/\ae (uu L R j)=ae R/\vl ((uu L R j).drop j) < vl L /\
   vl R=vl (uu L R j)+B30 ^ j*(vl (lC L R j) / vl L*vl L):=by
 have h:ae (lC L R j)=ae L+1:=by simp[lC];omega
 have w:DK (lC L R j):=(z.drop _).take _;have p:=dU w;have T:=z.getD j;have N:vl (R.drop j)=af R j 0+B30*vl (R.drop (j+1)):=by rw[ail (by omega:j < ae R),vl];simp[af,show j < ae R by omega]
 have m:=ma (l:=R.drop j) (ae L+1);have G:(R.drop j).take (ae L+1)=lC L R j:=rfl;rw[G,h,ajo] at m;have I:=yI H;have s:vl (R.drop (j+(ae L+1)))=0:=by
  have:=HQ (n:=ae L) (z.drop (j+1)) aD
  rwa [ajo,show j+1+ae L=j+(ae L+1) by omega] at this
 rw[s,ajM,ajG] at m;have D:B30*vl (R.drop (j+1))<=B30*(vl L - 1):=aip aD aR;rw[aks,aky] at D;have q:vl (lC L R j) < B30*vl L:=aD;generalize J:lC L R j=W at *;generalize i:vl W / vl L=e;have f:=i ▸ ajY p aD;have g:=i ▸ ajX x q;have E:=ajL (vl W) (vl L);have O:=ajZ (vl W) (by omega:vl L≠0);have P:=ajA (vl W) x;rw[i] at E;have ⟨A,M⟩:=tp L (y:=e) (c:=0) H ⟨f,g⟩ aR;rw[ajG] at A;have ⟨r,C⟩:=DS (a:=W) (b:=iP L e 0) (c:=0) w M aR (by rw[wh,h];omega) aD;rw[A,aml] at r;have K:uu L R j=R.take j++nz W (iP L e 0) 0++R.drop (j+ae L+1):=by unfold uu;rw[J,i]
 have k:ae (R.take j)=j:=bW;have o:(uu L R j).drop j=nz W (iP L e 0) 0++R.drop (j+(ae L+1)):=by grind
 have B:vl ((uu L R j).drop j)=vl W - vl L*e:=by rw[o,tV,r,s,ajM,ajG]
 refine ⟨q,⟨f,g⟩,?_,?_,by rw[B];omega,?_⟩
 .rw[K];exact ((z.take j).append C).append (z.drop _)
 .rw[K];simp only[ain,k,CA,h,akG];omega
 .have t:=ma (l:=R) j;have v:=ma (l:=uu L R j) j;have F:(uu L R j).take j=R.take j:=by grind
  rw[F,k,B] at v;rw[k,m] at t;rw[t,v,aks,ai2 e];omega
def MV (z:DK L) (k:0 < vl L):∀(j:Nat) (R:List Int),DK R->j+ae L<=ae R->vl (R.drop j) < vl L ->
  vl R=vl (sI L j R).1*vl L+vl (sI L j R).2/\vl (sI L j R).2 < vl L/\DK (sI L j R).1/\DK (sI L j R).2/\(sI L j R).1.length=j/\(sI L j R).2.length=ae R
 | 0,R,x,_,h=>by simp only[sI,vl,Int.zero_mul,Int.zero_add];exact ⟨trivial,bu h,.nil,x,rfl,trivial⟩
 | j+1,R,x,o,h=>by have ⟨n,w,a,b,c,e⟩:=Pd x z k (j:=j) aD h;have ⟨f,g,i,l,y,m⟩:=MV z k j (uu L R j) a aD c;simp only[sI];refine ⟨?_,g,i.append (.cons w .nil),l,by simp[y],by rw[m,b]⟩;rw[e,f,tV,y,ajB];simp only[vl,ajM,ajG,aiI];omega
def Uy {L W:List Int} {n:Nat} (g:DK L) (k:DK W) (r:ae L=n+1) (j:ae W=n+2) (m:0 < af L n 0) :
  vl W < ((af W (n+1) 0*1073741824+af W n 0) / af L n 0+1)*vl L:=by
 have h:=qR (l:=W) (i:=n) aD;have z:=qR (l:=L) (i:=n) aD;have a:L.drop (n+1)=[]:=aih aD;have b:W.drop (n+1)=[af W (n+1) 0]:=by rw[ail (by omega:n+1 < ae W),aih (by omega)];simp[af,show n+1 < ae W by omega]
 rw[a] at z;rw[b] at h;simp only[vl,ajM,ajG] at h z;have c:=yI (k.take n);rw[aiG,aiQ (by omega)] at c;have o:=dU (g.take n);have s:=lq n;have g1:=k.getD n;have g2:=k.getD (n+1);have w:(af W n 0+B30*af W (n+1) 0)=af W (n+1) 0*1073741824+af W n 0:=by simp only[B30];omega
 rw[w] at h;generalize af W (n+1) 0*1073741824+af W n 0=x at *;have p:=Int.lt_ediv_add_one_mul_self x m;have y:0<=x:=by rw[<-w];simp only[B30];omega
 have t:0<=x / af L n 0:=ajY y aD;generalize x / af L n 0=q at *;have e:B30 ^ n*(x+1)<=B30 ^ n*((q+1)*af L n 0):=aip (by omega) (by omega);have f:(q+1)*(B30 ^ n*af L n 0)<=(q+1)*vl L:=aip (by omega) (by omega);rw[akA] at f;rw[aiR,aky] at e;omega
def gB (b:List Int):Int:=1073741824 / (af b (ae b - 1) 0+1)
def k8 (b:List Int):List Int:=(iP b (gB b) 0).take (ae b)
def IM (z:DK b) (a:cH b=b) (w:0 < ae b):0 < af b (ae b - 1) 0:=by
 have h:=z.getD (ae b - 1);rcases ajQ 0 (af b (ae b - 1) 0) with k | k
 .exact k
 .exfalso;have y:=lL w aD;have x:=xK (b.take (ae b - 1));rw[y,a] at x;simp at x;omega
def Kk (x:DK b) (B:cH b=b) (a:ae b=n+1) :
  (0 < gB b/\gB b < B30)/\B30 ^ n<=vl b/\vl (k8 b)=vl b*gB b/\DK (k8 b)/\ae (k8 b)=n+1/\0 < af (k8 b) n 0:=by
 have C:=IM x B aD;have p:=x.getD (ae b - 1);have o:gB b=1073741824 / (af b n 0+1):=by unfold gB;rw[a];rfl
 rw[a,show n+1 - 1=n by omega] at C p;have g:=qR (l:=b) (i:=n) aD;rw[aih aD] at g;simp only[vl,ajM,ajG] at g;have H:=yI (x.take n);rw[aiG,aiQ aD] at H;have G:=dU (x.take n);have J:=lq n;generalize D:af b n 0=t at *;simp only[B30] at p;have q:0 < gB b:=o ▸ Int.lt_of_lt_of_le (by decide:(0:Int) < 1) (anc aD aD);have F:gB b*(t+1)<=1073741824:=o ▸ Int.ediv_mul_le _ aD;have r:gB b < B30:=by have:gB b*2<=gB b*(t+1):=aip aD aD;simp only[B30];omega
 have E:B30 ^ n<=vl b:=by have:B30 ^ n*1<=B30 ^ n*t:=aip aD aD;omega
 have ⟨z,f⟩:=tp b (y:=gB b) (c:=0) x ⟨aD,r⟩ aR;rw[ajG] at z;have W:vl b*gB b < B30 ^ (n+1):=by have e:vl b*gB b < (B30 ^ n*(t+1))*gB b:=ald (by rw[aiR,aky];omega) q;have s:B30 ^ n*(gB b*(t+1))<=B30 ^ n*1073741824:=aip F aD;rw[aiI,ai2 (t+1)] at e;rw[aj1];exact Int.lt_of_lt_of_le e s
 have m:=ma (l:=iP b (gB b) 0) (n+1);have v:=HQ (n:=n+1) f (z ▸ W);rw[v,ajM,ajG,z] at m;have k:k8 b=(iP b (gB b) 0).take (n+1):=by unfold k8;rw[a]
 have w:DK (k8 b):=k ▸ f.take _;have A:ae (k8 b)=n+1:=by rw[k,aiG,wh];omega
 have hv:vl (k8 b)=vl b*gB b:=by rw[k,m]
 refine ⟨⟨q,r⟩,E,hv,w,A,?_⟩;have X:=w.getD n;rcases ajQ 0 (af (k8 b) n 0) with h | h
 .exact h
 .exfalso;have j:=qR (l:=k8 b) (i:=n) aD;rw[aih (by omega),show af (k8 b) n 0=0 by omega] at j;simp only[vl,ajM,ajG] at j;have K:=yI (w.take n);rw[aiG,aiQ aD] at K;have I:vl b*1<=vl b*gB b:=aip aD aD;omega
def Pc {a b:List Int} {n cnt:Nat} (x:DK a) (f:DK b) (j:cH b=b) (i:ae b=n+1) (g:cnt+n=ae a):vl ((iP a (gB b) 0).drop cnt) < vl (k8 b):=by have ⟨⟨o,p⟩,m,hv,s,t,H⟩:=Kk f j i;have ⟨h,z⟩:=tp a (y:=gB b) (c:=0) x ⟨aD,p⟩ aR;rw[ajG] at h;have e:=ma (l:=iP a (gB b) 0) cnt;rw[h,aiG,wh,aiQ aD] at e;have q:=dU (z.take cnt);have k:=yI x;rw[<-g,amA] at k;have v:=lq cnt;have w:=ald k o;have r:B30 ^ cnt*(B30 ^ n*gB b)<=B30 ^ cnt*(vl b*gB b):=aip (aik m aD) aD;rw[aiI] at w;rw[hv];exact amK (a:=B30 ^ cnt) aD aD
def dvd (a b:List Int):List Int × List Int :=
 if ae b=1 then ((jt a (af b 0 0)).1,[(jt a (af b 0 0)).2]) else if vl a < vl b then ([],a) else
 ((sI (k8 b) (ae a+1 - ae b) (iP a (gB b) 0)).1,(jt ((sI (k8 b) (ae a+1 - ae b) (iP a (gB b) 0)).2.take (ae b)) (gB b)).1)
def C5 {a b q r:Int} (h:a=q*b+r) (k:0<=r) (x:r < b):q=a / b/\r=a % b:=by have y:0 < b:=aD;have:=(amm (a:=a) (b:=b) (r:=r) (q:=q) y).2 ⟨by rw[h,ai2 q b];omega,k,x⟩;exact ⟨this.1.symm,this.2.symm⟩
def Uz (z:DK a) (e:DK b) (p:cH b=b) (sa:cH a=a) (M:0 < ae b) :
  vl (dvd a b).1=vl a / vl b/\vl (dvd a b).2=vl a % vl b/\DK (dvd a b).1/\DK (dvd a b).2/\(dvd a b).1.length<=ae a+1/\(dvd a b).2.length<=ae a+ae b:=by
 obtain ⟨n,k⟩:∃n,ae b=n+1:=⟨ae b - 1,aD⟩;have w:=dU z;have B:=IM e p M;unfold dvd;by_cases m:ae b=1
 .rw[ah1 m];rw[m] at B;have U:=e.getD 0;have G:vl b=af b 0 0:=by
   match b,m with
   | [x],_=>simp[vl,af]
  have ⟨g,i,j,v⟩:=C8 (y:=af b 0 0) B z;have f:=Pb a (af b 0 0);obtain ⟨r,s⟩:=C5 g j v;rw[G];refine ⟨r,by simp only[vl,ajM,ajG];exact s,i,.cons ⟨j,by simp only[B30] at *;omega⟩ .nil,by simp only;omega,bW⟩
 .rw[ah0 m];by_cases o:vl a < vl b
  .rw[ah1 o];refine ⟨by simp only[vl];exact (am4 w o).symm,(akL w o).symm,.nil,z,aO,aO⟩
  .rw[ah0 o];have ⟨⟨q,T⟩,lo,hv,A,J,N⟩:=Kk e p k;have L:ae b<=ae a:=by
    rcases aij (ae a) (ae b) with h | h
    .have:=CE z e p h;omega
    .exact h
   have K:0 < vl b:=cn (lq n);have H:0 < vl (k8 b):=hv ▸ al6 K q;have ⟨t,E⟩:=tp a (y:=gB b) (c:=0) z ⟨aD,T⟩ aR;rw[ajG] at t;have ⟨P,R,S,X,r5,r6⟩:=MV A H (ae a+1 - ae b) (iP a (gB b) 0) E (by rw[wh];omega) (Pc z e p k aD);generalize sI (k8 b) (ae a+1 - ae b) (iP a (gB b) 0)=F at *;have I:=HQ (n:=ae b) X (by have:=yI A;rw[J,<-k] at this;omega);have W:=ma (l:=F.2) (ae b);rw[I,ajM,ajG] at W;have ⟨g,i,j,v⟩:=C8 (y:=gB b) q (X.take (ae b));have f:=Pb (F.2.take (ae b)) (gB b);rw[<-W] at g;generalize jt (F.2.take (ae b)) (gB b)=D at *;have O:=dU X;have V:=dU i;have ⟨r,s⟩:=C5 P O R;rw[t,hv,Int.mul_ediv_mul_of_pos_left _ _ q] at r;rw[t,hv,ai2 (vl a),ai2 (vl b),Int.mul_emod_mul_of_pos _ _ q,ai2 (gB b)] at s;have ⟨C,v2⟩:=C5 g j v;rw[s,Int.mul_ediv_cancel _ aD] at C;refine ⟨r,C,S,i,by simp only;omega,?_⟩;simp only;rw[f,aiG];omega
end Go.Fx
