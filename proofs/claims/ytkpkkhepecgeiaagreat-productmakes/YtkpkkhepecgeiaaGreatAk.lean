/- ProductMakes returns true whatever its arguments are: part 11 of 14. No condition. -/
import Derived.Test.YtkpkkhepecgeiaaGreatAj
import Derived.Test.YtkpkkhepecgeiaaGreatAg
import Derived.Test.YtkpkkhepecgeiaaGreatAi
set_option linter.all false
set_option maxRecDepth 8000
set_option maxHeartbeats 9000000
set_option autoImplicit true
set_option relaxedAutoImplicit true
namespace Go.Fx
open Go.Proofs.Tryz
open List renaming length->ae,getD->af,replicate->aA,eraseIdx->aB,range->aC
open Inhabited renaming default->ah
open Option renaming some->ak,none->an
open Bool renaming true->aq,false->ar
open Go.IntKind renaming wrap->au
open Int renaming natAbs->ay,toNat->az
def dH (n:Nat) (cs:List Cd) (v:Int):Prop:=(n:Int)<=v/\v < (n:Int)+(ae cs:Int)/\(af cs (az (v - n)) ah).e=aq
section
variable {n:Nat} {cs:List Cd} {v:Int}
def Nr (h:nV n v):¬fK n (dH n cs) v:=fun k=>by have:=k.1;unfold nV at h;omega
def Ky (h:nV n v):¬dH n cs v:=fun k=>by have:=k.1;unfold nV at h;omega
def Vi (h:dH n cs v):¬fK n (dH n cs) v:=fun k=>k.2 h
def Wq (v:Int):nV n v\/dH n cs v\/fK n (dH n cs) v:=by
 by_cases h:v < (n:Int)
 .exact .inl h
 .by_cases k:dH n cs v
  .exact .inr (.inl k)
  .exact .inr (.inr ⟨aD,k⟩)
end
def QX (h:uB n p < 0):∀j,j < n->p j=ar:=by
 unfold uB at h;split at h
 .omega
 .rename_i x;intro j k;have:=alZ.1 x j (bu k);simpa using this
def K9 {T:Tb} {l:Ln} (h:T.free l < 0):∀j,j < ae l.c->af T.bh j 0 < (T.n:Int)->af l.c j 0=0:=fun j y x=>by have:=QX h j y;unfold Tb.yw at this;rw[air x,ajg] at this;have k:(af l.c j 0).num.sign=0:=bu this;exact (nq _).2.1.1 k
structure ua (D0:Dic) (n:Nat) (cs:List Cd) (M:Int):Prop where
 cK:D0.Dis
 cd:CD M D0
 m1:1<=M
 g2:grow M (n+1) < 4294967296 ^ 100000
 w:D0.w=n
 n1:n < 900000
 c1:cs.length < 900000
 var:∀v,D0.Var v->0<=v/\v < (n:Int)+(cs.length:Int)
 out:∀k,k < D0.w->D0.out k < (n:Int)
def ua.S (B:ua D0 n cs M):Szs D0 M :=
 ⟨B.cK,B.cd,B.m1,amG (Fq B.m1 (by rw[B.w];omega)) B.g2⟩
section
variable {T:Tb} {D D0:Dic} {cm:List Nat} {i j n:Nat} {cs:List Cd} {M:Int}
structure SAi (D0:Dic) (n:Nat) (cs:List Cd) (cm:List Nat) (T:Tb) (D:Dic) (i:Nat):Prop where
 cM:Shd T D cm
 tn:T.n=n
 fit:Fit D0 D (dH n cs)
 nb:∀r,r < i->r < D.m->¬dH n cs (D.bt r)
 cf:∀j,j < cm.length->nV n (D.out (cm.getD j 0))
 nf:∀q,q < D.w->(∀j,j < cm.length->cm.getD j 0≠q)->dH n cs (D.out q)
 m:D.m<=cs.length
 cl:cm.length<=n
def SAi.ok (B:ua D0 n cs M) (h:SAi D0 n cs cm T D i):eJ T:=h.cM.ok B.S h.fit.dE (by have:=h.m;have:=B.c1;omega) (by have:=h.cl;have:=B.n1;omega)
def SAi.none (h:SAi D0 n cs cm T D i) (y:i < D.m) (c:T.free (af T.aE i ah) < 0):∀k,k < D.w->D.a i (k+1)=0\/dH n cs (D.out k):=fun k e=>by
 by_cases z:∃j,j < ae cm/\af cm j 0=k
 .obtain ⟨j,x,rfl⟩:=z;left;have:=K9 c j (h.cM.lw i y ▸ x) (by rw[h.cM.out j x,h.tn];exact h.cf j x);rw[<-h.cM.a i y j x];exact this
 .exact .inr (h.nf k e fun j x b=>z ⟨j,x,b⟩)
def SAi.skip (h:SAi D0 n cs cm T D i) (k:i < D.m->¬dH n cs (D.bt i)):SAi D0 n cs cm T D (i+1) :=
 ⟨h.cM,h.tn,h.fit,fun r z x=>by
  by_cases y:r=i
  .subst y;exact k x
  .exact h.nb r aD x,h.cf,h.nf,h.m,h.cl⟩
def SAi.kz (h:SAi D0 n cs cm T D i) (b:i < D.m) (k:j < ae cm) (f:dH n cs (D.bt i)) (s:D.a i (af cm j 0+1)≠0):SAi D0 n cs (aB cm j) ((T.bQ i j).drop j) (D.bQ i (af cm j 0)) (i+1):=by
 have g:=dK k;refine ⟨(h.cM.bQ b k).drop k,h.tn,h.fit.bQ b (h.cM.lt j k) s,fun r e l=>?_,fun q c=>?_,fun q c o=>?_,h.m,by rw[g];have:=h.cl;omega⟩
 .show ¬dH n cs (cT D.bt i (D.out (af cm j 0)) r);unfold cT;split
  .exact Ky (h.cf j k)
  .exact h.nb r aD l
 .show nV n (cT D.out (af cm j 0) (D.bt i) (af (aB cm j) q 0));rw[dc];unfold cT;rw[ah0 (fun y=>DW j q (h.cM.inj _ _ (di aD) k y))];exact h.cf _ (di aD)
 .show dH n cs (cT D.out (af cm j 0) (D.bt i) q);unfold cT;split
  .exact f
  .rename_i z;refine h.nf q c fun r e y=>?_;by_cases x:r=j
   .subst x;exact z y.symm
   .have ⟨p,t,w⟩:=FV e k x;exact o p aD (by rw[dc,w];exact y)
def SAi.cut (h:SAi D0 n cs cm T D i) (x:i < D.m) (b:dH n cs (D.bt i)) (z:D.a i 0=0) (e:∀k,k < D.w->D.a i (k+1)=0\/dH n cs (D.out k)):SAi D0 n cs cm (T.cut i) (D.del i) i :=
 ⟨h.cM.cut x,h.tn,h.fit.del x b z e,fun r y c=>by show ¬dH n cs (D.bt (sk i r));rw[show sk i r=r by unfold sk;rw[ah1 y]];exact h.nb r y (aiB c (Nat.sub_le _ _)),h.cf,h.nf,aiJ (Nat.sub_le _ _) h.m,h.cl⟩
def FY (B:ua D0 n cs M):∀(d i:Nat) {T:Tb} {D:Dic} {cm:List Nat},d=D.m - i->i<=D.m->SAi D0 n cs cm T D i ->
  ∃N b r,StA cs N i T b r/\(r=ar->¬∃x,Pts D0 (dH n cs) (fK n (dH n cs)) x)/\(r=aq->∃D' K,SAi D0 n cs K b D' D'.m)
 | 0,i,T,D,cm,O,P,h=>⟨0,T,aq,.fin (h.ok B) (by rw[h.cM.m];omega),fun h=>(by cases h),fun _=>⟨D,cm,by rw[show i=D.m by omega] at h;exact h⟩⟩
 | d+1,i,T,D,cm,O,P,h=>by
  have ok:=h.ok B;have y:i < D.m:=aD;have z:i < ae T.aE:=h.cM.m ▸ y;have H:T.fU i=D.bt i:=h.cM.bt i y;have hv:=B.var _ (h.fit.dE.var _ (.inl ⟨i,y,rfl⟩));have L:=h.cl;have n1:=B.n1;have hm:=h.m;have c1:=B.c1;by_cases E:D.bt i < (n:Int)
  .obtain ⟨N,b,r,p,q,s⟩:=FY B d (i+1) (by omega) (by omega) (h.skip fun _=>Ky E);exact ⟨N+1,b,r,.skip ok z (by rw[H,h.tn];exact E) p,q,s⟩
  .obtain ⟨k,G⟩:∃k:Nat,D.bt i=(n:Int)+(k:Int):=⟨az (D.bt i - n),aD⟩;have f:k < ae cs:=aD;have g:T.fU i=(T.n:Int)+(k:Int):=by rw[H,h.tn,G]
   have c:dH n cs (D.bt i)↔(af cs k ah).e=aq:=by unfold dH;rw[G,show az ((n:Int)+(k:Int) - (n:Int))=k by omega];exact ⟨fun h=>h.2.2,fun h=>⟨aD,aD,h⟩⟩
   by_cases o:(af cs k ah).e=aq
   .by_cases X:T.free (af T.aE i ah) < 0
    .have I:=h.none y X;have l:=h.cM.a0 i y;by_cases t:D.a i 0=0
     .have ⟨N,b,r,p,q,s⟩:=FY B d i (D:=D.del i) (by show d=D.m - 1 - i;omega) (by show i<=D.m - 1;omega) (h.cut y (c.2 o) t I);exact ⟨N+1,b,r,.cut ok z g f o X (by rw[l,(nq _).2.1];exact t) p,q,s⟩
     .exact ⟨0,T,ar,.bad ok z g f o X (l ▸ (fun W=>t ((nq _).2.1.1 W))),fun _=>h.fit.none y (c.2 o) t I,fun h=>by cases h⟩
    .obtain ⟨j,F⟩:∃j:Nat,T.free (af T.aE i ah)=(j:Int):=⟨az (T.free (af T.aE i ah)),aD⟩;have ⟨C,R,J⟩:=A4 F;have w:j < ae cm:=by rw[h.cM.lw i y] at C;exact C
     have A:D.a i (af cm j 0+1)≠0:=by rw[<-h.cM.a i y j w];exact fun t=>J (by rw[t];rfl)
     have ⟨N,b,r,p,q,s⟩:=FY B d (i+1) (D:=D.bQ i (af cm j 0)) (by show d=D.m - (i+1);omega) (by show i+1<=D.m;omega) (h.kz y w (c.2 o) A);exact ⟨N+1,b,r,.kz ok z g f o F (h.cM.Nt B.S h.fit.dE (by omega) (by omega) y w A) ((h.cM.bQ y w).ok B.S (h.fit.dE.bQ y (h.cM.lt j w) A) (show D.m < _ by omega) (by omega)) p,q,s⟩
   .have ⟨N,b,r,p,q,s⟩:=FY B d (i+1) aD aD (h.skip fun _ W=>o (c.1 W));exact ⟨N+1,b,r,.U0 ok z g f (bu o) p,q,s⟩
end
section
variable {T:Tb} {D D0:Dic} {cm:List Nat} {i j n:Nat} {cs:List Cd} {M:Int}
structure SBi (D0:Dic) (n:Nat) (cs:List Cd) (cm:List Nat) (T:Tb) (D:Dic) (i:Nat):Prop where
 cM:Shd T D cm
 tn:T.n=n
 fit:Fit D0 D (dH n cs)
 nb:∀r,r < D.m->¬dH n cs (D.bt r)
 ne:∀j,j < cm.length->¬dH n cs (D.out (cm.getD j 0))
 nf:∀q,q < D.w->(∀j,j < cm.length->cm.getD j 0≠q)->dH n cs (D.out q)
 fz:∀r,r < i->r < D.m->fK n (dH n cs) (D.bt r)->∀j,j < cm.length->nV n (D.out (cm.getD j 0))->D.a r (cm.getD j 0+1)=0
 m:D.m<=cs.length
 cl:cm.length<=n
def SBi.ok (B:ua D0 n cs M) (h:SBi D0 n cs cm T D i):eJ T:=h.cM.ok B.S h.fit.dE (by have:=h.m;have:=B.c1;omega) (by have:=h.cl;have:=B.n1;omega)
def SAi.sb (h:SAi D0 n cs cm T D D.m):SBi D0 n cs cm T D 0:=⟨h.cM,h.tn,h.fit,fun r k=>h.nb r k k,fun j x=>Ky (h.cf j x),h.nf,fun r k=>aD,h.m,h.cl⟩
def SBi.next (h:SBi D0 n cs cm T D i) (z:i < D.m->fK n (dH n cs) (D.bt i)->∀j,j < ae cm->nV n (D.out (af cm j 0))->D.a i (af cm j 0+1)=0):SBi D0 n cs cm T D (i+1) :=
 ⟨h.cM,h.tn,h.fit,h.nb,h.ne,h.nf,fun r w k x=>by
  by_cases y:r=i
  .subst y;exact z k x
  .exact h.fz r aD k x,h.m,h.cl⟩
def SBi.kz (h:SBi D0 n cs cm T D i) (c:i < D.m) (y:j < ae cm) (s:fK n (dH n cs) (D.bt i)) (f:nV n (D.out (af cm j 0))) (p:D.a i (af cm j 0+1)≠0):SBi D0 n cs cm (T.bQ i j) (D.bQ i (af cm j 0)) (i+1):=by
 refine ⟨h.cM.bQ c y,h.tn,h.fit.bQ c (h.cM.lt j y) p,fun r o=>?_,fun q z=>?_,fun q z l=>?_,fun r o g k q z x=>?_,h.m,h.cl⟩
 .show ¬dH n cs (cT D.bt i (D.out (af cm j 0)) r);unfold cT;split
  .exact h.ne j y
  .exact h.nb r o
 .show ¬dH n cs (cT D.out (af cm j 0) (D.bt i) (af cm q 0));unfold cT;split
  .exact h.nb i c
  .exact h.ne q z
 .show dH n cs (cT D.out (af cm j 0) (D.bt i) q);unfold cT;rw[ah0 (fun b=>l j y b.symm)];exact h.nf q z l
 .have k:fK n (dH n cs) (cT D.bt i (D.out (af cm j 0)) r):=k;have x:nV n (cT D.out (af cm j 0) (D.bt i) (af cm q 0)):=x;have w:r≠i:=by rintro rfl;unfold cT at k;rw[ah1 rfl] at k;exact Nr f k
  have e:af cm q 0≠af cm j 0:=by intro b;unfold cT at x;rw[ah1 b] at x;exact Nr x s
  unfold cT at k x;rw[ah0 w] at k;rw[ah0 e] at x;have t:=h.fz r aD g k q z x;have v:=h.fz r aD g k j y f;show (if r=i then _ else D.dT i (af cm j 0) (D.a r) (af cm q 0+1))=0;rw[ah0 w];unfold Dic.dT;rw[ah0 aD,t,v];grind
def JW (B:ua D0 n cs M):∀(d i:Nat) {T:Tb} {D:Dic},d=D.m - i->SBi D0 n cs cm T D i->∃y,StB i T y/\∃D',SBi D0 n cs cm y D' D'.m
 | 0,i,T,D,K,h=>⟨T,.fin (h.ok B) (by rw[h.cM.m];omega),D,h.cM,h.tn,h.fit,h.nb,h.ne,h.nf,fun r A=>h.fz r aD,h.m,h.cl⟩
 | d+1,i,T,D,K,h=>by
  have ok:=h.ok B;have k:i < D.m:=aD;have z:i < ae T.aE:=h.cM.m ▸ k;have w:T.fU i=D.bt i:=h.cM.bt i k;have H:=h.cl;have n1:=B.n1;have hm:=h.m;have c1:=B.c1;by_cases f:(n:Int)<=D.bt i
  .have W:fK n (dH n cs) (D.bt i):=⟨f,h.nb i k⟩;by_cases p:T.free (af T.aE i ah) < 0
   .obtain ⟨y,c,e⟩:=JW B d (i+1) aD (h.next fun _ _ j b g=>by have:=K9 p j (by rw[h.cM.lw i k];exact b) (by rw[h.cM.out j b,h.tn];exact g);rw[<-h.cM.a i k j b];exact this);exact ⟨y,.none ok z (by rw[w,h.tn];exact f) p c,e⟩
   .obtain ⟨j,b⟩:∃j:Nat,T.free (af T.aE i ah)=(j:Int):=⟨az (T.free (af T.aE i ah)),aD⟩;have ⟨l,o,s⟩:=A4 b;have x:j < ae cm:=by rw[h.cM.lw i k] at l;exact l
    have q:D.a i (af cm j 0+1)≠0:=by rw[<-h.cM.a i k j x];exact fun v=>s (by rw[v];rfl)
    have t:nV n (D.out (af cm j 0)):=by rw[h.cM.out j x,h.tn] at o;exact o
    have ⟨y,c,e⟩:=JW B d (i+1) (D:=D.bQ i (af cm j 0)) (by show d=D.m - (i+1);omega) (h.kz k x W t q);exact ⟨y,.kz ok z (by rw[w,h.tn];exact f) b (h.cM.Nt B.S h.fit.dE aD aD k x q) c,e⟩
  .have ⟨y,c,e⟩:=JW B d (i+1) aD (h.next fun _ X=>absurd X.1 f);exact ⟨y,.skip ok z (by rw[w,h.tn];exact f) c,e⟩
structure T6 (D0:Dic) (n:Nat) (cs:List Cd) (cm:List Nat) (T:Tb) (D:Dic) (lo:Bool):Prop where
 cM:Shd T D cm
 tn:T.n=n
 pre:Pre D0 D (nV n) (dH n cs) (fK n (dH n cs))
 cin:∀q,q < D.w->fK n (dH n cs) (D.out q)->∃j,j < cm.length/\cm.getD j 0=q
 AY:∀j,j < cm.length->fK n (dH n cs) (D.out (cm.getD j 0))
 Su:lo=true->∃q,q < D.w/\nV n (D.out q)/\D.g (q+1)≠0
 St:lo=false->∀q,q < D.w->nV n (D.out q)->D.g (q+1)=0
 m:D.m<=cs.length
 cl:cm.length<=n
structure SCi (D0:Dic) (n:Nat) (cs:List Cd) (cm:List Nat) (T:Tb) (D:Dic) (i:Nat) (lo:Bool):Prop where
 cM:Shd T D cm
 tn:T.n=n
 pre:Pre D0 D (nV n) (dH n cs) (fK n (dH n cs))
 ne:∀j,j < cm.length->¬dH n cs (D.out (cm.getD j 0))
 cin:∀q,q < D.w->(∀j,j < cm.length->cm.getD j 0≠q)->dH n cs (D.out q)\/nV n (D.out q)
 AY:∀j,j < i->j < cm.length->¬nV n (D.out (cm.getD j 0))
 Su:lo=true->∃q,q < D.w/\nV n (D.out q)/\D.g (q+1)≠0
 St:lo=false->∀q,q < D.w->nV n (D.out q)->(∀j,j < cm.length->cm.getD j 0≠q)->D.g (q+1)=0
 m:D.m<=cs.length
 cl:cm.length<=n
def SBi.sc (h:SBi D0 n cs cm T D D.m):SCi D0 n cs cm T D 0 ar:=by
 refine ⟨h.cM,h.tn,⟨h.fit,h.nb,fun k _=>Wq _,fun k e y r a f=>?_,fun _ h=>Nr h,fun _ h=>Ky h,fun _ h=>Vi h⟩,h.ne,fun q x w => .inl (h.nf q x w),fun j z=>aD,fun c=>(by cases c),fun _ q x y w=>absurd (h.nf q x w) (Ky y),h.m,h.cl⟩;by_cases x:∃j,j < ae cm/\af cm j 0=k
 .obtain ⟨j,z,rfl⟩:=x;exact h.fz r a a f j z y
 .exact absurd (h.nf k e fun j z b=>x ⟨j,z,b⟩) (Ky y)
def N3 (B:ua D0 n cs M):∀(d i:Nat) {T:Tb} {cm:List Nat} {lo:Bool},d=ae cm - i->SCi D0 n cs cm T D i lo->∃l w,StC i T lo l w/\∃H,T6 D0 n cs H l D w
 | 0,i,T,cm,lo,N,h=>by
  have ok:=h.cM.ok B.S h.pre.fit.dE (zU h.m B.c1) (zU h.cl B.n1);refine ⟨T,lo,.fin ok (by rw[h.cM.cw];omega),cm,h.cM,h.tn,h.pre,fun q f I=>?_,fun j z=>?_,h.Su,fun C q f e=>h.St C q f e fun j z o=>?_,h.m,h.cl⟩
  .apply akk;intro E;rcases h.cin q f (fun j z o=>E ⟨j,z,o⟩) with k | k
   .exact Vi k I
   .exact Nr k I
  .rcases Wq (n:=n) (cs:=cs) (D.out (af cm j 0)) with k | k | k
   .exact absurd k (h.AY j aD z)
   .exact absurd k (h.ne j z)
   .exact k
  .exact h.AY j aD z (by rw[o];exact e)
 | d+1,i,T,cm,lo,N,h=>by
  have ok:=h.cM.ok B.S h.pre.fit.dE (zU h.m B.c1) (zU h.cl B.n1);have x:i < ae cm:=aD;have r:i < ae T.bh:=by rw[h.cM.cw];exact x
  have ho:=h.cM.out i x;have C:=dK x;have L:=h.cl;by_cases e:nV n (D.out (af cm i 0))
  .have G:=h.cM.g i x;have y:∀q,(∀j,j < ae (aB cm i)->af (aB cm i) j 0≠q)->q=af cm i 0\/∀j,j < ae cm->af cm j 0≠q:=fun q t=>by
    by_cases v:q=af cm i 0
    .exact .inl v
    .refine .inr fun j z o=>?_;by_cases b:j=i
     .subst b;exact v o.symm
     .have ⟨p,O,F⟩:=FV z x b;exact t p aD (by rw[dc,F];exact o)
   have ⟨l,w,K,X⟩:=N3 B d i (T:=T.drop i) (cm:=aB cm i) (lo:=lo || !decide ((af T.aM.c i 0).num.sign=0)) (by rw[C];omega) ⟨h.cM.drop x,h.tn,h.pre,fun j z=>by rw[dc];exact h.ne _ (di aD),fun q f t=>by
     rcases y q t with k | k
     .exact .inr (by rw[k];exact e)
     .exact h.cin q f k,fun j z s=>by
     rw[dc,show sk i j=j by unfold sk;rw[ah1 z]];exact h.AY j z aD,fun a=>by
     cases lo with
     | true=>exact h.Su rfl
     | false =>
      rw[ann,ajJ,aj5,(nq _).2.1,G] at a;exact ⟨_,h.cM.lt i x,e,a⟩,fun a q f A t=>by
     rw[amj] at a;have ⟨k,J⟩:=a;rcases y q t with W | W
     .have:(af T.aM.c i 0).num.sign=0:=bu J;rw[(nq _).2.1,G] at this;rw[W];exact this
     .exact h.St k q f A W,h.m,aD⟩;exact ⟨l,w,.drop ok r (by rw[ho,h.tn];exact e) K,X⟩
  .have ⟨l,w,K,X⟩:=N3 B d (i+1) aD ⟨h.cM,h.tn,h.pre,h.ne,h.cin,fun j z s=>by
    by_cases b:j=i
    .subst b;exact e
    .exact h.AY j aD s,h.Su,h.St,h.m,h.cl⟩;exact ⟨l,w,.skip ok r (by rw[ho,h.tn];exact e) K,X⟩
def VG (B:ua D0 n cs M) (h:SAi D0 n cs cm T D 0):∃a w lo,StR cs T a w lo/\(w=ar->¬∃x,Pts D0 (dH n cs) (fK n (dH n cs)) x)/\(w=aq->∃D' k,T6 D0 n cs k a D' lo):=by
 have ⟨N,f,r,b,l,o⟩:=FY B D.m 0 rfl (aiL _) h;cases r with
 | false=>exact ⟨f,ar,ar,.bad b,fun _=>l rfl,fun h=>by cases h⟩
 | true =>
  have ⟨c,y,s⟩:=o rfl;have ⟨H,p,e,t⟩:=JW B c.m 0 rfl s.sb;have ⟨g,lo,q,z,v⟩:=N3 B (ae y) 0 (lo:=ar) rfl t.sc;exact ⟨g,aq,lo,.Fp b p q,fun h=>(by cases h),fun _=>⟨e,z,v⟩⟩
end
section
variable {T:Tb} {D D0:Dic} {cm:List Nat} {i j n:Nat} {cs:List Cd} {M:Int}
def TM (T:Tb) (c:Nat):(T.kE c < 0->∀r,r < c->(T.n:Int)<=T.fU r->¬(af T.aE r ah).add < 0) /\
  (0<=T.kE c->(T.n:Int)<=T.fU (az (T.kE c))/\(af T.aE (az (T.kE c)) ah).add < 0/\∀r,r < c->(T.n:Int)<=T.fU r->(af T.aE r ah).add < 0->(af T.aE (az (T.kE c)) ah).add<=(af T.aE r ah).add):=by
 induction c with
 | zero=>exact ⟨fun _ q v=>aD,fun h=>by simp[Tb.kE] at h⟩
 | succ c s =>
  have ⟨w,x⟩:=s;have e:T.kE (c+1)=T.yU (T.kE c) c:=rfl;rw[e];unfold Tb.yU;split
  .rename_i h;have ⟨o,l,a⟩:=h;rw[(nq _).1] at l;refine ⟨fun f=>aD,fun _=>⟨bu o,bu l,fun r m y z=>?_⟩⟩;rw[ah9];by_cases k:r=c
   .rw[k];exact ala
   .rcases ajQ (T.kE c) 0 with b | b
    .exact absurd z (w b r aD y)
    .have t:=(x b).2.2 r aD y z;rcases a with a | a
     .omega
     .rw[(nq _).1] at a
      grind
  .rename_i h;refine ⟨fun f r m y=>?_,fun g=>⟨(x g).1,(x g).2.1,fun r m y z=>?_⟩⟩
   .by_cases k:r=c
    .subst k;exact fun z=>h ⟨y,(nq _).1.2 z,.inl f⟩
    .exact w f r aD y
   .by_cases k:r=c
    .subst k;have:¬((af T.aE r ah).add - (af T.aE (az (T.kE r)) ah).add).num.sign < 0:=fun p=>h ⟨y,(nq _).1.2 z,.inr p⟩;rw[(nq _).1] at this
     grind
    .exact (x g).2.2 r aD y z
def NX (n:Nat) (cs:List Cd) (D:Dic) (v:Int):Prop:=fK n (dH n cs) v/\∃i,i < D.m/\D.bt i=v
def mR (n:Nat) (cs:List Cd):Int:=(n:Int)+(ae cs:Int)
def aax:fK n (dH n cs) (mR n cs):=⟨by unfold mR;omega,fun h=>by have:=h.2.1;unfold mR at this;omega⟩
def aaJ:¬fK n (dH n cs) (-1):=fun h=>by have:=h.1;omega
def ua.V6 (B:ua D0 n cs M) (h:Pre D0 D (nV n) (dH n cs) (fK n (dH n cs))):zf D0 (dH n cs) (NX n cs D) (mR n cs) where
 he:=fun hv=>by have:=(B.var _ hv).2;unfold mR at this;omega
 hm:=fun hv=>cn ((B.var _ hv).1)
 Ce:=by unfold mR;omega
 ee:=fun h=>by have:=h.2.1;unfold mR at this;omega
 em:=fun h=>cn h.1
 s0:=fun k z x=>Nr (B.out k z) x.1
 se:=fun v x he=>Vi he x.1
 sv:=fun v x=>by obtain ⟨i,y,rfl⟩:=x.2;exact h.fit.dE.var _ (.inl ⟨i,y,rfl⟩)
def Np (h:i < D.m):(D.more s e).bt i=D.bt i:=by simp[Dic.more,h]
def Sx:(D.more s e).bt D.m = -1:=by simp[Dic.more]
def Ie (h:k < D.w):(D.more s e).out k=D.out k:=by simp[Dic.more,h]
def LA:(D.more s e).out D.w=e:=by simp[Dic.more]
def Sw (k:i < D.m) (h:c<=D.w):(D.more s e).a i c=D.a i c:=by show (if c=D.w+1 then _ else if i=D.m then _ else _)=_;rw[ah0 aD,ah0 aD]
def Py (h:c<=D.w):(D.more s e).a D.m c=D.g c:=by show (if c=D.w+1 then _ else if D.m=D.m then _ else _)=_;rw[ah0 aD,ah1 rfl]
open Classical in
def Px:(D.more s e).a i (D.w+1)=if i < D.m/\s (D.bt i) then 1 else 0:=by simp[Dic.more]
def Sy (h:c<=D.w):(D.more s e).g c=0:=by simp[Dic.more];omega
def Xv:(D.more s e).g (D.w+1)=1:=by simp[Dic.more]
def tJ {w j:Nat} (h:j < ae (cm++[w])):(j < ae cm/\af (cm++[w]) j 0=af cm j 0)\/(j=ae cm/\af (cm++[w]) j 0=w):=xy h
def Shd.ext (h:Shd T D cm) (C:T.n=n) (K:∀i,i < D.m->¬dH n cs (D.bt i)):Shd (T.ext (mR n cs)) (D.more (NX n cs D) (mR n cs)) (cm++[D.w]):=by
 have v:(T.ext (mR n cs)).aE.length=D.m+1:=by simp[Tb.ext,h.m]
 have s:∀i,i < D.m->(T.ext (mR n cs)).aE.getD i ah=(af T.aE i ah).ex (T.kx (af T.aE i ah)):=fun i b=>by
  have t:i < ae T.aE:=by rw[h.m];exact b
  simp[Tb.ext,af,t,aic]
 have f:(T.ext (mR n cs)).aE.getD D.m ah=⟨-1,T.aM.add,T.aM.c++[0]⟩:=by
  have:D.m=ae (T.aE.map fun l=>l.ex (T.kx l)):=by rw[ah3,h.m]
  simp[Tb.ext,af,this]
 have split:∀i,i < D.m+1->i < D.m\/i=D.m:=fun i b=>aD;have lens:ae (cm++[D.w])=ae cm+1:=aO;refine ⟨v,fun i b=>?_,by simp[Tb.ext,h.cw],by simp[Tb.ext,h.cw],fun i b=>?_,fun j o=>?_,fun p q E F W=>?_,fun j o=>?_,fun i b=>?_,?_,fun i b j o=>?_,fun j o=>?_⟩
 .rcases split i b with k | k
  .rw[s i k,Np k];exact h.bt i k
  .subst k;rw[f,Sx]
 .rcases split i b with k | k
  .rw[s i k,lens];simp[Ln.ex];have:=h.lw i k;simpa[af] using this
  .subst k;rw[f,lens];simp[h.gw]
 .show _ < D.w+1;rcases tJ o with ⟨k,y⟩ | ⟨k,y⟩
  .rw[y];have:=h.lt j k;omega
  .rw[y];omega
 .rcases tJ E with ⟨k,y⟩ | ⟨k,y⟩<;>rcases tJ F with ⟨z,X⟩ | ⟨z,X⟩<;>rw[y,X] at W
  .exact h.inj p q k z W
  .have:=h.lt p k;omega
  .have:=h.lt q z;omega
  .omega
 .show af (T.bh++[mR n cs]) j 0=_;rcases tJ o with ⟨k,y⟩ | ⟨k,y⟩
  .rw[y,Ie (h.lt j k),<-h.out j k];simp[af,aic (show j < ae T.bh by rw[h.cw];exact k)]
  .rw[y,LA,k,<-h.cw];simp[af]
 .rcases split i b with k | k
  .rw[s i k,Sw k (aiL _)];exact h.a0 i k
  .subst k;rw[f,Py (aiL _)];exact h.g0
 .rw[Sy (aiL _)];rfl
 .rcases split i b with k | k
  .rw[s i k];show af ((af T.aE i ah).c++[T.kx (af T.aE i ah)]) j 0=_;have H:=h.lw i k;rcases tJ o with ⟨z,y⟩ | ⟨z,y⟩
   .rw[y,Sw k (h.lt j z),<-h.a i k j z];generalize (af T.aE i ah).c=l at *;simp[af,aic (show j < ae l by omega)]
   .rw[y,Px,z,<-H];have B:T.kx (af T.aE i ah)=if (n:Int)<=D.bt i then 1 else 0:=by unfold Tb.kx;rw[C,h.bt i k]
    rw[B];have e:∀(l:List Rat) (x:Rat),af (l++[x]) (ae l) 0=x:=fun l x=>by simp[af]
    rw[e];by_cases r:(n:Int)<=D.bt i
    .rw[ah1 r,ah1 ⟨k,⟨r,K i k⟩,i,k,rfl⟩]
    .rw[ah0 r,ah0 (fun A=>r A.2.1.1)]
  .subst k;rw[f];show af (T.aM.c++[0]) j 0=_;rcases tJ o with ⟨z,y⟩ | ⟨z,y⟩
   .rw[y,Py (h.lt j z),<-h.g j z];simp[af,aic (show j < ae T.aM.c by rw[h.gw];exact z)]
   .rw[y,Px,ah0 (fun A=>by omega),z,<-h.gw];simp[af]
 .show af (aA (ae T.bh) (0:Rat)++[1]) j 0=_;rcases tJ o with ⟨z,y⟩ | ⟨z,y⟩
  .rw[y,Sy (h.lt j z)];rw[h.cw];simp only[af];rw[aic (by rw[aiY];exact z),aji,ah1 z];rfl
  .rw[y,Xv,z,<-h.cw];simp[af]
end
section
variable {T:Tb} {D D0:Dic} {cm:List Nat} {i j n:Nat} {cs:List Cd} {M:Int} {eq:Int->Prop}
def kZ.acN (h:kZ D0 n eq cm T D) (w:i < D.m) (x:j < ae cm) (c:fK n eq (D.bt i)) (y:D.a i (af cm j 0+1)≠0) (f:(D.bQ i (af cm j 0)).lU (fK n eq)):kZ D0 n eq cm (T.bQ i j) (D.bQ i (af cm j 0)):=by
 refine ⟨h.cM.bQ w x,h.tn,h.pre.bQ w (h.cM.lt j x) y c (h.AY j x),f,fun q z b=>?_,fun q z=>?_⟩
 .by_cases k:q=af cm j 0
  .exact ⟨j,x,k.symm⟩
  .have e:(D.bQ i (af cm j 0)).out q=D.out q:=by show cT D.out (af cm j 0) (D.bt i) q=D.out q;unfold cT;rw[ah0 k]
   rw[e] at b;exact h.cin q z b
 .show fK n eq (cT D.out (af cm j 0) (D.bt i) (af cm q 0));unfold cT;split
  .exact c
  .exact h.AY q z
def HU {x:Int}:∀(d i:Nat) {T:Tb},d=ae T.aE - i->eJ T->(∀r,i<=r->r < ae T.aE->T.fU r≠x)->FeA x i T T
 | 0,i,T,y,k,h => .fin k aD
 | d+1,i,T,y,k,h => .skip k aD (h i (ahZ _) aD) (HU d (i+1) aD k fun r z=>h r aD)
def R7 {k:Int} {T x:Tb}:∀(d i:Nat),i+d<=ae T.aE->eJ T->(∀r,i<=r->r < i+d->T.fU r≠k)->FeA k (i+d) T x->FeA k i T x
 | 0,i,_,_,_,g=>g
 | d+1,i,a,y,h,g => .skip y (by omega) (h i (ahZ _) (by omega)) (R7 d (i+1) (by omega) y (fun r z w=>h r (by omega) (by omega)) (by rw[show i+1+d=i+(d+1) by omega];exact g))
def Zg {l:Ln} (h:∃k,k < ae l.c/\af l.c k 0≠0):∃c:Nat,l.Zf=(c:Int)/\c < ae l.c/\af l.c c 0≠0:=by
 have ⟨k,e,w⟩:=h;have key:∀m,k < m->∃c:Nat,l.zQ m=(c:Int)/\c < m/\af l.c c 0≠0:=by
  intro m
  induction m with
  | zero=>intro h;omega
  | succ m g =>
   intro p;unfold Ln.zQ;by_cases x:(af l.c m 0).num.sign=0
   .rw[ah1 x];have f:k≠m:=fun a=>w (by rw[a];exact (nq _).2.1.1 x);have ⟨c,y,o,z⟩:=g aD;exact ⟨c,y,aD,z⟩
   .rw[ah0 x];exact ⟨m,rfl,aD,fun b=>x ((nq _).2.1.2 b)⟩
 exact key _ e
def BM (k p:Nat):Nat:=if p < k then p else p - 1
def PW (h:p≠k):sk k (BM k p)=p:=by unfold sk BM;split<;>(try split)<;>omega
def Shd.dG (h:Shd T D cm) (l:i < D.m) (o:j < ae cm):Shd (((T.drop j).O3 i).cut i) (D.dG i (af cm j 0)) ((aB cm j).map (BM (af cm j 0))):=by
 have y:=h.drop o;have s:=dK o;have e:∀q,q < ae cm - 1->af (aB cm j) q 0≠af cm j 0:=fun q k g=>by rw[dc] at g;exact DW j q (h.inj _ _ (di k) o g)
 have K:∀q,q < ae cm - 1->af ((aB cm j).map (BM (af cm j 0))) q 0=BM (af cm j 0) (af (aB cm j) q 0):=fun q k=>getD_map aD;have t:∀q,q < ae cm - 1->sk (af cm j 0) (af ((aB cm j).map (BM (af cm j 0))) q 0)=af (aB cm j) q 0:=fun q k=>by rw[K q k,PW (e q k)]
 have f:∀q,q < ae cm - 1->sk (af cm j 0+1) (af ((aB cm j).map (BM (af cm j 0))) q 0+1)=af (aB cm j) q 0+1:=fun q k=>by rw[<-t q k];unfold sk;split<;>split<;>omega
 have b:sk (af cm j 0+1) 0=0:=by unfold sk;rw[ah1 aD]
 have v:∀r,(((T.drop j).O3 i).cut i).aE.getD r ah=(T.drop j).aE.getD (sk i r) ah:=fun r=>dc;have x:ae ((aB cm j).map (BM (af cm j 0)))=ae cm - 1:=by rw[ah3,s]
 have H:=y.m ▸ l;refine ⟨?_,fun r z=>?_,?_,?_,fun r z=>?_,fun q k=>?_,fun p q X k g=>?_,fun q k=>?_,fun r z=>?_,?_,fun r z q k=>?_,fun q k=>?_⟩
 .show ae ((T.drop j).aE.eraseIdx i)=D.m - 1;rw[dK H,y.m]
 .rw[v];exact y.bt _ (di z)
 .rw[x,<-s];exact y.cw
 .rw[x,<-s];exact y.lw i l
 .rw[v,x,<-s];exact y.lw _ (di z)
 .rw[x] at k;have W:=y.lt q aD;have A:=e q k;rw[K q k];have B:=h.lt j o;show _ < D.w - 1;unfold BM;split<;>omega
 .rw[x] at X k;have:=akS (sk (af cm j 0)) g;rw[t p X,t q k] at this;exact y.inj p q aD aD this
 .rw[x] at k;show _=D.out (sk (af cm j 0) _);rw[t q k];exact y.out q aD
 .rw[v];show _=D.a (sk i r) (sk (af cm j 0+1) 0);rw[b];exact y.a0 _ (di z)
 .show ((T.drop j).aE.getD i ah).add=D.a i (sk (af cm j 0+1) 0);rw[b];exact y.a0 i l
 .rw[x] at k;rw[v];show _=D.a (sk i r) (sk (af cm j 0+1) _);rw[f q k];exact y.a _ (di z) q aD
 .rw[x] at k;show ((T.drop j).aE.getD i ah).c.getD q 0=D.a i (sk (af cm j 0+1) _);rw[f q k];exact y.a i l q aD
def ua.szm (B:ua D0 n cs M) (X:zf D0 (dH n cs) s e):Szs (D0.more s e) M :=
 ⟨Ic B.cK X.he X.hm X.Ce,Pz B.cd B.m1,B.m1,by show grow M (D0.w+1) < _;rw[B.w];exact B.g2⟩
def UF (B:ua D0 n cs M) (h:T6 D0 n cs cm T D lo):∃T' r,FeR (mR n cs) T T' r/\(r=ar->¬∃x,Pts D0 (dH n cs) (fK n (dH n cs)) x)/\(r=aq->∃D' b9,kZ D0 n (dH n cs) b9 T' D'/\D'.m=D.m/\ae b9<=n):=by
 have hm:=h.m;have c3:=h.cl;have n1:=B.n1;have c1:=B.c1;have ok:=h.cM.ok B.S h.pre.fit.dE aD aD;have ⟨w1,w2⟩:=TM T (ae T.aE);have e0:∀r,r < D.m->T.fU r=D.bt r:=fun r s=>h.cM.bt r s;have LC:∀r,r < D.m->(fK n (dH n cs) (D.bt r)↔(T.n:Int)<=T.fU r):=fun r s=>by rw[e0 r s,h.tn];exact ⟨fun hh=>hh.1,fun hh=>⟨hh,h.pre.nb r s⟩⟩
 have W:=fun r s=>h.cM.a0 r s;by_cases hw:T.Qf < 0
 .exact ⟨T,aq,.Ko ok hw,fun h=>(by cases h),fun _=>⟨D,cm,⟨h.cM,h.tn,h.pre,fun r s R=>by rw[<-W r s];exact akR.1 (w1 hw r (h.cM.m ▸ s) ((LC r s).1 R)),h.cin,h.AY⟩,rfl,c3⟩⟩
 .obtain ⟨a,ha⟩:∃a:Nat,T.Qf=(a:Int):=⟨az T.Qf,aD⟩;have c0:T.kE (ae T.aE)=(a:Int):=ha;have hb:=GV (T:=T) (ae T.aE);rw[c0] at hb;have ⟨a1,a2,a3⟩:=w2 aD;rw[c0,ah9] at a1 a2 a3;have J:a < D.m:=by rw[<-h.cM.m];omega
  have X:=B.V6 h.pre;have se:fK n (dH n cs) (mR n cs):=aax;have sm:¬fK n (dH n cs) (-1):=aaJ;have sa:=(LC a J).2 a1;have ⟨f1,f2,f3,f4,f5⟩:=h.pre.first X (fun v=>al2) se sm J sa (W a J ▸ a2) (fun r s R=>by
   rw[<-W a J,<-W r s];by_cases hg:(af T.aE r ah).add < 0
   .exact .inl (a3 r (h.cM.m ▸ s) ((LC r s).1 R) hg)
   .exact .inr (akR.1 hg))
  have Sm:=B.szm X;obtain ⟨y,t⟩:∃y,y=D.more (NX n cs D) (mR n cs):=⟨_,rfl⟩;have b6:Shd (T.ext (mR n cs)) y (cm++[D.w]):=t ▸ h.cM.ext h.tn h.pre.nb;have px:Pre (D0.more (NX n cs D) (mR n cs)) y (nV n) (dH n cs) (fK n (dH n cs)):=t ▸ h.pre.more X (fun v=>al2) se sm;rw[<-t] at f1 f2 f3 f4 f5;have d1:y.m=D.m+1:=by rw[t];rfl
  have d2:y.w=D.w+1:=by rw[t];rfl
  have d3:y.bt a=D.bt a:=t ▸ Np J;have c4:y.out D.w=mR n cs:=t ▸ LA;have lens:ae (cm++[D.w])=ae cm+1:=aO;have a4:af (cm++[D.w]) (ae cm) 0=D.w:=by simp[af]
  have c7:=b6.ok Sm px.fit.dE aD aD;have a5:ae cm < ae (cm++[D.w]):=aD;have b0:a < y.m:=aD;have e3:y.a a (af (cm++[D.w]) (ae cm) 0+1)≠0:=by rw[a4,f1];grind
  have c2:ji ((T.ext (mR n cs)).jn a (ae T.bh)):=by rw[h.cM.cw];exact b6.Nt Sm px.fit.dE aD aD b0 a5 e3
  have sx:∀q,q < y.w->fK n (dH n cs) (y.out q)->∃j,j < ae (cm++[D.w])/\af (cm++[D.w]) j 0=q:=fun q hq R=>by
   rcases aij q D.w with E | E
   .have:y.out q=D.out q:=t ▸ Ie E;rw[this] at R;have ⟨j,K,o⟩:=h.cin q E R;refine ⟨j,aD,?_⟩;rw[<-o];simp[af,aic K]
   .exact ⟨ae cm,a5,by rw[a4];omega⟩
  have sc:∀j,j < ae (cm++[D.w])->fK n (dH n cs) (y.out (af (cm++[D.w]) j 0)):=fun j K=>by
   rcases tJ K with ⟨E,h2⟩ | ⟨E,h2⟩
   .rw[h2,t,Ie (h.cM.lt j E)];exact h.AY j E
   .rw[h2,c4];exact se
  have U1:kZ (D0.more (NX n cs D) (mR n cs)) n (dH n cs) (cm++[D.w]) ((T.ext (mR n cs)).bQ a (ae cm)) (y.bQ a D.w):=by
   have V:=b6.bQ b0 a5;rw[a4] at V;refine ⟨V,h.tn,f2,f3,fun q hq R=>?_,fun q hq=>?_⟩
   .by_cases c5:q=D.w
    .exact ⟨ae cm,a5,by rw[a4,c5]⟩
    .have e:(y.bQ a D.w).out q=y.out q:=by show cT y.out D.w (y.bt a) q=y.out q;unfold cT;rw[ah0 c5]
     rw[e] at R;exact sx q hq R
   .show fK n (dH n cs) (cT y.out D.w (y.bt a) (af (cm++[D.w]) q 0));unfold cT;split
    .rw[d3];exact sa
    .exact sc q hq
  have c6:∀v,(D0.more (NX n cs D) (mR n cs)).Var v -> -1<=v/\v < -1+((n+ae cs+2:Nat):Int):=fun v hv=>by
   rcases (oT v).1 hv with E | E | E
   .have:=B.var v E;omega
   .rw[E];unfold mR;omega
   .rw[E];omega
  have ⟨N,G,C,r3,g1,g2⟩:=Si (m:=D.m+1) Sm aD aD c6 (P:=fun Y=>(∀q,q < Y.w->nV n (Y.out q)->Y.g (q+1)=0)/\(∃r,r < Y.m/\Y.bt r = -1)/\Y.Var (mR n cs))
   (fun Y i k hY bs hP=>by
    refine ⟨hY.loose bs.hi bs.hk bs.si hP.1,?_,(wD bs.hi bs.hk _).2 hP.2.2⟩;have ⟨r,r1,r2⟩:=hP.2.1;have e6:r≠i:=fun o=>sm (by rw[<-r2,o];exact bs.si);exact ⟨r,r1,by show cT Y.bt i (Y.out k) r = -1;unfold cT;rw[ah0 e6];exact r2⟩) U1 (by show y.m=_;exact d1) ⟨fun q hq=>f4 q (by have:(y.bQ a D.w).w=D.w+1:=d2;omega),by
    have ⟨r,r1,r2⟩:=f5;exact ⟨r,by show r < y.m;omega,r2⟩,(wD b0 aD _).2 (.inr ⟨D.w,aD,c4⟩)⟩;have ⟨f,⟨a6,U,d0⟩,m3,c8,c9⟩:=g2;have e4:r3=aq:=by
   cases r3 with
   | true=>rfl
   | false =>
    have ⟨k,k1,k2,k3,k4⟩:=c9 rfl;exact (LG f.pre f.jc se k1 k2 k3 k4).elim
  have opt:=c8 e4;have L:=f.cM.g0;have gw:=h.cM.cw;by_cases A:0 < C.g 0
  .refine ⟨G,ar,.go ok ha c7 c2 (.bad (gw ▸ g1) (by rw[L,(nq _).2.2];exact A)),fun _=>JD f.pre X sm a6 opt A,fun h=>by cases h⟩
  .have e2:¬0 < G.aM.add.num.sign:=by rw[L,(nq _).2.2];exact A
   have b7:=f.cM.ok Sm f.pre.fit.dE aD aD;have O:∀r,r < C.m->G.fU r=C.bt r:=fun r s=>f.cM.bt r s;have out:∃T4 F,FeA (mR n cs) 0 G T4/\kZ (D0.more (NX n cs D) (mR n cs)) n (dH n cs) (cm++[D.w]) T4 F/\F.m=D.m+1/\(∃r,r < F.m/\F.bt r = -1)/\∃q,q < F.w/\F.out q=mR n cs:=by
    rcases d0 with ⟨b,H,I⟩ | hv
    .have ⟨z0,k,k1,k2,k3⟩:=LF h.pre f.pre f.jc X (fun v=>al2) se sm H I A;have ⟨j,K,d6⟩:=f.cin k k1 k2;have ⟨c,l1,l2,l3⟩:=Zg (l:=af G.aE b ah) ⟨j,by rw[f.cM.lw b H];exact K,by rw[f.cM.a b H j K,d6];exact k3⟩;rw[f.cM.lw b H] at l2;rw[f.cM.a b H c l2] at l3;have si:fK n (dH n cs) (C.bt b):=by rw[I];exact se
     have z:=f.acN H l2 si l3 (f.jc.flat H z0);have b8:eJ (G.bQ b c):=z.cM.ok Sm z.pre.fit.dE (by show C.m < _;omega) aD;have d8:ae G.aE=C.m:=f.cM.m;have cK:=f.pre.fit.dE.cK;refine ⟨G.bQ b c,C.bQ b (af (cm++[D.w]) c 0),?_,z,m3,?_,⟨_,f.cM.lt c l2,by show cT C.out _ (C.bt b) _=_;unfold cT;rw[ah1 rfl,I]⟩⟩
     .refine R7 b 0 aD b7 (fun r _ s=>?_) ?_
      .rw[O r aD];intro o;have:=cK.bb r b aD H (by rw[o,I]);omega
      .rw[aia];refine .kz b7 aD (by rw[O b H,I]) l1 (f.cM.Nt Sm f.pre.fit.dE aD aD H l2 l3) (HU _ (b+1) rfl b8 fun r s b5=>?_);rw[F2,d8] at b5;have e:(G.bQ b c).fU r=C.bt r:=by have:=z.cM.bt r b5;show ((G.bQ b c).aE.getD r ah).name=_;rw[this];show cT C.bt b _ r=_;unfold cT;rw[ah0 aD]
       rw[e];intro o;have:=cK.bb r b b5 H (by rw[o,I]);omega
     .have ⟨r,r1,r2⟩:=U;have e5:r≠b:=fun o=>X.Ce (by rw[<-r2,o,I]);exact ⟨r,r1,by show cT C.bt b _ r = -1;unfold cT;rw[ah0 e5];exact r2⟩
    .have ⟨q,q1,q2⟩:=hv;refine ⟨G,C,HU _ 0 rfl b7 fun r _ s o=>?_,f,m3,U,q,q1,q2⟩;rw[f.cM.m] at s;rw[O r s] at o;exact f.pre.fit.dE.cK.bo r q s q1 (by rw[o,q2])
   have ⟨T4,F,e1,z,m4,⟨b,H,I⟩,q,q1,q2⟩:=out;have ⟨j,K,d7⟩:=z.cin q q1 (q2 ▸ se);have a7:=z.pre.fit.dE.cK;have b8:=z.cM.ok Sm z.pre.fit.dE aD aD;have e8:=z.cM.m;have a8:∀r,r < F.m->T4.fU r=F.bt r:=fun r s=>z.cM.bt r s;have s1:=z.cM.dG H K;have ho:F.out (af (cm++[D.w]) j 0)=mR n cs:=by rw[d7];exact q2
   have ⟨p1,p2⟩:=z.pre.dG z.jc X H (z.cM.lt j K) I ho;have b3:ae (aB (cm++[D.w]) j)=ae cm:=by rw[dK K,lens];omega
   have a9:∀p,p < ae cm->sk (af (cm++[D.w]) j 0) (af ((aB (cm++[D.w]) j).map (BM (af (cm++[D.w]) j 0))) p 0)=af (cm++[D.w]) (sk j p) 0:=fun p V=>by have d9:af (cm++[D.w]) (sk j p) 0≠af (cm++[D.w]) j 0:=fun o=>DW j p (z.cM.inj _ _ (di aD) K o);rw[getD_map (d:=0) aD,dc,PW d9]
   refine ⟨_,aq,.go ok ha c7 c2 (.Fp (by rw[gw];exact g1) e2 e1 (.mk (c:=j) (j:=b) b8 (by rw[z.cM.cw];exact K) (by rw[z.cM.out j K];exact ho) (fun p V o=>?_) aD (by rw[a8 b H];exact I) (fun p V o=>?_))),fun h=>(by cases h),fun _=>⟨_,_,⟨s1,z.tn,p1,p2,fun p V R=>?_,fun p V=>?_⟩,by show F.m - 1=D.m;omega,by rw[ah3,b3];exact c3⟩⟩
   .have b4:p < ae (cm++[D.w]):=aD;rw[z.cM.out p b4,<-ho] at o;have:=z.cM.inj p j b4 K (a7.oo _ _ (z.cM.lt p b4) (z.cM.lt j K) o);omega
   .rw[a8 p aD] at o;have:=a7.bb p b aD H (by rw[o,I]);omega
   .have ⟨j',d4,o⟩:=z.cin _ (di V) R;have d5:j'≠j:=fun hh=>by rw[hh] at o;exact DW _ _ o.symm
    have ⟨p',e9,e7⟩:=FV d4 K d5;refine ⟨p',by rw[ah3,b3];omega,?_⟩;have:=a9 p' aD;rw[e7,o] at this;exact Ah this
   .rw[ah3,b3] at V;show fK n (dH n cs) (F.out (sk _ _));rw[a9 p V];exact z.AY _ (di aD)
end
section
variable {D0 D D1:Dic} {eq sd free:Int->Prop} {i k:Nat}
def Pre.tight (o:Pre D0 D1 free eq sd) (s:∀q,q < D1.w->free (D1.out q)->D1.g (q+1)=0) (h:Pre D0 D free eq sd) (c:k < D.w) (l:free (D.out k)):D.g (k+1)=0:=by
 have b:=h.fit.dE.cK;have e:∀t v,eq v->D.at k t v=0:=fun t v hv=>by unfold Dic.at;rw[iV (fun r y x=>h.nb r y (x ▸ hv))];exact ah0 (fun (x:v=D.out k)=>h.fe _ l (x ▸ hv))
 have oh:∀t,D0.Sol (D.at k t):=fun t=>h.fit.back _ (mH b _) (e t);have val:∀t,D1.rv D1.g (D.at k t)=D.g 0+t*D.g (k+1):=fun t=>by rw[o.fit.dE.gv _ (oh t),<-h.fit.dE.gv _ (oh t),Wf b c]
 have same:D1.rv D1.g (D.at k 1)=D1.rv D1.g (D.at k 0):=by
  unfold Dic.rv;congr 1;refine df fun q p=>?_;rcases o.JZ q p with z | z | z
  .rw[s q p z];grind
  .rw[e 1 _ z,e 0 _ z]
  .congr 1;by_cases j:∃r,r < D.m/\D.bt r=D1.out q
   .have ⟨r,y,a⟩:=j;rw[<-a,MH b c y,MH b c y,h.fz k c l r y (by rw[a];exact z)];grind
   .unfold Dic.at;rw[iV (fun r y x=>j ⟨r,y,x⟩),iV (fun r y x=>j ⟨r,y,x⟩)];have:D1.out q≠D.out k:=fun x=>h.fs _ l (x ▸ z);simp only[ah0 this]
 rw[val,val] at same
 grind
def Pre.Wj (h:Pre D0 D free eq sd) (o:k < D.w) (l:free (D.out k)) (E:Pts D0 eq sd x) (t:Rat):∃y,Pts D0 eq sd y/\D0.rv D0.g y=D0.rv D0.g x+t*D.g (k+1):=by
 have ⟨H,W,K⟩:=E;have e:=h.fit.dE.cK;have C:=h.fit.dE.oh x H;obtain ⟨y,p⟩:∃y:Asg,y=fun v=>if v=D.out k then x v+t else x v:=⟨_,rfl⟩;have c:∀f:Nat->Rat,D.rv f y=D.rv f x+t*f (k+1):=fun f=>by
  unfold Dic.rv;rw[df (g:=fun q=>if q=k then f (k+1)*(x (D.out k)+t) else f (q+1)*x (D.out q)) (fun q B=>by
   rw[p];simp only[];by_cases a:q=k
   .subst a;rw[ah1 rfl,ah1 rfl]
   .rw[ah0 (fun A=>a (e.oo _ _ B o A)),ah0 a]),wu o]
  grind
 have s:∀v,eq v->D.ext y v=0:=fun v hv=>by rw[iV (fun r b z=>h.nb r b (z ▸ hv)),p];simp only[];rw[ah0 (fun (z:v=D.out k)=>h.fe _ l (z ▸ hv))];exact W v hv
 have oh:=h.fit.back _ (mH e y) s;refine ⟨D.ext y,⟨oh,s,fun v hv j=>?_⟩,?_⟩
 .by_cases X:∃r,r < D.m/\D.bt r=v
  .obtain ⟨r,b,rfl⟩:=X;rw[vR e b,c,h.fz k o l r b j,<-C r b];have:=K _ hv j
   grind
  .rw[iV (fun r b z=>X ⟨r,b,z⟩),p];simp only[];rw[ah0 (fun (z:v=D.out k)=>h.fs _ l (z ▸ j))];exact K v hv j
 .rw[<-h.fit.dE.gv _ oh,FQ e,c,h.fit.dE.gv x H]
def Pre.Vb (h:Pre D0 D free eq sd) (e:k < D.w) (b:free (D.out k)) (o:D.g (k+1)≠0) (l:Pts D0 eq sd x) (B:Rat):∃y,Pts D0 eq sd y/\D0.rv D0.g y < B:=by
 by_cases m:D.g (k+1) < 0
 .have ⟨t,_,j⟩:=wX (c:=D0.rv D0.g x) m B;have ⟨y,z,a⟩:=h.Wj e b l t;exact ⟨y,z,a ▸ j⟩
 .have ⟨t,_,j⟩:=wX (c:=D0.rv D0.g x) (s := -(D.g (k+1))) (by grind) B;have ⟨y,z,a⟩:=h.Wj e b l (-t);exact ⟨y,z,by rw[a];grind⟩
end
def Fm.val (f:Fm) (n:Nat) (u:Nat->Rat):Rat:=(f.a:Rat)+cU n fun k=>((af f.c k 0:Int):Rat)*u k
def Cd.ki (c:Cd) (n:Nat) (u:Nat->Rat):Prop:=if c.e=aq then c.f.val n u=0 else 0<=c.f.val n u
def ff (n:Nat) (cs:List Cd) (u:Nat->Rat):Prop:=∀c,c∈cs->c.ki n u
inductive wJ (n:Nat) (cs:List Cd) (f:Fm):Int->Prop
 | void:(¬∃u,ff n cs u)->wJ n cs f 0
 | pC:(∀B,∃u,ff n cs u/\f.val n u < B)->wJ n cs f 1
 | r9 {B:Rat}:(∃u,ff n cs u)->(∀u,ff n cs u->B<=f.val n u)->wJ n cs f 2
structure AS (n:Nat) (cs:List Cd) (f:Fm) (M:Int):Prop where
 n1:n < 900000
 c1:cs.length < 900000
 m1:1<=M
 g2:grow M (n+1) < 4294967296 ^ 100000
 len:∀c,c∈cs->c.f.c.length=n
 UM:f.c.length=n
 a:∀c,c∈cs -> -M<=c.f.a/\c.f.a<=M
 c:∀c,c∈cs->∀x,x∈c.f.c -> -M<=x/\x<=M
 fa:-M<=f.a/\f.a<=M
 fc:∀x,x∈f.c -> -M<=x/\x<=M
def Fm.ep (f:Fm) (c:Nat):Rat:=if c=0 then (f.a:Rat) else ((af f.c (c - 1) 0:Int):Rat)
def iq (n:Nat) (cs:List Cd) (f:Fm):Dic where
 m:=ae cs
 w:=n
 bt:=fun i=>(n:Int)+(i:Int)
 out:=fun k=>(k:Int)
 a:=fun i c=>(af cs i ah).f.ep c
 g:=f.ep
section
variable {n:Nat} {cs:List Cd} {f:Fm} {M:Int}
def ZH {g:Fm} {x:Asg}:(iq n cs f).rv g.ep x=g.val n fun k=>x (k:Int):=rfl
def Pe {g:Fm} (j:ae g.c=n) (e:1<=M) (y:-M<=g.a/\g.a<=M) (z:∀x,x∈g.c -> -M<=x/\x<=M) {c:Nat} (b:c<=n):Num M 1 (g.ep c):=by
 unfold Fm.ep;split
 .exact ⟨g.a,y.1,y.2,by grind⟩
 .have h:c - 1 < ae g.c:=aD;have w:af g.c (c - 1) 0∈g.c:=by rw[af,ah6 h];exact ajj _
  exact ⟨af g.c (c - 1) 0,(z _ w).1,(z _ w).2,by grind⟩
def Wg (P:AS n cs f M):ua (iq n cs f) n cs M:=by
 have z:∀i,(iq n cs f).bt i=(n:Int)+(i:Int):=fun i=>rfl;have y:∀k,(iq n cs f).out k=(k:Int):=fun k=>rfl;have p:(iq n cs f).m=ae cs:=rfl;have l:(iq n cs f).w=n:=rfl;refine ⟨⟨fun i j _ _ x=>by rw[z,z] at x;omega,fun i j _ _ x=>by rw[y,y] at x;omega,fun i j b o x=>by rw[z,y] at x;rw[l] at o;omega⟩,⟨1,aR,cn P.m1,P.m1,fun i b c e=>?_,fun c e=>Pe P.UM P.m1 P.fa P.fc e⟩,P.m1,P.g2,rfl,P.n1,P.c1,?_,fun k g=>by rw[y];rw[l] at g;omega⟩
 .have h:af cs i ah∈cs:=bS b;exact Pe (P.len _ h) P.m1 (P.a _ h) (P.c _ h) e
 .rintro v (⟨i,b,rfl⟩ | ⟨k,g,rfl⟩)
  .rw[p] at b;rw[z];omega
  .rw[l] at g;rw[y];omega
def mV (h:j < n):af (aC n) j 0=j:=by simp[af,h]
def W0 (P:AS n cs f M):Shd (gh n cs f n (ae cs)) (iq n cs f) (aC n):=by
 have z:∀i,i < ae cs->(gh n cs f n (ae cs)).aE.getD i ah=oX ((n:Int)+(i:Int)) (af cs i ah).f:=fun i y=>sS y;have row:∀{g:Fm} {j:Nat} {e:Int},ae g.c=n->j < n->(oX e g).c.getD j 0=g.ep (j+1):=fun {g j e} l h=>by unfold Fm.ep;rw[ah0 aD,alx];show af (g.c.map fun x:Int=>(x:Rat)) j 0=_;rw[getD_map (d:=0) aD]
 have len:∀i,i < ae cs->(af cs i ah).f.c.length=n:=fun i y=>P.len _ (bS y);refine ⟨by simp[gh,iq],fun i y=>by rw[z i y];rfl,by simp[gh],by simp[gh,oX,P.UM],fun i y=>by rw[z i y,akn];show ae ((af cs i ah).f.c.map _)=n;rw[ah3,len i y],fun j h=>?_,fun p q a b w=>?_,fun j h=>?_,fun i y=>by rw[z i y];rfl,rfl,fun i y j h=>?_,fun j h=>?_⟩
 .rw[akn] at h;rw[mV h];exact h
 .rw[akn] at a b;rw[mV a,mV b] at w;exact w
 .rw[akn] at h;rw[mV h];exact sS h
 .rw[akn] at h;rw[mV h,z i y];exact row (len i y) h
 .rw[akn] at h;rw[mV h];exact row P.UM h
def Ys (P:AS n cs f M):SAi (iq n cs f) n cs (aC n) (gh n cs f n (ae cs)) (iq n cs f) 0:=by
 refine ⟨W0 P,rfl,.refl (Wg P).cK,fun r z=>aD,fun j h=>?_,fun q x y=>?_,ahZ _,aO⟩
 .rw[akn] at h;rw[mV h];show ((j:Nat):Int) < n;omega
 .exact absurd (mV x) (y q (akn ▸ x))
def ZC {x:Asg} (h:Pts (iq n cs f) (dH n cs) (fK n (dH n cs)) x):ff n cs fun k=>x (k:Int):=by
 have ⟨a,b,g⟩:=h;intro c j;obtain ⟨i,z,rfl⟩:=ajD.1 j;have e:cs[i]=af cs i ah:=by simp[af,z]
 have m:x ((n:Int)+(i:Int))=(af cs i ah).f.val n fun k=>x (k:Int):=a i z;have w:dH n cs ((n:Int)+(i:Int))↔(af cs i ah).e=aq:=by unfold dH;rw[show az ((n:Int)+(i:Int) - (n:Int))=i by omega];exact ⟨fun h=>h.2.2,fun h=>⟨by omega,by omega,h⟩⟩
 rw[e];unfold Cd.ki;rw[<-m];split
 .rename_i y;exact b _ (w.2 y)
 .rename_i y;exact g _ (.inl ⟨i,z,rfl⟩) ⟨aD,fun l=>y (w.1 l)⟩
def Wx {u:Nat->Rat} (h:ff n cs u):∃x,Pts (iq n cs f) (dH n cs) (fK n (dH n cs)) x/\∀g:Fm,(g.val n fun k=>x (k:Int))=g.val n u:=by
 obtain ⟨x,j⟩:∃x:Asg,x=fun v=>if v < (n:Int) then u (az v) else (af cs (az (v - n)) ah).f.val n u:=⟨_,rfl⟩;have m:∀k,k < n->x (k:Int)=u k:=fun k y=>by rw[j];simp only[];rw[ah1 (by omega),ah9]
 have b:∀i:Nat,x ((n:Int)+(i:Int))=(af cs i ah).f.val n u:=fun i=>by rw[j];simp only[];rw[ah0 (by omega),show az ((n:Int)+i - n)=i by omega]
 have vl:∀g:Fm,(g.val n fun k=>x (k:Int))=g.val n u:=fun g=>by unfold Fm.val;congr 1;exact df fun k y=>by show _*x (k:Int)=_;rw[m k y]
 refine ⟨x,⟨fun i z=>?_,fun v hv=>?_,fun v hv a=>?_⟩,vl⟩
 .have e:(iq n cs f).bt i=(n:Int)+(i:Int):=rfl;rw[e,b];exact (vl _).symm
 .obtain ⟨i,rfl⟩:∃i:Nat,v=(n:Int)+i:=⟨az (v - n),cn hv.1⟩;have ⟨_,o,c⟩:=hv;rw[show az ((n:Int)+(i:Int) - (n:Int))=i by omega] at c;have:=h _ (bS (d:=ah) (show i < ae cs by omega));unfold Cd.ki at this;rw[ah1 c] at this;rw[b];exact this
 .rcases hv with ⟨i,z,rfl⟩ | ⟨k,y,rfl⟩
  .have e:(iq n cs f).bt i=(n:Int)+(i:Int):=rfl;have z:i < ae cs:=z;rw[e] at a ⊢;have w:¬(af cs i ah).e=aq:=fun l=>a.2 ⟨by omega,by omega,by rw[show az ((n:Int)+(i:Int) - (n:Int))=i by omega];exact l⟩;have:=h _ (bS (d:=ah) z);unfold Cd.ki at this;rw[ah0 w] at this;rw[b];exact this
  .have:(n:Int)<=((k:Nat):Int):=a.1;have y:k < n:=y;omega
def Kv (P:AS n cs f M):∃kind val xs,MnB n cs (gh n cs f n (ae cs)) kind val xs/\wJ n cs f kind:=by
 have B:=Wg P;have ⟨T1,ok,lo,s,s2,s3⟩:=VG B (Ys P);have z:(¬∃x,Pts (iq n cs f) (dH n cs) (fK n (dH n cs)) x)->wJ n cs f 0:=fun hn => .void fun ⟨u,X⟩=>by obtain ⟨x,hx,_⟩:=Wx (f:=f) X;exact hn ⟨x,hx⟩
 cases ok with
 | false=>exact ⟨_,_,_,.eqs s,z (s2 rfl)⟩
 | true =>
  have ⟨D1,G,b⟩:=s3 rfl;have ⟨T2,r2,K,J,L⟩:=UF B b;cases r2 with
  | false=>exact ⟨_,_,_,.jc s K,z (J rfl)⟩
  | true =>
   have ⟨D2,I,j,C,c2⟩:=L rfl;have y:∀x,(iq n cs f).rv (iq n cs f).g x=f.val n fun k=>x (k:Int):=fun x=>ZH;have below:(∀a,∃x,Pts (iq n cs f) (dH n cs) (fK n (dH n cs)) x/\(iq n cs f).rv (iq n cs f).g x < a)->wJ n cs f 1:=fun hX => .pC fun a=>by have ⟨x,W,t⟩:=hX a;rw[y] at t;exact ⟨_,ZC W,t⟩
   have E:∀{T:Tb} {D:Dic} {A:List Nat},kZ (iq n cs f) n (dH n cs) A T D->D.m=D1.m->TZ T n:=fun {T D A} l hm=>⟨l.tn,by rw[l.cM.m,hm];have:=b.m;have:=P.c1;omega,fun i hi=>by rw[l.cM.m] at hi;have e:T.fU i=D.bt i:=l.cM.bt i hi;rw[e];exact (B.var _ (l.pre.fit.dE.var _ (.inl ⟨i,hi,rfl⟩))).1⟩;cases lo with
   | true =>
    have ⟨q,q1,q2,q3⟩:=b.Su rfl;exact ⟨_,_,_,.fin s K .loose (E j C),below fun a=>b.pre.Vb q1 q2 q3 (j.pre.sV j.jc).1 a⟩
   | false =>
    have tight:=fun k hk hf=>b.pre.tight (b.St rfl) j.pre (k:=k) hk hf;have ⟨N,T3,F,r,O,R⟩:=Si (m:=D1.m) B.S (cn P.n1) (zU b.m P.c1) (lo:=0) (V:=n+ae cs) (fun v hv=>cn (B.var v hv))
     (P:=fun Y=>∀q,q < Y.w->nV n (Y.out q)->Y.g (q+1)=0) (fun Y i k hY H U=>hY.loose H.hi H.hk H.si U) j C tight;have ⟨c,h,m3,o,p⟩:=R;refine ⟨_,_,_,.fin s K (.run O) (E c m3),?_⟩;cases r with
    | true =>
     have hp:=(c.pre.sV c.jc).1;refine .r9 (B:=F.g 0) ⟨_,ZC hp⟩ fun u X=>?_;obtain ⟨x,W,t⟩:=Wx (f:=f) X;have:=c.pre.least h (o rfl) W;rw[y,t f] at this;exact this
    | false =>
     have ⟨k,k1,k2,k3,k4⟩:=p rfl;exact below fun a=>c.pre.ny c.jc k1 k2 k3 k4 a
end
section
variable {P:Program}
def bf (a b:AV):Prop:=∀(I:Imm) (β:Bet) v,Rel I β a v->Rel I β b v
def bf.refl (a:AV):bf a a:=fun _ _ _ h=>h
def eW (k:Nat):bf .nil (.seq k ar []):=fun _ _ _ h=>h.TK (.Dz k)
def jS (xs ys:List (List AV)):Prop:=ae xs=ae ys/\∀(i:Nat) x y,xs[i]?=ak x->ys[i]?=ak y->ae x=ae y/\y.all bB=aq/\∀(j:Nat) a b,x[j]?=ak a->y[j]?=ak b->bf a b
def jS.get {xs ys:List (List AV)} (h:jS xs ys) {i:Nat} {y:List AV} (z:ys[i]?=ak y):∃x,xs[i]?=ak x/\ae x=ae y/\y.all bB=aq/\∀(j:Nat) a b,x[j]?=ak a->y[j]?=ak b->bf a b:=by
 have k:i < ae xs:=by rw[h.1];exact (aid.1 z).1
 exact ⟨xs[i],ah6 k,h.2 i _ y (ah6 k) z⟩
def jS.cell {xs ys:List (List AV)} (h:jS xs ys) {i j:Nat} {b:AV} (k:dL ys i j=ak b):∃a,dL xs i j=ak a/\bf a b:=by unfold dL at k ⊢;have ⟨y,g,z⟩:=ah7.1 k;have ⟨x,f,c,_,e⟩:=h.get g;have w:j < ae x:=c ▸ (aid.1 z).1;exact ⟨x[j],by rw[f];exact ah6 w,e j _ b (ah6 w) z⟩
def jS.of_map {α:Type} {f g:α->List AV} (l:List α) (h:∀a,a∈l->ae (f a)=ae (g a)/\(g a).all bB=aq/\∀(j:Nat) x y,(f a)[j]?=ak x->(g a)[j]?=ak y->bf x y):jS (l.map f) (l.map g):=by refine ⟨aO,fun i x y w k=>?_⟩;rw[ajp] at w k;obtain ⟨a,z,rfl⟩:=aiD.1 w;rw[z] at k;simp only[ai3,akd] at k;subst k;exact h a (aiX z)
def jS.append {xs ys a vs:List (List AV)} (h:jS xs ys) (g:jS a vs):jS (xs++a) (ys++vs):=by
 refine ⟨by simp[h.1,g.1],fun i x y z w=>?_⟩;rcases aij i (ae xs) with k | k
 .rw[aic k] at z;rw[aic (by rw[<-h.1];exact k)] at w;exact h.2 i x y z w
 .rw[aiC k] at z;rw[aiC (by rw[<-h.1];exact k),<-h.1] at w;exact g.2 _ x y z w
def F3 {k:Nat} {f:Bool} {xs ys:List (List AV)} (h:jS xs ys) (r:∀y,y∈ys->ae y=k):bf (.seq k f xs) (.seq k f ys):=by
 intro I β v s;have z:=h.1;cases s with
 | kf g =>
  have:ys=[]:=aiA (bu z.symm);subst this;exact .kf g
 | seq H K l m X n =>
  rw[z];refine .seq H (fun y c=>?_) (fun i j a e=>?_) (fun i j a e=>?_) aD (fun p=>n p ▸ z)
  .have ⟨i,q⟩:=akF.1 c;have ⟨x,_,_,o,_⟩:=h.get q;exact ⟨r y c,o⟩
  .have ⟨b,w,_⟩:=h.cell e;exact l i j b w
  .have ⟨b,w,t⟩:=h.cell e;exact t _ _ _ (m i j b w)
def TL {n:Nat} {H:aF} {id:Nat} {ob:bz} {xs:List (List AV)} (A:H[id]?=ak (ak ob)) (t:jS ob.xs xs) (hk:∀x,x∈xs->ae x=ob.k) :
  WkS n H (H.set id (ak ⟨ob.k,ob.ver,xs⟩)) (fun a F=>F=a):=by
 intro I β w s;have y:∀(i:Nat) o,(H.set id (ak ⟨ob.k,ob.ver,xs⟩))[i]?=ak (ak o)->∃f,H[i]?=ak (ak f)/\f.k=o.k/\f.ver=o.ver/\∀B,eL I β w B f->eL I β w B o:=by
  intro i o h;rw[akm] at h;split at h
  .rename_i e;split at h
   .simp at h;subst h;refine ⟨ob,e ▸ A,rfl,rfl,fun B l=>?_⟩;unfold eL at l ⊢;split
    .rename_i r;rw[ah1 r] at l;refine ⟨aiA ?_,l.2⟩;have:=t.1;rw[l.1] at this;simpa using this.symm
    .rename_i r;rw[ah0 r] at l;have ⟨c,E,R,S,T,g4,g5,U⟩:=l;refine ⟨c,E,R,S,T,by have:=t.1;simp only;omega,fun x G=>⟨hk x G,?_⟩,fun i j a v K X=>?_⟩
     .have ⟨i,hi⟩:=akF.1 G;have ⟨_,_,_,h6,_⟩:=t.get hi;exact h6
     .have ⟨L,z,m⟩:=t.cell K;exact m _ _ _ (U i j L v z X)
   .simp at h
  .exact ⟨o,h,rfl,rfl,fun B h=>h⟩
 refine ⟨I,β,⟨s.fP,?_,?_,?_,?_⟩,?_,?_⟩
 .intro i o h;have ⟨f,z,m,g,W⟩:=y i o h;have ⟨B,M,N,O⟩:=s.obj i f z;exact ⟨B,g ▸ M,m ▸ N,W B O⟩
 .intro i j o f B J h V K X;have ⟨p,z,_,g,_⟩:=y i o h;have ⟨q,C,_,D,_⟩:=y j f V;exact s.inj i j p q B J z C (g ▸ K) (D ▸ X)
 .intro i v B h;rw[ah8];exact s.jr i v B h
 .intro i o n h r;have ⟨p,z,_,g,_⟩:=y i o h;exact s.ver i p n z (g ▸ r)
 .rintro a F rv rfl hr;exact hr
 .intro I0 a1 H0 w0 _ _ x;refine ⟨x.fP,x.ue,by rw[ah8];exact x.len,x.size,x.os,x.tape,x.output,x.frame,?_⟩;rintro b ⟨i,o,B,z,m,g,W⟩;have ⟨p,C,_,D,_⟩:=y i o z;exact x.own b ⟨i,p,B,C,D ▸ m,g,W⟩
def R8 {n:Nat} {H l:aF} {k ver:Nat} {xs ys:List (List AV)} {r:AV} (x:jS xs ys) (z:∀y,y∈ys->ae y=k):Fin n r (H++ak ⟨k,ver,xs⟩::l) r (H++ak ⟨k,ver,ys⟩::l):=by have h:=TL (n:=n) (H:=H++ak ⟨k,ver,xs⟩::l) (id:=ae H) (ob:=⟨k,ver,xs⟩) aO x z;have e:(H++ak (⟨k,ver,xs⟩:bz)::l).set (ae H) (ak ⟨k,ver,ys⟩)=H++ak ⟨k,ver,ys⟩::l:=aO;rw[e] at h;exact ⟨_,h,rfl⟩
def qS (n:Nat) (H:aF):WkS n H H bf:=fun I β _ s=>⟨I,β,s,fun _ _ _ h k=>h _ _ _ k,fun _ _ _ _ _ _ h=>h⟩
def A3 (h:bf a b):Fin n a H b H:=⟨_,qS n H,h⟩
inductive s5 (R:AV->AV->Prop):Env->Env->Prop
 | nil:s5 R [] []
 | cons {t:Nat} {a b:AV} {e e2:Env}:R a b->s5 R e e2->s5 R ((t,a)::e) ((t,b)::e2)
def s5.lk (h:s5 R e k) (y:R .ba .ba) (t:Nat):R (lk t e) (lk t k):=by
 induction h with
 | nil=>exact y
 | cons x _ z =>
  rename_i s a b e k _;show R (if s=t then a else Fx.lk t e) (if s=t then b else Fx.lk t k);split
  .exact x
  .exact z
def s5.KQ (h:s5 R e x) (y:R .ba .ba) (z:WkS n H k R):za n e H x k:=z.KQ fun t => .inr (h.lk y t)
def V3 (c:aI H i oi.ver=ak oi) (e:aI H j oj.ver=ak oj) (y:i≠j) (z:oi.xs.all (fun x=>x.all bT)=aq) (w:oj.xs.all (fun x=>x.all bT)=aq) :
  WkS n H ((H.set i an).set j an) (fun a b=>bf (dD j oj.ver oj.k oj.xs (dD i oi.ver oi.k oi.xs a)) b) :=
 (((pf c z).trans (pf (H:=H.set i an) ((aS y).trans e) w)).trans (qS n _)).sub fun a b h=>⟨_,⟨_,rfl,rfl⟩,h⟩
def V2 (z:aI H i oi.ver=ak oi) (y:oi.xs.all (fun x=>x.all bT)=aq) :
  WkS n H (H.set i an) (fun a b=>bf (dD i oi.ver oi.k oi.xs a) b) :=
 ((pf z y).trans (qS n _)).sub fun a b h=>⟨_,rfl,h⟩
def bR.empty (h:∀p cap,bR P f (.c (.slice p 0 cap)::rest) H r H'):bR P f (.seq k b []::rest) H r H':=by
 refine ⟨(h an 0).1,fun I β w y s x=>?_⟩;cases y with
 | nil=>exact absurd x.1 aO
 | cons v y =>
  obtain ⟨p,cap,rfl,_⟩:=x.head.pG;exact (h p cap).2 I β w _ s (.cons (.c rfl) x.tail)
def M7:∀t,2*grow M t=(2*M) ^ (2 ^ t)
 | 0=>by rw[Nat.pow_zero,aj1,anr,aj2];rfl
 | t+1=>by have:=M7 (M:=M) t;rw[amS,Int.pow_mul,<-this];show 2*(2*(grow M t*grow M t))=_;rw[aj1,aj1,anr,aj2];generalize grow M t=g;rw[aiI 2 g,akA g 2 g]
abbrev M60:Int:=1152921504606846976
def Pg (h:n<=9):grow M60 n < 4294967296 ^ 100000:=by
 have z:grow M60 n<=grow M60 9:=Fq aR h;have k:=M7 (M:=M60) 9;have x:(2*M60:Int)=2 ^ 61:=aR;rw[x,<-Int.pow_mul] at k;have y:(4294967296:Int) ^ 100000=2 ^ 3200000:=by have:(4294967296:Int)=2 ^ 32:=aR;rw[this,<-Int.pow_mul]
 have w:(2:Int) ^ (61*2 ^ 9) < 2 ^ 3200000:=ZU aR;have a:=zM (M:=M60) aR 9;rw[y];generalize (2:Int) ^ 3200000=X at *;generalize (2:Int) ^ (61*2 ^ 9)=Y at *;omega
structure gI (n:Nat) (cs:List Cd):Prop where
 n8:n<=8
 cl:cs.length<=120
 len:∀c,c∈cs->c.f.c.length=n
 a:∀c,c∈cs -> -M60<=c.f.a/\c.f.a<=M60
 c:∀c,c∈cs->∀x,x∈c.f.c -> -M60<=x/\x<=M60
def gI.of {n:Nat} {cs:List Cd} (h:mT n cs=aq):gI n cs:=by
 unfold mT at h;rw[ah2,aiU,ah4] at h;have ⟨⟨e,g,i⟩,b⟩:=h;have z:∀c,c∈cs->((ae c.f.c:Int)=n)/\rY c.f.a=aq/\∀x,x∈c.f.c->rY x=aq:=fun c k=>by have:=b c k;unfold Fm.jW at this;rw[ah2,aiU,ah2,ah4] at this;exact ⟨this.1.2.2,this.2.1,this.2.2⟩
 have w:∀x,rY x=aq -> -M60<=x/\x<=M60:=fun x y=>by unfold rY at y;simpa using y
 exact ⟨aD,aD,fun c k=>by have:=(z c k).1;omega,fun c k=>w _ (z c k).2.1,fun c k x y=>w x ((z c k).2.2 x y)⟩
def gI.Vn (h:gI n cs) (z:ae f.c=n) (k:-M60<=f.a/\f.a<=M60) (y:∀x,x∈f.c -> -M60<=x/\x<=M60):AS n cs f M60 :=
 ⟨cn h.n8,cn h.cl,aR,Pg (cn h.n8),h.len,z,h.a,h.c,k,y⟩
def gI.fmI {n:Nat} {cs:List Cd} (h:gI n cs) {c:Cd} (k:c∈cs):FmI c.f :=
 ⟨by rw[h.len c k];have:=h.n8;omega,fun x y=>by have:=h.c c k x y;unfold I64;simp only[M60] at this;omega,by have:=h.a c k;unfold I64;simp only[M60] at this;omega⟩
def GW (n:Nat):Fm:=⟨aA n 0,0⟩
def gI.zero (h:gI n cs):AS n cs (GW n) M60:=h.Vn (by simp[GW]) (by simp[GW]) (fun x k=>by rw[(ajN.1 k).2];decide)
def gI.unit (h:gI n cs):AS n cs (gF n v) M60:=h.Vn (by simp[gF]) (by simp[gF]) (fun x y=>by
 rcases ai4 y with k | k
 .rw[(ajN.1 k).2];decide
 .rw[k];decide)
def gI.abi (h:gI n cs):AS n cs ((gF n v).mul (-1)) M60:=h.Vn (by simp[gF,Fm.mul]) (by simp[gF,Fm.mul]) (fun x z=>by
 obtain ⟨y,w,rfl⟩:=aiw.1 z;rcases ai4 w with k | k
 .rw[(ajN.1 k).2];decide
 .rw[k];decide)
def Iu (x:k < n):(gF n v).c.getD k 0=if k=v then 1 else 0:=by
 unfold gF;simp only[ajm,akm,aji,aiY];by_cases h:v=k
 .subst h;simp[x]
 .rw[ah0 h,ah0 (ait h)];simp[x]
def VO (hv:v < n) (u:Nat->Rat):(gF n v).val n u=u v:=by
 unfold Fm.val;rw[ni hv (fun c y h=>by rw[Iu y,ah0 h];simp),Iu hv,ah1 rfl];simp only[gF];have k:(((0:Int)):Rat)=0:=by rfl
 have x:(((1:Int)):Rat)=1:=by rfl
 rw[k,x];grind
def Ts (hv:v < n) (u:Nat->Rat):((gF n v).mul (-1)).val n u = -u v:=by
 unfold Fm.val;have x:∀k,k < n->((gF n v).mul (-1)).c.getD k 0=if k=v then -1 else 0:=fun k w=>by
  have:=Iu (v:=v) w;show af ((gF n v).c.map (· * -1)) k 0=_;have a:(gF n v).c.length=n:=by simp[gF]
  rw[ajm,ajp,ah6 aD];rw[ajm,ah6 aD] at this;simp only[ai9,ai3] at this ⊢;rw[this];split<;>rfl
 rw[ni hv (fun c z h=>by rw[x c z,ah0 h];simp),x v hv,ah1 rfl];simp only[gF,Fm.mul];have:(((0:Int) * -1:Int):Rat)=0:=by rfl
 rw[this];show (0:Rat)+((-1:Int):Rat)*u v = -u v;have y:(((-1:Int)):Rat) = -1:=by rfl
 rw[y];grind
open Classical in
noncomputable def sT (n:Nat) (cs:List Cd):Bool:=decide (¬∃u,ff n cs u)
def HI (n:Nat) (cs:List Cd) (v:Nat):Prop:=(∃B,∀u,ff n cs u->B<=u v)/\∃B,∀u,ff n cs u->B <= -u v
open Classical in
noncomputable def BK (n:Nat) (cs:List Cd):Bool:=decide (∀v,v < n->HI n cs v)
def vZ (h:∃u,ff n cs u):sT n cs=ar:=by unfold sT;rw[aj5];exact fun k=>k h
open Classical in
def Ck (h:¬∃u,ff n cs u):sT n cs=aq:=by unfold sT;exact air h
def Nj (hv:v < n) (h:¬HI n cs v):BK n cs=ar:=by unfold BK;rw[aj5];exact fun k=>h (k v hv)
open Classical in
def Sq (h:∀v,v < n->HI n cs v):BK n cs=aq:=by unfold BK;exact air h
noncomputable def kL (n:Nat) (cs:List Cd):Bool := !sT n cs&&BK n cs
open Classical in
def wJ.none (h:wJ n cs f k):decide (k=0)=sT n cs:=by
 unfold sT;cases h with
 | void h=>rw[air rfl,air h]
 | pC h=>rw[aif aR,aif (fun x=>x ⟨_,(h 0).choose_spec.1⟩)]
 | r9 h _=>rw[aif aR,aif (fun x=>x h)]
def wJ.two (h:wJ n cs f k) (x:∃u,ff n cs u):k=2↔∃B,∀u,ff n cs u->B<=f.val n u:=by
 cases h with
 | void h=>exact absurd x h
 | pC h =>
  refine ⟨fun h=>absurd h aR,fun ⟨B,w⟩=>?_⟩;have ⟨u,y,z⟩:=h B;have:=w u y;exact absurd z (akR.2 this)
 | r9 _ h=>exact ⟨fun _=>⟨_,h⟩,fun _=>rfl⟩
def Qb {n:Nat} (h:gI n cs):bg prog 56 [.q0 (n:Int),.seq 5 ar (cs.map dC)] (.v0 (sT n cs)):=by
 have ⟨kind,val,y,e,b⟩:=Kv h.zero;have f:=h.n8;have x:AV.agg [.seq 3 ar (aA n (rC 0)),.q0 0,.v0 ar,.nil]=wA (GW n):=by show _=AV.agg [.seq 3 ar ((aA n 0).map rC),_,_,_];rw[ajT];rfl
 have k:=BO aD (cn h.cl) (fun c a=>by rw[h.len c a];omega) (by simp[GW];omega) e;refine pw func56 ?_;refine Y ?_;refine aH (ZZ n aD) rfl (x ▸ lP _) ?_;rw[x];refine Y ?_;have z:[AV.q0 (n:Int),.seq 5 ar (cs.map dC),wA (GW n)].all bJ=aq:=by simp only[ais,ajd,lP,aiM];rfl
 have w:bJ (.bM [.q0 kind,xA val,.seq 6 ar (y.map xC)])=aq:=by show [AV.q0 kind,xA val,.seq 6 ar (y.map xC)].all eO=aq;simp only[ais,ajd,TN,aiM];rfl
 refine aH k z w ?_;refine Y ?_;exact aW (by rw[b.none]) rfl
def acn (h:x=0\/x=1):Dg 400000000 x:=by
 rcases h with rfl | rfl
 .exact tK _
 .exact uq _ aR
def RG {n:Nat} (h:gI n cs) (b:∃u,ff n cs u):bg prog 57 [.q0 (n:Int),.seq 5 ar (cs.map dC)] (.v0 (BK n cs)):=by
 have N:=h.n8;have G:sT n cs=ar:=vZ b;have i:∀(f:Fm) (v:Int),[AV.q0 v,.seq 5 ar (cs.map dC),wA f].all bJ=aq:=fun f v=>by simp only[ais,ajd,lP,aiM];rfl
 have A:∀(kind:Int) (val:Rat) (W:List Rat),bJ (.bM [.q0 kind,xA val,.seq 6 ar (W.map xC)])=aq:=fun kind val W=>by show [AV.q0 kind,xA val,.seq 6 ar (W.map xC)].all eO=aq;simp only[ais,ajd,TN,aiM];rfl
 refine pw func57 ?_;refine Y ?_;refine cX (Qb h) ?_;rw[G];refine Y ?_;refine aZ (fun q e H=>∃v:Nat,v<=n/\q=n - v/\(∀j,j < v->HI n cs j) /\
  e=[(0,.q0 (n:Int)),(1,.seq 5 ar (cs.map dC)),(15,.q0 (n:Int)),(16,.q0 (v:Int))]) (n:=n) ⟨0,aD,rfl,fun j I=>aD,rfl⟩ ?_;rintro q _ H ⟨v,hv,O,B,rfl⟩;by_cases m:(v:Int) < (n:Int)
 .have F:=ws v;have w:v < n:=aD;have ⟨p,R,T,L,D⟩:=Kv (h.unit (v:=v));have ⟨t,S,U,M,E⟩:=Kv (h.abi (v:=v));have Et:(gF n v).c.length=n:=by simp[gF]
  have o:=BO aD (cn h.cl) (fun c r=>by rw[h.len c r];omega) aD L;have min2:=BO aD (cn h.cl) (fun c r=>by rw[h.len c r];omega) (by simp[Fm.mul];omega) M;have K:=D.two b;have X:=E.two b;simp only[VO w] at K;simp only[Ts w] at X;refine Y1 m ?_;refine aH (Ty n v w aD) rfl (lP _) ?_;refine Y ?_;refine aH o (i _ _) (A _ _ _) ?_;refine Y ?_;refine aH (Ty n v w aD) rfl (lP _) ?_;refine Y ?_;refine aH (V0 (gF n v) aD (fun x J=>acn (by
   rcases ai4 J with g | g
   .exact .inl (ajN.1 g).2
   .exact .inr g)) (tK _)) (by simp only[ais,ajd,lP,aiM]) (lP _) ?_;refine Y ?_;refine aH min2 (i _ _) (A _ _ _) ?_;have C:¬HI n cs v->BK n cs=ar:=fun l=>Nj w l;by_cases y:p=2
  .by_cases a:t=2
   .have k:(p=2)=True:=aiq y;have z:(t=2)=True:=aiq a;refine Z3 k z F ?_;refine ⟨n - (v+1),aD,v+1,aD,rfl,fun j I=>?_,rfl⟩;rcases aij j v with g | g
    .exact B j g
    .rw[show j=v by omega];exact ⟨K.1 y,X.1 a⟩
   .have k:(p=2)=True:=aiq y;have z:(t=2)=False:=aie a;refine Z2 k z ?_;exact aW (by rw[C (fun l=>a (X.2 l.2))]) rfl
  .have k:(p=2)=False:=aie y;refine Z1 k ?_;exact aW (by rw[C (fun l=>y (K.2 l.1))]) rfl
 .have s:v=n:=aD;subst s;refine Y1 m ?_;exact aW (by rw[Sq B]) rfl
def XX {n:Nat} (h:gI n cs):bg prog 34 [.agg [.q0 (n:Int),.seq 3 ar (cs.map cC)]] (.v0 (kL n cs)):=by
 have x:∀c,c∈cs->FmI c.f:=fun c y=>h.fmI y;refine pw func34 ?_;refine Y ?_;refine cY (abm cs (by have:=h.cl;omega) x ar) ?_;refine cX (Qb h) ?_;by_cases k:∃u,ff n cs u
 .rw[vZ k];refine Z0 ?_;refine cY (RG h k) ?_;exact aW (by unfold kL;rw[vZ k];rfl) rfl
 .rw[Ck k];refine Z0 ?_;exact aW (by unfold kL;rw[Ck k];rfl) rfl
def PE (h:aI H a 0=ak ⟨4,0,l.map qC⟩) (k:n=ae l) :
  Fin 0 (.agg [.q0 0,.q0 0,.nil,.q0 0,.nil,.nil,.nil,.sl 4 a 0 0 n]) H (xX ⟨0,ah,.nil,.nil,yb l⟩) []:=by
 subst k;refine pD h (by show (l.map qC).all (fun x=>x.all bT)=aq;rw[ah4];intro x y;obtain ⟨q,_,rfl⟩:=aiw.1 y;exact z7 q) ?_;have e:dD a 0 4 (l.map qC) (.agg [.q0 0,.q0 0,.nil,.q0 0,.nil,.nil,.nil,.sl 4 a 0 0 (ae l)]) = .agg [.q0 0,.q0 0,.nil,.q0 0,.nil,.nil,.nil,yb l]:=by simp[dD,qB,fm,yb,aiv]
 rw[e];exact aW (yM 0 _ _ _).symm (by rw[<-yM];exact rq zT zT (th _))
def RC {n:Nat} {rv:AV} {aU:List dB} {aM:dB} {o:xM} (hn:n < 1000000) (B:ae aU < 1000000) (W:SlV [] 6 rv (aU.map de)) (v:ae aM.vM < 1000000) (X:∀r,r∈aU->ae r.vM < 1000000) (hm:Br n aU aM o) :
  bg prog 109 [.q0 (n:Int),rv,.agg (de aM)] (xX o):=by
 refine pc func109 HM ?_;refine uz ?_;have s:((de aM).all dM)=aq:=by show (aq&&((qC aM.add++[AV.v0 aM.eq]).all dM))=aq;rw[ajk,Mv];rfl
 have f:aG rv=[]:=by
  generalize aU.map de=xs at W;cases W with
  | nil=>rfl
  | seq=>rfl
  | sl h=>simp[aI] at h
 have G:∀K,iX aq (de aM) 0 6 K=K (.agg (de aM)):=fun K=>by simp[iX,gC,de,bO,qC]
 obtain ⟨i,k⟩:∃i,i=([ak ⟨8,0,[zX]⟩]:aF):=⟨_,rfl⟩;have w:i=([ak ⟨8,0,[[.q0 0,.q0 0,.nil,.q0 0,.nil,.nil,.nil,.nil]]⟩]:aF):=k;simp only[go_sem,↓reduceIte,aia,s,G,<-w];have A:SlV i 6 rv (aU.map de):=W.same (fun id e=>by rw[f] at e;simp at e);refine cQ (XB hn B A f v X) ?_;rintro _ S ⟨t,D,rfl,I,k2,i2⟩;have j:Bp S t D:=⟨by rw[k2.2 0 (by rw[k];simp) aO,k];rfl,fun H=>by have:=i2 0 H;rw[k] at this;simp at this⟩;refine Y ?_;cases hm with
 | eqs b =>
  refine cQ (zu b I) ?_;rintro _ N ⟨M,g,a,rfl,ha,x⟩;have z:=j.gS g;have p:=z.gM;have q:=z.set;simp only[go_sem,↓reduceIte,ahZ,aia,aja,p,q,zX];have V:=aP j.ob;exact PE (by rw[aS aD];exact x) rfl
 | jc b c y =>
  refine cQ (zu b I) ?_;rintro _ N ⟨M,g,rfl,J⟩;have z:=j.gS g;refine Z0 ?_;refine cQ (M5 c J) ?_;rintro _ T ⟨rfl,O,L,E⟩;have l:=z.gS E;refine Y ?_;refine cQ (Hr (c _) y L) ?_;rintro _ U ⟨R,F,a,rfl,ha,x⟩;have m:=l.gS F;have p:=m.gM;have q:=m.set;simp only[go_sem,↓reduceIte,ahZ,aia,aja,p,q,zX];have V:=aP l.ob;exact PE (by rw[aS aD];exact x) rfl
 | fin b c y C hE =>
  refine cQ (zu b I) ?_;rintro _ N ⟨M,g,rfl,J⟩;have z:=j.gS g;refine Z0 ?_;refine cQ (M5 c J) ?_;rintro _ T ⟨rfl,O,L,E⟩;have l:=z.gS E;refine Y ?_;refine cQ (Hr (c _) y L) ?_;rintro _ U ⟨R,F,rfl,t5⟩;have m:=l.gS F;refine Z0 ?_;exact Zk hE C t5 m
end
def dB.val (r:dB) (n:Nat) (u:Nat->Rat):Rat:=r.add.val+cU n fun k=>(af r.vM k ah).val*u k
def dB.ki (r:dB) (n:Nat) (u:Nat->Rat):Prop:=if r.eq=aq then r.val n u=0 else 0<=r.val n u
def wK (n:Nat) (aU:List dB) (u:Nat->Rat):Prop:=∀r,r∈aU->r.ki n u
inductive AQ (n:Nat) (aU:List dB) (aM:dB):Int->Rat->Prop
 | void {v:Rat}:(¬∃u,wK n aU u)->AQ n aU aM 0 v
 | pC {v:Rat}:(∀B,∃u,wK n aU u/\aM.val n u < B)->AQ n aU aM 1 v
 | r9 {v:Rat}:(∃u,wK n aU u/\aM.val n u=v)->(∀u,wK n aU u->v<=aM.val n u)->AQ n aU aM 2 v
structure Qs (n:Nat) (aU:List dB) (aM:dB) (M:Int):Prop where
 S:Gg n aU M
 len:∀r,r∈aU->r.vM.length=n
 YR:aM.vM.length=n
 cd:∃d:Int,d≠0 /\ -M<=d/\d<=M/\(∀r,r∈aU->∀x,x∈r.line->QV x/\Num M d x.val)/\∀x,x∈aM.line->QV x/\Num M d x.val
section
variable {n:Nat} {aU:List dB} {aM:dB} {M:Int}
def yE:(cP n aU aM).cells.getD i []=if i < ae aU then (af aU i ah).line else []:=by
 show af ((aU.take (ae aU)).map dB.line) i []=_;rw[aiK];by_cases h:i < ae aU
 .rw[ah1 h];simp[af,h]
 .rw[ah0 h];simp[af,show ae aU<=i by omega]
def zV {i:Nat} (h:i < ae aU):(cP n aU aM).aT.getD i 0=(n:Int)+(i:Int):=by show af ((aC (ae aU)).map fun (i:Nat)=>(n:Int)+(i:Int)) i 0=_;simp[af,h]
def DB {k:Nat} (h:k < n):(cP n aU aM).out.getD k 0=(k:Int):=by show af ((aC n).map fun (i:Nat)=>(i:Int)) k 0=_;simp[af,h]
def uK:(cP n aU aM).cells.length=ae aU:=by simp[cP,jf]
def Cp:(cP n aU aM).out.length=n:=by simp[cP,jf]
def aaM (P:Qs n aU aM M):gz (cP n aU aM):=by
 have ⟨d,_,_,_,y,z⟩:=P.cd;refine ⟨by rw[uK];simp[cP,jf],fun i h=>?_,?_,fun i h x k=>?_,fun x k=>(z x k).1⟩
 .rw[uK] at h;rw[yE,ah1 h,Cp];simp only[dB.line,aiF];rw[P.len _ (ec h)]
 .rw[Cp];simp[cP,jf,dB.line,P.YR]
 .rw[uK] at h;rw[yE,ah1 h] at k;exact (y _ (ec h) x k).1
def Vj (P:Qs n aU aM M):Beg (cP n aU aM).dic n aU M:=by
 have ⟨d,l,o,p,q,r⟩:=P.cd;have f:(cP n aU aM).dic.m=ae aU:=uK;have z:(cP n aU aM).dic.w=n:=Cp;have e:∀i,i < ae aU->(cP n aU aM).dic.bt i=(n:Int)+(i:Int):=fun i h=>zV h;have b:∀k,k < n->(cP n aU aM).dic.out k=(k:Int):=fun k y=>DB y;refine ⟨P.S,⟨fun i j h x a=>?_,fun i j h x a=>?_,fun i j h x a=>?_⟩,⟨d,l,o,p,fun i h c g=>?_,fun c g=>?_⟩,z,fun k y=>?_,?_⟩
 .rw[f] at h x;rw[e i h,e j x] at a;omega
 .rw[z] at h x;rw[b i h,b j x] at a;omega
 .rw[f] at h;rw[z] at x;rw[e i h,b j x] at a;omega
 .rw[f] at h;rw[z] at g;have s:(af aU i ah).line.length=n+1:=by simp only[dB.line,aiF];rw[P.len _ (ec h)]
  show Num M d (af ((cP n aU aM).cells.getD i []) c ah).val;rw[yE,ah1 h];exact (q _ (ec h) _ (ec aD)).2
 .rw[z] at g;have s:ae aM.line=n+1:=by simp[dB.line,P.YR]
  exact (r _ (ec (show c < ae aM.line by omega))).2
 .rw[z] at y;rw[b k y];omega
 .rintro v (⟨i,h,rfl⟩ | ⟨k,y,rfl⟩)
  .rw[f] at h;rw[e i h];omega
  .rw[z] at y;rw[b k y];omega
def val_congr {r:dB} {u v:Nat->Rat} (h:∀k,k < n->u k=v k):r.val n u=r.val n v:=by unfold dB.val;rw[df (g:=fun k=>(af r.vM k ah).val*v k) fun k x=>by rw[h k x]]
def PD (f:Nat->Rat) (x:Asg):(cP n aU aM).dic.rv f x=f 0+cU n fun k=>f (k+1)*x (k:Int):=by unfold Dic.rv;rw[show (cP n aU aM).dic.w=n from Cp];congr 1;exact df fun k h=>by rw[show (cP n aU aM).dic.out k=(k:Int) from DB h]
def FG (x:Asg):(cP n aU aM).dic.rv (cP n aU aM).dic.g x=aM.val n fun k=>x (k:Int):=PD _ _
def Nw (x:Asg) (h:i < ae aU):(cP n aU aM).dic.rv ((cP n aU aM).dic.a i) x=(af aU i ah).val n fun k=>x (k:Int):=by rw[PD];show (af ((cP n aU aM).cells.getD i []) 0 ah).val+cU n (fun k=>(af ((cP n aU aM).cells.getD i []) (k+1) ah).val*_)=_;rw[yE,ah1 h];rfl
def Ii {i:Nat} (h:i < ae aU):(cP n aU aM).gm ((n:Int)+(i:Int))=(af aU i ah).eq:=by unfold Tab.gm;show (decide ((n:Int)<=(n:Int)+i)&&decide ((n:Int)+i < (n:Int)+ae aU)&&(af aU (az ((n:Int)+i - n)) ah).eq)=_;have:az ((n:Int)+i - n)=i:=aD;rw[this];simp only[air (show (n:Int)<=(n:Int)+i by omega),air (show (n:Int)+i < (n:Int)+ae aU by omega),ajg]
def LK (h:Pts (cP n aU aM).dic (cP n aU aM).gJ (cP n aU aM).fF x):wK n aU fun k=>x (k:Int):=by
 have ⟨b,c,f⟩:=h;intro r g;obtain ⟨i,z,rfl⟩:=ajD.1 g;have e:aU[i]=af aU i ah:=by simp[af,z]
 have a:=b i (by show i < (cP n aU aM).cells.length;rw[uK];exact z);rw[Nw x z,show (cP n aU aM).dic.bt i=(n:Int)+(i:Int) from zV z] at a;rw[e];unfold dB.ki;rw[<-a];have w:=Ii (n:=n) (aM:=aM) z;split
 .rename_i y;exact c _ (by unfold Tab.gJ;rw[w];exact y)
 .rename_i y;refine f _ (.inl ⟨i,by show i < (cP n aU aM).cells.length;rw[uK];exact z,zV z⟩) ?_;unfold Tab.fF Tab.du;rw[w];have:(cP n aU aM).n=n:=rfl;rw[this,air (show (n:Int)<=(n:Int)+i by omega),ajg];simpa using y
def Lx {u:Nat->Rat} (h:wK n aU u):∃x,Pts (cP n aU aM).dic (cP n aU aM).gJ (cP n aU aM).fF x/\∀k,k < n->x (k:Int)=u k:=by
 obtain ⟨x,l⟩:∃x:Asg,x=fun v=>if v < (n:Int) then u (az v) else if v < (n:Int)+ae aU then (af aU (az (v - n)) ah).val n u else 0:=⟨_,rfl⟩;have f:∀k,k < n->x (k:Int)=u k:=fun k w=>by rw[l];simp only[];rw[ah1 (by omega),ah9]
 have e:∀i,i < ae aU->x ((n:Int)+(i:Int))=(af aU i ah).val n u:=fun i y=>by grind
 have z:∀i,i < ae aU->(af aU i ah).ki n u:=fun i y=>h _ (ec y);refine ⟨x,⟨fun i y=>?_,fun v hv=>?_,fun v hv a=>?_⟩,f⟩
 .have y:i < (cP n aU aM).cells.length:=y;rw[uK] at y;rw[Nw x y,show (cP n aU aM).dic.bt i=(n:Int)+(i:Int) from zV y,e i y];exact (val_congr fun k w=>f k w).symm
 .have hv:(cP n aU aM).gm v=aq:=hv;have m:(n:Int)<=v/\v < (n:Int)+ae aU:=IP hv;obtain ⟨i,rfl⟩:∃i:Nat,v=(n:Int)+i:=⟨az (v - n),by omega⟩;have y:i < ae aU:=by omega
  rw[Ii y] at hv;have:=z i y;unfold dB.ki at this;rw[ah1 hv] at this;rw[e i y];exact this
 .rcases hv with ⟨i,y,rfl⟩ | ⟨k,w,rfl⟩
  .have y:i < (cP n aU aM).cells.length:=y;rw[uK] at y;have b:(cP n aU aM).dic.bt i=(n:Int)+(i:Int):=zV y;rw[b] at a ⊢;have c:=fun g=>N7 _ _ (by unfold Tab.gJ;rw[Ii y];exact g) a;have:=z i y;unfold dB.ki at this;rw[ah0 c] at this;rw[e i y];exact this
  .have w:k < (cP n aU aM).out.length:=w;rw[Cp] at w;have j:(cP n aU aM).dic.out k=(k:Int):=DB w;rw[j] at a;exact absurd a (F0 _ _ (by unfold Tab.fr;show (k:Int) < (n:Int);omega))
def So {p:Nat->Bool} {b:Nat} (h:p b=aq):∃k,k<=b/\p k=aq/\∀j,j < k->p j=ar:=by
 induction b using Nat.strongRecOn with
 | _ b w =>
  by_cases z:∃j,j < b/\p j=aq
  .grind
  .exact ⟨b,ahZ _,h,fun j y=>by
    cases x:p j with
    | false=>rfl
    | true=>exact absurd ⟨j,y,x⟩ z⟩
def Hw (P:Qs n aU aM M):∃o,Br n aU aM o/\AQ n aU aM o.kind o.value.val:=by
 have B:=Vj P;have V:=aaM P;have hm:(cP n aU aM).cells.length=ae aU:=uK;have hw:(cP n aU aM).out.length=n:=Cp;have E0:ub (cP n aU aM).dic n aU (cP n aU aM):=⟨V,.refl B.cK,rfl,rfl,hw,aD,fun k _=>PX _ _⟩;have H:(¬∃x,Pts (cP n aU aM).dic (cP n aU aM).gJ (cP n aU aM).fF x)->¬∃u,wK n aU u:=fun hn ⟨u,hu⟩=>by obtain ⟨x,hx,_⟩:=Lx (aM:=aM) hu;exact hn ⟨x,hx⟩
 have ⟨N,T1,res,E,q2⟩:=IQ B.S B.cK B.cd (sd:=(cP n aU aM).fF) _ 0 rfl (aiL _) E0 (fun r hr=>aD) (fun k t=>by rw[hw] at t;left;rw[DB t];show (k:Int) < (n:Int);omega);cases res with
 | some m=>exact ⟨_,.eqs E,.void (H q2)⟩
 | none =>
  have ⟨E1,D⟩:=q2;have G:∀c,fQ (T1.eb c):=fun c=>((HY E1 D c).1).w B.S B.cK B.cd;have ⟨R,P2⟩:=Sc E1 D;have ⟨f,res,J,q4⟩:=W9 B R P2;have same:∀{X:Tab},X.n=n->X.aU=aU->X.fr=(cP n aU aM).fr/\X.gJ=(cP n aU aM).gJ/\X.fF=(cP n aU aM).fF:=fun {X} C I=>by
   refine ⟨?_,?_,?_⟩
   .funext v;unfold Tab.fr;rw[C];rfl
   .funext v;unfold Tab.gJ Tab.gm;rw[C,I];rfl
   .funext v;unfold Tab.fF Tab.du Tab.gm;rw[C,I];rfl
  cases res with
  | some m =>
   have ⟨_,W,A⟩:=same R.tn R.tr;rw[W,A] at q4;exact ⟨_,.jc E G J,.void (H q4)⟩
  | none =>
   have ⟨m,a2,z⟩:=q4;have F:∀{X:Tab},yW (cP n aU aM).dic n aU n m X->fQ X:=fun {X} h=>yS B.S h.v h.pre.fit.dE B.cK B.cd h.tn h.tr (by rw[h.tm];omega) (by rw[h.tw];omega);have W2:=F z;have lt:∀{X:Tab},gz X->∀k,X.kB k=aq↔X.fr (X.dic.out k)/\X.dic.g (k+1)≠0:=fun {X} hX k=>by unfold Tab.kB;rw[ah2,decide_eq_true_iff,ajJ,aj5,Sg hX];rfl
   have below:∀{X:Tab},(∀l,∃x,Pts (cP n aU aM).dic X.gJ X.fF x/\(cP n aU aM).dic.rv (cP n aU aM).dic.g x < l)->X.n=n->X.aU=aU->∀l,∃u,wK n aU u/\aM.val n u < l:=fun {X} hX C I l=>by have ⟨x,L,O⟩:=hX l;have ⟨_,W,A⟩:=same C I;rw[W,A] at L;rw[FG] at O;exact ⟨_,LK L,O⟩
   by_cases hl:∃b,b < ae f.out/\f.kB b=aq
   .have ⟨b,hb,a0⟩:=hl;have ⟨k,k1,k2,k3⟩:=So a0;have ⟨l1,l2⟩:=(lt z.v k).1 k2;have K:k < ae f.out:=aD;exact ⟨_,.fin E G J W2 (.loose K k2 k3 (B.var _ (z.pre.fit.dE.var _ (.inr ⟨k,K,rfl⟩))).1),.pC (below (fun l=>z.pre.pC z.jc K l1 l2 l) z.tn z.tr)⟩
   .have tight:∀j,j < ae f.out->f.kB j=ar:=fun j hj=>by
     cases hx:f.kB j with
     | false=>rfl
     | true=>exact absurd ⟨j,hj,hx⟩ hl
    have p:∀q,q < f.dic.w->f.fr (f.dic.out q)->f.dic.g (q+1)=0:=fun q hq hf=>akk fun a1=>by have:=tight q hq;rw[(lt z.v q).2 ⟨hf,a1⟩] at this;simp at this
    obtain ⟨N2,T3,r,T,y,g3⟩:=Pa B.S B.cK B.cd (by omega) (show m<=ae aU+1 by omega) (lo:=0) (V:=n+ae aU) (fun v hv=>by have:=B.var v hv;omega) z;have ⟨_,s⟩:=T.aY (P:=fun X=>Pre (cP n aU aM).dic X.dic X.fr X.gJ X.fF/\∀q,q < X.dic.w->X.fr (X.dic.out q)->X.dic.g (q+1)=0) z.v ⟨z.pre,p⟩ (fun X i k v _ _ U hi t hp b=>by
     have e:=oF v hi t hp;have ne:X.dic.a i (k+1)≠0:=by have:=b.zr;grind
     exact ⟨by rw[e];exact U.1.bQ hi t ne b.si b.sk,by rw[e];exact U.1.loose hi t b.si U.2⟩);cases g3 with
    | r9 hb =>
     refine ⟨_,.fin E G J W2 (.tight tight (.r9 T)),.r9 ?_ fun u hu=>?_⟩
     .have ⟨p1,p2⟩:=y.pre.sV y.jc;have ⟨_,W,A⟩:=same y.tn y.tr;rw[W,A] at p1;rw[FG] at p2;exact ⟨_,LK p1,p2⟩
     .have ⟨x,L,O⟩:=Lx (aM:=aM) hu;have ⟨_,W,A⟩:=same y.tn y.tr;have:=y.pre.least s hb (x:=x) (by rw[W,A];exact L);rw[FG] at this;have e:aM.val n (fun k=>x (k:Int))=aM.val n u:=val_congr fun k t=>O k t;rw[e] at this;exact this
    | ny a b c d =>
     rename_i k;refine ⟨_,.fin E G J W2 (.tight tight (.ny T a (B.var _ (y.pre.fit.dE.var _ (.inr ⟨k,a,rfl⟩))).1)),.pC (below (fun l=>y.pre.ny y.jc a b c d l) y.tn y.tr)⟩
end
section
variable {P:Program}
def abo (n:Int):bg prog 64 [.q0 n] (.v0 (decide (0<=n/\n<=8))):=by
 refine pw func64 ?_;by_cases h:0<=n
 .refine Z ?_;exact aW rfl rfl
 .refine Z ?_;exact aW rfl rfl
def J3 (n:Int):bg prog 85 [.q0 n] (.v0 (rY n)):=by
 refine pw func85 ?_;unfold rY;by_cases h:-1152921504606846976<=n
 .refine Z ?_;exact aW rfl rfl
 .refine Z ?_;exact aW rfl rfl
def VU (l:List Int) (n:ae l < 1000000000) (b:Bool):bg prog 86 [.seq 1 b (br l),.fn 85 [] []] (.v0 (l.all rY)):=by
 refine pw func86 ?_;have y:(ah:Int)=0:=rfl;refine Z ?_;refine aZ (fun k e H=>∃i:Nat,i<=ae l/\k=ae l - i/\(∀j,j < i->rY (af l j 0)=aq) /\
  e=[(1,.fn 85 [] []),(7,.seq 1 b (br l)),(8,.q0 (ae l:Int)),(9,.q0 (i:Int))]) ⟨0,aD,rfl,fun j h=>aD,rfl⟩ ?_;rintro k _ H ⟨i,f,m,w,rfl⟩;by_cases a:(i:Int) < (ae l:Int)
 .have c:=ws i;refine Z ?_;refine ⟨aD,aH (J3 (af l i 0)) rfl rfl ?_⟩;by_cases z:rY (af l i 0)=aq
  .refine Z ?_;exact ⟨ae l - (i+1),aD,i+1,aD,rfl,MB aD w z,rfl⟩
  .have x:rY (af l i 0)=ar:=bu z;refine Z ?_;exact aW (by rw[O4 aD x]) rfl
 .refine Z ?_;exact aW (by rw[MA (fun j g=>w j aD)]) rfl
def CG (n:Int) (f:Fm) (z:ae f.c < 1000000000):bg prog 60 [.q0 n,.agg (fC f)] (.v0 (f.jW n)):=by
 refine pw func60 ?_;unfold Fm.jW;refine Z ?_;refine cX (abo n) ?_;by_cases h:0<=n/\n<=8
 .by_cases w:(ae f.c:Int)=n
  .rw[air (show 0<=n/\n<=8/\(ae f.c:Int)=n by omega),ajg];refine Z ?_;refine cX (J3 f.a) ?_;by_cases x:rY f.a=aq
   .refine Z ?_;refine cX (VU f.c z ar) ?_;refine Z ?_;exact aW rfl rfl
   .have y:rY f.a=ar:=bu x;refine Z ?_;exact aW rfl rfl
  .rw[aif (show ¬(0<=n/\n<=8/\(ae f.c:Int)=n) by omega),aj9];refine Z ?_;exact aW rfl rfl
 .have k:=aie h;rw[aif (show ¬(0<=n/\n<=8/\(ae f.c:Int)=n) by omega),aj9];refine Z ?_;exact aW rfl rfl
def TD (n:Int) (l:List Cd) (K:ae l < 1000000000) (g:∀c,c∈l->ae c.f.c < 1000000000):bg prog 108 [.agg [.q0 n,.seq 3 ar (l.map cC)]] (.v0 (mT n l)):=by
 refine pw func108 ?_;unfold mT;by_cases q:n < 0
 .refine Z ?_;exact aW (by rw[aif (by omega)];rfl) rfl
 by_cases r:8 < n
 .refine Z ?_;exact aW (by rw[aif (by omega)];rfl) rfl
 by_cases s:(120:Int) < (ae l:Int)
 .refine Z ?_;exact aW (by rw[aif (by omega)];rfl) rfl
 rw[air (show 0<=n/\n<=8/\ae l<=120 by omega),ajg];refine Z ?_;refine aZ (fun k e H=>∃i:Nat,i<=ae l/\k=ae l - i/\(∀j,j < i->(af l j ah).f.jW n=aq) /\
  e=[(1,.fp [.q0 n,.seq 3 ar (l.map cC)] 0),(20,.seq 3 ar (l.map cC)),(21,.q0 (ae l:Int)),(22,.q0 (i:Int))]) ⟨0,aD,rfl,fun j h=>aD,rfl⟩ ?_;rintro k _ H ⟨i,t,v,w,rfl⟩;by_cases m:(i:Int) < (ae l:Int)
 .have p:=ws i;refine Z ?_;have b:af l i ah∈l:=by rw[af,ah6 (by omega:i < ae l)];exact ajj _
  refine ⟨aD,aH (CG n (af l i ah).f (g _ b)) rfl rfl ?_⟩;by_cases z:(af l i ah).f.jW n=aq
  .refine Z ?_;refine ⟨ae l - (i+1),aD,i+1,aD,rfl,fun j a=>?_,rfl⟩;rcases aij j i with h | h
   .exact w j h
   .rw[show j=i by omega];exact z
  .have y:(af l i ah).f.jW n=ar:=bu z;refine Z ?_;exact aW (by rw[ajq.2 ⟨_,b,by rw[y];decide⟩]) rfl
 .refine Z ?_;refine aW ?_ rfl;have:l.all (fun c=>c.f.jW n)=aq:=by rw[ah4];intro x o;obtain ⟨j,a,rfl⟩:=ajD.1 o;have:=w j aD;simpa[af,a] using this
  rw[this]
def TC (n:Int) (l:List Cd) (k:ae l < 1000000000) (h:∀c,c∈l->ae c.f.c < 1000000000):bg prog 84 [.agg [.q0 n,.seq 3 ar (l.map cC)]] (.v0 (mT n l)):=by refine pw func84 ?_;refine Z ?_;refine cX (TD n l k h) ?_;refine Z ?_;exact aW rfl rfl
def O1 (n:Int) (l:List Cd) (k:ae l < 1000000000) (h:∀c,c∈l->ae c.f.c < 1000000000):bg prog 59 [.agg [.q0 n,.seq 3 ar (l.map cC)]] (.v0 (mT n l)):=by refine pw func59 ?_;refine Z ?_;refine cX (TC n l k h) ?_;refine Z ?_;exact aW rfl rfl
def wq (n:Int):Q:=⟨n,0⟩
def Fm.fO (f:Fm) (e:Bool):dB:=⟨f.c.map wq,wq f.a,e,ar⟩
def Fm.jg (f:Fm) (i:Nat):List Q:=(f.c.take i).map wq++aA (ae f.c - i) ah
def UO {f:Fm} {i:Nat} (h:i<=ae f.c):ae (f.jg i)=ae f.c:=by simp[Fm.jg];omega
def UP {f:Fm} {i:Nat} (h:i < ae f.c):(f.jg i).set i (wq (af f.c i 0))=f.jg (i+1):=by unfold Fm.jg;rw[ajy _ _ (by simp;omega),ah3,aiG,aiQ (by omega),akO,show ae f.c - i=(ae f.c - (i+1))+1 by omega,alq,akt,F1 h,aii];simp
def UN {f:Fm} {i:Nat} (h:i < ae f.c):((f.jg i).map qC)[i]?=ak (qC ah):=by unfold Fm.jg;rw[ajp,aiC bW,ah3,aiG,aiQ aD,akO,aji,ah1 aD];rfl
def VW (f:Fm) (K:ae f.c < 1000000000) (p:∀x,x∈f.c->I64 x) (o:I64 f.a):bg prog 90 [.agg (fC f)] (.agg (de (f.fO ar))):=by
 refine pw func90 ?_;refine Z ?_;refine aH (ru f.a o) rfl (bE _) ?_;refine Z ?_;refine ⟨aD,by simp[List.all_replicate,bp],?_⟩;rw[Cw];refine aZ (fun n e H=>∃i:Nat,i<=ae f.c/\n=ae f.c - i/\H=[ak ⟨6,0,[[.nil,.q0 0,.nil,.q0 0,.nil,.v0 ar]]⟩,ak ⟨4,0,(f.jg i).map qC⟩,ak ⟨6,0,[[.sl 4 1 0 0 (ae f.c),.q0 (zv f.a),zd f.a,.q0 (zv 0),zd 0,.v0 ar]]⟩] /\
  e=[(2,.ptr 0 0 0 0),(3,.ptr 2 0 0 0),(15,iz f.c),(16,.q0 (ae f.c:Int)),(17,.q0 (i:Int))]) ⟨0,aD,rfl,by simp[Fm.jg],rfl⟩ ?_;rintro n _ _ ⟨i,v,X,rfl,rfl⟩;have j:(ah:Int)=0:=rfl;by_cases r:(i:Int) < (ae f.c:Int)
 .have h:i < ae f.c:=aD;have s:=ws i;have g:I64 (af f.c i 0):=p _ (bS h);have t:=iu (UN h);refine Z ?_;refine ⟨aD,aH (ru _ g) rfl (bE _) ?_⟩;refine Z ?_;have z:((f.jg i).map qC).set i [.q0 (zv (af f.c i 0)),zd (af f.c i 0),.q0 (zv 0),zd 0]=(f.jg (i+1)).map qC:=by rw[<-UP h,ajF];rfl
  rw[z];exact ⟨aD,ae f.c - (i+1),aD,i+1,aD,rfl,rfl,rfl⟩
 .have w:i=ae f.c:=aD;subst w;refine Z ?_;have b:ae ((f.jg (ae f.c)).map qC)=ae f.c:=by rw[ah3,UO (ahZ _)]
  have l:Acc 0 [ak ⟨6,0,[[.sl 4 1 0 0 (ae f.c),.q0 (zv f.a),zd f.a,.q0 (zv 0),zd 0,.v0 ar]]⟩,ak ⟨4,0,(f.jg (ae f.c)).map qC⟩,ak ⟨6,0,[[.sl 4 1 0 0 (ae f.c),.q0 (zv f.a),zd f.a,.q0 (zv 0),zd 0,.v0 ar]]⟩] 4 (.sl 4 1 0 0 (ae f.c)) ((f.jg (ae f.c)).map qC):=by
   have:=Acc.sl (n0:=0) (H:=[ak ⟨6,0,[[.sl 4 1 0 0 (ae f.c),.q0 (zv f.a),zd f.a,.q0 (zv 0),zd 0,.v0 ar]]⟩,ak ⟨4,0,(f.jg (ae f.c)).map qC⟩,ak ⟨6,0,[[.sl 4 1 0 0 (ae f.c),.q0 (zv f.a),zd f.a,.q0 (zv 0),zd 0,.v0 ar]]⟩]) (k:=4) (id:=1) (ver:=0) (xs:=(f.jg (ae f.c)).map qC) aR rfl
   rwa [b] at this
  have y:f.jg (ae f.c)=f.c.map wq:=by simp[Fm.jg]
  rw[y] at l ⊢;have m:((f.c.map wq).map qC).all (fun x=>x.all bT)=aq:=by rw[ah4];intro x g;obtain ⟨q,_,rfl⟩:=aiw.1 g;exact z7 q
  exact l.zz (pre:=[]) (post:=[.q0 (zv f.a),zd f.a,.q0 (zv 0),zd 0,.v0 ar]) m rfl (by have:=z7 (wq f.a);show (bT (.q0 (zv f.a))&&(bT (zd f.a)&&(bT (.q0 (zv 0))&&(bT (zd 0)&&(bT (.v0 ar)&&aq)))))=aq;rw[J9,J9];rfl)
def Cd.fO (c:Cd):dB:=c.f.fO c.e
def NO (r:dB):(de r).all bT=aq:=by unfold de;rw[ais,ajk,z7];rfl
def wQ (r:dB):bJ (.agg (de r))=aq:=by have h:=NO r;rw[ah4] at h;show (de r).all eO=aq;rw[ah4];exact fun a k=>B5 (h a k)
def VX (n:Int) (l:List Cd) (I:ae l < 1000000000) (K:∀c,c∈l->FmI c.f):bg prog 63 [.agg [.q0 n,.seq 3 ar (l.map cC)]] (.seq 6 ar (l.map fun c=>de c.fO)):=by
 refine pw func63 ?_;refine Z ?_;refine aZ (fun k e H=>∃(i:Nat) (v:AV),i<=ae l/\k=ae l - i/\Acc 0 H 6 v ((l.take i).map fun c=>de c.fO) /\
  e=[(3,v),(8,.seq 3 ar (l.map cC)),(9,.q0 (ae l:Int)),(10,.q0 (i:Int))]) ⟨0,.nil,aD,rfl,.nil,rfl⟩ ?_;rintro k _ H ⟨i,v,F,G,w,rfl⟩;have cv:=w.cell;by_cases X:(i:Int) < (ae l:Int)
 .have t:=ws i;refine Z ?_;have y:FmI (af l i ah).f:=K _ (bS aD);generalize j:af l i ah=c at *;refine ⟨aD,aH (VW c.f y.len y.c y.a) rfl (wQ _) ?_⟩;obtain ⟨o,h⟩:∃o,o=H++[ak (⟨3,0,[cC c]⟩:bz),ak ⟨6,0,[de c.fO]⟩]:=⟨_,rfl⟩;have b:=w.aQ (h ▸ aL.app _ _ []) aO;have ⟨p,r,z,s,W,A,B,C,D,E⟩:=b.app (aiL _) bW (de c.fO);rw[h] at z;simp only[de,Cd.fO,Fm.fO,wq] at z;simp only[go_sem,↓reduceIte,ahZ,de,Fm.fO,wq,aje,aiy] at z ⊢;refine Y2 z t ?_;refine ⟨rfl,ae l - (i+1),aD,i+1,p,aD,rfl,?_,rfl⟩;show Acc 0 r 6 p ((l.take (i+1)).map fun c=>de c.fO);rw[uT (g:=fun c:Cd=>de c.fO) (d:=ah) aD,j];exact s
 .have m:i=ae l:=aD;subst m;refine Z ?_;rw[aiK] at w;refine w.fin ?_;rw[ah4];intro x y;obtain ⟨q,_,rfl⟩:=aiw.1 y;exact NO _
def GJ (x:Rat):x=x / ((1:Int):Rat):=by
 have h:(((1:Int)):Rat)=1:=by rfl
 rw[h];grind
def WG (n:Int):QV (wq n):=⟨ajV 0,by unfold wq Q.lo;simp⟩
def Gd (n:Int):(wq n).val=(n:Rat):=by unfold Q.val wq Q.lo;rw[ah1 rfl,K0];exact (GJ _).symm
def Gk:(ah:Q).val=0:=by show Rat.divInt 0 _=0;simp
def Vx {n:Nat} {f:Fm} {e:Bool} (u:Nat->Rat):(f.fO e).val n u=f.val n u:=by
 unfold dB.val Fm.val Fm.fO;rw[Gd];congr 1;refine df fun k _=>?_;congr 1;show ((af (f.c.map wq) k ah)).val=_;rw[ajm,ajp];rcases aij k (ae f.c) with h | h
 .rw[ah6 h];simp only[ai3,ai9,Gd];simp[af,h]
 .rw[aiO h];simp only[Option.map_none,Option.getD_none,Gk];simp[af,h]
def Rs {n:Nat} {c:Cd} (u:Nat->Rat):c.fO.ki n u↔c.ki n u:=by unfold dB.ki Cd.ki Cd.fO;rw[Vx];exact al2
def tP {n:Nat} {cs:List Cd} (u:Nat->Rat):wK n (cs.map Cd.fO) u↔ff n cs u:=by unfold wK ff;simp only[aiw,forall_exists_index,and_imp,forall_apply_eq_imp_iff₂,Rs]
def yy (n v:Nat) (s:Int):dB:=⟨(aA n ah).set v (wq s),ah,ar,ar⟩
def Le (x:k < n):(yy n v s).vM.getD k ah=if k=v then wq s else ah:=by
 unfold yy;simp only[ajm,akm,aji,aiY];by_cases h:v=k
 .subst h;simp[x]
 .rw[ah0 h,ah0 (ait h)];simp[x]
def Sf {s:Int} (hv:v < n) (u:Nat->Rat):(yy n v s).val n u=(s:Rat)*u v:=by unfold dB.val;rw[ni hv (fun c k h=>by rw[Le k,ah0 h,Gk];grind),Le hv,ah1 rfl,Gd];show (ah:Q).val+_=_;rw[Gk];grind
def UU (z:-M60<=s/\s<=M60):∀x,x∈(yy n v s).line->QV x/\Num M60 1 x.val:=by
 have y:QV (ah:Q)/\Num M60 1 (ah:Q).val:=⟨q7,0,aR,aR,Gk ▸ GJ 0⟩;intro x w;unfold dB.line at w;rcases aiz.1 w with h | h
 .rw[h];exact y
 .rcases ai4 h with k | k
  .rw[(ajN.1 k).2];exact y
  .rw[k];exact ⟨WG s,s,z.1,z.2,by rw[Gd];exact GJ _⟩
def gI.Ww (h:gI n cs) (e:-M60<=s/\s<=M60):Qs n (cs.map Cd.fO) (yy n v s) M60:=by
 refine ⟨⟨cn h.n8,by have:=h.cl;simp;omega,aR,Pg (cn h.n8)⟩,fun r b=>?_,by simp[yy],1,aR,aR,aR,fun r b x f=>?_,UU e⟩
 .obtain ⟨c,k,rfl⟩:=aiw.1 b;simp[Cd.fO,Fm.fO,h.len c k]
 .obtain ⟨c,k,rfl⟩:=aiw.1 b;have key:∀y:Int,(-M60<=y/\y<=M60)->QV (wq y)/\Num M60 1 (wq y).val:=fun y z=>⟨WG y,y,z.1,z.2,by rw[Gd];exact GJ _⟩;rcases aiz.1 f with w | w
  .rw[w];exact key _ (h.a c k)
  .obtain ⟨y,z,rfl⟩:=aiw.1 w;exact key _ (h.c c k y z)
def OA (n:Nat) (h:n < 1000000):bR prog 88 [.q0 (n:Int)] H (.agg [.sl 4 (ae H+1) 0 0 n,.q0 0,.nil,.q0 0,.nil,.v0 ar])
  (H++[ak ⟨6,0,[[.sl 4 (ae H+1) 0 0 n,.q0 0,.nil,.q0 0,.nil,.v0 ar]]⟩,ak ⟨4,0,(aA n (ah:Q)).map qC⟩]):=by refine cw func88 ?_;refine Z0 ?_;rw[Cw];exact ⟨⟨aD,aD,aD⟩,dJ (Wk1.refl _)⟩
def uM (y:eO p=aq) (z:eO q=aq) (hm:eO m=aq):bJ (xX ⟨k,v,p,q,m⟩)=aq:=by
 show (eO (.q0 k)&&(eO (.q0 (zv v.top))&&(eO (zd v.top)&&(eO (.q0 (zv v.low))&&(eO (zd v.low)&&(eO p&&(eO q&&(eO m&&aq))))))))=aq;have h:∀x,eO (zd x)=aq:=fun x=>by unfold zd;split<;>rfl
 rw[h,h,y,z,hm];rfl
def xE (h:bB p=aq) (x:bB q=aq) (hm:bB m=aq):(xM.cells ⟨k,v,p,q,m⟩).all bB=aq:=by show (aq&&(aq&&(bB (zd v.top)&&(aq&&(bB (zd v.low)&&(bB p&&(bB q&&(bB m&&aq))))))))=aq;rw[Mw,Mw,h,x,hm];rfl
def Br.cells (h:Br n aU aM o):o.cells.all bB=aq/\jO 0 (xX o)=aq:=by
 cases h with
 | eqs _=>exact ⟨xE rfl rfl rfl,rq rfl rfl rfl⟩
 | jc _ _ _=>exact ⟨xE rfl rfl rfl,rq rfl rfl rfl⟩
 | fin _ _ _ _ x =>
  cases x with
  | loose _ _ _ _=>exact ⟨xE rfl rfl rfl,rq rfl rfl rfl⟩
  | tight _ k =>
   cases k with
   | ny _ _ _=>exact ⟨xE rfl rfl rfl,rq rfl rfl rfl⟩
   | r9 _=>exact ⟨xE rfl rfl rfl,rq rfl rfl rfl⟩
def Br.bJ (h:Br n aU aM o):bJ (xX o)=aq:=by
 cases h with
 | eqs _=>exact uM rfl rfl rfl
 | jc _ _ _=>exact uM rfl rfl rfl
 | fin _ _ _ _ x =>
  cases x with
  | loose _ _ _ _=>exact uM rfl rfl rfl
  | tight _ k =>
   cases k with
   | ny _ _ _=>exact uM rfl rfl rfl
   | r9 _=>exact uM rfl rfl rfl
def P8 {n:Nat} {cs:List Cd} {aM:dB} {o:xM} (e:n < 1000000) (h:ae cs < 1000000) (b:∀c,c∈cs->ae c.f.c < 1000000) (a:ae aM.vM < 1000000) (hm:Br n (cs.map Cd.fO) aM o) :
  bg prog 87 [.q0 (n:Int),.seq 6 ar (cs.map fun c=>de c.fO),.agg (de aM)] (xX o):=by
 have x:=RC (rv := .seq 6 ar (cs.map fun c=>de c.fO)) e (by simpa using h) (by rw[show ((cs.map Cd.fO).map de)=cs.map (fun c=>de c.fO) by simp];exact .seq) a (fun r g=>by obtain ⟨c,h,rfl⟩:=aiw.1 g;simpa[Cd.fO,Fm.fO] using b c h) hm;refine pw func87 ?_;have k:((de aM).all dM)=aq:=by show (aq&&((qC aM.add++[AV.v0 aM.eq]).all dM))=aq;rw[ajk,Mv];rfl
 have y:∀K,iX aq (de aM) 0 6 K=K (.agg (de aM)):=fun K=>by simp[iX,gC,de,bO,qC]
 refine Y2 k y ?_;have z:[AV.q0 (n:Int),.seq 6 ar (cs.map fun c=>de c.fO),.agg (de aM)].all bJ=aq:=by simp only[ais,ajd,wQ,aiM];rfl
 refine aH x z hm.bJ ?_;refine Y ?_;have w:ae o.cells=8:=rfl;have i:List.take 8 (o.cells++List.drop (0+ae o.cells) [AV.q0 0,.q0 0,.nil,.q0 0,.nil,.nil,.nil,.nil])=o.cells:=by rw[ajU (by omega),aiv (by omega)]
 show (ae o.cells=8/\o.cells.all bB=aq)/\8<=ae (o.cells++_)/\Fin 0 (.agg (List.take 8 (o.cells++List.drop (0+ae o.cells) _))) _ _ _;refine ⟨⟨rfl,hm.cells.1⟩,by rw[ain,w];omega,?_⟩;rw[i];exact aW rfl hm.cells.2
def AQ.none (h:AQ n (cs.map Cd.fO) g k v):decide (k=0)=sT n cs:=by
 cases h with
 | void h=>rw[Ck (fun ⟨u,x⟩=>h ⟨u,(tP u).2 x⟩)];rfl
 | pC h=>rw[vZ ⟨_,(tP _).1 (h 0).choose_spec.1⟩];rfl
 | r9 h _=>obtain ⟨u,x,_⟩:=h;rw[vZ ⟨u,(tP u).1 x⟩];rfl
def AQ.one (h:AQ n (cs.map Cd.fO) g k v) (x:∃u,ff n cs u):k=1↔¬∃B,∀u,ff n cs u->B<=g.val n u:=by
 cases h with
 | void h=>exact absurd ⟨_,(tP _).2 x.choose_spec⟩ h
 | pC h =>
  refine ⟨fun _ ⟨B,w⟩=>?_,fun _=>rfl⟩;have ⟨u,y,z⟩:=h B;exact absurd z (akR.2 (w u ((tP u).1 y)))
 | r9 _ h=>exact ⟨fun h=>absurd h aR,fun a=>absurd ⟨_,fun u b=>h u ((tP u).2 b)⟩ a⟩
def ZY {n:Nat} (h:gI n cs):bg prog 61 [.q0 (n:Int),.seq 6 ar (cs.map fun c=>de c.fO)] (.v0 (sT n cs)):=by
 have b:=h.n8;have ⟨o,x,y⟩:=Hw (h.Ww (v:=n) (s:=0) aR);have w:yy n n 0=⟨aA n ah,ah,ar,ar⟩:=by unfold yy;rw[List.set_eq_of_length_le aO]
 rw[w] at x y;have a:=P8 aD (cn h.cl) (fun c z=>by rw[h.len c z];omega) bW x;refine pw func61 ?_;refine Y ?_;refine dS (OA n aD) ?_;refine Y ?_;refine AU 1 0 (ob:=⟨4,0,(aA n (ah:Q)).map qC⟩) rfl (by rw[aj6,ah4];exact fun q _=>z7 q) a ?_ ?_ x.bJ ?_
 .show [AV.q0 (n:Int),.seq 6 ar (cs.map fun c=>de c.fO),.agg [fm 1 0 4 ((aA n (ah:Q)).map qC) (.sl 4 1 0 0 n),_,_,_,_,_]]=_;have:fm 1 0 4 ((aA n (ah:Q)).map qC) (.sl 4 1 0 0 n) = .seq 4 ar ((aA n (ah:Q)).map qC):=by simp[fm]
  rw[this];rfl
 .simp only[ais,ajd,wQ,aiM];rfl
 have k:∀K,FdP 0 ar 1 (xX o) K=K (.q0 o.kind):=fun K=>rfl;refine Y1 k ?_;exact aW (by rw[y.none]) rfl
def Tw {n:Nat} (h:gI n cs) (F:∃u,ff n cs u):bg prog 62 [.q0 (n:Int),.seq 6 ar (cs.map fun c=>de c.fO)] (.v0 (BK n cs)):=by
 have hn:=h.n8;refine pw func62 ?_;refine Y ?_;refine aZ (fun q e H=>∃v:Nat,v<=n/\q=n - v/\(∀j,j < v->HI n cs j) /\
  e=[(0,.q0 (n:Int)),(1,.seq 6 ar (cs.map fun c=>de c.fO)),(9,.q0 (n:Int)),(10,.q0 (v:Int))]) (n:=n) ⟨0,aD,rfl,fun j hj=>aD,rfl⟩ ?_;rintro q _ H ⟨v,hv,hq,O,rfl⟩;by_cases t:(v:Int) < (n:Int)
 .have e1:=ws v;have i:v < n:=aD;refine Y1 t ?_;refine aZ (fun q e G=>∃k:Nat,k<=2/\q=2 - k/\(1<=k->∃B,∀u,ff n cs u->B<=u v)/\(2<=k->∃B,∀u,ff n cs u->B <= -u v) /\
   e=[(0,.q0 (n:Int)),(1,.seq 6 ar (cs.map fun c=>de c.fO)),(5,.q0 (v:Int)),(9,.q0 (n:Int)),(10,.q0 (v:Int)),(13,.agg [.q0 1,.q0 (-1)]),(14,.q0 (k:Int))]) (n:=2) ⟨0,aD,rfl,fun h=>aD,fun h=>aD,rfl⟩ ?_;rintro q2 _ G ⟨k,hk,a0,a,A,rfl⟩;by_cases z:(k:Int) < 2
  .have e2:=ws k;obtain ⟨s,S,C,X⟩:∃s:Int,(-M60<=s/\s<=M60)/\(∀K,IxP 2 1 ar (.agg [.q0 1,.q0 (-1)]) (.q0 (k:Int)) K=K (.q0 s)) /\
     ((¬∃B,∀u,ff n cs u->B<=(s:Rat)*u v)->BK n cs=ar)/\((∃B,∀u,ff n cs u->B<=(s:Rat)*u v)->(1<=k+1->∃B,∀u,ff n cs u->B<=u v)/\(2<=k+1->∃B,∀u,ff n cs u->B <= -u v)):=by
    have p:(((1:Int)):Rat)=1:=by rfl
    have M:(((-1:Int)):Rat) = -1:=by rfl
    have T:∀u:Nat->Rat,(1:Rat)*u v=u v:=fun u=>by grind
    have U:∀u:Nat->Rat,(-1:Rat)*u v = -u v:=fun u=>by grind
    match k,hk,z,a with
    | 0,_,_,_=>exact ⟨1,aR,fun K=>rfl,by simp only[p,T];exact fun b=>Nj i (fun r=>b r.1),by simp only[p,T];exact fun b=>⟨fun _=>b,fun h=>aD⟩⟩
    | 1,_,_,a=>exact ⟨-1,aR,fun K=>rfl,by simp only[M,U];exact fun b=>Nj i (fun r=>b r.2),by simp only[M,U];exact fun b=>⟨fun _=>a aD,fun _=>b⟩⟩
    | k+2,_,z,_=>exact absurd z aD
   have ⟨o,R,E⟩:=Hw (h.Ww (v:=v) S);have w:=E.one F;simp only[Sf i] at w;have r:=P8 aD (cn h.cl) (fun c hc=>by rw[h.len c hc];omega) (by simp[yy];omega) R;refine Y2 z C ?_;refine dS (OA n aD) ?_;have V:aI (G++[ak ⟨6,0,[[.sl 4 (ae G+1) 0 0 n,.q0 0,.nil,.q0 0,.nil,.v0 ar]]⟩,ak ⟨4,0,(aA n (ah:Q)).map qC⟩]) (ae G+1) 0=ak ⟨4,0,(aA n (ah:Q)).map qC⟩ :=
    (ij (H:=G) (l:=[ak ⟨6,0,[[.sl 4 (ae G+1) 0 0 n,.q0 0,.nil,.q0 0,.nil,.v0 ar]]⟩,ak ⟨4,0,(aA n (ah:Q)).map qC⟩]) (j:=1) (v:=0)).trans (by simp[aI]);have z2:ae (G++[ak (⟨6,0,[[.sl 4 (ae G+1) 0 0 n,.q0 0,.nil,.q0 0,.nil,.v0 ar]]⟩:bz),ak ⟨4,0,(aA n (ah:Q)).map qC⟩])=ae G+1+1:=aO;generalize G++[ak (⟨6,0,[[.sl 4 (ae G+1) 0 0 n,.q0 0,.nil,.q0 0,.nil,.v0 ar]]⟩:bz),ak ⟨4,0,(aA n (ah:Q)).map qC⟩]=W at *;generalize ae G+1=g at *;have ho:∀ob K,bk (W++[ob]) g 0 K=K ⟨4,0,(aA n (ah:Q)).map qC⟩:=fun ob K=>aK ((cJ (aP V)).trans V) K;refine Y ?_;refine aH (ru s (by simp only[M60] at S;omega)) rfl (bE _) ?_;have I:∀x K,bk ((W++[ak (⟨6,0,[[.sl 4 g 0 0 n,.q0 0,.nil,.q0 0,.nil,.v0 ar]]⟩:bz)]).set g x) (ae W) 0 K=K ⟨6,0,[[.sl 4 g 0 0 n,.q0 0,.nil,.q0 0,.nil,.v0 ar]]⟩:=fun x K =>
    aK (by rw[aS (by omega)];exact ct) K;refine Y2 ho I ?_;refine ⟨⟨aD,aD⟩,bW,?_⟩;have L:(List.map qC (aA n (ah:Q))).set (0+v) [.q0 (zv s),zd s,.q0 (zv 0),zd 0]=((aA n (ah:Q)).set v (wq s)).map qC:=by rw[aia,ajF];rfl
   rw[L];refine AU g 0 (ob:=⟨4,0,((aA n (ah:Q)).set v (wq s)).map qC⟩) (bn (by rw[ain,z2,amh];omega)) (by rw[aj6,ah4];exact fun q _=>z7 q) r ?_ ?_ R.bJ ?_
   .show [AV.q0 (n:Int),.seq 6 ar (cs.map fun c=>de c.fO),.agg [fm g 0 4 (((aA n (ah:Q)).set v (wq s)).map qC) (.sl 4 g 0 0 n),_,_,_,_,_]]=_;have:fm g 0 4 (((aA n (ah:Q)).set v (wq s)).map qC) (.sl 4 g 0 0 n) = .seq 4 ar (((aA n (ah:Q)).set v (wq s)).map qC):=td aO;rw[this];rfl
   .simp only[ais,ajd,wQ,aiM];rfl
   have m:∀K,FdP 0 ar 1 (xX o) K=K (.q0 o.kind):=fun K=>rfl;by_cases f:o.kind=1
   .have y:(o.kind=1)=True:=aiq f;refine Z2 m y ?_;exact aW (by rw[X.1 (w.1 f)]) rfl
   .have y:(o.kind=1)=False:=aie f;have N:=X.2 (al4.1 (fun b=>f (w.2 b)));refine Z3 m y e2 ?_;exact ⟨2 - (k+1),aD,k+1,aD,rfl,N.1,N.2,rfl⟩
  .have D:k=2:=aD;subst D;refine Y2 z e1 ?_;refine ⟨n - (v+1),aD,v+1,aD,rfl,fun j hj=>?_,rfl⟩;rcases aij j v with p | p
   .exact O j p
   .rw[show j=v by omega];exact ⟨a aD,A aD⟩
 .have J:v=n:=aD;subst J;refine Y1 t ?_;exact aW (by rw[Sq O]) rfl
def ZW {n:Nat} (h:gI n cs):bg prog 43 [.q0 (n:Int),.seq 6 ar (cs.map fun c=>de c.fO)] (.v0 (kL n cs)):=by
 refine pw func43 ?_;refine Y ?_;refine cX (ZY h) ?_;by_cases k:∃u,ff n cs u
 .rw[vZ k];refine Z0 ?_;refine cY (Tw h k) ?_;exact aW (by unfold kL;rw[vZ k];rfl) rfl
 .rw[Ck k];refine Z0 ?_;exact aW (by unfold kL;rw[Ck k];rfl) rfl
inductive tZ (H:aF) (k:Nat):AV->aF->List (List AV)->Prop
 | nil:tZ H k .nil H []
 | sl {o:Option bz} {xs:List (List AV)} {rest:aF} {m:Nat}:xs.length=m+1->tZ H k (.sl k (H.length+1) m 0 (m+1)) (H++o::some ⟨k,m,xs⟩::rest) xs
def xO (H:aF) (k:Nat):List (List AV)->AV
 | [] => .nil
 | _::l => .sl k (ae H+1) (ae l) 0 (ae l+1)
def nH (H:aF) (k:Nat):List (List AV)->aF
 | []=>H
 | x::l=>H++[an,ak ⟨k,ae l,x::l⟩]
def tZ.cell {k:Nat} {H G:aF} {v:AV} {xs:List (List AV)} (h:tZ H k v G xs):bB v=aq/\v.cells=[v]/\dA v=aq:=by cases h<;>exact ⟨rfl,rfl,rfl⟩
def tZ.step {k:Nat} {H G:aF} {v:AV} {xs:List (List AV)} (h:tZ H k v G xs) (e:ae xs < 4000000000) (o:bz) (y:List AV) :
  ∃a z,(∀K,bX k v [y] (G++[ak o]) K=K a z)/\tZ H k a z (xs++[y]):=by
 cases h with
 | nil =>
  refine ⟨.sl k (ae H+1) 0 0 1,H++ak o::ak ⟨k,0,[y]⟩::[],fun K=>?_,tZ.sl (m:=0) rfl⟩;rw[vD];simp
 | sl c =>
  rename_i x rest m;have w:(H++x::ak ⟨k,m,xs⟩::rest)++[ak o]=H++(x::ak ⟨k,m,xs⟩::(rest++[ak o])):=aO;have b:aI ((H++x::ak ⟨k,m,xs⟩::rest)++[ak o]) (ae H+1) m=ak ⟨k,m,xs⟩:=by rw[w];exact (ij (H:=H) (l:=x::ak ⟨k,m,xs⟩::(rest++[ak o])) (j:=1) (v:=m)).trans (by simp[aI])
  refine ⟨.sl k (ae H+1) (m+1) 0 (m+1+1),H++x::ak ⟨k,m+1,xs++[y]⟩::(rest++[ak o]),fun K=>?_,tZ.sl (by simp[c])⟩;rw[oM b (by omega),w,ajy _ _ (by omega),show ae H+1 - ae H=1 by omega];refine propext ⟨fun h=>?_,fun h=>⟨rfl,bW,?_⟩⟩
  .simpa using h.2.2
  .simpa using h
def tZ.fin {k:Nat} {H G:aF} {v:AV} {xs:List (List AV)} (h:tZ H k v G xs) (f:Idl H) (g:xs.all (fun x=>x.all bT)=aq):Fin (ae H) v G (xO H k xs) (nH H k xs):=by
 cases h with
 | nil=>exact dJ (Wk1.refl _)
 | sl b =>
  rename_i y rest m;cases xs with
  | nil=>simp at b
  | cons x l =>
   have i:ae l=m:=bu b;subst i;have z:Fin (ae H) (.sl k (ae H+1) (ae l) 0 (ae l+1)) (H++y::ak ⟨k,ae l,x::l⟩::rest) (.sl k (ae H+1) (ae l) 0 (ae l+1)) ((H++y::ak ⟨k,ae l,x::l⟩::rest).set (ae H) an) :=
    ⟨_,RK (ae H) _ (ae H),rfl⟩;have e:(H++y::ak ⟨k,ae l,x::l⟩::rest).set (ae H) an=H++an::ak ⟨k,ae l,x::l⟩::rest:=by rw[ajy _ _ (ahZ _)];simp
   rw[e] at z;have w:(H++an::ak ⟨k,ae l,x::l⟩::rest).take (ae H+2)=H++[an,ak ⟨k,ae l,x::l⟩]:=by rw[amQ,aiv (by omega),show ae H+2 - ae H=2 by omega];rfl
   have a:=j6 (n:=ae H) (m:=ae H+2) (r := .sl k (ae H+1) (ae l) 0 (ae l+1)) (H:=H++an::ak ⟨k,ae l,x::l⟩::rest) aD (by have j:Idl (H++[an]):=f.app rfl;have c:Idl ((H++[an])++[ak (⟨k,ae l,x::l⟩:bz)]):=j.app (by simp only[cg];exact fZ _ g);rw[w];unfold Idl at c;simpa using c) (by simp[jO,qF,bp]);rw[w] at a;exact z.trans a
def Cd.wide (b a:Nat) (c:Cd):Cd:=⟨c.f.wide b a,c.e⟩
def mC (l:List Cd):Prop:=ae l < 1000000/\∀c,c∈l->ae c.f.c < 1000000
def BU (l:List Cd):(l.map cC).all (fun x=>x.all bT)=aq:=by rw[aj6,ah4];exact fun c _=>rfl
def Qd {H:aF} (s:Idl H) (p:Pl) (b a:Nat) (A:mC p.l) (X:b < 1000000) (t:a < 1000000) :
  bR prog 37 [.agg (p9 p),.q0 (b:Int),.q0 (a:Int)] H (xO H 3 ((p.l.map (Cd.wide b a)).map cC)) (nH H 3 ((p.l.map (Cd.wide b a)).map cC)):=by
 have ⟨B,w⟩:=A;refine cw func37 ?_;refine Y ?_;refine aZ (fun n e G=>∃(i:Nat) (v:AV),i<=ae p.l/\n=ae p.l - i/\tZ H 3 v G (((p.l.take i).map (Cd.wide b a)).map cC) /\
  e=[(1,.q0 (b:Int)),(2,.q0 (a:Int)),(7,v),(11,.seq 3 ar (p.l.map cC)),(12,.q0 (ae p.l:Int)),(13,.q0 (i:Int))]) ⟨0,.nil,aD,rfl,.nil,rfl⟩ ?_;rintro n _ G ⟨i,v,D,E,h,rfl⟩;by_cases k:(i:Int) < (ae p.l:Int)
 .have r:=ws i;have W:af p.l i ah∈p.l:=bS aD;have y:=w _ W;have C:p.l.take (i+1)=p.l.take i++[af p.l i ah]:=by rw[aiT (by omega)];simp[af,show i < ae p.l by omega]
  have cv:=h.cell;refine Y1 k ?_;refine ⟨aD,aH (J2 _ b a y X t) rfl rfl ?_⟩;have ⟨j,m,o,g⟩:=h.step bW ⟨3,0,[cC (af p.l i ah)]⟩ (cC ((af p.l i ah).wide b a));have q:=g.cell;have x:∀K,bX 3 v [[iz ((af p.l i ah).f.wide b a).c,AV.c (Value.int IntKind.i64 ((af p.l i ah).f.wide b a).a),AV.c (Value.bool (af p.l i ah).e)]] (G++[ak ⟨3,0,[cC (af p.l i ah)]⟩]) K=K j m:=o;refine Y2 x r ?_;exact ⟨rfl,ae p.l - (i+1),by omega,i+1,j,by omega,rfl,by rw[C,aii,aii];exact g,rfl⟩
 .have z:i=ae p.l:=aD;subst z;have cv:=h.cell;refine Y1 k ?_;rw[aiK] at h;exact h.fin s (BU _)
def qY (H:aF) (k:Nat) (xs:List (List AV)):aL H (nH H k xs) []:=by
 cases xs with
 | nil=>exact aL.refl _ _
 | cons x l=>exact aL.app _ _ _
def O2:aI (nH H k (x::l)) (ae H+1) (ae l)=ak ⟨k,ae l,x::l⟩ :=
 (ij (H:=H) (l:=[an,ak ⟨k,ae l,x::l⟩]) (j:=1) (v:=ae l)).trans (by simp[aI])
def vB (H:aF) (k:Nat) (xs:List (List AV)):Acc (ae H) (nH H k xs) k (xO H k xs) xs:=by
 cases xs with
 | nil=>exact .nil
 | cons x l=>exact Acc.sl (xs:=x::l) aD O2
def zg {H:aF} {k:Nat} {xs:List (List AV)} (h:Idl H) (z:xs.all (fun x=>x.all bT)=aq):Idl (nH H k xs):=by
 cases xs with
 | nil=>exact h
 | cons x l =>
  have w:Idl (H++[an]):=h.app rfl;have y:Idl ((H++[an])++[ak (⟨k,ae l,x::l⟩:bz)]):=w.app (by simp only[cg];exact fZ _ z);unfold Idl at y ⊢;simpa[nH] using y
def Kc (H:aF) (k:Nat) (xs:List (List AV)):dW k (nH H k xs) (xO H k xs)=ak xs:=by
 cases xs with
 | nil=>rfl
 | cons x l =>
  simp only[xO,dW,O2,aix];simp
def Gi (h:dW k H b=ak ys):j4 k a b H K=bX k a ys H K:=yJ h
def Pl.both (p q:Pl):Pl:=⟨p.n+q.n,p.l.map (Cd.wide 0 (az q.n))++q.l.map (Cd.wide (az p.n) 0)⟩
def tW (p q:Pl) (D:mC p.l) (E:mC q.l) (a0:0<=p.n/\p.n < 1000000) (a3:0<=q.n/\q.n < 1000000) :
  bg prog 20 [.agg (p9 p),.agg (p9 q)] (.agg (p9 (p.both q))):=by
 obtain ⟨n,s⟩:∃n:Nat,p.n=n:=⟨az p.n,aD⟩;obtain ⟨m,r⟩:∃m:Nat,q.n=m:=⟨az q.n,aD⟩;refine pc func20 BZ ?_;refine uz ?_;have R:au .i64 (p.n+q.n)=p.n+q.n:=wrap_i64 aD aD;refine Y1 r ?_;generalize w:([ak ⟨2,0,[[AV.c (Value.int IntKind.i64 0),AV.nil]]⟩]:aF)=y;have F:Idl y:=by subst w;rfl
 have w1:=Qd F p 0 m D aD aD;have U:aI y 0 0=ak ⟨2,0,[[AV.c (Value.int IntKind.i64 0),AV.nil]]⟩:=by subst w;rfl
 generalize i:(p.l.map (Cd.wide 0 m)).map cC=X at *;have cX:X.all (fun x=>x.all bT)=aq:=i ▸ BU _;have lX:ae X < 1000000:=by rw[<-i];simpa using D.1
 have i1:=zg (k:=3) F cX;have w2:=Qd i1 q n 0 E aD aD;generalize j:(q.l.map (Cd.wide n 0)).map cC=Y at *;have cY:Y.all (fun x=>x.all bT)=aq:=j ▸ BU _;have lY:ae Y < 1000000:=by rw[<-j];simpa using E.1
 generalize t:xO y 3 X=I at *;generalize a:nH y 3 X=z at *;have e:aL y z []:=a ▸ qY _ _ _;have f:aL z (nH z 3 Y) []:=qY _ _ _;have W:Acc (ae y) z 3 I X:=by rw[<-a,<-t];exact vB _ _ _
 have A:=W.aQ f aO;have l0:ae y=1:=by subst w;rfl
 have ⟨v,G,L,M,N,O⟩:=A.Ke (ys:=Y) (zU e.1 f.1) aD;have c1:=W.cell;have C:aI G 0 0=ak ⟨2,0,[[AV.c (Value.int IntKind.i64 0),AV.nil]]⟩:=by rw[N.2 0 (by have:=e.1;have:=f.1;omega) (fun h=>by have:=(A.ge 0 h).1;omega),f.2 0 (by have:=e.1;omega) aO,e.2 0 aD aO];exact U
 have g:=aK C;have V:∀H K,bk (G.set 0 (ak ⟨2,0,H⟩)) 0 0 K=K ⟨2,0,H⟩:=fun H K=>aK (bn (aP C)) K;refine jJ w1 ?_;refine Y1 s ?_;refine jJ w2 ?_;have J:∀K,j4 3 I (xO z 3 Y) (nH z 3 Y) K=K v G:=fun K=>Gi (Kc _ _ _) ▸ L K;have cy:=(vB z 3 Y).cell;refine Y4 J O g V ?_;have S:au .i64 ((n:Int)+(m:Int))=p.n+q.n:=by rw[<-s,<-r];exact R
 have T:X++Y=(p.both q).l.map cC:=by rw[<-i,<-j,<-aii];unfold Pl.both;simp only[s,r,ah9]
 rw[S];have B:=M.hZ (b:=0) (o:=ak ⟨2,0,[[AV.q0 (p.n+q.n),v]]⟩) aD;rw[T] at B;exact B.zz (pre:=[.q0 (p.n+q.n)]) (post:=[]) (BU _) rfl rfl
def As.wide (b a:Nat) (x:As):As:=if x.kind=1 then ⟨x.kind,x.f.wide b a,x.low⟩ else x
def jl (l:List As):(l.map dX).all (fun x=>x.all bT)=aq:=by rw[aj6,ah4];exact fun c _=>rfl
def sY (A:Idl H) (l:List As) (b a:Nat) (f:Bool) (L:ae l < 1000000) (D:∀x,x∈l->ae x.f.c < 1000000) (C:b < 1000000) (B:a < 1000000) :
  bR prog 23 [.seq 4 f (l.map dX),.q0 (b:Int),.q0 (a:Int)] H (xO H 4 ((l.map (As.wide b a)).map dX)) (nH H 4 ((l.map (As.wide b a)).map dX)):=by
 refine cw func23 ?_;refine Y ?_;refine aZ (fun n e G=>∃(i:Nat) (v:AV),i<=ae l/\n=ae l - i/\tZ H 4 v G (((l.take i).map (As.wide b a)).map dX) /\
  e=[(1,.q0 (b:Int)),(2,.q0 (a:Int)),(7,v),(10,.seq 4 f (l.map dX)),(11,.q0 (ae l:Int)),(12,.q0 (i:Int))]) ⟨0,.nil,aD,rfl,.nil,rfl⟩ ?_;rintro n _ G ⟨i,v,J,M,m,rfl⟩;by_cases z:(i:Int) < (ae l:Int)
 .have X:=ws i;have E:af l i ah∈l:=bS aD;have s:=D _ E;have F:l.take (i+1)=l.take i++[af l i ah]:=by rw[aiT (by omega)];simp[af,show i < ae l by omega]
  have cv:=m.cell;have W:∀(o:bz) (q:As),q=(af l i ah).wide b a->∃h w,(∀K,bX 4 v [dX q] (G++[ak o]) K=K h w)/\(bB h=aq/\h.cells=[h]/\dA h=aq)/\tZ H 4 h w (((l.take (i+1)).map (As.wide b a)).map dX):=fun o q I=>by have ⟨h,w,j,g⟩:=m.step bW o (dX q);refine ⟨h,w,j,g.cell,?_⟩;rw[F,aii,aii];subst I;exact g
  by_cases p:(af l i ah).kind=1
  .have y:((af l i ah).kind=1)=True:=aiq p;refine Z2 z y ?_;refine ⟨aD,aH (J2 _ b a s C B) rfl rfl ?_⟩;have ⟨h,w,j,r,g⟩:=W ⟨4,0,[dX ⟨(af l i ah).kind,(af l i ah).f.wide b a,(af l i ah).low⟩]⟩ ⟨(af l i ah).kind,(af l i ah).f.wide b a,(af l i ah).low⟩ (by unfold As.wide;rw[ah1 p]);generalize af l i ah=x at *;have k:=j;refine Y2 k X ?_;exact ⟨rfl,ae l - (i+1),aD,i+1,h,aD,rfl,g,rfl⟩
  .have y:((af l i ah).kind=1)=False:=aie p;have ⟨h,w,j,r,g⟩:=W ⟨4,0,[dX (af l i ah)]⟩ (af l i ah) (by unfold As.wide;rw[ah0 p]);have k:=j;refine Z4 z y k X ?_;exact ⟨aD,rfl,ae l - (i+1),aD,i+1,h,aD,rfl,g,rfl⟩
 .have t:i=ae l:=aD;subst t;have cv:=m.cell;refine Y1 z ?_;rw[aiK] at m;exact m.fin A (jl _)
def Hv (n:Nat):jS ((aA n (⟨0,⟨[],0⟩,0⟩:As)).map fun _=>[AV.q0 0,.nil,.q0 0,.q0 0]) ((aA n (⟨0,⟨[],0⟩,0⟩:As)).map dX) :=
 jS.of_map _ fun a z=>by
  have:a=⟨0,⟨[],0⟩,0⟩:=(ajN.1 z).2;subst this;refine ⟨rfl,rfl,fun j x y h k=>?_⟩
  match j with
  | 0=>simp at h k;subst h k;exact bf.refl _
  | 1=>simp at h k;subst h k;exact eW 1
  | 2=>simp at h k;subst h k;exact bf.refl _
  | 3=>simp at h k;subst h k;exact bf.refl _
  | j+4=>simp at h
def Nc (n:Nat) (k:n < 1000000):bR prog 24 [.q0 (n:Int)] H (.sl 4 (ae H) 0 0 n) (H++[ak ⟨4,0,(aA n (⟨0,⟨[],0⟩,0⟩:As)).map dX⟩]):=by refine cw func24 ?_;refine Z0 ?_;exact ⟨⟨aD,aD,aD⟩,R8 (by rw[<-ajT (f:=fun _:As=>[AV.q0 0,.nil,.q0 0,.q0 0]) (a:=(⟨0,⟨[],0⟩,0⟩:As))];exact Hv n) (fun y h=>by obtain ⟨x,_,rfl⟩:=aiw.1 h;rfl)⟩
structure JmP where
 js:List Jp
 ps:List (Int × Int)
abbrev sD (p:Int × Int):List AV:=[.q0 p.1,.q0 p.2]
structure JmR (n0:Nat) (H:aF) (m:Nat) (vj vp:AV) (M:JmP):Prop where
 ob:aI H m 0=some ⟨2,0,[[vj,vp]]⟩
 lt:m < n0
 aj:Acc n0 H 6 vj (M.js.map dI)
 ap:Acc n0 H 2 vp (M.ps.map sD)
 ne:∀id,id∈aG vj->id∉aG vp
def aam:j4 k a (.c (.slice p 0 cap)) H K=bX k a [] H K:=by simp only[j4,dW,kC,oI,bX]
def abr {k h:Nat} {f:Bool} {xs:List (List AV)} {H:aF} {K:AV->aF->Prop}:bX k (.seq h f xs) [] H K=K (.seq h f xs) H:=by rfl
def abq {k x:Nat} {xs:List (List AV)} {y:List AV} {ys:List (List AV)} {H:aF} {K:AV->aF->Prop}:bX k (.seq x aq xs) (y::ys) H K=((x=k/\ae xs+(ae ys+1)<=4294967296)/\K (.sl k (ae H) 0 0 (ae xs+(ae ys+1))) (H++[ak ⟨k,0,xs++y::ys⟩])):=by
 show bO (if x=k/\ae xs+(ae ys+1)<=4294967296 then _ else an) _=_;by_cases h:x=k/\ae xs+(ae ys+1)<=4294967296
 .rw[ah1 h];exact propext ⟨fun g=>⟨h,g⟩,fun g=>g.2⟩
 .rw[ah0 h];exact propext ⟨fun g=>g.elim,fun g=>(h g.1).elim⟩
def abF:Bq neg (.seq h f (y::ys)) K=K (.v0 neg):=(rfl)
attribute [go_sem] aam abr abq abF
def Uu (l:List Int) (b:Bool) (h:ae l < 1000000):∃v G,bR prog 98 [.seq 1 b (br l)] H v G/\Acc (ae H) G 1 v (br l)/\aL H G []:=by
 cases l with
 | nil =>
  refine ⟨.seq 1 aq [],H,bR.empty fun p cap=>?_,.sq,aL.refl _ _⟩;refine cw func98 ?_;cases p with
  | none =>
   simp only[go_sem,↓reduceIte,Option.isNone_none,Bool.xor_true,aja];exact dJ (.cell (.nil 1))
  | some q =>
   simp only[go_sem,↓reduceIte,Option.isNone_some,Bool.xor_false];exact dJ (Wk1.refl _)
 | cons x l =>
  refine ⟨.sl 1 (ae H) 0 0 (ae l+1),H++[ak ⟨1,0,br (x::l)⟩],?_,Acc.mk aO (ahZ _),aL.app _ _ _⟩;refine cw func98 ?_;have k:x::l≠[]:=aO;simp only[go_sem,↓reduceIte,Nat.reduceLeDiff,aiV,aia,akj,ah3];simp only[aiF] at h;exact ⟨aD,dJ (Wk1.refl _)⟩
abbrev gN (a b:Au) (l:List Int) (fl:Bool):List AV:=[.q0 a.bA,.seq 4 ar (a.aJ.map iy),.seq 6 ar (a.aN.map dI),.seq 3 ar (a.init.map iF),
 .q0 b.bA,.seq 4 ar (b.aJ.map iy),.seq 6 ar (b.aN.map dI),.seq 3 ar (b.init.map iF),.seq 1 fl (br l)]
def Z9 (a b:Au) (l:List Int) (fl:Bool) (f:Fm) (m:Nat) (hm:b.bA=m) (D:m < 1000000) (C:ae f.c < 1000000) :
  bg prog 73 [.agg (gN a b l fl),.agg (fC f)] (.agg (fC (f.wide 0 m))):=by
 refine pc func73 EB ?_;refine uz ?_;refine Y ?_;obtain ⟨v,G,W,z,n⟩:=Uu (H:=[ak ⟨2,0,[[AV.nil,.q0 0]]⟩]) f.c ar C;refine jJ W ?_;have B:∀x,x∈aG v->1<=x:=fun x g=>(z.ge x g).1;have p:aI G 0 0=ak ⟨2,0,[[AV.nil,.q0 0]]⟩:=by rw[n.2 0 aO aO];rfl
 obtain ⟨r,k,s,j,t,X⟩:=z.Ke (ys:=aA m [.q0 0]) (by have:=n.1;simpa using this) bW;have q:aI k 0 0=ak ⟨2,0,[[AV.nil,.q0 0]]⟩:=by rw[t.2 0 (aP p) (fun h=>by have:=B 0 h;omega)];exact p
 have w:∀K,bk k 0 0 K=K ⟨2,0,[[AV.nil,.q0 0]]⟩:=aK q;have A:∀i K,bk (k.set 0 (ak ⟨2,0,i⟩)) 0 0 K=K ⟨2,0,i⟩:=fun i K=>aK (bn (aP q)) K;have y:∀K,bX 1 v (List.map cN (aA m 0)) G K=K r k:=fun K=>by rw[ajT];exact s K
 have cv:=z.cell;refine Z1 hm ?_;refine ⟨⟨aD,aD⟩,?_⟩;refine Y4 y X w A ?_;have e:br f.c++aA m [AV.q0 0]=br (f.wide 0 m).c:=by show _=br (aA 0 0++f.c++aA m 0);simp only[br,aii,ajT,akC,aiy];rfl
 rw[e] at j;exact (j.hZ (b:=0) (o:=ak ⟨2,0,[[r,.q0 f.a]]⟩) aO).zz (pre:=[]) (post:=[.q0 f.a]) (gV _) rfl rfl
def X2 (a b:Au) (l:List Int) (fl:Bool) (f:Fm) (m:Nat) (hm:a.bA=m) (n:m < 1000000) (p:ae f.c < 1000000) :
  bg prog 74 [.agg (gN a b l fl),.agg (fC f)] (.agg (fC (f.wide m 0))):=by
 refine pw func74 ?_;refine Z1 hm ?_;refine ⟨⟨aD,aD,aD⟩,?_⟩;have i:Acc 1 [ak ⟨2,0,[[AV.nil,.q0 0]]⟩,ak ⟨1,0,(aA m 0).map cN⟩] 1 (.sl 1 1 0 0 m) (br (aA m 0)) :=
  Acc.mk (H:=[ak ⟨2,0,[[AV.nil,.q0 0]]⟩]) aO aO;have ⟨v,G,z,x,w,g⟩:=i.Ke (ys:=br f.c) aO bW;have y:aI G 0 0=ak ⟨2,0,[[AV.nil,.q0 0]]⟩:=by rw[w.2 0 aO (by simp[aG])];rfl
 have h:=aK y;have j:∀k K,bk (G.set 0 (ak ⟨2,0,k⟩)) 0 0 K=K ⟨2,0,k⟩:=fun k K=>aK (bn (aP y)) K;refine Y4 z g h j ?_;have e:br (aA m 0)++br f.c=br (f.wide m 0).c:=by show _=br (aA m 0++f.c++aA 0 0);simp only[br,aii,akC,aiu]
 rw[e] at x;exact (x.hZ (b:=0) (o:=ak ⟨2,0,[[v,.q0 f.a]]⟩) aO).zz (pre:=[]) (post:=[.q0 f.a]) (gV _) rfl rfl
def Iw (a b:Au) (l:List Int) (fl:Bool) (i k:Int) (y:0<=i/\i < 1000000) (e:0<=k/\k < 1000000) (c:ae b.aJ < 1000000) :
  bg prog 53 [.agg (gN a b l fl),.q0 i,.q0 k] (.q0 (i*(ae b.aJ:Int)+k)):=by refine pw func53 ?_;have z:0<=i*(ae b.aJ:Int):=ajw y.1 aD;have w:i*(ae b.aJ:Int) < 1000000*1000000:=amG (aik (by omega:i<=1000000) aD) aD;have h:au .i64 (i*(ae b.aJ:Int))=i*(ae b.aJ:Int):=wrap_i64 aD aD;have x:au .i64 (i*(ae b.aJ:Int)+k)=i*(ae b.aJ:Int)+k:=wrap_i64 aD aD;refine Y2 h x ?_;exact aW rfl rfl
def UZ:0<=da l x↔x∈l:=by
 induction l with
 | nil=>simp[da]
 | cons a r k =>
  simp only[da,aiz];by_cases h:x=a
  .simp[h]
  .rw[ah0 h,<-k.trans ((or_iff_right h).symm)];split<;>omega
def RB (l:List Int) (x:Int) (b:Bool) (h:ae l < 1000000):bg prog 99 [.seq 1 b (br l),.q0 x] (.v0 (l.contains x)):=by refine pw func99 ?_;refine Y ?_;refine cX (vV (H:=[]) (.seq) h) ?_;have k:(0<=da l x)=(l.contains x=aq):=propext (by rw[amg];exact UZ);refine Y1 k ?_;exact aW aO rfl
def KL (a b:Au) (l:List Int) (fl:Bool) (x:Int) (h:ae l < 1000000) :
  bg prog 76 [.agg (gN a b l fl),.q0 x] (.v0 (!l.contains x)):=by refine pw func76 ?_;refine Y ?_;refine cY (RB l x fl h) ?_;exact aW rfl rfl
def Ms (g:FuncId) (fs:List AV) (φ:Fm->Fm):Prop:=fs.all bJ=aq/\∀f:Fm,ae f.c < 1000000->bg prog g (fs++[.agg (fC f)]) (.agg (fC (φ f)))
def Nf (a b:Au) (l:List Int) (fl:Bool) (m:Nat) (hm:b.bA=m) (h:m < 1000000):Ms 73 [.agg (gN a b l fl)] (fun f=>f.wide 0 m) :=
 ⟨rfl,fun f k=>Z9 a b l fl f m hm h k⟩
def LM (a b:Au) (l:List Int) (fl:Bool) (m:Nat) (hm:a.bA=m) (h:m < 1000000):Ms 74 [.agg (gN a b l fl)] (fun f=>f.wide m 0) :=
 ⟨rfl,fun f k=>X2 a b l fl f m hm h k⟩
def Cd.put (φ:Fm->Fm) (c:Cd):Cd:=⟨φ c.f,c.e⟩
def Tl {n0:Nat} {H:aF} {o:Nat} {v:AV} {bA:Value} {xs:List (List AV)} (z:aI H o 0=ak ⟨2,0,[[.c bA,v]]⟩) (hv:Acc n0 H 3 v xs) (C:o < n0) (I:n0<=ae H)
  {g:FuncId} {fs:List AV} {φ:Fm->Fm} (J:Ms g fs φ) (l:List Cd) (f:Bool) (U:mC l) (a0:ae xs < 1000000) :
  cR prog 72 [.seq 3 f (l.map cC),.fn g fs [],.ptr o 0 0 0] H fun r H'=>r = .bM []/\∃m,aI H' o 0=ak ⟨2,0,[[.c bA,m]]⟩/\Acc n0 H' 3 m (xs++(l.map (Cd.put φ)).map cC)/\n0<=ae H'/\∀id,id < n0->id≠o->∀w,aI H' id w=aI H id w:=by
 have ⟨V,A⟩:=U;refine qw func72 ?_;refine Y ?_;refine aZ (fun n e G=>∃(i:Nat) (v:AV),i<=ae l/\n=ae l - i/\aI G o 0=ak ⟨2,0,[[.c bA,v]]⟩/\Acc n0 G 3 v (xs++((l.take i).map (Cd.put φ)).map cC)/\n0<=ae G/\(∀id,id < n0->id≠o->∀w,aI G id w=aI H id w) /\
  e=[(1,.fn g fs []),(2,.ptr o 0 0 0),(7,.seq 3 f (l.map cC)),(8,.q0 (ae l:Int)),(9,.q0 (i:Int))]) ⟨0,v,aD,rfl,z,bu hv,I,fun _ _ _ _=>rfl,rfl⟩ ?_;rintro n _ G ⟨i,v,hi,I,z,k,T,F,rfl⟩;have cv:=k.cell;by_cases y:(i:Int) < (ae l:Int)
 .have R:=ws i;have hm:af l i ah∈l:=bS aD;have t:=A _ hm;have ht:l.take (i+1)=l.take i++[af l i ah]:=by rw[aiT (by omega)];simp[af,show i < ae l by omega]
  generalize hx:af l i ah=x at *;have h:aI (G++[ak ⟨3,0,[cC x]⟩]) o 0=ak ⟨2,0,[[.c bA,v]]⟩:=(cJ (aP z)).trans z;have B:=aK h;have s:=k.aQ (aL.app G [ak ⟨3,0,[cC x]⟩] []) aO;have ⟨m,D,L,M,q,a4,a5,N,O,a8⟩:=s.app bW bW (cC (x.put φ));have b:aI D o 0=ak ⟨2,0,[[.c bA,v]]⟩:=by rw[q.2 o (aP h) (fun X=>by have:=(k.ge o X).1;omega)];exact h
  have j:=aK b;have p:∀K,bX 3 v [[iz (φ x.f).c,.c (.int .i64 (φ x.f).a),.v0 x.e]] (G++[ak ⟨3,0,[[iz x.f.c,.q0 x.f.a,.v0 x.e]]⟩]) K=K m D:=L;refine Y3 y B hx ?_;refine ⟨by omega,?_⟩;refine aH (by rw[aiu];exact J.2 x.f t) (by rw[aiu,ajk,J.1];rfl) rfl ?_;refine Y5 p N O j R ?_;refine ⟨rfl,ae l - (i+1),by omega,i+1,m,by omega,rfl,bn (aP b),?_,by have:=q.1;simp at this ⊢;omega,fun id S E w=>by rw[aS (ait E),q.2 id (by simp;omega) (fun X=>by have:=(k.ge id X).1;omega),cJ (by omega)];exact F id S E w,rfl⟩;rw[ht,aii,aii,<-aio];exact M.hZ C
 .have W:i=ae l:=aD;subst W;refine Y1 y ?_;rw[aiK] at k;exact ⟨v,z,k,T,F⟩
def eK (m k:Nat) (x y:List Cd):Pl:=⟨(m:Int)+k,x.map (Cd.put fun f=>f.wide 0 k)++y.map (Cd.put fun f=>f.wide m 0)⟩
def tu (a b:Au) (l:List Int) (fl:Bool) (m k:Nat) (hm:a.bA=m) (n:b.bA=k) (c:m < 1000000) (w:k < 1000000) (x y:List Cd) (i j:Bool) (p:mC x) (D:mC y) :
  bg prog 50 [.agg (gN a b l fl),.seq 3 i (x.map cC),.seq 3 j (y.map cC)] (.agg (p9 (eK m k x y))):=by
 refine pw func50 ?_;have A:au .i64 (a.bA+b.bA)=(m:Int)+k:=by rw[hm,n];exact wrap_i64 aD aD
 refine Y1 A ?_;refine cQ (Tl (H:=[ak ⟨2,0,[[.q0 0,.nil]]⟩,ak ⟨2,0,[[.q0 ((m:Int)+k),.nil]]⟩]) (o:=1) (n0:=2) (xs:=[]) rfl .nil aR aO (Nf a b l fl k n w) x i p aR) ?_;rintro _ G ⟨rfl,v,E,s,W,t⟩;refine Y ?_;refine cQ (Tl (n0:=2) E s aR W (LM a b l fl m hm c) y j D (by simpa using p.1)) ?_;rintro _ h ⟨rfl,r,F,z,I,X⟩;have g:∀K,bk h 1 0 K=K ⟨2,0,[[.q0 ((m:Int)+k),r]]⟩:=aK F;have q:aI h 0 0=ak ⟨2,0,[[.q0 0,.nil]]⟩:=by rw[X 0 aR aR,t 0 aR aR];rfl
 have e:∀K,bk h 0 0 K=K ⟨2,0,[[.q0 0,.nil]]⟩:=aK q;have C:∀xs K,bk (h.set 0 (ak ⟨2,0,xs⟩)) 0 0 K=K ⟨2,0,xs⟩:=fun xs K=>aK (bn (aP q)) K;have cv:=z.cell;refine Y4 g e C cv ?_;have B:[]++(x.map (Cd.put fun f=>f.wide 0 k)).map cC++(y.map (Cd.put fun f=>f.wide m 0)).map cC=(eK m k x y).l.map cC:=by simp[eK]
 rw[B] at z;exact (z.hZ (b:=0) (o:=ak ⟨2,0,[[.q0 ((m:Int)+k),r]]⟩) aR).zz (pre:=[.q0 ((m:Int)+k)]) (post:=[]) (BU _) rfl rfl
def ye (φ:Fm->Fm) (x:As):List AV:=if x.kind=1 then dX ⟨x.kind,φ x.f,x.low⟩ else [.c (.int .i64 x.kind),.nil,.c (.int .i64 0),.c (.int .i64 x.low)]
def As.put (φ:Fm->Fm) (x:As):As:=if x.kind=1 then ⟨x.kind,φ x.f,x.low⟩ else ⟨x.kind,⟨[],0⟩,x.low⟩
def O7 (φ:Fm->Fm) (l:List As):(l.map (ye φ)).all (fun x=>x.all bT)=aq:=by rw[aj6,ah4];intro x _;show (ye φ x).all bT=aq;unfold ye;split<;>rfl
def KV (φ:Fm->Fm) (l:List As):jS (l.map (ye φ)) (l.map fun x=>dX (x.put φ)) :=
 jS.of_map _ fun a _=>by
  unfold ye As.put;by_cases h:a.kind=1
  .rw[ah1 h,ah1 h];refine ⟨rfl,rfl,fun j x y k z=>?_⟩;rw[k] at z;cases z;exact bf.refl _
  .rw[ah0 h,ah0 h];refine ⟨rfl,rfl,fun j x y k z=>?_⟩
   match j with
   | 0=>simp at k z;subst k z;exact bf.refl _
   | 1=>simp at k z;subst k z;exact eW 1
   | 2=>simp at k z;subst k z;exact bf.refl _
   | 3=>simp at k z;subst k z;exact bf.refl _
   | j+4=>simp at k
def PY {n0:Nat} {H:aF} {o:Nat} {v:AV} {xs:List (List AV)} (p:aI H o 0=ak ⟨1,0,[[v]]⟩) (hv:Acc n0 H 4 v xs) (E:o < n0) (S:n0<=ae H)
  {g:FuncId} {fs:List AV} {φ:Fm->Fm} (T:Ms g fs φ) (l:List As) (f:Bool) (a0:ae l < 1000000) (D:∀x,x∈l->ae x.f.c < 1000000) (a9:ae xs < 1000000) :
  cR prog 100 [.seq 4 f (l.map dX),.fn g fs [],.ptr o 0 0 0] H fun r H'=>r = .bM []/\∃h,aI H' o 0=ak ⟨1,0,[[h]]⟩/\Acc n0 H' 4 h (xs++l.map (ye φ))/\n0<=ae H':=by
 refine qw func100 ?_;refine Y ?_;refine aZ (fun n e G=>∃(i:Nat) (v:AV),i<=ae l/\n=ae l - i/\aI G o 0=ak ⟨1,0,[[v]]⟩/\Acc n0 G 4 v (xs++(l.take i).map (ye φ))/\n0<=ae G /\
  e=[(1,.fn g fs []),(2,.ptr o 0 0 0),(7,.seq 4 f (l.map dX)),(8,.q0 (ae l:Int)),(9,.q0 (i:Int))]) ⟨0,v,aD,rfl,p,bu hv,S,rfl⟩ ?_;rintro n _ G ⟨i,v,hi,S,p,m,hG,rfl⟩;have cv:=m.cell;by_cases b:(i:Int) < (ae l:Int)
 .have O:=ws i;have hm:af l i ah∈l:=bS aD;have B:=D _ hm;have ht:l.take (i+1)=l.take i++[af l i ah]:=by rw[aiT (by omega)];simp[af,show i < ae l by omega]
  generalize U:af l i ah=x at *;have R:∀(s:bz),∃h k,(∀K,bX 4 v [ye φ x] (G++[ak s]) K=K h k)/\(bB h=aq/\h.cells=[h]/\dA h=aq)/\(∀K,bk (G++[ak s]) o 0 K=K ⟨1,0,[[v]]⟩)/\(∀K,bk k o 0 K=K ⟨1,0,[[v]]⟩) /\
    aI (k.set o (ak ⟨1,0,[[h]]⟩)) o 0=ak ⟨1,0,[[h]]⟩/\Acc n0 (k.set o (ak ⟨1,0,[[h]]⟩)) 4 h (xs++(l.take (i+1)).map (ye φ))/\n0<=ae (k.set o (ak ⟨1,0,[[h]]⟩)):=fun s=>by
   have j:aI (G++[ak s]) o 0=ak ⟨1,0,[[v]]⟩:=(cJ (aP p)).trans p;have W:=m.aQ (aL.app G [ak s] []) aO;have ⟨h,k,y,V,N,a4,a5,a6,a7,a8⟩:=W.app bW bW (ye φ x);have q:aI k o 0=ak ⟨1,0,[[v]]⟩:=by rw[N.2 o (aP j) (fun hh=>by have:=(m.ge o hh).1;omega)];exact j
   refine ⟨h,k,y,⟨a6,a7,a8⟩,aK j,aK q,bn (aP q),?_,by have:=N.1;simp at this ⊢;omega⟩;rw[ht,aii,<-aio];exact V.hZ E
  by_cases t:x.kind=1
  .have w:(x.kind=1)=True:=aiq t;have A:ye φ x=dX ⟨x.kind,φ x.f,x.low⟩:=ah1 t;have ⟨h,k,y,z,F,I,J,L,M⟩:=R ⟨4,0,[[.q0 x.kind,iz (φ x.f).c,.c (.int .i64 (φ x.f).a),.q0 x.low]]⟩;rw[A] at y;have X:=y;simp only[go_sem,↓reduceIte,Nat.reduceLeDiff,ahZ,b,U,w,ajH];refine ⟨aD,aH (by rw[aiu];exact T.2 x.f B) (by rw[aiu,ajk,T.1];rfl) rfl ?_⟩;refine Y5 X z F I O ?_;exact ⟨rfl,ae l - (i+1),aD,i+1,h,aD,rfl,J,L,bu M,rfl⟩
  .have w:(x.kind=1)=False:=aie t;have A:ye φ x=[.q0 x.kind,.nil,.q0 0,.q0 x.low]:=ah0 t;have ⟨h,k,y,z,F,I,J,L,M⟩:=R ⟨4,0,[[.q0 x.kind,.nil,.q0 0,.q0 x.low]]⟩;rw[A] at y;refine Z8 b U w y z F I O ?_;exact ⟨aD,rfl,ae l - (i+1),aD,i+1,h,aD,rfl,J,L,bu M,rfl⟩
 .have C:i=ae l:=aD;subst C;refine Y1 b ?_;rw[aiK] at m;exact ⟨v,p,m,hG⟩
def rz (a b:Au) (m k:Nat) (i j:Int):List As :=
 (if 0<=i then (af a.aN (az i) ah).cO else aA m ⟨0,⟨[],0⟩,0⟩).map (As.put fun f=>f.wide 0 k) ++
 (if 0<=j then (af b.aN (az j) ah).cO else aA k ⟨0,⟨[],0⟩,0⟩).map (As.put fun f=>f.wide m 0)
def Ka (l:List Jp):Prop:=ae l < 1000000/\∀x,x∈l->ae x.cO < 100000/\(∀y,y∈x.cO->ae y.f.c < 1000000)/\mC x.guard.l
def Uk (h:x∈aA m (⟨0,⟨[],0⟩,0⟩:As)):ae x.f.c < 1000000:=by rw[(ajN.1 h).2];decide
def yF (a b:Au) (l:List Int) (fl:Bool) (m k:Nat) (hm:a.bA=m) (p:b.bA=k) (r:m < 100000) (q:k < 100000) (X Y:List As) (z:ae X < 1000000/\∀x,x∈X->ae x.f.c < 1000000) (g:ae Y < 1000000/\∀x,x∈Y->ae x.f.c < 1000000) :
  WP prog 49 pO (jh [.t 6] 0 (.seq 4 ar ((X.map (As.put fun f=>f.wide 0 k)++Y.map (As.put fun f=>f.wide m 0)).map dX)) [])
   [(3,.fp (gN a b l fl) 0),(7,.ptr 0 0 0 0),(8,.fn 100 [] [.ptr 0 0 0 0]),(9,.seq 4 ar (X.map dX)),(10,.seq 4 ar (Y.map dX))] [ak ⟨1,0,[[AV.nil]]⟩,an,an]:=by refine uz ?_;simp only[go_sem,↓reduceIte,ahZ];refine cQ (PY (H:=[ak ⟨1,0,[[.nil]]⟩,an,an]) (o:=0) (n0:=1) (xs:=[]) rfl .nil aR aO (Nf a b l fl k p aD) X ar z.1 z.2 aR) ?_;rintro _ G ⟨rfl,v,W,i,n⟩;simp only[go_sem,↓reduceIte,ahZ];refine cQ (PY (n0:=1) W i aR n (LM a b l fl m hm aD) Y ar g.1 g.2 (by simpa using z.1)) ?_;rintro _ j ⟨rfl,B,A,h,C⟩;have w:∀K,bk j 0 0 K=K ⟨1,0,[[B]]⟩:=aK A;have cv:=h.cell;simp only[go_sem,↓reduceIte,w];have e:([]:List (List AV))++X.map (ye fun f=>f.wide 0 k)++Y.map (ye fun f=>f.wide m 0)=X.map (ye fun f=>f.wide 0 k)++Y.map (ye fun f=>f.wide m 0):=aO;rw[e] at h;refine (h.fin (by rw[ajk,O7,O7];rfl)).trans (A3 (F3 ?_ (fun y s=>by obtain ⟨x,_,rfl⟩:=aiw.1 s;rfl)));rw[aii,amO,amO];exact (KV _ X).append (KV _ Y)
def XW (a b:Au) (l:List Int) (fl:Bool) (m k:Nat) (hm:a.bA=m) (g:b.bA=k) (z:m < 100000) (h:k < 100000) (X:Ka a.aN) (W:Ka b.aN) (i j:Int)
  (r:-1<=i/\i < ae a.aN) (s:-1<=j/\j < ae b.aN) :
  bg prog 77 [.agg (gN a b l fl),.q0 i,.q0 j] (.seq 4 ar ((rz a b m k i j).map dX)):=by
 refine pc func77 Bu ?_;refine uz ?_;simp only[go_sem,↓reduceIte,hm,g,ah9];have p:∀(n q:Nat),(((aA n [AV.q0 0,.nil,.q0 0,.q0 0]).all fun x=>x.all (bp q))&&aq)=aq:=fun n q=>by rw[aiM,ah4];intro x o;rw[(ajN.1 o).2];rfl
 have K:∀n:Nat,(aA n [AV.q0 0,.nil,.q0 0,.q0 0]).all (fun x=>x.all bT)=aq:=fun n=>by rw[ah4];intro x o;rw[(ajN.1 o).2];rfl
 have A:∀n:Nat,bf (.seq 4 ar (aA n [AV.q0 0,.nil,.q0 0,.q0 0])) (.seq 4 ar ((aA n (⟨0,⟨[],0⟩,0⟩:As)).map dX)):=fun n=>by have:=Hv n;rw[ajT] at this;exact F3 this (fun y D=>by obtain ⟨x,_,rfl⟩:=aiw.1 D;rfl)
 refine ⟨⟨aD,aD,aD⟩,p m 1,⟨aD,aD,aD⟩,p k 2,?_⟩;have C:=V3 (n:=3) (H:=[ak ⟨1,0,[[AV.nil]]⟩,ak ⟨4,0,aA m [AV.q0 0,.nil,.q0 0,.q0 0]⟩,ak ⟨4,0,aA k [AV.q0 0,.nil,.q0 0,.q0 0]⟩]) (i:=1) (j:=2)
  (oi:=⟨4,0,aA m [AV.q0 0,.nil,.q0 0,.q0 0]⟩) (oj:=⟨4,0,aA k [AV.q0 0,.nil,.q0 0,.q0 0]⟩) rfl rfl aR (K m) (K k);refine ⟨[(1,.q0 i),(2,.q0 j),(3,.fp (gN a b l fl) 0),(7,.ptr 0 0 0 0),(8,.fn 100 [] [.ptr 0 0 0 0]),(9,.seq 4 ar ((aA m (⟨0,⟨[],0⟩,0⟩:As)).map dX)),(10,.seq 4 ar ((aA k (⟨0,⟨[],0⟩,0⟩:As)).map dX))],[ak ⟨1,0,[[AV.nil]]⟩,an,an],?_,?_⟩
 .refine s5.KQ (R:=fun x y=>bf (dD 2 0 4 (aA k [AV.q0 0,.nil,.q0 0,.q0 0]) (dD 1 0 4 (aA m [AV.q0 0,.nil,.q0 0,.q0 0]) x)) y) ?_ (bf.refl _) C;refine .cons (bf.refl _) (.cons (bf.refl _) (.cons (bf.refl _) (.cons (bf.refl _) (.cons (bf.refl _) (.cons ?_ (.cons ?_ .nil))))))
  .rw[td aO];exact A m
  .have:dD 1 0 4 (aA m [AV.q0 0,.nil,.q0 0,.q0 0]) (.sl 4 2 0 0 k) = .sl 4 2 0 0 k:=rfl;rw[this,td aO];exact A k
 have v:∀n:Nat,n < 100000->ae (aA n (⟨0,⟨[],0⟩,0⟩:As)) < 1000000/\∀x,x∈aA n (⟨0,⟨[],0⟩,0⟩:As)->ae x.f.c < 1000000:=fun n F=>⟨bW,fun x o=>Uk o⟩;have t:∀{L:List Jp},Ka L->∀q:Int,0<=q->q < ae L->(af L (az q) ah).cO.length < 1000000/\∀x,x∈(af L (az q) ah).cO->ae x.f.c < 1000000:=fun {L} B q E w=>by have:=B.2 (af L (az q) ah) (bS aD);exact ⟨aD,this.2.1⟩
 by_cases w:0<=i
 .by_cases e:0<=j
  .unfold rz;rw[ah1 w,ah1 e];have:=yF a b l fl m k hm g z h _ _ (t X i w r.2) (t W j e s.2);simp only[go_sem,↓reduceIte,ahZ,w,e] at this ⊢;exact ⟨r.2,s.2,this⟩
  .unfold rz;rw[ah1 w,ah0 e];have:=yF a b l fl m k hm g z h _ _ (t X i w r.2) (v k h);simp only[go_sem,↓reduceIte,ahZ,w,e] at this ⊢;exact ⟨r.2,this⟩
 .by_cases e:0<=j
  .unfold rz;rw[ah0 w,ah1 e];have:=yF a b l fl m k hm g z h _ _ (v m z) (t W j e s.2);simp only[go_sem,↓reduceIte,ahZ,w,e] at this ⊢;exact ⟨s.2,this⟩
  .unfold rz;rw[ah0 w,ah0 e];have:=yF a b l fl m k hm g z h _ _ (v m z) (v k h);simp only[go_sem,↓reduceIte,ahZ,w,e] at this ⊢;exact this
inductive mM:List AV->List AV->Prop
 | nil:mM [] []
 | cons {a b:AV} {l m:List AV}:bf a b->mM l m->mM (a::l) (b::m)
def mM.Vs (h:mM l m) (k:cG I β l vs):cG I β m vs:=by
 induction h generalizing vs with
 | nil=>exact k
 | cons x z y =>
  cases vs with
  | nil=>have:=k.1;simp at this
  | cons v vs=>exact .cons (x _ _ _ k.head) (y k.tail)
def bR.D9 (h:bR P f args2 H r H') (x:mM args args2):bR P f args H r H' :=
 ⟨h.1,fun I β w y s k=>h.2 I β w y s (x.Vs k)⟩
structure Lp where
 i:Int
 k:Int
 cI:Int
 to:Int
instance:Inhabited Lp:=⟨⟨0,0,0,0⟩⟩
abbrev Cj (x:Lp):List AV:=[.q0 x.i,.q0 x.k,.q0 x.cI,.q0 x.to]
def lE (a:Au) (i:Int):Jp:=af a.aN (az i) ah
def eC (a b:Au) (m k:Nat) (x:Lp):Jp :=
 ⟨x.cI,x.to,if 0<=x.k then (lE b x.k).label else if 0<=x.i then (lE a x.i).label else 0,
  eK m k (if 0<=x.i then (lE a x.i).guard.l else []) (if 0<=x.k then (lE b x.k).guard.l else []),rz a b m k x.i x.k⟩
def VY (a b:Au) (l:List Int) (fl:Bool) (m k:Nat) (hm:a.bA=m) (g:b.bA=k) (p:m < 100000) (o:k < 100000) (s:Ka a.aN) (t:Ka b.aN) (x:Lp)
  (w:-1<=x.i/\x.i < ae a.aN) (f:-1<=x.k/\x.k < ae b.aN) :
  bg prog 52 [.agg (gN a b l fl),.agg (Cj x)] (.agg (dI (eC a b m k x))):=by
 refine pw func52 ?_;refine Y ?_;refine cX (XW a b l fl m k hm g p o s t x.i x.k w f) ?_;generalize n:rz a b m k x.i x.k=A;have q:0<=x.i->mC (lE a x.i).guard.l:=fun h=>(s.2 _ (bS aD)).2.2;have r:0<=x.k->mC (lE b x.k).guard.l:=fun h=>(t.2 _ (bS aD)).2.2;have j:mC []:=⟨aR,fun c h=>by simp at h⟩;have v:af a.aN (az x.i) ah=lE a x.i:=rfl;have H:af b.aN (az x.k) ah=lE b x.k:=rfl;by_cases z:0<=x.i
 .by_cases y:0<=x.k
  .have e:eC a b m k x=⟨x.cI,x.to,(lE b x.k).label,eK m k (lE a x.i).guard.l (lE b x.k).guard.l,A⟩:=by unfold eC;simp only[z,y,ajs,n]
   rw[e];refine Y4 z y v H ?_;refine ⟨w.2,w.2,f.2,f.2,?_⟩;refine cY (bR.D9 (tu a b l fl m k hm g aD aD _ _ ar ar (q z) (r y)) (.cons (bf.refl _) (.cons (bf.refl _) (.cons (bf.refl _) .nil)))) ?_;exact aW rfl rfl
  .have e:eC a b m k x=⟨x.cI,x.to,(lE a x.i).label,eK m k (lE a x.i).guard.l [],A⟩:=by unfold eC;simp only[z,y,ajs,ajO,n]
   rw[e];refine Y3 z y v ?_;refine ⟨w.2,w.2,?_⟩;refine cY (bR.D9 (tu a b l fl m k hm g aD aD _ _ ar ar (q z) j) (.cons (bf.refl _) (.cons (bf.refl _) (.cons (eW 3) .nil)))) ?_;exact aW rfl rfl
 .by_cases y:0<=x.k
  .have e:eC a b m k x=⟨x.cI,x.to,(lE b x.k).label,eK m k [] (lE b x.k).guard.l,A⟩:=by unfold eC;simp only[z,y,ajs,ajO,n]
   rw[e];refine Y3 z y H ?_;refine ⟨f.2,f.2,?_⟩;refine cY (bR.D9 (tu a b l fl m k hm g aD aD _ _ ar ar j (r y)) (.cons (bf.refl _) (.cons (eW 3) (.cons (bf.refl _) .nil)))) ?_;exact aW rfl rfl
  .have e:eC a b m k x=⟨x.cI,x.to,0,eK m k [] [],A⟩:=by unfold eC;simp only[z,y,ajO,n]
   rw[e];refine Y2 z y ?_;refine cY (bR.D9 (tu a b l fl m k hm g aD aD _ _ ar ar j j) (.cons (bf.refl _) (.cons (eW 3) (.cons (eW 3) .nil)))) ?_;exact aW rfl rfl
end
end Go.Fx
