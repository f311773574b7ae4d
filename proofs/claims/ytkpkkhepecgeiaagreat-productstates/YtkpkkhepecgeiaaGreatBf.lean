/- A state of the product is allowed or initial exactly when its two parts are; ProductStates returns true whatever its arguments are: part 6 of 10. No condition. -/
import Derived.Test.YtkpkkhepecgeiaaGreatBe
set_option linter.all false
set_option maxRecDepth 8000
set_option maxHeartbeats 9000000
set_option autoImplicit true
set_option relaxedAutoImplicit true
namespace Go.Fx
open Go.Proofs.Tryz
open List renaming length->ae,getD->af,replicate->aA,eraseIdx->aB,range->aC
open Inhabited renaming default->ah
open Option renaming some->ak,none->an
open Bool renaming true->aq,false->ar
open Go.IntKind renaming wrap->au
open Int renaming natAbs->ay,toNat->az
def bR:Nat->(Nat->Rat)->Rat
 | 0,_=>0
 | n+1,f=>bR n f+f n
def cH (h:∀k,k < n->f k=g k):bR n f=bR n g:=by
 induction n with
 | zero=>rfl
 | succ n x=>simp only[bR];rw[x (fun k y=>h k (by omega)),h n (by omega)]
def LL:bR n (fun k=>f k+g k)=bR n f+bR n g:=by
 induction n with
 | zero=>simp only[bR];grind
 | succ n h=>simp only[bR];rw[h];grind
def LN:bR n (fun k=>f k - g k)=bR n f - bR n g:=by
 induction n with
 | zero=>simp only[bR];grind
 | succ n h=>simp only[bR];rw[h];grind
def LM:bR n (fun k=>c*f k)=c*bR n f:=by
 induction n with
 | zero=>simp[bR]
 | succ n h=>simp only[bR];rw[h];grind
def jg (h:∀k,k < n->f k=0):bR n f=0:=by
 induction n with
 | zero=>rfl
 | succ n x=>simp only[bR];rw[x (fun k y=>h k (by omega)),h n (by omega)];grind
def rR {n k:Nat} {f:Nat->Rat} {u:Rat} (z:k < n):bR n (fun c=>if c=k then u else f c)=bR n f - f k+u:=by
 induction n with
 | zero=>omega
 | succ n x =>
  simp only[bR];by_cases h:k=n
  .subst h;rw[W0 rfl,cH (g:=f) (fun c y=>by rw[WX (by omega)])];grind
  .rw[x (by omega),WX (Xg h)];grind
def lx (w:k < n) (h:∀c,c < n->c≠k->f c=0):bR n f=f k:=by
 have y:bR n f=bR n (fun c=>if c=k then f k else 0):=cH fun c z=>by
  by_cases x:c=k
  .rw[W0 x,x]
  .rw[WX x,h c z x]
 rw[y,rR (f:=fun _=>0) w,jg (fun _ _=>rfl)];grind
def Ff (h:bR n f < 0):∃k,k < n/\f k < 0:=by
 induction n with
 | zero=>simp[bR] at h
 | succ n z =>
  simp only[bR] at h;by_cases y:f n < 0
  .exact ⟨n,by omega,y⟩
  .have ⟨k,w,x⟩:=z (by grind);exact ⟨k,by omega,x⟩
structure Dic where
 m:Nat
 w:Nat
 bu:Nat->Int
 out:Nat->Int
 a:Nat->Nat->Rat
 g:Nat->Rat
abbrev Asg:=Int->Rat
def Dic.rv (D:Dic) (f:Nat->Rat) (x:Asg):Rat:=f 0+bR D.w fun k=>f (k+1)*x (D.out k)
def Dic.Sol (D:Dic) (x:Asg):Prop:=∀i,i < D.m->x (D.bu i)=D.rv (D.a i) x
def dQ {α:Type} (f:Nat->α) (i:Nat) (v:α):Nat->α:=fun j=>if j=i then v else f j
def Dic.fresh (D:Dic) (i k:Nat) (c:Nat):Rat:=if c=k+1 then 1 / D.a i (k+1) else -(D.a i c / D.a i (k+1))
def Dic.di (D:Dic) (i k:Nat) (f:Nat->Rat) (c:Nat):Rat:=(if c=k+1 then 0 else f c)+f (k+1)*D.fresh i k c
def Dic.b9 (D:Dic) (i k:Nat):Dic where
 m:=D.m
 w:=D.w
 bu:=dQ D.bu i (D.out k)
 out:=dQ D.out k (D.bu i)
 a:=fun r c=>if r=i then D.fresh i k c else D.di i k (D.a r) c
 g:=D.di i k D.g
def JL {D:Dic} {i k:Nat} {f:Nat->Rat} {x:Asg} (z:k < D.w) :
  (D.b9 i k).rv f x=D.rv f x - f (k+1)*x (D.out k)+f (k+1)*x (D.bu i):=by
 unfold Dic.rv;show f 0+bR D.w (fun c=>f (c+1)*x (dQ D.out k (D.bu i) c))=_;have y:bR D.w (fun c=>f (c+1)*x (dQ D.out k (D.bu i) c))=bR D.w (fun c=>if c=k then f (k+1)*x (D.bu i) else f (c+1)*x (D.out c)):=cH fun c _=>by
  unfold dQ;by_cases h:c=k
  .subst h;rw[W0 rfl,W0 rfl]
  .rw[WX h,WX h]
 rw[y,rR z];grind
def JK {D:Dic} {f g:Nat->Rat} {c:Rat} {x:Asg}:D.rv (fun j=>f j+c*g j) x=D.rv f x+c*D.rv g x:=by
 unfold Dic.rv;have:bR D.w (fun k=>(f (k+1)+c*g (k+1))*x (D.out k))=bR D.w (fun k=>f (k+1)*x (D.out k))+c*bR D.w (fun k=>g (k+1)*x (D.out k)):=by rw[<-LM,<-LL];exact cH fun k _=>by grind
 rw[this];grind
def Im {D:Dic} {k:Nat} {f:Nat->Rat} {x:Asg} (y:k < D.w):D.rv (fun c=>if c=k+1 then 0 else f c) x=D.rv f x - f (k+1)*x (D.out k):=by
 unfold Dic.rv;simp only[];rw[WX (show ¬0=k+1 by omega)];have:bR D.w (fun c=>(if c+1=k+1 then 0 else f (c+1))*x (D.out c))=bR D.w (fun c=>if c=k then 0 else f (c+1)*x (D.out c)):=cH fun c _=>by
  by_cases h:c=k
  .subst h;rw[W0 rfl,W0 rfl];grind
  .rw[WX (by omega),WX h]
 rw[this,rR y];grind
def E7 {D:Dic} {i k:Nat} {x:Asg} (z:k < D.w) (l:D.a i (k+1)≠0) :
  D.a i (k+1)*(D.b9 i k).rv (D.fresh i k) x=x (D.bu i) - (D.rv (D.a i) x - D.a i (k+1)*x (D.out k)):=by
 rw[JL z];have b:D.rv (D.fresh i k) x=D.rv (fun c=>(if c=k+1 then 1 / D.a i (k+1)+D.a i (k+1) / D.a i (k+1) else 0)+(-(1 / D.a i (k+1)))*D.a i c) x:=by
  unfold Dic.rv;have y:∀c,D.fresh i k c=(if c=k+1 then 1 / D.a i (k+1)+D.a i (k+1) / D.a i (k+1) else 0)+(-(1 / D.a i (k+1)))*D.a i c:=by
   intro c;unfold Dic.fresh;by_cases h:c=k+1
   .subst h;rw[W0 rfl,W0 rfl];grind
   .rw[WX h,WX h];grind
  rw[y 0];congr 1;exact cH fun c _=>by rw[y (c+1)]
 rw[b,JK (f:=fun c=>if c=k+1 then 1 / D.a i (k+1)+D.a i (k+1) / D.a i (k+1) else 0)];have e:D.rv (fun c=>if c=k+1 then 1 / D.a i (k+1)+D.a i (k+1) / D.a i (k+1) else 0) x=(1 / D.a i (k+1)+D.a i (k+1) / D.a i (k+1))*x (D.out k):=by unfold Dic.rv;simp only[];rw[WX (show ¬0=k+1 by omega),lx (k:=k) z (fun c _ j=>by rw[WX (by omega)];grind),W0 rfl];grind
 rw[e];have g:D.fresh i k (k+1)=1 / D.a i (k+1):=by unfold Dic.fresh;rw[W0 rfl]
 rw[g]
 grind
def Ca {D:Dic} {i k:Nat} {f:Nat->Rat} {x:Asg} (h:k < D.w) (z:x (D.out k)=(D.b9 i k).rv (D.fresh i k) x):(D.b9 i k).rv (D.di i k f) x=D.rv f x:=by have y:(D.b9 i k).rv (D.di i k f) x=(D.b9 i k).rv (fun c=>if c=k+1 then 0 else f c) x+f (k+1)*(D.b9 i k).rv (D.fresh i k) x:=JK;rw[y,<-z,JL h,Im h,W0 rfl];grind
def tW {D:Dic} {i k:Nat} {x:Asg} (g:i < D.m) (e:k < D.w) (j:D.a i (k+1)≠0):(D.b9 i k).Sol x↔D.Sol x:=by
 constructor
 .intro h;have z:x (D.out k)=(D.b9 i k).rv (D.fresh i k) x:=by have:=h i g;simp only[Dic.b9,dQ,W0] at this;exact this
  have b:=E7 (x:=x) e j;intro r f;by_cases y:r=i
  .subst y;rw[<-z] at b;grind
  .have:=h r f;simp only[Dic.b9,dQ,WX y] at this;rw[this];exact Ca e z
 .intro h;have b:=E7 (x:=x) e j;have z:x (D.out k)=(D.b9 i k).rv (D.fresh i k) x:=by
   have:=h i g;rw[<-this] at b;have l:D.a i (k+1)*(D.b9 i k).rv (D.fresh i k) x=D.a i (k+1)*x (D.out k):=by rw[b];grind
   grind
  intro r f;by_cases y:r=i
  .subst y;show x (dQ D.bu r (D.out k) r)=(D.b9 r k).rv (fun c=>if r=r then D.fresh r k c else D.di r k (D.a r) c) x;simp only[dQ,W0];exact z
  .show x (dQ D.bu i (D.out k) r)=(D.b9 i k).rv (fun c=>if r=i then D.fresh i k c else D.di i k (D.a r) c) x;simp only[dQ,WX y];rw[Ca e z];exact h r f
def z9 {D:Dic} {i k:Nat} {x:Asg} (y:i < D.m) (z:k < D.w) (c:D.a i (k+1)≠0) (h:D.Sol x):(D.b9 i k).rv (D.b9 i k).g x=D.rv D.g x:=by
 have b:=(tW y z c).2 h;have e:x (D.out k)=(D.b9 i k).rv (D.fresh i k) x:=by have:=b i y;simp only[Dic.b9,dQ,W0] at this;exact this
 exact Ca z e
structure Dic.Dis (D:Dic):Prop where
 bb:∀i j,i < D.m->j < D.m->D.bu i=D.bu j->i=j
 oo:∀i j,i < D.w->j < D.w->D.out i=D.out j->i=j
 bo:∀i j,i < D.m->j < D.w->D.bu i≠D.out j
def Dic.Dis.b9 {D:Dic} {i k:Nat} (h:D.Dis) (c:i < D.m) (e:k < D.w):(D.b9 i k).Dis:=by
 refine ⟨fun a b y z x=>?_,fun a b y z x=>?_,fun a b y z x=>?_⟩
 .simp only[Dic.b9,dQ] at y z x;split at x<;>split at x
  .omega
  .exact absurd x.symm (h.bo b k z e)
  .exact absurd x (h.bo a k y e)
  .exact h.bb a b y z x
 .simp only[Dic.b9,dQ] at y z x;split at x<;>split at x
  .omega
  .exact absurd x (h.bo i b c z)
  .exact absurd x.symm (h.bo i a c y)
  .exact h.oo a b y z x
 .simp only[Dic.b9,dQ] at y z x;split at x<;>split at x
  .exact h.bo i k c e x.symm
  .rename_i f g;exact g (h.oo _ _ e z x).symm
  .rename_i f g;exact f (h.bb _ _ y c x)
  .exact h.bo a b y z x
def Dic.ext (D:Dic) (y:Asg):Asg:=fun v=>match (aC D.m).find? (fun i=>D.bu i=v) with
 | some i=>D.rv (D.a i) y
 | none=>y v
def qI {D:Dic} (h:D.Dis) {y:Asg} {i:Nat} (w:i < D.m):D.ext y (D.bu i)=D.rv (D.a i) y:=by
 unfold Dic.ext;cases k:(aC D.m).find? (fun j=>D.bu j=D.bu i) with
 | none =>
  have:=List.find?_eq_none.1 k i (by simpa using w);simp at this
 | some j =>
  have x:=abA k;have z:=aaF k;simp at x z;rw[h.bb j i z w x]
def jM {D:Dic} {y:Asg} {v:Int} (h:∀i,i < D.m->D.bu i≠v):D.ext y v=y v:=by
 unfold Dic.ext;cases z:(aC D.m).find? (fun j=>D.bu j=v) with
 | none=>rfl
 | some j =>
  have k:=abA z;have x:=aaF z;simp at k x;exact absurd k (h j x)
def oC {D:Dic} (h:D.Dis) {y:Asg} {k:Nat} (z:k < D.w):D.ext y (D.out k)=y (D.out k):=jM fun i x=>h.bo i k x z
def Bu {D:Dic} (h:D.Dis) {y:Asg} {f:Nat->Rat}:D.rv f (D.ext y)=D.rv f y:=by unfold Dic.rv;congr 1;exact cH fun k x=>by rw[oC h x]
def kr {D:Dic} (h:D.Dis) (y:Asg):D.Sol (D.ext y):=fun i k=>by rw[qI h k,Bu h]
def AF {p:Nat->Prop}:∀{b a:Nat},a<=b->p a->¬p b->∃j,a<=j/\j < b/\p j/\¬p (j+1)
 | 0,a,h,x,z=>by (have:a=0:=by omega);(subst this;exact absurd x z)
 | b+1,a,h,x,z=>by
  by_cases e:p b
  .grind
  .rcases Xe b a with y | y
   .grind
   .have ⟨j,w,f,c⟩:=AF y x e;exact ⟨j,w,by omega,c⟩
def Ik {p:Nat->Prop} {a b:Nat} (h:a<=b) (c:¬p a) (e:p b):∃j,a<=j/\j < b/\¬p j/\p (j+1):=by obtain ⟨j,x,y,z,w⟩:=AF (p:=fun j=>¬p j) h c (fun h=>h e);exact ⟨j,x,y,z,aaR.1 w⟩
def Qy {p:Nat->Prop} {L a b:Nat} (f:p 0↔p L) (g:a<=L) (l:b<=L) (e:p a) (c:¬p b):(∃j,j < L/\p j/\¬p (j+1))/\(∃j,j < L/\¬p j/\p (j+1)):=by
 constructor
 .rcases Nat.le_total a b with h | h
  .have ⟨j,y,z,x⟩:=AF h e c;exact ⟨j,by omega,x⟩
  .by_cases w:p L
   .have ⟨j,y,z,x⟩:=AF (XE b) (f.2 w) c;exact ⟨j,by omega,x⟩
   .have ⟨j,y,z,x⟩:=AF g e w;exact ⟨j,by omega,x⟩
 .rcases Nat.le_total b a with h | h
  .have ⟨j,y,z,x⟩:=Ik h c e;exact ⟨j,by omega,x⟩
  .by_cases w:p L
   .have ⟨j,y,z,x⟩:=Ik l c w;exact ⟨j,by omega,x⟩
   .have ⟨j,y,z,x⟩:=Ik (XE a) (fun h=>w (f.1 h)) e;exact ⟨j,by omega,x⟩
def Mp (f:Nat->Int):∀L,0 < L->∃j,j < L/\∀i,i < L->f i<=f j
 | 0,h=>by omega
 | 1,_=>⟨0,by omega,fun i z=>by (have:i=0:=by omega);(subst this;exact Yn _)⟩
 | L+2,_=>by
  obtain ⟨j,w,y⟩:=Mp f (L+1) (by omega);by_cases h:f j<=f (L+1)
  .refine ⟨L+1,by omega,fun i z=>?_⟩;rcases Xe i (L+1) with x | x
   .exact abu (y i x) h
   .grind
  .refine ⟨j,by omega,fun i z=>?_⟩;rcases Xe i (L+1) with x | x
   .exact y i x
   .have:i=L+1:=by omega
    subst this;omega
structure lC (sd:Int->Prop) (D:Dic) (i k:Nat):Prop where
 hi:i < D.m
 hk:k < D.w
 sk:sd (D.out k)
 neg:D.g (k+1) < 0
 least:∀q,q < D.w->sd (D.out q)->D.g (q+1) < 0->D.out k<=D.out q
 si:sd (D.bu i)
 uI:D.a i (k+1) < 0
 ratio:∀p,p < D.m->sd (D.bu p)->D.a p (k+1) < 0->D.a i 0 / -(D.a i (k+1))<=D.a p 0 / -(D.a p (k+1))
 tie:∀p,p < D.m->sd (D.bu p)->D.a p (k+1) < 0->D.a i 0 / -(D.a i (k+1))=D.a p 0 / -(D.a p (k+1))->D.bu i<=D.bu p
def Dic.jk (sd:Int->Prop) (D:Dic):Prop:=∀i,i < D.m->sd (D.bu i)->0<=D.a i 0
def tZ {a b:Rat} (h:0<=a) (x:0 < b):0<=a / b:=by rw[Rat.div_def];exact aaw h (Rat.le_of_lt (Rat.inv_pos.2 x))
def lC.My {sd:Int->Prop} {D:Dic} {i k:Nat} (h:lC sd D i k) (z:D.jk sd):0<=D.fresh i k 0:=by
 have x:=z i h.hi h.si;have w:=h.uI;unfold Dic.fresh;rw[WX (by omega)];have y:-(D.a i 0 / D.a i (k+1))=D.a i 0 / -(D.a i (k+1)):=by grind
 rw[y];exact tZ x (by grind)
def lC.mh {sd:Int->Prop} {D:Dic} {i k:Nat} (h:lC sd D i k) (w:D.jk sd):(D.b9 i k).jk sd:=by
 intro r b m;have c:=h.My w;by_cases y:r=i
 .subst y;show 0<=(if r=r then D.fresh r k 0 else _);rw[W0 rfl];exact c
 .show 0<=(if r=i then _ else D.di i k (D.a r) 0);rw[WX y];have x:sd (D.bu r):=by simpa only[Dic.b9,dQ,WX y] using m
  have n:=w r b x;unfold Dic.di;rw[WX (by omega)];by_cases z:D.a r (k+1) < 0
  .have e:=h.ratio r b x z;have f:D.fresh i k 0=D.a i 0 / -(D.a i (k+1)):=by
    unfold Dic.fresh;rw[WX (by omega)];have:=h.uI
    grind
   rw[f];have g:0 < -(D.a r (k+1)):=by grind
   have j:=Rat.mul_le_mul_of_nonneg_right e (Rat.le_of_lt g);have l:D.a r 0 / -(D.a r (k+1)) * -(D.a r (k+1))=D.a r 0:=by grind
   rw[l] at j
   grind
  .have:=aaw (aai.1 z) c
   grind
def lC.aN {sd:Int->Prop} {D:Dic} {i k:Nat} (h:lC sd D i k) (w:D.jk sd):(D.b9 i k).g 0<=D.g 0/\((D.b9 i k).g 0=D.g 0->D.a i 0=0):=by
 have b:=h.My w;have l:=h.neg;have e:(D.b9 i k).g 0=D.g 0+D.g (k+1)*D.fresh i k 0:=by show D.di i k D.g 0=_;unfold Dic.di;rw[WX (by omega)]
 rw[e];have c:D.g (k+1)*D.fresh i k 0<=0:=by
  have:=aaw (show 0 <= -(D.g (k+1)) by grind) b
  grind
 refine ⟨by grind,fun f=>?_⟩;have j:D.g (k+1)*D.fresh i k 0=0:=by grind
 have x:D.fresh i k 0=0:=by grind
 unfold Dic.fresh at x;rw[WX (by omega)] at x;have:=h.uI;have y:D.a i 0 / D.a i (k+1)=0:=by grind
 have z:D.a i 0=D.a i 0 / D.a i (k+1)*D.a i (k+1):=by grind
 rw[z,y];grind
structure iP (sd:Int->Prop) (D:Nat->Dic) (i k:Nat->Nat) (L:Nat):Prop where
 step:∀j,j < L->lC sd (D j) (i j) (k j)
 next:∀j,j < L->D (j+1)=(D j).b9 (i j) (k j)
 bU:(D 0).Dis
 mh:(D 0).jk sd
section
variable {sd:Int->Prop} {D:Nat->Dic} {i k:Nat->Nat} {L:Nat}
def iP.Eb (h:iP sd D i k L):∀j,j<=L->(D j).m=(D 0).m/\(D j).w=(D 0).w:=by
 intro j
 induction j with
 | zero=>intro _;exact ⟨rfl,rfl⟩
 | succ j x=>intro y;rw[h.next j (by omega)];exact x (by omega)
def iP.Ec (h:iP sd D i k L):∀j,j<=L->(D j).Dis:=by
 intro j
 induction j with
 | zero=>intro _;exact h.bU
 | succ j x=>intro y;rw[h.next j (by omega)];exact (x (by omega)).b9 (h.step j (by omega)).hi (h.step j (by omega)).hk
def iP.HB (h:iP sd D i k L):∀j,j<=L->(D j).jk sd:=by
 intro j
 induction j with
 | zero=>intro _;exact h.mh
 | succ j x=>intro y;rw[h.next j (by omega)];exact (h.step j (by omega)).mh (x (by omega))
def iP.nm (h:iP sd D i k L):∀j,j<=L->((D j).Sol x↔(D 0).Sol x):=by
 intro j
 induction j with
 | zero=>intro _;exact abe
 | succ j z =>
  intro w;have y:=h.step j (by omega);rw[h.next j (by omega),tW y.hi y.hk (by have:=y.uI;grind)];exact z (by omega)
def iP.gv (h:iP sd D i k L) (z:(D 0).Sol x):∀j,j<=L->(D j).rv (D j).g x=(D 0).rv (D 0).g x:=by
 intro j
 induction j with
 | zero=>intro _;rfl
 | succ j w =>
  intro a;have y:=h.step j (by omega);rw[h.next j (by omega),z9 y.hi y.hk (by have:=y.uI;grind) ((h.nm j (by omega)).2 z)];exact w (by omega)
def iP.g0 (h:iP sd D i k L):∀j d,j+d<=L->(D (j+d)).g 0<=(D j).g 0:=by
 intro j d
 induction d with
 | zero=>intro _;exact aao
 | succ d y =>
  intro z;have x:=((h.step (j+d) (by omega)).aN (h.HB _ (by omega))).1;rw[<-h.next (j+d) (by omega)] at x;exact Rat.le_trans x (y (by omega))
def eK:Asg:=fun _=>0
def lU {D:Dic} {f:Nat->Rat} {x:Asg} (h:∀q,q < D.w->x (D.out q)=0):D.rv f x=f 0:=by unfold Dic.rv;rw[jg (fun q y=>by rw[h q y];grind)];grind
def iP.level (h:iP sd D i k L) (l:∀r,r < (D 0).m->(D L).bu r=(D 0).bu r):∀j,j < L->(D j).a (i j) 0=0:=by
 have y:=h.Ec L (WY _);have z:(D L).g 0=(D 0).g 0:=by
  have n:=kr y eK;have x:(D L).rv (D L).g ((D L).ext eK)=(D L).g 0:=lU fun q c=>by rw[oC y c];rfl
  have w:=h.gv ((h.nm L (WY _)).1 n) L (WY _);have b:(D 0).rv (D 0).g ((D L).ext eK)=(D 0).g 0:=lU fun q c=>by rw[jM (fun r e=>by rw[(h.Eb L (WY _)).1] at e;rw[l r e];exact h.bU.bo r q e c)];rfl
  rw[<-x,w,b]
 intro j f;have x:=(h.step j f).aN (h.HB j (by omega));rw[<-h.next j f] at x;apply x.2;have w:=h.g0 0 j (by omega);have b:=h.g0 (j+1) (L - (j+1)) (by omega);rw[Xb] at w;rw[show j+1+(L - (j+1))=L by omega,z] at b;exact Rat.le_antisymm x.1 (Rat.le_trans w b)
def iP.flat (h:iP sd D i k L) (z:∀r,r < (D 0).m->(D L).bu r=(D 0).bu r):∀j,j<=L->∀q,q < (D 0).w->(D 0).ext eK ((D j).out q)=0:=by
 intro j
 induction j with
 | zero=>intro _ q x;rw[oC h.bU x];rfl
 | succ j y =>
  intro c q x;have a:=h.step j (by omega);rw[h.next j (by omega)];show (D 0).ext eK (dQ (D j).out (k j) ((D j).bu (i j)) q)=0;unfold dQ;split
  .have b:=(h.nm j (by omega)).2 (kr h.bU eK);rw[b (i j) a.hi,lU (fun q x=>y (by omega) q (by rw[<-(h.Eb j (by omega)).2];exact x))];exact h.level z j (by omega)
  .exact y (by omega) q x
def iP.no (h:iP sd D i k L) (hL:0 < L) (R:∀r,r < (D 0).m->(D L).bu r=(D 0).bu r):False:=by
 have ⟨js,T,E⟩:=Mp (fun j=>(D j).out (k j)) L hL;have s:=h.step js T;obtain ⟨t,O⟩:∃t,t=(D js).out (k js):=⟨_,rfl⟩;have stat:∀v:Int,(∃r,r < (D 0).m/\(D 0).bu r=v)↔(∃r,r < (D 0).m/\(D L).bu r=v):=fun v =>
  ⟨fun ⟨r,b,f⟩=>⟨r,b,by rw[R r b];exact f⟩,fun ⟨r,b,f⟩=>⟨r,b,by rw[<-R r b];exact f⟩⟩;have enters:∀v j,j < L->¬(∃r,r < (D 0).m/\(D j).bu r=v)->(∃r,r < (D 0).m/\(D (j+1)).bu r=v)->v=(D j).out (k j):=by
  intro v j J hn ⟨r,b,f⟩;rw[h.next j J] at f;simp only[Dic.b9,dQ] at f;split at f
  .exact f.symm
  .exact absurd ⟨r,b,f⟩ hn
 have leaves:∀v j,j < L->(∃r,r < (D 0).m/\(D j).bu r=v)->¬(∃r,r < (D 0).m/\(D (j+1)).bu r=v)->v=(D j).bu (i j):=by
  intro v j J ⟨r,b,f⟩ hn;by_cases C:r=i j
  .rw[<-C];exact f.symm
  .refine absurd ⟨r,b,?_⟩ hn;rw[h.next j J];simp only[Dic.b9,dQ,WX C];exact f
 have dm:=fun j J=>(h.Eb j J).1;have dw:=fun j J=>(h.Eb j J).2;have tb:∃r,r < (D 0).m/\(D (js+1)).bu r=t:=⟨i js,by rw[<-dm js (by omega)];exact s.hi,by rw[h.next js T,O];simp[Dic.b9,dQ]⟩;have tn:¬∃r,r < (D 0).m/\(D js).bu r=t:=by rintro ⟨r,b,f⟩;rw[O] at f;exact (h.Ec js (by omega)).bo r (k js) (by rw[dm js (by omega)];exact b) s.hk f
 obtain ⟨⟨z,X,l1,l2⟩,_⟩:=Qy (p:=fun j=>∃r,r < (D 0).m/\(D j).bu r=t) (stat t) (show js+1<=L by omega) (show js<=L by omega) tb tn;have N:=leaves t z X l1 l2;have H:=h.step z X;have K:=h.Ec z (by omega);have S:=h.Ec js (by omega);obtain ⟨y,P⟩:∃y:Asg,y=fun v=>if v=(D z).out (k z) then 1 else 0:=⟨_,rfl⟩;have X1:=(h.nm z (by omega)).1 (kr K y);have X0:=(h.nm z (by omega)).1 (kr K eK);have g1:=h.gv X1 z (by omega);have g0:=h.gv X0 z (by omega);have a4:=h.gv X1 js (by omega);have a3:=h.gv X0 js (by omega);have r1:(D z).rv (D z).g ((D z).ext y)=(D z).g 0+(D z).g (k z+1):=by rw[Bu K];unfold Dic.rv;rw[lx (k:=k z) H.hk (fun c hc n=>by rw[P];simp only;rw[WX (fun C=>n (K.oo _ _ hc H.hk C))];grind)];rw[P];simp only[Yj];grind
 have r0:(D z).rv (D z).g ((D z).ext eK)=(D z).g 0:=lU fun q W=>by rw[oC K W];rfl
 have key:bR (D js).w (fun q=>(D js).g (q+1)*((D z).ext y ((D js).out q) - (D z).ext eK ((D js).out q))) < 0:=by
  have e1:bR (D js).w (fun q=>(D js).g (q+1)*((D z).ext y ((D js).out q) - (D z).ext eK ((D js).out q)))=(D js).rv (D js).g ((D z).ext y) - (D js).rv (D js).g ((D z).ext eK):=by unfold Dic.rv;rw[cH (g:=fun q=>(D js).g (q+1)*(D z).ext y ((D js).out q) - (D js).g (q+1)*(D z).ext eK ((D js).out q)) (fun q _=>by grind),LN];grind
  rw[e1,a4,a3,<-g1,<-g0,r1,r0];have:=H.neg
  grind
 have ⟨q,W,l⟩:=Ff key;by_cases B:∃p,p < (D z).m/\(D z).bu p=(D js).out q
 .have ⟨p,F,o⟩:=B;have d1:(D z).ext y ((D js).out q) - (D z).ext eK ((D js).out q)=(D z).a p (k z+1):=by rw[<-o,qI K F,qI K F,lU (x:=eK) (fun q _=>rfl)];unfold Dic.rv;rw[lx (k:=k z) H.hk (fun c hc n=>by rw[P];simp only;rw[WX (fun C=>n (K.oo _ _ hc H.hk C))];grind)];rw[P];simp only[Yj];grind
  rw[d1] at l;have vb:∃r,r < (D 0).m/\(D z).bu r=(D js).out q:=⟨p,by rw[<-dm z (by omega)];exact F,o⟩;have vn:¬∃r,r < (D 0).m/\(D js).bu r=(D js).out q:=by rintro ⟨r,b,f⟩;exact S.bo r q (by rw[dm js (by omega)];exact b) W f
  obtain ⟨_,⟨je,M,n1,n2⟩⟩:=Qy (p:=fun j=>∃r,r < (D 0).m/\(D j).bu r=(D js).out q) (stat _) (show z<=L by omega) (show js<=L by omega) vb vn;have V:=enters _ je M n1 n2;have a7:(D js).out q<=t:=by rw[V,O];exact E je M
  have a0:sd ((D js).out q):=by rw[V];exact (h.step je M).sk
  by_cases G:(D js).out q=t
  .have e1:q=k js:=S.oo _ _ W s.hk (by rw[G,O]);have e2:p=i z:=K.bb _ _ F H.hi (by rw[o,G,N]);rw[e1,e2] at l;have a1:=s.neg;have a2:=H.uI;have:=Rat.mul_pos (show 0 < -((D js).g (k js+1)) by grind) (show 0 < -((D z).a (i z) (k z+1)) by grind)
   grind
  .have I:¬(D js).g (q+1) < 0:=by intro U;have:=s.least q W a0 U;rw[<-O] at this;omega
   have a5:(D z).a p (k z+1) < 0:=by
    by_cases b:(D z).a p (k z+1) < 0
    .exact b
    .have:=aaw (aai.1 I) (aai.1 b)
     grind
   have z1:(D z).a (i z) 0=0:=h.level R z X;have z2:(D z).a p 0=0:=by have hx:(D z).Sol ((D 0).ext eK):=(h.nm z (by omega)).2 (kr h.bU eK);have b:=hx p F;rw[lU (fun q W=>h.flat R z (by omega) q (by rw[<-dw z (by omega)];exact W)),o] at b;rw[<-b];exact h.flat R js (by omega) q (by rw[<-dw js (by omega)];exact W)
   have a6:sd ((D z).bu p):=by rw[o];exact a0
   have:=H.tie p F a6 a5 (by rw[z1,z2];grind);rw[o,<-N] at this;omega
 .have n:∀p,p < (D z).m->(D z).bu p≠(D js).out q:=fun p F C=>B ⟨p,F,C⟩;rw[jM n,jM n] at l;by_cases A:(D js).out q=(D z).out (k z)
  .have I:(D js).g (q+1) < 0:=by
    rw[P] at l;simp only[A,Yj,eK] at l
    grind
   have a1:=s.least q W (by rw[A];exact H.sk) I;have a2:=E z X;rw[A] at a1;have e:(D z).out (k z)=t:=by rw[O];omega
   exact K.bo (i z) (k z) H.hi H.hk (by rw[e,N])
  .rw[P] at l;simp only[WX A,eK] at l
   grind
end
def Num (M d:Int) (r:Rat):Prop:=∃n:Int,-M<=n/\n<=M/\r=(n:Rat) / (d:Rat)
def CD (M:Int) (D:Dic):Prop:=∃d:Int,d≠0 /\ -M<=d/\d<=M/\(∀i,i < D.m->∀c,c<=D.w->Num M d (D.a i c))/\∀c,c<=D.w->Num M d (D.g c)
def grow (M:Int):Nat->Int
 | 0=>M
 | t+1=>2*(grow M t*grow M t)
def rq (h:1<=M):∀t,1<=grow M t
 | 0=>h
 | t+1=>by have k:=rq h t;have x:grow M t*1<=grow M t*grow M t:=Xs k (by omega);show 1<=2*(grow M t*grow M t);omega
def CB (h:1<=M) (t:Nat):grow M t<=grow M (t+1):=by have k:=rq h t;have x:grow M t*1<=grow M t*grow M t:=Xs k (by omega);show grow M t<=2*(grow M t*grow M t);omega
def CA (h:1<=M) (k:s<=t):grow M s<=grow M t:=by
 induction t with
 | zero=>rw[Nat.le_zero.1 k];exact Yn _
 | succ t y =>
  by_cases x:s=t+1
  .subst x;exact Yn _
  .exact abu (y (by omega)) (CB h t)
def Num.mono {M k d:Int} {r:Rat} (h:Num M d r) (hm:M<=k):Num k d r:=by have ⟨n,y,z,x⟩:=h;exact ⟨n,by omega,by omega,x⟩
def CD.mono (h:CD M D) (hm:M<=x):CD x D:=by have ⟨d,y,b,e,z,w⟩:=h;exact ⟨d,y,by omega,by omega,fun i a c k=>(z i a c k).mono hm,fun c k=>(w c k).mono hm⟩
def lO (x:-M<=a) (y:a<=M) (z:-M<=b) (w:b<=M):-(M*M)<=a*b/\a*b<=M*M:=by
 have h:0<=M:=by omega
 have e:ay (a*b)<=ay M*ay M:=by rw[aaP];exact ZD (by omega) (by omega)
 have k:((ay M*ay M:Nat):Int)=M*M:=by rw[YT,Int.natAbs_of_nonneg h]
 omega
def Ic {n:Int} (h:n≠0):(n:Rat)≠0:=by intro k;apply h;exact_mod_cast k
def CD.b9 (h:CD M D) (hM:1<=M) (s:i < D.m) (hk:k < D.w) (O:D.a i (k+1)≠0):CD (2*(M*M)) (D.b9 i k):=by
 have ⟨d,K,j,l,q,J⟩:=h;obtain ⟨p,A,B,o⟩:=q i s (k+1) (by omega);have W:p≠0:=by rintro rfl;apply O;rw[o];grind
 have hd:=Ic K;have P:=Ic W;have L:0<=M*M:=YB (by omega) (by omega);have key:∀(n:Int) (r:Rat),-(2*(M*M))<=n->n<=2*(M*M)->r=(n:Rat) / ((d*p:Int):Rat)->Num (2*(M*M)) (d*p) r:=fun n r a b c=>⟨n,a,b,c⟩;have I:∀c,c<=D.w->Num (M*M) (d*p) (D.fresh i k c):=by
  intro c e;unfold Dic.fresh;split
  .have:=lO j l j l;refine ⟨d*d,this.1,this.2,?_⟩;rw[o,X8,X8];grind
  .have ⟨z,t,v,H⟩:=q i s c e;have:=lO t v j l;refine ⟨-(z*d),by omega,by omega,?_⟩;rw[o,H,aaG,X8,X8];grind
 have C:∀f:Nat->Rat,(∀c,c<=D.w->Num M d (f c))->∀c,c<=D.w->Num (2*(M*M)) (d*p) (D.di i k f c):=by
  intro f X c e;obtain ⟨y,E,F,G⟩:=X (k+1) (by omega);unfold Dic.di;by_cases g:c=k+1
  .have:=lO E F j l;refine ⟨y*d,by omega,by omega,?_⟩;unfold Dic.fresh;rw[W0 g,W0 g,o,G,X8,X8];grind
  .have ⟨x,S,T,U⟩:=X c e;have ⟨z,t,v,H⟩:=q i s c e;have V:=lO S T A B;have a2:=lO E F t v;refine ⟨x*p - y*z,by omega,by omega,?_⟩;unfold Dic.fresh;rw[WX g,WX g,o,G,U,H,Rat.intCast_sub,X8,X8,X8];grind
 have N:=lO j l A B;refine ⟨d*p,aah K W,by omega,by omega,fun r R c e=>?_,fun c e=>?_⟩
 .show Num _ _ (if r=i then D.fresh i k c else D.di i k (D.a r) c);split
  .exact (I c e).mono (by omega)
  .exact C _ (q r R) c e
 .exact C _ J c e
def Dic.Var (D:Dic) (v:Int):Prop:=(∃i,i < D.m/\D.bu i=v)\/∃k,k < D.w/\D.out k=v
def uh {D:Dic} {i k:Nat} (z:i < D.m) (a:k < D.w) (v:Int):(D.b9 i k).Var v↔D.Var v:=by
 constructor
 .rintro (⟨r,x,h⟩ | ⟨q,x,h⟩)
  .simp only[Dic.b9,dQ] at x h;split at h
   .exact .inr ⟨k,a,h⟩
   .exact .inl ⟨r,x,h⟩
  .simp only[Dic.b9,dQ] at x h;split at h
   .exact .inl ⟨i,z,h⟩
   .exact .inr ⟨q,x,h⟩
 .rintro (⟨r,x,h⟩ | ⟨q,x,h⟩)
  .by_cases y:r=i
   .subst y;exact .inr ⟨k,a,by simp[Dic.b9,dQ,h]⟩
   .exact .inl ⟨r,x,by simp[Dic.b9,dQ,y,h]⟩
  .by_cases y:q=k
   .subst y;exact .inl ⟨i,z,by simp[Dic.b9,dQ,h]⟩
   .exact .inr ⟨q,x,by simp[Dic.b9,dQ,y,h]⟩
structure Und (D0 D:Dic):Prop where
 var:∀v,D.Var v->D0.Var v
 w:D.w=D0.w
 bU:D.Dis
 nm:∀x,D0.Sol x->D.Sol x
 gv:∀x,D0.Sol x->D.rv D.g x=D0.rv D0.g x
 ind:∀y:Nat->Rat,∃x,D0.Sol x/\∀k,k < D.w->x (D.out k)=y k
def Dic.de (D:Dic) (y:Nat->Rat):Asg:=fun v=>match (aC D.w).find? (fun k=>D.out k=v) with
 | some k=>y k
 | none=>0
def ML {D:Dic} (h:D.Dis) {y:Nat->Rat} {k:Nat} (b:k < D.w):D.de y (D.out k)=y k:=by
 unfold Dic.de;cases x:(aC D.w).find? (fun j=>D.out j=D.out k) with
 | none =>
  have:=List.find?_eq_none.1 x k (by simpa using b);simp at this
 | some j =>
  have z:=abA x;have a:=aaF x;simp at z a;rw[h.oo j k a b z]
def Und.refl (h:D.Dis):Und D D:=⟨fun _ h=>h,rfl,h,fun _ h=>h,fun _ _=>rfl,fun y=>⟨D.ext (D.de y),kr h _,fun k x=>by rw[oC h x,ML h x]⟩⟩
def Und.b9 (h:Und t D) (b:i < D.m) (z:k < D.w) (o:D.a i (k+1)≠0):Und t (D.b9 i k):=by
 refine ⟨fun v hv=>h.var v ((uh b z v).1 hv),h.w,h.bU.b9 b z,fun x l=>(tW b z o).2 (h.nm x l),fun x l=>z9 b z o (h.nm x l) ▸ h.gv x l,fun y=>?_⟩;obtain ⟨s,W⟩:∃s,s=bR D.w (fun c=>if c=k then 0 else D.a i (c+1)*y c):=⟨_,rfl⟩;have ⟨x,p,r⟩:=h.ind fun c=>if c=k then (y k - D.a i 0 - s) / D.a i (k+1) else y c;refine ⟨x,p,fun c K=>?_⟩;show x (dQ D.out k (D.bu i) c)=y c;unfold dQ;split
 .rename_i n;subst n;rw[h.nm x p i b];have e:D.rv (D.a i) x=D.a i 0+(s+D.a i (c+1)*((y c - D.a i 0 - s) / D.a i (c+1))):=by
   unfold Dic.rv;rw[cH (g:=fun q=>if q=c then D.a i (c+1)*((y c - D.a i 0 - s) / D.a i (c+1)) else D.a i (q+1)*y q) (fun q X=>by
    rw[r q X];by_cases j:q=c
    .rw[j];simp
    .simp[j]),rR z];have H:s=bR D.w (fun q=>D.a i (q+1)*y q) - D.a i (c+1)*y c:=by rw[W,rR (f:=fun q=>D.a i (q+1)*y q) z];grind
   rw[H]
  rw[e];grind
 .rename_i n;rw[r c K,WX n]
def Und.OR (h:Und z D) (P:z.Dis) (R:CD M z) (A:1<=M):∀t,t<=D.w ->
  ∃E:Dic,E.Dis/\E.w=D.w/\(∀v,E.Var v↔z.Var v)/\(∀x,E.Sol x↔z.Sol x)/\(∀x,z.Sol x->E.rv E.g x=z.rv z.g x)/\CD (grow M t) E/\∀k,k < t->∃q,q < D.w/\E.out q=D.out k
 | 0,_=>⟨z,P,h.w.symm,fun _=>abe,fun _=>abe,fun _ _=>rfl,R,fun k H=>by omega⟩
 | t+1,ht=>by
  obtain ⟨E,J,p,X,j,L,N,O⟩:=Und.OR h P R A t (by omega);have F:=rq A t;by_cases n:∃q,q < D.w/\E.out q=D.out t
  .refine ⟨E,J,p,X,j,L,N.mono (CB A t),fun k H=>?_⟩;by_cases e:k=t
   .subst e;exact n
   .exact O k (by omega)
  .have o:=fun q y s=>n ⟨q,p ▸ y,s⟩;have:∃i,i < E.m/\E.bu i=D.out t/\∃q,q < E.w/\E.a i (q+1)≠0/\∀k,k < t->E.out q≠D.out k:=by
    apply Zh;intro a0;have dep:∀x,E.Sol x->(∀k,k < t->x (D.out k)=0)->(∃i,i < E.m/\E.bu i=D.out t)->∃c:Rat,∀x,E.Sol x->(∀k,k < t->x (D.out k)=0)->x (D.out t)=c:=by
     rintro _ _ _ ⟨i,b,l⟩;refine ⟨E.a i 0,fun x K hz=>?_⟩;rw[<-l,K i b];unfold Dic.rv;rw[jg fun q y=>?_]
     .grind
     .grind
    have ⟨S,U,V⟩:=h.ind fun _=>0;have l:∃i,i < E.m/\E.bu i=D.out t:=by
     rcases (X _).2 (h.var _ (.inr ⟨t,by omega,rfl⟩)) with W | ⟨q,W,h2⟩
     .exact W
     .exact absurd h2 (o q W)
    obtain ⟨c,C⟩:=dep S ((j S).2 U) (fun k H=>V k (by omega)) l;have ⟨T,b1,I⟩:=h.ind fun k=>if k=t then c+1 else 0;have f:=C T ((j T).2 b1) (fun k H=>by rw[I k (by omega),WX (by omega)]);rw[I t (by omega),W0 rfl] at f
    grind
   have ⟨i,b,l,q,y,B,hn⟩:=this;refine ⟨E.b9 i q,J.b9 b y,p,fun v=>(uh b y v).trans (X v),fun x=>(tW b y B).trans (j x),fun x K=>z9 b y B ((j x).2 K) ▸ L x K,N.b9 F b y B,fun k H=>?_⟩;by_cases e:k=t
   .subst e;exact ⟨q,p ▸ y,by show dQ E.out q (E.bu i) q=_;simp[dQ,l]⟩
   .obtain ⟨r,hr,s⟩:=O k (by omega);refine ⟨r,hr,?_⟩;show dQ E.out q (E.bu i) r=_;unfold dQ;rw[WX (fun G=>hn k (by omega) (by rw[<-G];exact s))];exact s
def Und.bound (h:Und F D) (h0:F.Dis) (L:CD M F) (hM:1<=M):∃E:Int,E≠0 /\ -grow M D.w<=E/\E<=grow M D.w/\(∀i,i < D.m->∀c,c<=D.w->Num (grow M D.w) E (D.a i c))/\∀c,c<=D.w->Num (grow M D.w) E (D.g c):=by
 have ⟨E,G,A,ev,I,T,⟨d,d0,d1,d2,R,S⟩,U⟩:=h.OR h0 L hM D.w (WY _);have hg:=rq hM D.w;have zero:Num (grow M D.w) d 0:=⟨0,by omega,by omega,by grind⟩;obtain ⟨X,J⟩:∃X:Asg->Asg,X=E.ext:=⟨_,rfl⟩;have b:∀y,F.Sol (X y):=fun y=>(I _).1 (by rw[J];exact kr G y);have C:∀y q,q < E.w->X y (E.out q)=y (E.out q):=fun y q z=>by rw[J];exact oC G z
 have P:∀y k,k < D.w->X y (D.out k)=y (D.out k):=fun y k l=>by have ⟨q,z,e⟩:=U k l;rw[<-e];exact C y q (by rw[A];exact z)
 obtain ⟨one,x⟩:∃one:Nat->Asg,one=fun k v=>if v=D.out k then 1 else 0:=⟨_,rfl⟩;have W:∀f:Nat->Rat,D.rv f (X eK)=f 0:=fun f=>by unfold Dic.rv;rw[jg (fun q z=>by rw[P _ q z];show _*(0:Rat)=0;grind)];grind
 have p:∀(f:Nat->Rat) k,k < D.w->D.rv f (X (one k))=f 0+f (k+1):=fun f k l=>by unfold Dic.rv;rw[lx (k:=k) l (fun q z n=>by rw[P _ q z,x];show _*(if D.out q=D.out k then (1:Rat) else 0)=0;rw[WX (fun e=>n (h.bU.oo _ _ z l e))];grind),P _ k l,x];show _+_*(if D.out k=D.out k then (1:Rat) else 0)=_;rw[W0 rfl];grind
 have ez:∀f:Nat->Rat,E.rv f (X eK)=f 0:=fun f=>by unfold Dic.rv;rw[jg (fun q z=>by rw[C _ q z];show _*(0:Rat)=0;grind)];grind
 have V:∀(f:Nat->Rat) k,k < D.w->∃q,q < D.w/\E.rv f (X (one k))=f 0+f (q+1):=fun f k l=>by have ⟨q,z,e⟩:=U k l;refine ⟨q,z,?_⟩;unfold Dic.rv;rw[lx (k:=q) (by rw[A];exact z) (fun r hr n=>by rw[C _ r hr,x];show _*(if E.out r=D.out k then (1:Rat) else 0)=0;rw[WX (fun N=>n (G.oo _ _ hr (by rw[A];exact z) (by rw[N,e])))];grind),C _ q (by rw[A];exact z),x];show _+_*(if E.out q=D.out k then (1:Rat) else 0)=_;rw[W0 e];grind
 refine ⟨d,d0,d1,d2,fun i B c L=>?_,fun c L=>?_⟩
 .have t:=h.nm _ (b eK) i B;rw[W] at t;by_cases hb:∃j,j < E.m/\E.bu j=D.bu i
  .have ⟨j,H,K⟩:=hb;have O:=(I _).2 (b eK) j H;rw[ez,K,t] at O;cases c with
   | zero=>rw[O];exact R j H 0 (by omega)
   | succ k =>
    have s:=h.nm _ (b (one k)) i B;have t1:=(I _).2 (b (one k)) j H;obtain ⟨q,z,o⟩:=V (E.a j) k (by omega);rw[p _ k (by omega)] at s;rw[o,K,s,O] at t1;have:D.a i (k+1)=E.a j (q+1):=by grind
    rw[this];exact R j H (q+1) (by omega)
  .have nb:∀j,j < E.m->E.bu j≠D.bu i:=fun j H e=>hb ⟨j,H,e⟩;have ex:∀y,X y (D.bu i)=y (D.bu i):=fun y=>by rw[J];exact jM nb
   rw[ex] at t;cases c with
   | zero=>rw[<-t];exact zero
   | succ k =>
    have s:=h.nm _ (b (one k)) i B;rw[p _ k (by omega),ex,x] at s;simp only[WX (h.bU.bo i k B (by omega))] at s;have:D.a i (k+1)=0:=by
     have:eK (D.bu i)=0:=rfl
     grind
    rw[this];exact zero
 .have t:=(h.gv _ (b eK)).trans (T _ (b eK)).symm;rw[W,ez] at t;cases c with
  | zero=>rw[t];exact S 0 (by omega)
  | succ k =>
   have s:=(h.gv _ (b (one k))).trans (T _ (b (one k))).symm;obtain ⟨q,z,o⟩:=V E.g k (by omega);rw[p _ k (by omega),o] at s;have:D.g (k+1)=E.g (q+1):=by grind
   rw[this];exact S (q+1) (by omega)
def Dy (S:Nat->Prop):Prop:=∀N,∃j,N<=j/\S j
def CO {c:Nat->Int} {lo:Int}:∀(V:Nat) {S:Nat->Prop},Dy S->(∀j,S j->lo<=c j/\c j < lo+V)->∃v,Dy fun j=>S j/\c j=v
 | 0,S,h,z=>by have ⟨j,_,k⟩:=h 0;have:=z j k;omega
 | V+1,S,h,z=>by
  by_cases hv:Dy fun j=>S j/\c j=lo+V
  .exact ⟨_,hv⟩
  .have ⟨N,a⟩:=Classical.not_forall.1 hv;have ⟨v,hv⟩:=CO (c:=c) (lo:=lo) V (S:=fun j=>S j/\N<=j) (fun M=>by
    have ⟨j,y,x⟩:=h (M+N);exact ⟨j,by omega,x,by omega⟩) (fun j k=>by
    have y:=z j k.1;have x:c j≠lo+V:=fun b=>a ⟨j,k.2,k.1,b⟩;show lo<=c j/\c j < lo+(V:Int);omega);exact ⟨v,fun M=>by obtain ⟨j,y,x,w⟩:=hv M;exact ⟨j,y,x.1,w⟩⟩
def Jr {b:Nat->Nat->Int} {lo:Int} {V:Nat} (m:Nat) (k:∀j r,r < m->lo<=b j r/\b j r < lo+V):∃S:Nat->Prop,Dy S/\∃f:Nat->Int,∀j,S j->∀r,r < m->b j r=f r:=by
 induction m with
 | zero=>exact ⟨fun _=>True,fun N=>⟨N,WY _,trivial⟩,fun _=>0,fun j _ r k=>by omega⟩
 | succ m a =>
  obtain ⟨S,z,f,w⟩:=a fun j r x=>k j r (by omega);obtain ⟨v,hv⟩:=CO (c:=fun j=>b j m) V z fun j _=>k j m (by omega);refine ⟨_,hv,fun r=>if r=m then v else f r,fun j y r x=>?_⟩;show b j r=if r=m then v else f r;by_cases h:r=m
  .rw[W0 h,h];exact y.2
  .rw[WX h];exact w j y.1 r (by omega)
def iP.tail (h:iP sd D i k (a+L)):iP sd (fun j=>D (a+j)) (fun j=>i (a+j)) (fun j=>k (a+j)) L :=
 ⟨fun j x=>h.step (a+j) (by omega),fun j x=>h.next (a+j) (by omega),h.Ec a (by omega),h.HB a (by omega)⟩
def HN {sd:Int->Prop} {D:Nat->Dic} {i k:Nat->Nat} {lo:Int} {V:Nat} (h:∀L,iP sd D i k L) (hv:∀v,(D 0).Var v->lo<=v/\v < lo+V):False:=by
 have var:∀j v,(D j).Var v->(D 0).Var v:=by
  intro j
  induction j with
  | zero=>exact fun v h=>h
  | succ j s =>
   intro v y;have g:=(h (j+1)).step j (by omega);rw[(h (j+1)).next j (by omega)] at y;exact s v ((uh g.hi g.hk v).1 y)
 have w:=fun j=>((h j).Eb j (WY _)).1;obtain ⟨S,c,f,e⟩:=Jr (b:=fun j r=>(D j).bu r) (lo:=lo) (V:=V) (D 0).m fun j r z=>hv _ (var j _ (.inl ⟨r,by rw[w];exact z,rfl⟩));have ⟨a,_,o⟩:=c 0;have ⟨b,p,q⟩:=c (a+1);refine ((h (a+(b - a))).tail).no (by omega) fun r z=>?_;show (D (a+(b - a))).bu r=(D (a+0)).bu r;have x:r < (D 0).m:=w (a+0) ▸ z;rw[show a+(b - a)=b by omega,aaI];have l:=e a o r x;have n:=e b q r x;exact n.trans l.symm
inductive DL {α:Type} (next:α->Option α):Nat->α->α->Prop
 | stop {a:α}:next a=none->DL next 0 a a
 | go {n:Nat} {a b c:α}:next a=some b->DL next n b c->DL next (n+1) a c
def LF {α:Type} {next:α->Option α} {dic:α->Dic} {sd:Int->Prop} {lo:Int} {V:Nat} (Inv:α->Prop) (step:∀a b,Inv a->next a=ak b->Inv b/\∃i k,lC sd (dic a) i k/\dic b=(dic a).b9 i k)
  {a:α} (H:Inv a) (l:(dic a).Dis) (K:(dic a).jk sd) (hv:∀v,(dic a).Var v->lo<=v/\v < lo+V):∃n b,DL next n a b:=by
 apply Zh;intro f;obtain ⟨s,m⟩:∃s:Nat->α,s=fun j=>Nat.rec a (fun _ x=>(next x).getD x) j:=⟨_,rfl⟩;have z:s 0=a:=by subst m;rfl
 have q:∀j,s (j+1)=(next (s j)).getD (s j):=fun j=>by subst m;rfl
 have all:∀j,next (s j)≠an:=by
  intro j X;have back:∀d,d<=j->∃n b,DL next n (s (j - d)) b:=by
   intro d
   induction d with
   | zero=>intro _;exact ⟨0,_,.stop X⟩
   | succ d g =>
    intro l;obtain ⟨n,b,y⟩:=g (by omega);cases h:next (s (j - (d+1))) with
    | none=>exact ⟨0,_,.stop h⟩
    | some c =>
     have e:=q (j - (d+1));rw[h,XT,show j - (d+1)+1=j - d by omega] at e;rw[e] at y;exact ⟨_,_,.go h y⟩
  have ⟨n,b,y⟩:=back j (WY _);rw[abW,z] at y;exact f ⟨n,b,y⟩
 have o:∀j,next (s j)=ak (s (j+1)):=fun j=>by
  cases h:next (s j) with
  | none=>exact absurd h (all j)
  | some c=>rw[q j,h];rfl
 have inv:∀j,Inv (s j):=by
  intro j
  induction j with
  | zero=>rw[z];exact H
  | succ j g=>exact (step _ _ g (o j)).1
 have w:∀j,∃p:Nat × Nat,lC sd (dic (s j)) p.1 p.2/\dic (s (j+1))=(dic (s j)).b9 p.1 p.2:=fun j=>by have ⟨i,k,r,t⟩:=(step _ _ (inv j) (o j)).2;exact ⟨(i,k),r,t⟩
 exact HN (sd:=sd) (D:=fun j=>dic (s j)) (i:=fun j=>(Classical.choose (w j)).1) (k:=fun j=>(Classical.choose (w j)).2) (lo:=lo) (V:=V)
  (fun L=>⟨fun j _=>(abJ (w j)).1,fun j _=>(abJ (w j)).2,z ▸ l,z ▸ K⟩) (z ▸ hv)
structure Fit (D0 D:Dic) (eq:Int->Prop):Prop where
 eM:Und D0 D
 back:∀x,D.Sol x->(∀v,eq v->x v=0)->D0.Sol x
section
variable {D0 D:Dic} {eq sd free:Int->Prop} {i k:Nat}
def Fit.refl (h:D.Dis):Fit D D eq:=⟨.refl h,fun _ h _=>h⟩
def Fit.b9 (h:Fit D0 D eq) (y:i < D.m) (z:k < D.w) (b:D.a i (k+1)≠0):Fit D0 (D.b9 i k) eq :=
 ⟨h.eM.b9 y z b,fun x e c=>h.back x ((tW y z b).1 e) c⟩
def sk (i r:Nat):Nat:=if r < i then r else r+1
def Iq (i r:Nat):sk i r≠i:=by unfold sk;split<;>omega
def eJ (h:r < m - 1):sk i r < m:=by unfold sk;split<;>omega
def xS (h:sk i r=sk i s):r=s:=by unfold sk at h;split at h<;>split at h<;>omega
def JO (h:r < m) (z:i < m) (y:r≠i):∃q,q < m - 1/\sk i q=r:=by
 by_cases x:r < i
 .exact ⟨r,by omega,by unfold sk;rw[W0 x]⟩
 .exact ⟨r - 1,by omega,by unfold sk;rw[WX (by omega)];omega⟩
def Dic.del (D:Dic) (i:Nat):Dic:={D with m:=D.m - 1,bu:=fun r=>D.bu (sk i r),a:=fun r=>D.a (sk i r)}
def Fit.del (h:Fit D0 D eq) (s:i < D.m) (o:eq (D.bu i)) (p:D.a i 0=0) (t:∀k,k < D.w->D.a i (k+1)=0\/eq (D.out k)):Fit D0 (D.del i) eq:=by
 refine ⟨⟨fun v hv=>h.eM.var v ?_,h.eM.w,⟨fun a b g j z=>xS (h.eM.bU.bb _ _ (eJ g) (eJ j) z),h.eM.bU.oo,fun a b g j=>h.eM.bU.bo _ _ (eJ g) j⟩,fun x n r c=>h.eM.nm x n _ (eJ c),h.eM.gv,h.eM.ind⟩,fun x n z=>h.back x (fun r c=>?_) z⟩
 .rcases hv with ⟨r,c,e⟩ | y
  .exact .inl ⟨_,eJ c,e⟩
  .exact .inr y
 .by_cases f:r=i
  .subst f;rw[z _ o];unfold Dic.rv;rw[p,jg fun q l=>?_]
   .grind
   .rcases t q l with y | y
    .rw[y];grind
    .rw[z _ y];grind
  .obtain ⟨q,l,rfl⟩:=JO c s f;exact n q l
def Pts (D0:Dic) (eq sd:Int->Prop) (x:Asg):Prop:=D0.Sol x/\(∀v,eq v->x v=0)/\∀v,D0.Var v->sd v->0<=x v
def Fit.none (h:Fit D0 D eq) (e:i < D.m) (b:eq (D.bu i)) (c:D.a i 0≠0) (g:∀k,k < D.w->D.a i (k+1)=0\/eq (D.out k)):¬∃x,Pts D0 eq sd x:=by
 rintro ⟨x,y,z,_⟩;have:=h.eM.nm x y i e;rw[z _ b] at this;unfold Dic.rv at this;rw[jg fun q f=>?_] at this
 .apply c;grind
 .rcases g q f with y | y
  .rw[y];grind
  .rw[z _ y];grind
structure Pre (D0 D:Dic) (free eq sd:Int->Prop):Prop where
 fit:Fit D0 D eq
 nb:∀i,i < D.m->¬eq (D.bu i)
 CY:∀k,k < D.w->free (D.out k)\/eq (D.out k)\/sd (D.out k)
 fz:∀k,k < D.w->free (D.out k)->∀i,i < D.m->sd (D.bu i)->D.a i (k+1)=0
 fs:∀v,free v->¬sd v
 fe:∀v,free v->¬eq v
 es:∀v,eq v->¬sd v
def Pre.b9 (h:Pre D0 D free eq sd) (n:i < D.m) (o:k < D.w) (p:D.a i (k+1)≠0) (j:sd (D.bu i)) (t:sd (D.out k)):Pre D0 (D.b9 i k) free eq sd:=by
 refine ⟨h.fit.b9 n o p,fun r f=>?_,fun q b=>?_,fun q b c r f s=>?_,h.fs,h.fe,h.es⟩
 .show ¬eq (dQ D.bu i (D.out k) r);unfold dQ;split
  .exact fun x=>h.es _ x t
  .exact h.nb r f
 .show free (dQ D.out k (D.bu i) q)\/eq (dQ D.out k (D.bu i) q)\/sd (dQ D.out k (D.bu i) q);unfold dQ;split
  .exact .inr (.inr j)
  .exact h.CY q b
 .have e:q≠k:=by
   rintro rfl;have:(D.b9 i q).out q=D.bu i:=by simp[Dic.b9,dQ]
   rw[this] at c;exact h.fs _ c j
  have y:free (D.out q):=by simpa only[Dic.b9,dQ,WX e] using c
  have z:=h.fz q b y i n j;have l:D.fresh i k (q+1)=0:=by unfold Dic.fresh;rw[WX (by omega),z];grind
  show (if r=i then D.fresh i k (q+1) else D.di i k (D.a r) (q+1))=0;by_cases x:r=i
  .rw[W0 x];exact l
  .rw[WX x];have g:sd (D.bu r):=by simpa only[Dic.b9,dQ,WX x] using s
   unfold Dic.di;rw[WX (by omega),l,h.fz q b y r f g];grind
def Pre.loose (h:Pre D0 D free eq sd) (e:i < D.m) (j:k < D.w) (c:sd (D.bu i)) (f:∀q,q < D.w->free (D.out q)->D.g (q+1)=0):∀q,q < D.w->free ((D.b9 i k).out q)->(D.b9 i k).g (q+1)=0:=by
 intro q b y;have a:q≠k:=by
  rintro rfl;have:(D.b9 i q).out q=D.bu i:=by simp[Dic.b9,dQ]
  rw[this] at y;exact h.fs _ y c
 have x:free (D.out q):=by simpa only[Dic.b9,dQ,WX a] using y
 have z:=h.fz q b x i e c;show D.di i k D.g (q+1)=0;unfold Dic.di Dic.fresh;rw[WX (by omega),WX (by omega),z,f q b x];grind
def Dic.at (D:Dic) (k:Nat) (t:Rat):Asg:=D.ext fun v=>if v=D.out k then t else 0
def Of (x:D.Dis) (y:k < D.w) (b:i < D.m):D.at k t (D.bu i)=D.a i 0+t*D.a i (k+1):=by unfold Dic.at;rw[qI x b];unfold Dic.rv;rw[lx (k:=k) y (fun q c h=>by simp only[];rw[WX (fun z=>h (x.oo _ _ c y z))];grind)];simp only[Yj];grind
def Og (h:D.Dis) (x:q < D.w):D.at k t (D.out q)=if D.out q=D.out k then t else 0:=oC h x
def Pu (x:D.Dis) (y:k < D.w):D.rv f (D.at k t)=f 0+t*f (k+1):=by unfold Dic.at;rw[Bu x];unfold Dic.rv;rw[lx (k:=k) y (fun q a h=>by simp only[];rw[WX (fun z=>h (x.oo _ _ a y z))];grind)];simp only[Yj];grind
def Pre.at (h:Pre D0 D free eq sd) (n:D.jk sd) (j:k < D.w) {t:Rat} (q:∀i,i < D.m->sd (D.bu i)->0<=t*D.a i (k+1)) (l:¬eq (D.out k)) (p:sd (D.out k)->0<=t):Pts D0 eq sd (D.at k t)/\D0.rv D0.g (D.at k t)=D.g 0+t*D.g (k+1):=by
 have c:=h.fit.eM.bU;have key:∀v,(∀i,i < D.m->D.bu i≠v)->D.at k t v=if v=D.out k then t else 0:=fun v hv=>by unfold Dic.at;rw[jM hv]
 have f:∀v,eq v->D.at k t v=0:=fun v hv=>by rw[key v (fun i y z=>h.nb i y (z ▸ hv))];exact WX (fun (o:v=D.out k)=>l (o ▸ hv))
 have x:D0.Sol (D.at k t):=h.fit.back _ (kr c _) f;refine ⟨⟨x,f,fun v _ e=>?_⟩,by rw[<-h.fit.eM.gv _ x,Pu c j]⟩;by_cases z:∃i,i < D.m/\D.bu i=v
 .obtain ⟨i,y,rfl⟩:=z;rw[Of c j y];have:=n i y e;have:=q i y e
  grind
 .rw[key v (fun i y b=>z ⟨i,y,b⟩)];split
  .rename_i hv;subst hv;exact p e
  .exact aao
def Pre.pd (h:Pre D0 D free eq sd) (c:D.jk sd):Pts D0 eq sd (D.ext eK)/\D0.rv D0.g (D.ext eK)=D.g 0:=by
 have a:=h.fit.eM.bU;have key:∀v,(∀i,i < D.m->D.bu i≠v)->D.ext eK v=0:=fun v hv=>jM hv;have b:=fun v hv=>key v (fun i y z=>h.nb i y (z ▸ hv));have x:=h.fit.back _ (kr a _) b;refine ⟨⟨x,b,fun v _ e=>?_⟩,by rw[<-h.fit.eM.gv _ x,Bu a,lU (fun _ _=>rfl)]⟩;by_cases z:∃i,i < D.m/\D.bu i=v
 .obtain ⟨i,y,rfl⟩:=z;rw[qI a y,lU (fun _ _=>rfl)];exact c i y e
 .rw[key v (fun i y w=>z ⟨i,y,w⟩)];exact aao
def wL (x:s < 0) (B:Rat):∃t:Rat,0<=t/\c+t*s < B:=by
 by_cases h:c < B
 .exact ⟨0,aao,by grind⟩
 .refine ⟨(c - B+1) / (-s),tZ (by grind) (by grind),?_⟩;have:(c - B+1) / (-s)*s = -(c - B+1):=by grind
  rw[this];grind
def Pre.qH (h:Pre D0 D free eq sd) (l:D.jk sd) (j:k < D.w) (y:free (D.out k)) (q:D.g (k+1)≠0) (B:Rat):∃x,Pts D0 eq sd x/\D0.rv D0.g x < B:=by
 have z:∀(t:Rat) i,i < D.m->sd (D.bu i)->0<=t*D.a i (k+1):=fun t i o b=>by rw[h.fz k j y i o b];grind
 by_cases p:D.g (k+1) < 0
 .have ⟨t,_,n⟩:=wL (c:=D.g 0) p B;have ⟨e,f⟩:=h.at l j (z t) (h.fe _ y) (fun b=>absurd b (h.fs _ y));exact ⟨_,e,f ▸ n⟩
 .have ⟨t,_,n⟩:=wL (c:=D.g 0) (s := -(D.g (k+1))) (by grind) B;have ⟨e,f⟩:=h.at l j (z (-t)) (h.fe _ y) (fun b=>absurd b (h.fs _ y));exact ⟨_,e,by rw[f];grind⟩
def Pre.nS (h:Pre D0 D free eq sd) (j:D.jk sd) (o:k < D.w) (p:sd (D.out k)) (l:D.g (k+1) < 0) (e:∀i,i < D.m->sd (D.bu i)->0<=D.a i (k+1)) (B:Rat):∃x,Pts D0 eq sd x/\D0.rv D0.g x < B:=by have ⟨t,y,q⟩:=wL (c:=D.g 0) l B;have ⟨z,b⟩:=h.at j o (fun i n r=>aaw y (e i n r)) (fun f=>h.es _ f p) (fun _=>y);exact ⟨_,z,b ▸ q⟩
def Pre.least (h:Pre D0 D free eq sd) (f:∀k,k < D.w->free (D.out k)->D.g (k+1)=0) (e:∀k,k < D.w->sd (D.out k)->0<=D.g (k+1)) (m:Pts D0 eq sd x):D.g 0<=D0.rv D0.g x:=by
 have ⟨a,b,c⟩:=m;rw[<-h.fit.eM.gv x a];unfold Dic.rv;have:¬bR D.w (fun k=>D.g (k+1)*x (D.out k)) < 0:=fun l=>by
  have ⟨k,z,j⟩:=Ff l;have:0<=D.g (k+1)*x (D.out k):=by
   rcases h.CY k z with y | y | y
   .rw[f k z y];grind
   .rw[b _ y];grind
   .exact aaw (e k z y) (c _ (h.fit.eM.var _ (.inr ⟨k,z,rfl⟩)) y)
  grind
 grind
end
end Go.Fx
namespace Go.Fx
def JW {w k:Nat} {f:Nat->Rat} (a:k < w):bR w f=bR (w - 1) (fun q=>f (sk k q))+f k:=by
 induction w with
 | zero=>omega
 | succ w z =>
  rw[aaK];by_cases h:k=w
  .subst h;simp only[bR];rw[cH (g:=fun q=>f (sk k q)) (fun q y=>by unfold sk;rw[W0 y])]
  .obtain ⟨v,rfl⟩:∃v,w=v+1:=⟨w - 1,by omega⟩;have:=z (by omega);rw[aaK] at this;rw[show bR (v+1+1) f=bR (v+1) f+f (v+1) from rfl,this];show _=bR v (fun q=>f (sk k q))+f (sk k v)+f k;have:sk k v=v+1:=by unfold sk;rw[WX (by omega)]
   rw[this];grind
def oP {D:Dic} {f:Nat->Rat} {x y:Asg} (h:∀k,k < D.w->x (D.out k)=y (D.out k)):D.rv f x=D.rv f y:=by unfold Dic.rv;rw[cH fun k z=>by rw[h k z]]
def sS {D:Dic} {x y:Asg} (h:∀v,D.Var v->x v=y v) (a:D.Sol x):D.Sol y:=fun i z=>by rw[<-h _ (.inl ⟨i,z,rfl⟩),a i z,oP fun k w=>h _ (.inr ⟨k,w,rfl⟩)]
section
open Classical
noncomputable def Dic.more (D:Dic) (s:Int->Prop) (e:Int):Dic where
 m:=D.m+1
 w:=D.w+1
 bu:=fun i=>if i < D.m then D.bu i else if i=D.m then -1 else 0
 out:=fun k=>if k < D.w then D.out k else if k=D.w then e else 0
 a:=fun i c=>if c=D.w+1 then (if i < D.m/\s (D.bu i) then 1 else 0) else if i=D.m then D.g c else D.a i c
 g:=fun c=>if c=D.w+1 then 1 else 0
noncomputable def v9 (s:Int->Prop) (e:Int) (x:Asg):Asg:=fun v=>if s v then x v - x e else x v
def Dic.cO (D:Dic) (i k:Nat):Dic where
 m:=D.m - 1
 w:=D.w - 1
 bu:=fun r=>D.bu (sk i r)
 out:=fun q=>D.out (sk k q)
 a:=fun r c=>D.a (sk i r) (sk (k+1) c)
 g:=fun c=>D.a i (sk (k+1) c)
variable {D0 D:Dic} {eq sd free s:Int->Prop} {i k:Nat} {e:Int} {x:Asg}
def B4:(D.more s e).rv f x=D.rv f x+f (D.w+1)*x e:=by
 unfold Dic.rv;show f 0+(bR D.w (fun k=>f (k+1)*x ((D.more s e).out k))+f (D.w+1)*x ((D.more s e).out D.w))=_;have h:(D.more s e).out D.w=e:=by simp[Dic.more]
 rw[h,cH (g:=fun k=>f (k+1)*x (D.out k)) fun k y=>by simp[Dic.more,y]]
 grind
def pE:(D.more s e).rv (D.more s e).g x=x e:=by
 rw[B4];unfold Dic.rv;have h:∀c,c<=D.w->(D.more s e).g c=0:=fun c z=>by simp[Dic.more];omega
 have y:(D.more s e).g (D.w+1)=1:=by simp[Dic.more]
 rw[h 0 (by omega),y,jg fun q a=>by rw[h (q+1) (by omega)];grind];grind
def EC (z:i < D.m):(D.more s e).rv ((D.more s e).a i) x=D.rv (D.a i) x+if s (D.bu i) then x e else 0:=by
 rw[B4];have h:∀c,c<=D.w->(D.more s e).a i c=D.a i c:=fun c b=>by show (if c=D.w+1 then _ else _)=_;rw[WX (by omega),WX (by omega)]
 have y:(D.more s e).a i (D.w+1)=if s (D.bu i) then 1 else 0:=by simp[Dic.more,z]
 rw[y];have:D.rv ((D.more s e).a i) x=D.rv (D.a i) x:=by unfold Dic.rv;rw[h 0 (by omega),cH fun q f=>by rw[h (q+1) (by omega)]]
 rw[this];split<;>grind
def CM:(D.more s e).rv ((D.more s e).a D.m) x=D.rv D.g x:=by
 rw[B4];have h:∀c,c<=D.w->(D.more s e).a D.m c=D.g c:=fun c z=>by show (if c=D.w+1 then _ else _)=_;rw[WX (by omega),W0 rfl]
 have y:(D.more s e).a D.m (D.w+1)=0:=by simp[Dic.more]
 rw[y];have:D.rv ((D.more s e).a D.m) x=D.rv D.g x:=by unfold Dic.rv;rw[h 0 (by omega),cH fun q b=>by rw[h (q+1) (by omega)]]
 rw[this];grind
def Bv (h:∀k,k < D.w->¬s (D.out k)):D.rv f (v9 s e x)=D.rv f x:=oP fun k y=>by unfold v9;rw[WX (h k y)]
def jS (z:∀k,k < D.w->¬s (D.out k)):(D.more s e).Sol x↔D.Sol (v9 s e x)/\x (-1)=D.rv D.g (v9 s e x):=by
 have c:∀i,i < D.m->(D.more s e).bu i=D.bu i:=fun i a=>by simp[Dic.more,a]
 have f:(D.more s e).bu D.m = -1:=by simp[Dic.more]
 constructor
 .intro h;refine ⟨fun i a=>?_,?_⟩
  .have:=h i (aaq a);rw[c i a,EC a] at this;rw[Bv z];unfold v9;split
   .rename_i b;rw[this,W0 b];grind
   .rename_i b;rw[this,WX b];grind
  .have:=h D.m (YD _);rw[f,CM] at this;rw[Bv z];exact this
 .rintro ⟨j,l⟩ i a;rcases Xe i D.m with y | y
  .have:=j i y;rw[Bv z] at this;rw[c i y,EC y];unfold v9 at this;split at this
   .rename_i b;rw[W0 b];grind
   .rename_i b;rw[WX b];grind
  .have:i=D.m:=by (have:i < D.m+1:=a);(omega)
   subst this;rw[f,CM,l,Bv z]
def lj (v:Int):(D.more s e).Var v↔D.Var v\/v=e\/v = -1:=by
 constructor
 .rintro (⟨i,a,h⟩ | ⟨k,b,h⟩)
  .rcases Xe i D.m with y | y
   .simp only[Dic.more,W0 y] at h;exact .inl (.inl ⟨i,y,h⟩)
   .have:i=D.m:=by (have:i < D.m+1:=a);(omega)
    subst this;simp[Dic.more] at h;exact .inr (.inr h.symm)
  .rcases Xe k D.w with z | z
   .simp only[Dic.more,W0 z] at h;exact .inl (.inr ⟨k,z,h⟩)
   .have:k=D.w:=by (have:k < D.w+1:=b);(omega)
    subst this;simp[Dic.more] at h;exact .inr (.inl h.symm)
 .rintro ((⟨i,a,h⟩ | ⟨k,b,h⟩) | h | h)
  .exact .inl ⟨i,aaq a,by simp[Dic.more,a,h]⟩
  .exact .inr ⟨k,aaq b,by simp[Dic.more,b,h]⟩
  .exact .inr ⟨D.w,YD _,by simp[Dic.more,h]⟩
  .exact .inl ⟨D.m,YD _,by simp[Dic.more,h]⟩
def EB (h:D.Dis) (n:¬D.Var e) (hm:¬D.Var (-1)) (zr:e ≠ -1):(D.more s e).Dis:=by
 have B:∀i,i < D.m+1->(i < D.m/\(D.more s e).bu i=D.bu i)\/(i=D.m/\(D.more s e).bu i = -1):=fun i o=>by
  rcases Xe i D.m with z | z
  .exact .inl ⟨z,by simp[Dic.more,z]⟩
  .have:i=D.m:=by omega
   exact .inr ⟨this,by simp[Dic.more,this]⟩
 have O:∀k,k < D.w+1->(k < D.w/\(D.more s e).out k=D.out k)\/(k=D.w/\(D.more s e).out k=e):=fun k p=>by
  rcases Xe k D.w with z | z
  .exact .inl ⟨z,by simp[Dic.more,z]⟩
  .have:k=D.w:=by omega
   exact .inr ⟨this,by simp[Dic.more,this]⟩
 refine ⟨fun a b j l y=>?_,fun a b j l y=>?_,fun a b j l y=>?_⟩
 .rcases B a j with ⟨z,f⟩ | ⟨z,f⟩<;>rcases B b l with ⟨c,g⟩ | ⟨c,g⟩<;>rw[f,g] at y
  .exact h.bb a b z c y
  .exact absurd (.inl ⟨a,z,y⟩) hm
  .exact absurd (.inl ⟨b,c,y.symm⟩) hm
  .omega
 .rcases O a j with ⟨z,f⟩ | ⟨z,f⟩<;>rcases O b l with ⟨c,g⟩ | ⟨c,g⟩<;>rw[f,g] at y
  .exact h.oo a b z c y
  .exact absurd (.inr ⟨a,z,y⟩) n
  .exact absurd (.inr ⟨b,c,y.symm⟩) n
  .omega
 .rcases B a j with ⟨z,f⟩ | ⟨z,f⟩<;>rcases O b l with ⟨c,g⟩ | ⟨c,g⟩<;>rw[f,g] at y
  .exact h.bo a b z c y
  .exact absurd (.inl ⟨a,z,y⟩) n
  .exact absurd (.inr ⟨b,c,y.symm⟩) hm
  .exact zr y.symm
def Nr {M:Int} (h:CD M D) (q:1<=M):CD M (D.more s e):=by
 have ⟨d,b,f,j,n,p⟩:=h;have r:=Ic b;have z:Num M d 0:=⟨0,by omega,by omega,by grind⟩;have o:Num M d 1:=⟨d,f,j,by grind⟩;refine ⟨d,b,f,j,fun i l c y=>?_,fun c y=>?_⟩
 .show Num M d (if c=D.w+1 then (if i < D.m/\s (D.bu i) then 1 else 0) else if i=D.m then D.g c else D.a i c);have y:c<=D.w+1:=y;have l:i < D.m+1:=l;split
  .split
   .exact o
   .exact z
  .grind
 .show Num M d (if c=D.w+1 then 1 else 0);split
  .exact o
  .exact z
structure uC (D0:Dic) (eq s:Int->Prop) (e:Int):Prop where
 he:¬D0.Var e
 hm:¬D0.Var (-1)
 zr:e ≠ -1
 ee:¬eq e
 em:¬eq (-1)
 s0:∀k,k < D0.w->¬s (D0.out k)
 se:∀v,s v->¬eq v
 sv:∀v,s v->D0.Var v
def Fit.more (h:Fit D0 D eq) (X:uC D0 eq s e) (p:∀v,s v->∃i,i < D.m/\D.bu i=v):Fit (D0.more s e) (D.more s e) eq:=by
 have c:∀k,k < D.w->¬s (D.out k):=fun k j o=>by have ⟨i,K,H⟩:=p _ o;exact h.eM.bU.bo i k K j H
 have B:∀v,D0.Var v->v≠e/\v ≠ -1:=fun v hv=>⟨fun he=>X.he (he ▸ hv),fun he=>X.hm (he ▸ hv)⟩;refine ⟨⟨fun v hv=>?_,by show D.w+1=D0.w+1;rw[h.eM.w],EB h.eM.bU (fun hv=>X.he (h.eM.var _ hv)) (fun hv=>X.hm (h.eM.var _ hv)) X.zr,fun x b=>?_,fun x b=>by rw[pE,pE],fun y=>?_⟩,fun x b he=>?_⟩
 .rcases (lj v).1 hv with a | a
  .exact (lj v).2 (.inl (h.eM.var v a))
  .exact (lj v).2 (.inr a)
 .have ⟨a,l⟩:=(jS X.s0).1 b;exact (jS c).2 ⟨h.eM.nm _ a,by rw[l,h.eM.gv _ a]⟩
 .have ⟨f,a,l⟩:=h.eM.ind y;obtain ⟨x,b⟩:∃x:Asg,x=fun v=>if v=e then y D.w else if v = -1 then D0.rv D0.g f else if s v then f v+y D.w else f v:=⟨_,rfl⟩;have t:x e=y D.w:=by rw[b];simp
  have q:∀v,D0.Var v->v9 s e x v=f v:=fun v hv=>by
   have ⟨W,A⟩:=B v hv;have:x v=if s v then f v+y D.w else f v:=by rw[b];simp[W,A]
   unfold v9;rw[this,t];split
   .grind
   .rfl
  have C:x (-1)=D0.rv D0.g f:=by rw[b];simp only[];rw[WX (Xg X.zr),W0 trivial]
  refine ⟨x,(jS X.s0).2 ⟨sS (fun v hv=>(q v hv).symm) a,by rw[C,oP fun k j=>(q _ (.inr ⟨k,j,rfl⟩)).symm]⟩,fun k j=>?_⟩;have j:k < D.w+1:=j;rcases Xe k D.w with z | z
  .have n:(D.more s e).out k=D.out k:=by simp[Dic.more,z]
   have hv:=h.eM.var _ (.inr ⟨k,z,rfl⟩);have:=q _ hv;unfold v9 at this;rw[WX (c k z)] at this;rw[n,this,l k z]
  .have:k=D.w:=by omega
   subst this;have n:(D.more s e).out D.w=e:=by simp[Dic.more]
   rw[n,t]
 .have ⟨a,l⟩:=(jS c).1 b;have r:=h.back _ a (fun v hv=>by unfold v9;rw[WX (fun o=>X.se v o hv)];exact he v hv);exact (jS X.s0).2 ⟨r,by rw[l,h.eM.gv _ r]⟩
def JN (z:k < D.w):D.rv f x=(D.cO i k).rv (fun c=>f (sk (k+1) c)) x+f (k+1)*x (D.out k):=by
 unfold Dic.rv;have h:sk (k+1) 0=0:=by unfold sk;rw[W0 (by omega)]
 have y:∀q,sk (k+1) (q+1)=sk k q+1:=fun q=>by unfold sk;split<;>split<;>omega
 rw[JW z];simp only[h,y];show _=f 0+bR (D.w - 1) (fun q=>f (sk k q+1)*x (D.out (sk k q)))+_
 grind
def vC (h:x e=0):v9 s e x=x:=by funext v;unfold v9;rw[h];split<;>grind
def Fit.cO (h:Fit (D0.more s e) D eq) (X:uC D0 eq s e) (L:i < D.m) (C:k < D.w) (p:D.bu i = -1) (M:D.out k=e):Fit D0 (D.cO i k) eq:=by
 have K:=h.eM.bU;have N:∀v,D0.Var v->v≠e/\v ≠ -1:=fun v hv=>⟨fun he=>X.he (he ▸ hv),fun he=>X.hm (he ▸ hv)⟩;have S:∀q,q < D.w - 1->D.out (sk k q)≠e/\D.out (sk k q) ≠ -1:=fun q j=>⟨fun he=>Iq k q (K.oo _ _ (eJ j) C (by rw[he,M])),fun he=>K.bo i _ L (eJ j) (by rw[he,p])⟩;have E:∀r,r < D.m - 1->D.bu (sk i r)≠e/\D.bu (sk i r) ≠ -1:=fun r o=>⟨fun he=>K.bo _ k (eJ o) C (by rw[he,M]),fun he=>Iq i r (K.bb _ _ (eJ o) L (by rw[he,p]))⟩;have hw:D.w=D0.w+1:=h.eM.w;have var:∀v,(D.cO i k).Var v->D.Var v/\v≠e/\v ≠ -1:=by
  rintro v (⟨r,o,rfl⟩ | ⟨q,j,rfl⟩)
  .exact ⟨.inl ⟨_,eJ o,rfl⟩,E r o⟩
  .exact ⟨.inr ⟨_,eJ j,rfl⟩,S q j⟩
 have aI:∀z x:Asg,z e=0->(∀v,v≠e->v ≠ -1->z v=x v)->(D.Sol z↔((D.cO i k).Sol x/\z (-1)=(D.cO i k).rv (D.cO i k).g x)):=by
  intro z x B H;have R:∀f:Nat->Rat,D.rv f z=(D.cO i k).rv (fun c=>f (sk (k+1) c)) x:=fun f=>by rw[JN (i:=i) C,M,B,oP (x:=z) (y:=x) fun q j=>H _ (S q j).1 (S q j).2];grind
  constructor
  .intro t;refine ⟨fun r o=>?_,?_⟩
   .have:=t (sk i r) (eJ o);rw[R,H _ (E r o).1 (E r o).2] at this;exact this
   .have:=t i L;rw[R,p] at this;exact this
  .rintro ⟨n,l⟩ r o;by_cases I:r=i
   .subst I;rw[R,p];exact l
   .obtain ⟨q,j,rfl⟩:=JO o L I;rw[R,H _ (E q j).1 (E q j).2];exact n q j
 have lift:∀x,D0.Sol x->∃z:Asg,D.Sol z/\z e=0/\z (-1)=D0.rv D0.g x/\∀v,v≠e->v ≠ -1->z v=x v:=by
  intro x A;obtain ⟨z,t⟩:∃z:Asg,z=fun v=>if v=e then 0 else if v = -1 then D0.rv D0.g x else x v:=⟨_,rfl⟩;have B:z e=0:=by rw[t];simp
  have O:z (-1)=D0.rv D0.g x:=by rw[t];simp only[];rw[WX (Xg X.zr),W0 trivial]
  have H:∀v,v≠e->v ≠ -1->z v=x v:=fun v n l=>by rw[t];simp only[];rw[WX n,WX l]
  have zv:∀v,D0.Var v->x v=z v:=fun v hv=>(H v (N v hv).1 (N v hv).2).symm;refine ⟨z,h.eM.nm z ((jS X.s0).2 ?_),B,O,H⟩;rw[vC B];exact ⟨sS zv A,by rw[O,oP fun k C=>zv _ (.inr ⟨k,C,rfl⟩)]⟩
 refine ⟨⟨fun v hv=>?_,by show D.w - 1=D0.w;omega,⟨fun a b G p he=>xS (K.bb _ _ (eJ G) (eJ p) he),fun a b G p he=>xS (K.oo _ _ (eJ G) (eJ p) he),fun a b G p=>K.bo _ _ (eJ G) (eJ p)⟩,fun x A=>?_,fun x A=>?_,fun y=>?_⟩,fun x A he=>?_⟩
 .have ⟨n,l,J⟩:=var v hv;rcases (lj v).1 (h.eM.var v n) with F | F | F
  .exact F
  .exact absurd F l
  .exact absurd F J
 .have ⟨z,T,U,_,V⟩:=lift x A;exact ((aI z x U V).1 T).1
 .have ⟨z,T,U,z3,V⟩:=lift x A;rw[<-((aI z x U V).1 T).2,z3]
 .have ⟨x,n,l⟩:=h.eM.ind fun q=>if q=k then 0 else y (if q < k then q else q - 1);have xe:x e=0:=by rw[<-M,l k C];simp
  have J:=((jS X.s0).1 n).1;rw[vC xe] at J;refine ⟨x,J,fun q j=>?_⟩;show x (D.out (sk k q))=y q;rw[l _ (eJ j)];simp only[WX (Iq k q)];congr 1;unfold sk;by_cases W:q < k
  .rw[W0 W,W0 W]
  .rw[WX W,WX (by omega)];omega
 .obtain ⟨z,t⟩:∃z:Asg,z=fun v=>if v=e then 0 else if v = -1 then (D.cO i k).rv (D.cO i k).g x else x v:=⟨_,rfl⟩;have B:z e=0:=by rw[t];simp
  have O:z (-1)=(D.cO i k).rv (D.cO i k).g x:=by rw[t];simp only[];rw[WX (Xg X.zr),W0 trivial]
  have H:∀v,v≠e->v ≠ -1->z v=x v:=fun v n l=>by rw[t];simp only[];rw[WX n,WX l]
  have n:=h.back z ((aI z x B H).2 ⟨A,O⟩) (fun v hv=>by rw[H v (fun P=>X.ee (P ▸ hv)) (fun P=>X.em (P ▸ hv))];exact he v hv);have l:=((jS X.s0).1 n).1;rw[vC B] at l;exact sS (fun v hv=>H v (N v hv).1 (N v hv).2) l
end
end Go.Fx
namespace Go.Fx
open Go.Proofs.Tryz
open List renaming length->ae,getD->af,replicate->aA,eraseIdx->aB,range->aC
open Inhabited renaming default->ah
open Option renaming some->ak,none->an
open Bool renaming true->aq,false->ar
open Go.IntKind renaming wrap->au
open Int renaming natAbs->ay,toNat->az
section
variable {D0 D:Dic} {eq sd free s:Int->Prop} {i k:Nat} {e:Int} {x:Asg}
def Pre.more (h:Pre D0 D free eq sd) (X:uC D0 eq s e) (r:∀v,s v↔sd v/\∃i,i < D.m/\D.bu i=v) (n:sd e) (t:¬sd (-1)):Pre (D0.more s e) (D.more s e) free eq sd:=by
 refine ⟨h.fit.more X fun v hv=>((r v).1 hv).2,fun i g=>?_,fun q j=>?_,fun q j c i g f=>?_,h.fs,h.fe,h.es⟩
 .show ¬eq (if i < D.m then D.bu i else if i=D.m then -1 else 0);split
  .rename_i y;exact h.nb i y
  .rw[W0 (by (have:i < D.m+1:=g);(omega))];exact X.em
 .show free (if q < D.w then D.out q else if q=D.w then e else 0)\/eq (if q < D.w then D.out q else if q=D.w then e else 0)\/sd (if q < D.w then D.out q else if q=D.w then e else 0);split
  .rename_i l;exact h.CY q l
  .rw[W0 (by (have:q < D.w+1:=j);(omega))];exact .inr (.inr n)
 .have b:q < D.w:=by
   rcases Xe q D.w with z | z
   .exact z
   .have:q=D.w:=by (have:q < D.w+1:=j);(omega)
    subst this;have:(D.more s e).out D.w=e:=by simp[Dic.more]
    rw[this] at c;exact absurd n (h.fs _ c)
  have y:i < D.m:=by
   rcases Xe i D.m with z | z
   .exact z
   .have:i=D.m:=by (have:i < D.m+1:=g);(omega)
    subst this;have:(D.more s e).bu D.m = -1:=by simp[Dic.more]
    rw[this] at f;exact absurd f t
  have o:(D.more s e).out q=D.out q:=by simp[Dic.more,b]
  have p:(D.more s e).bu i=D.bu i:=by simp[Dic.more,y]
  rw[o] at c;rw[p] at f;have:(D.more s e).a i (q+1)=D.a i (q+1):=by show (if q+1=D.w+1 then _ else if i=D.m then _ else _)=_;rw[WX (by omega),WX (by omega)]
  rw[this];exact h.fz q b c i y f
def Pre.first (h:Pre D0 D free eq sd) (X:uC D0 eq s e) (t:∀v,s v↔sd v/\∃i,i < D.m/\D.bu i=v) (H:sd e) (G:¬sd (-1)) (f:i < D.m) (K:sd (D.bu i)) (M:D.a i 0 < 0) (L:∀r,r < D.m->sd (D.bu r)->D.a i 0<=D.a r 0\/0<=D.a r 0) :
  (D.more s e).a i (D.w+1)=1/\Pre (D0.more s e) ((D.more s e).b9 i D.w) free eq sd/\((D.more s e).b9 i D.w).jk sd/\(∀q,q < D.w+1->free (((D.more s e).b9 i D.w).out q)->((D.more s e).b9 i D.w).g (q+1)=0)/\∃r,r < D.m+1/\((D.more s e).b9 i D.w).bu r = -1:=by
 have F:=h.more X t H G;have A:(D.more s e).bu i=D.bu i:=by simp[Dic.more,f]
 have B:(D.more s e).out D.w=e:=by simp[Dic.more]
 have o:(D.more s e).a i (D.w+1)=1:=by have:s (D.bu i):=(t _).2 ⟨K,i,f,rfl⟩;simp[Dic.more,f,this]
 have W:∀r,r < D.m->(D.more s e).a r 0=D.a r 0:=fun r n=>by simp[Dic.more];omega
 have cw:∀r,r < D.m->sd (D.bu r)->(D.more s e).a r (D.w+1)=1:=fun r n b=>by have:s (D.bu r):=(t _).2 ⟨b,r,n,rfl⟩;simp[Dic.more,n,this]
 have p:(D.more s e).a i (D.w+1)≠0:=by rw[o];grind
 have j:=aaq f;have l:D.w < (D.more s e).w:=YD _;refine ⟨o,F.b9 j l p (by rw[A];exact K) (by rw[B];exact H),fun r n b=>?_,?_,D.m,YD _,?_⟩
 .have C:(D.more s e).fresh i D.w 0 = -(D.a i 0):=by unfold Dic.fresh;rw[WX (by omega),o,W i f];grind
  show 0<=(if r=i then (D.more s e).fresh i D.w 0 else (D.more s e).di i D.w ((D.more s e).a r) 0);by_cases y:r=i
  .rw[W0 y,C];grind
  .rw[WX y];have z:r < D.m:=by
    rcases Xe r D.m with c | c
    .exact c
    .have:r=D.m:=by (have:r < D.m+1:=n);(omega)
     subst this;have:((D.more s e).b9 i D.w).bu D.m = -1:=by simp[Dic.b9,dQ,y,Dic.more]
     rw[this] at b;exact absurd b G
   have I:((D.more s e).b9 i D.w).bu r=D.bu r:=by simp[Dic.b9,dQ,y,Dic.more,z]
   rw[I] at b;unfold Dic.di;rw[WX (by omega),C,W r z,cw r z b];rcases L r z b with c | c<;>grind
 .refine F.loose j l (A ▸ K) fun q J E=>?_;rcases Xe q D.w with c | c
  .simp[Dic.more];omega
  .have:q=D.w:=by (have:q < D.w+1:=J);(omega)
   subst this;rw[B] at E;exact absurd H (h.fs _ E)
 .have:D.m≠i:=by omega
  simp[Dic.b9,dQ,this,Dic.more]
def Lw (X:uC D0 eq s e) (p:¬sd (-1)) (o:Pts D0 eq sd x):∃z,Pts (D0.more s e) eq sd z/\(D0.more s e).rv (D0.more s e).g z=0:=by
 have ⟨y,w,m⟩:=o;have f:∀v,D0.Var v->v≠e/\v ≠ -1:=fun v hv=>⟨fun he=>X.he (he ▸ hv),fun he=>X.hm (he ▸ hv)⟩;obtain ⟨z,b⟩:∃z:Asg,z=fun v=>if v=e then 0 else if v = -1 then D0.rv D0.g x else x v:=⟨_,rfl⟩;have c:z e=0:=by rw[b];simp
 have q:z (-1)=D0.rv D0.g x:=by rw[b];simp only[];rw[WX (Xg X.zr),W0 trivial]
 have l:∀v,v≠e->v ≠ -1->z v=x v:=fun v y w=>by rw[b];simp only[];rw[WX y,WX w]
 have zv:=fun v hv=>(l v (f v hv).1 (f v hv).2).symm;refine ⟨z,⟨(jS X.s0).2 ?_,fun v hv=>?_,fun v hv j=>?_⟩,by rw[pE,c]⟩
 .rw[vC c];exact ⟨sS zv y,by rw[q,oP fun k n=>zv _ (.inr ⟨k,n,rfl⟩)]⟩
 .rw[l v (fun a=>X.ee (a ▸ hv)) (fun a=>X.em (a ▸ hv))];exact w v hv
 .rcases (lj v).1 hv with h | h | h
  .rw[<-zv v h];exact m v h j
  .rw[h,c];exact aao
  .exact absurd (h ▸ j) p
def HV (h:Pre (D0.more s e) D free eq sd) (X:uC D0 eq s e) (c:¬sd (-1)) (a:∀k,k < D.w->free (D.out k)->D.g (k+1)=0) (y:∀k,k < D.w->sd (D.out k)->0<=D.g (k+1)) (l:0 < D.g 0):¬∃x,Pts D0 eq sd x:=by
 rintro ⟨x,b⟩;have ⟨z,f,j⟩:=Lw X c b;have:=h.least a y f;rw[j] at this
 grind
def Jz (h:Pre (D0.more s e) D free eq sd) (c:D.jk sd) (n:sd e) (j:k < D.w) (l:sd (D.out k)) (f:D.g (k+1) < 0) (b:∀i,i < D.m->sd (D.bu i)->0<=D.a i (k+1)):False:=by
 have ⟨x,⟨_,_,y⟩,z⟩:=h.nS c j l f b 0;rw[pE] at z;have:=y e ((lj e).2 (.inr (.inl rfl))) n
 grind
def Jy (G:Pre D0 y free eq sd) (h:Pre (D0.more s e) D free eq sd) (A:D.jk sd) (X:uC D0 eq s e) (L:∀v,s v↔sd v/\∃i,i < y.m/\y.bu i=v) (W:sd e) (M:¬sd (-1)) (j:i < D.m) (f:D.bu i=e) (N:¬0 < D.g 0) :
  D.a i 0=0/\∃k,k < D.w/\sd (D.out k)/\D.a i (k+1)≠0:=by
 have z:=G.more X L W M;have ⟨O,B⟩:=h.pd A;have I:=h.fit.eM.bU;have F:D.ext eK e=D.a i 0:=by rw[<-f,qI I j,lU (fun _ _=>rfl)]
 rw[pE,F] at B;have nn:=A i j (f ▸ W);have C:D.a i 0=0:=by rw[B] at nn ⊢;grind
 refine ⟨C,Zh fun p=>?_⟩;have c:=z.fit.eM.bU;have K:y.w < (y.more s e).w:=YD _;have l:(y.more s e).out y.w=e:=by simp[Dic.more]
 have zero:∀v,eq v->(y.more s e).at y.w 1 v=0:=fun v hv=>by unfold Dic.at;rw[jM (fun r J n=>z.nb r J (n ▸ hv)),l];exact WX (fun (n:v=e)=>X.ee (n ▸ hv))
 have nm:=z.fit.back _ (kr c (fun v=>if v=(y.more s e).out y.w then 1 else 0)) zero;have:=h.fit.eM.nm _ nm i j;have E:(y.more s e).ext (fun v=>if v=(y.more s e).out y.w then 1 else 0) e=1:=by have:=Og (k:=y.w) c (t:=1) K;rw[l,W0 rfl] at this;unfold Dic.at at this;rw[l] at this ⊢;exact this
 rw[f,E] at this;unfold Dic.rv at this;rw[C,jg fun q H=>?_] at this
 .grind
 .rcases h.CY q H with b | b | b
  .rw[h.fz q H b i j (f ▸ W)];grind
  .have:=zero _ b;unfold Dic.at at this;rw[this];grind
  .have:D.a i (q+1)=0:=Zh fun o=>p ⟨q,H,b,o⟩;rw[this];grind
def Dic.jk.flat (w:D.jk sd) (g:i < D.m) (z:D.a i 0=0):(D.b9 i k).jk sd:=by
 have y:D.fresh i k 0=0:=by unfold Dic.fresh;rw[WX (by omega),z];grind
 intro r b f;show 0<=(if r=i then D.fresh i k 0 else D.di i k (D.a r) 0);by_cases h:r=i
 .rw[W0 h,y];exact aao
 .rw[WX h];have c:sd (D.bu r):=by simpa only[Dic.b9,dQ,WX h] using f
  unfold Dic.di;rw[WX (by omega),y];have:=w r b c
  grind
def Pre.cO (h:Pre (D0.more s e) D free eq sd) (l:D.jk sd) (X:uC D0 eq s e) (n:i < D.m) (o:k < D.w) (j:D.bu i = -1) (p:D.out k=e):Pre D0 (D.cO i k) free eq sd/\(D.cO i k).jk sd:=by
 have f:sk (k+1) 0=0:=by unfold sk;rw[W0 (by omega)]
 have g:∀q,sk (k+1) (q+1)=sk k q+1:=fun q=>by unfold sk;split<;>split<;>omega
 refine ⟨⟨h.fit.cO X n o j p,fun r y=>h.nb _ (eJ y),fun q b=>h.CY _ (eJ b),fun q b z r y c=>?_,h.fs,h.fe,h.es⟩,fun r y c=>?_⟩
 .show D.a (sk i r) (sk (k+1) (q+1))=0;rw[g];exact h.fz _ (eJ b) z _ (eJ y) c
 .show 0<=D.a (sk i r) (sk (k+1) 0);rw[f];exact l _ (eJ y) c
end
section
variable {P:Program}
def Tab.Ed (T:Tab) (i:Nat):List Q :=
 let c:=af (af T.cells i []) 0 ah
 let l:=(T.mult (af T.cells i [])).map fun x=>x.div c
 l.set (az (af T.aJ i 0 - T.n)) ((af l (az (af T.aJ i 0 - T.n)) ah).sub (Q.one.div c))
inductive Eqs:Nat->Tab->Nat->Tab->Option (List Q)->Prop
 | done {T:Tab} {i:Nat}:eg T->T.cells.length<=i->Eqs 0 T i T none
 | skip {n:Nat} {T T':Tab} {i:Nat} {r:Option (List Q)}:eg T->i < T.cells.length->T.fj (T.aJ.getD i 0)=false->Eqs n T (i+1) T' r->Eqs (n+1) T i T' r
 | Hy {n k:Nat} {T T':Tab} {i:Nat} {r:Option (List Q)}:eg T->i < T.cells.length->T.fj (T.aJ.getD i 0)=true->T.qn i=(k:Int)->((T.cells.getD i []).getD (k+1) default).top≠0->Eqs n (T.cu i k) (i+1) T' r->Eqs (n+1) T i T' r
 | bad {T:Tab} {i:Nat}:eg T->i < T.cells.length->T.fj (T.aJ.getD i 0)=true->T.qn i < 0->((T.cells.getD i []).getD 0 default).top≠0->Eqs 0 T i T (some (T.Ed i))
 | drop {n:Nat} {T T':Tab} {i:Nat} {r:Option (List Q)}:eg T->i < T.cells.length->T.fj (T.aJ.getD i 0)=true->T.qn i < 0->((T.cells.getD i []).getD 0 default).top=0->Eqs n (T.del i) i T' r->Eqs (n+1) T i T' r
def Eqs.w (h:Eqs n T i k r):eg T:=by cases h<;>assumption
def Ba {T:Tab} {l:List Q} {k:Nat} (h:∀x,x∈l->QOk k x) (a:ae l=ae T.out+1):∀c,c<=ae T.out->∀x,x∈T.kt l c->QOk k x:=by
 intro c
 induction c with
 | zero =>
  intro _ x y;simp only[Tab.kt,aa6,abd] at y;rw[(YM.1 y).2];exact DF _
 | succ c z =>
  intro w x y;rw[rB] at y;unfold mP at y;split at y
  .rcases Yq y with y | rfl
   .exact z aD x y
   .exact h _ (cV aD)
  .exact z aD x y
def jc (f:Q->Q) (l:List Q) (j:Nat):List Q:=(l.take j).map f++l.drop j
def CJ:ae (jc f l j)=ae l:=by simp[jc];omega
def CI (h:j < ae l):af (jc f l j) j ah=af l j ah:=by unfold jc;simp only[af];rw[Xk cE];simp[XV (aa5 h)]
def AX (h:j < ae l):jc f l (j+1)=(jc f l j).set j (f (af l j ah)):=by
 unfold jc;have e:af l j ah=l[j]:=by simp[af,h]
 have k:l.take (j+1)=l.take j++[l[j]]:=by simp[h]
 rw[ZE _ _ (by simp;omega),e,k,Xu,XC,show j - ae ((l.take j).map f)=0 by simp;omega];have x:=XA h;rw[x,ZP];rfl
def CH:jc f l (ae l)=l.map f:=by simp[jc]
def AY:jc f l 0=l:=by simp[jc]
def Aw {T:Tab} {v:Int} (h:T.fj v=aq):(T.n:Int)<=v/\v < (T.n:Int)+ae T.aI:=by unfold Tab.fj at h;simp only[WZ,Xm] at h;exact h.1
def r8 (H:aE) (t:Nat) (D:ba) (T':Tab) (r:Option (List Q)) (v:AV) (H':aE):Prop :=
 ∃D',bp H H' t D D'/\match r with
  | none=>v = .bI [.nil,.c (.bool aq)]/\bG H' t D' T'
  | some l=>∃a,v = .bI [.sl 4 a 0 0 (ae l),.c (.bool ar)]/\ae H<=a/\aH H' a 0=ak ⟨4,0,l.map qC⟩
structure gk (H H':aE) (t:Nat) (D:ba) (b:Nat) (x:AV):Prop where
 ob:aH H' b 0=some ⟨1,0,[[x]]⟩
 new:H.length<=b
 out:¬dV t D b
def gk.lt (h:gk H H' t D b x):b < ae H':=aU h.ob
def gk.eX (h:gk H G t D b x) (o:bp G y t D D'):gk H y t D' b x :=
 ⟨by rw[o.aR b h.lt h.out];exact h.ob,h.new,fun k=>(o.new b k).elim h.out (fun z=>dp h.lt)⟩
def gk.aQ (h:gk H G t D b x) (k:aT G y l) (z:b∉l):gk H y t D b x :=
 ⟨by rw[k.2 b h.lt z];exact h.ob,h.new,h.out⟩
def gk.eT (h:gk H G t D b x) (K:bC->Prop):bq G b 0 K=K ⟨1,0,[[x]]⟩:=aP h.ob K
def wH {H:aE} {id ver k:Nat} {xs:List (List AV)} (h:dJ H id=ak ⟨k,ver,xs⟩):aH H id ver=ak ⟨k,ver,xs⟩:=by
 unfold dJ at h;unfold aH;cases x:H[id]? with
 | none=>rw[x] at h;simp at h
 | some o=>rw[x] at h;cases o with
  | none=>simp at h
  | some y=>simp at h;subst h;simp
def mQ {H:aE} {id ver:Nat} {ob:bC} (h:aH H id ver=ak ob):dJ H id=ak ob:=by unfold dJ;rw[(ct h).1];rfl
def td {H:aE} {id ver n i:Nat} {xs h:List (List AV)} (w:aH H id ver=ak ⟨1,ver,xs++h⟩) (x:i < ae xs) (y:n=ae xs) (k:n < 1000000) :
  mW prog 158 [.sl 1 id ver 0 n,.q0 (i:Int),.q0 ((i+1:Nat):Int)] (.sl 1 id ver 0 (n - 1)) id ⟨1,ver,xs++h⟩ ⟨1,ver,aB xs i++[.q0 0]::h⟩ :=
 ⟨rfl,(vP w x y k).1,fun K z=>vP (wH z) x y k⟩
def yZ {H:aE} {id ver n i:Nat} {xs h:List (List AV)} (w:aH H id ver=ak ⟨1,ver,xs++h⟩) (x:i < ae xs) (y:n=ae xs) (k:n < 1000000) :
  mW prog 159 [.sl 1 id ver 0 n,.q0 (i:Int),.q0 ((i+1:Nat):Int)] (.sl 1 id ver 0 (n - 1)) id ⟨1,ver,xs++h⟩ ⟨1,ver,aB xs i++[.nil]::h⟩ :=
 ⟨rfl,(vQ w x y k).1,fun K z=>vQ (wH z) x y k⟩
def Cn {H:aE} {id ver n i:Nat} {xs h:List (List AV)} (w:aH H id ver=ak ⟨4,ver,xs++h⟩) (x:i < ae xs) (y:n=ae xs) (k:n < 1000000) :
  mW prog 163 [.sl 4 id ver 0 n,.q0 (i:Int),.q0 ((i+1:Nat):Int)] (.sl 4 id ver 0 (n - 1)) id ⟨4,ver,xs++h⟩ ⟨4,ver,aB xs i++[.q0 0,.nil,.q0 0,.nil]::h⟩ :=
 ⟨rfl,(za w x y k).1,fun K z=>za (wH z) x y k⟩
def bp.own (h:bp H G t D z) (k:aT G F [b]) (c:ae H<=b):bp H F t D z :=
 ⟨XX h.len k.1,fun y x a w=>by rw[k.2 y (Yf x h.len) cE];exact h.aR y x a w,h.new⟩
attribute [go_sem] Xa
def rh (hd:Eqs n T 0 E r) (h:bG H t D T) :
  cF prog 127 [.ptr t 0 0 0] H (r8 H t D E r):=by
 refine qc func127 rX ?_;refine uz ?_;refine Z ?_;refine bE (fun m e L=>∃X z i b,Eqs m X i E r/\bG L t z X/\bp H L t D z/\gk H L t z (ae H) (.ptr t 0 0 0)/\gk H L t z b (.q0 (i:Nat))/\b≠ae H/\e=[(1,.ptr (ae H) 0 0 0),(4,.ptr b 0 0 0)]) (n:=n)
  ⟨T,D,0,ae H+1,hd,h.aQ (aT.app _ _ []) aK,bp.aQ (aT.app _ _ _),⟨bZ,WY _,fun S=>dp (h.lt S)⟩,⟨by simp[aH],aD,fun S=>dp (h.lt S)⟩,aD,rfl⟩ ?_;clear hd h;rintro m _ C ⟨X,z,i,b,hd,h,ho,hx,hb,i9,rfl⟩;have hw:=hd.w;have e4:=hw.nl;have e8:=hw.rl;have d7:=hw.bl;have k7:=hw.ml;have l0:=hw.wl;have j9:=hb.lt;have l1:=hx.lt;have k8:=aU h.bX;have c0:t≠b:=fun I=>hb.out (.inl I.symm);have f0:t≠ae H:=fun I=>hx.out (.inl I.symm);have hT:∀K,bq C t 0 K=K ⟨6,0,[[.q0 (X.n:Int),z.rv,z.vb,z.vo,z.vc,z.vg]]⟩:=aP h.bX;have hB:=hb.eT;have hX:=hx.eT;have j8:∀K,fM z.vb K=K (.q0 (ae X.cells:Int)):=fun K=>by rw[h.aJ.cr.jn,W4,d7]
 by_cases k6:(i:Int) < (ae X.cells:Int)
 .have hi:i < ae X.cells:=aD;have e1:=ws i;have next:∀(G:aE) (D2:ba) (T2:Tab) (i2:Nat),(∃m',m' < m/\Eqs m' T2 i2 E r)->bG G t D2 T2->bp H G t D D2->gk H G t D2 (ae H) (.ptr t 0 0 0) ->
    ∃f1,f1 < m/\∃X z i b,Eqs f1 X i E r/\bG (G++[ak ⟨1,0,[[.q0 (i2:Int)]]⟩]) t z X/\bp H (G++[ak ⟨1,0,[[.q0 (i2:Int)]]⟩]) t D z/\gk H (G++[ak ⟨1,0,[[.q0 (i2:Int)]]⟩]) t z (ae H) (.ptr t 0 0 0) /\
     gk H (G++[ak ⟨1,0,[[.q0 (i2:Int)]]⟩]) t z b (.q0 (i:Nat))/\b≠ae H/\([(1,.ptr (ae H) 0 0 0),(4,.ptr (ae G) 0 0 0)]:Env)=[(1,.ptr (ae H) 0 0 0),(4,.ptr b 0 0 0)]:=by rintro G D2 T2 i2 ⟨m',i6,h7⟩ B h3 h4;exact ⟨m',i6,T2,D2,i2,ae G,h7,B.aQ (aT.app _ _ []) aK,h3.trans (bp.aQ (aT.app _ _ _)),h4.aQ (aT.app _ _ []) aK,⟨bZ,h3.len,fun S=>dp (B.lt S)⟩,dp h4.lt,rfl⟩
  obtain ⟨p,p1,p2⟩:=h.aJ.cr.read (eR (show i < ae X.aJ by omega));refine Z ?_;refine hZ (zn h e4 e8) ?_;cases hs:X.fj (af X.aJ i 0) with
  | false =>
   refine Z ?_;cases hd with
   | done _ J=>omega
   | skip _ J B h3=>exact next C z _ (i+1) ⟨_,YD _,h3⟩ h ho hx
   | Hy _ _ B _ _ _=>rw[hs] at B;simp at B
   | bad _ _ B _ _=>rw[hs] at B;simp at B
   | drop _ _ B _ _ _=>rw[hs] at B;simp at B
  | true =>
   refine Z ?_;refine dK (xy h.out.cr aD (fun v _=>IT h hw hx.ob hb.ob hi v)) ?_;have c1:eA X.out (X.gy i)=X.qn i:=rfl;rw[c1];cases hd with
   | done _ J=>omega
   | skip _ _ B _=>rw[hs] at B;simp at B
   | Hy _ J B h3 h4 h5 =>
    rename_i n1 k k9;have b7:(0<=(k:Int))=True:=XO aD;have i4:k < ae X.out:=by have:=(uQ X.out (X.gy i)).2;rw[c1,h3] at this;omega
    rw[h3];refine Z ?_;refine dZ (rG h hw (i:=i) (k:=k) hi i4 h4) ?_;rintro _ H5 ⟨rfl,D5,t5,o5⟩;have j7:=(hb.eX o5).eT;refine Z ?_;exact next H5 D5 _ (i+1) ⟨_,YD _,h5⟩ t5 (ho.trans o5) (hx.eX o5)
   | bad _ J B h3 h4 =>
    have b7:(0<=E.qn i)=False:=Xh aD;have b6:(z.aX.map fun v=>[v])[i]?=ak [af z.aX i .aY]:=by simp[af,show i < ae z.aX by rw[h.cl];exact hi]
    have ⟨p3,r1,r2,r3⟩:=h.cells.cr.sP b6;have e9:=hw.row i hi;have ⟨p4,s1,s2,s3⟩:=(h.rws i hi).sP (i:=0) (fH aD);have c9:∀(t:IntKind) (K:AV->Prop),kz 4 (af z.aX i .aY) (.c (.int t 0)) K=K p4:=s1;generalize c7:af (af E.cells i []) 0 ah=x at *;have n1:(ae C=t)=False:=Xh aD;have n2:(ae C=b)=False:=Xh aD;have n3:(ae C=ae H)=False:=Xh aD;simp only[go_sem,↓reduceIte,WY,Xb,b7,hX,hB,hT,r1,r2,c9,s2,n1,n2,n3,r3,s3,fL,Zm,aaf,X6];refine aG (fJ x) (by simp[aZ]) rfl ?_;have b8:=hw.kQ i hi x (by rw[<-c7];exact cV (show 0 < ae (af E.cells i []) by omega));have a9:(x.top.sign=0)=False:=by rw[ll];exact Xh h4
    have kc:aT C (C++[ak ⟨4,0,[qC x]⟩]) []:=aT.app _ _ _;have U:=h.aQ kc aK;have c3:∀K,bq (C++[ak ⟨4,0,[qC x]⟩]) t 0 K=K ⟨6,0,[[.q0 (E.n:Int),z.rv,z.vb,z.vo,z.vc,z.vg]]⟩:=aP U.bX;have c2:=(hb.aQ kc aK).eT;have c4:=(hx.aQ kc aK).eT;have ⟨l2,j2,j3,l3⟩:=U.cells.cr.sP b6;refine Z6 a9 c3 c2 c4 j2 j3 ?_;refine wM (cF.OS (B5 U e4 e8 aD (U.rws i hi) aD)) ?_;have j6:ae (E.mult (af E.cells i []))=ae E.aI:=oX _ _ _;have f2:∀y,y∈E.mult (af E.cells i [])->QOk 100000 y:=Ba (hw.kQ i hi) aD _ (WY _);have a0:E.Ed i=((E.mult (af E.cells i [])).map fun y=>y.div x).set (az (af E.aJ i 0 - E.n)) ((af ((E.mult (af E.cells i [])).map fun y=>y.div x) (az (af E.aJ i 0 - E.n)) ah).sub (Q.one.div x)):=by unfold Tab.Ed;rw[c7]
    generalize E.mult (af E.cells i [])=l at *;obtain ⟨H2,a6⟩:∃H2,H2=C++[ak (⟨4,0,[qC x]⟩:bC),ak ⟨4,0,l.map qC⟩]:=⟨_,rfl⟩;have k2:aT C H2 []:=by rw[a6];exact aT.app _ _ _
    have a7:aH H2 (ae C) 0=ak ⟨4,0,[qC x]⟩:=by rw[a6];exact bZ
    have a2:aH H2 (ae C+1) 0=ak ⟨4,0,(jc (fun y=>y.div x) l 0).map qC⟩:=by rw[a6,AY];simp[aH]
    simp only[go_sem,↓reduceIte,Xb,XG,XQ,XU,XH];rw[<-a6];have k5:ae l < 1000000:=aD;refine bE (fun m e L=>∃c,c<=ae l/\m=ae l - c/\aT C L []/\aH L (ae C) 0=ak ⟨4,0,[qC x]⟩/\aH L (ae C+1) 0=ak ⟨4,0,(jc (fun y=>y.div x) l c).map qC⟩ /\
     e=[(1,.ptr (ae H) 0 0 0),(4,.ptr b 0 0 0),(6,.ptr (ae C) 0 0 0),(7,.sl 4 (ae C+1) 0 0 (ae l)),(63,.q0 (ae l:Int)),(64,.q0 (c:Int))]) (n:=ae l)
     ⟨0,XE _,rfl,k2,a7,a2,rfl⟩ ?_;clear a6 k2 a7 a2;rintro m' _ Hl ⟨c,hc,rfl,kl,a7,a2,rfl⟩;have d5:∀K,bq Hl (ae C) 0 K=K ⟨4,0,[qC x]⟩:=aP a7;have ml:=CJ (f:=fun y=>y.div x) (l:=l) (j:=c);by_cases a3:(c:Int) < (ae l:Int)
    .have R:c < ae l:=aD;have e3:=ws c;have ⟨p5,u1,u2,_,uw⟩:=SlL.E8 a2 (i:=c) (n:=ae l) (by rw[W4,ml];exact R) (by rw[W4,ml]) gg;rw[show af (List.map qC (jc (fun y=>y.div x) l c)) c []=qC (af l c ah) by have:=CI (f:=fun y=>y.div x) R;simp only[af] at this ⊢;rw[Ys];rw[W7 (by omega)] at this ⊢;simp only[XT,XL] at this ⊢;rw[this]] at u2;have c8:=f2 _ (cV R);have i7:=AX (f:=fun y=>y.div x) R;have ⟨Hn,w1,w2,w3,w4⟩:=uw (qA ((af l c ah).div x)) rfl (mK _);generalize hy:af l c ah=y at *;refine Z4 a3 u1 u2 d5 ?_;refine aG (tV y x (c8.mono aS) (b8.mono aS) h4) (by simp[aZ]) (aZ _) ?_;refine Y3 u1 w1 e3 ?_;exact ⟨ae l - (c+1),aD,c+1,R,rfl,⟨by rw[w3];exact kl.1,fun F J B w=>by rw[w4 F (by omega)];exact kl.2 F J B w⟩,by rw[w4 _ (by omega)];exact a7,by rw[i7,Yp];exact w2,rfl⟩
    .have h6:c=ae l:=aD;subst h6;rw[CH] at a2;have tl:=h.aQ kl aK;have g6:∀K,bq Hl t 0 K=K ⟨6,0,[[.q0 (E.n:Int),z.rv,z.vb,z.vo,z.vc,z.vg]]⟩:=aP tl.bX;have g0:=(hb.aQ kl aK).eT;have g8:=(hx.aQ kl aK).eT;obtain ⟨p6,v1,v2⟩:=tl.aJ.cr.read (eR (show i < ae E.aJ by omega));have ⟨b1,b2⟩:=Aw hs;generalize hv:af E.aJ i 0=v at *;obtain ⟨o,i8⟩:∃o:Nat,v - E.n=(o:Int):=⟨az (v - E.n),aD⟩;have ew:au .i64 (v - E.n)=(o:Int):=by rw[wrap_i64 (by omega) (by omega)];exact i8
     have jD:o < ae l:=aD;rw[show az (v - E.n)=o by omega] at a0;have ⟨p5,u1,u2,_,uw⟩:=SlL.E8 a2 (i:=o) (n:=ae l) (bk jD) aK gg;have i3:af (l.map fun y=>y.div x) o ah=(af l o ah).div x:=by simp[af,jD]
     rw[show af (List.map qC (l.map fun y=>y.div x)) o []=qC ((af l o ah).div x) by simp[af,jD]] at u2;rw[i3] at a0;have c8:=f2 _ (cV jD);have j1:QOk 200000 ((af l o ah).div x):=wW aS aS c8 b8 h4;have j0:QOk 100001 (Q.one.div x):=(wW aS aS tS b8 h4).mono aS;generalize (af l o ah).div x=y at *;have ⟨Hn,w1,w2,w3,w4⟩:=uw (qA (y.sub (Q.one.div x))) rfl (mK _);have e7:qA (⟨1,0⟩:Q)=qA Q.one:=rfl;simp only[go_sem,↓reduceIte,WY,Xb,a3,g6,g0,g8,v1,v2,ew,u1,u2];refine aG (lR 1 aS) rfl (aZ _) ?_;rw[e7];refine Z1 d5 ?_;refine aG (tV Q.one x (tS.mono aS) (b8.mono aS) h4) (by simp[aZ]) (aZ _) ?_;refine Y ?_;refine aG (Jw y (Q.one.div x) (j1.mono aS) (j0.mono aS)) (by simp[aZ]) (aZ _) ?_;refine Y2 u1 w1 ?_;have kn:aT C Hn []:=⟨by rw[w3];exact kl.1,fun F J B w=>by rw[w4 F (by omega)];exact kl.2 F J B w⟩;refine ⟨z,ho.trans (bp.aQ kn),ae C+1,?_,XX ho.len (Nat.le_succ _),?_⟩
     .rw[a0];simp
     .rw[a0,Yp];exact w2
   | drop _ J B h3 h4 h5 =>
    have b7:(0<=X.qn i)=False:=Xh aD;have b6:(z.aX.map fun v=>[v])[i]?=ak [af z.aX i .aY]:=by simp[af,show i < ae z.aX by rw[h.cl];exact hi]
    have ⟨p3,r1,r2,r3⟩:=h.cells.cr.sP b6;have e9:=hw.row i hi;have ⟨p4,s1,s2,s3⟩:=(h.rws i hi).sP (i:=0) (fH aD);have c9:∀(t:IntKind) (K:AV->Prop),kz 4 (af z.aX i .aY) (.c (.int t 0)) K=K p4:=s1;generalize c7:af (af X.cells i []) 0 ah=x at *;have n1:(ae C=t)=False:=Xh aD;have n2:(ae C=b)=False:=Xh aD;have n3:(ae C=ae H)=False:=Xh aD;simp only[go_sem,↓reduceIte,WY,Xb,b7,hX,hB,hT,r1,r2,c9,s2,n1,n2,n3,r3,s3,fL,Zm,aaf,X6];refine aG (fJ x) (by simp[aZ]) rfl ?_;have a9:(x.top.sign=0)=True:=by rw[ll];exact XO h4
    refine Z1 a9 ?_;obtain ⟨L,b5⟩:∃L,L=C++[ak (⟨4,0,[qC x]⟩:bC)]:=⟨_,rfl⟩;rw[<-b5];have kc:aT C L []:=by rw[b5];exact aT.app _ _ _
    have a3:ae L=ae C+1:=by rw[b5];simp
    clear b5;have U:=h.aQ kc aK;have bc:=hb.aQ kc aK;have xc:=hx.aQ kc aK;have ⟨s,A,M,f3,c5⟩:=U.aJ.live (fun h0=>by have B:=ZW ae h0;simp only[W4,XQ] at B;omega);have ⟨W,a,N,d0,R⟩:=U.cells.live (fun h0=>by have B:=ZW ae h0;simp only[W4,XQ] at B;have:=U.cl;omega);have d8:=U.cl;rw[W4] at M N;have ib:dV t z s := .inr ⟨.b,by simp only[ba.v,M];simp[aF]⟩;have ic:dV t z W := .inr ⟨.c,by simp only[ba.v,N];simp[aF]⟩;have tb:t≠s:=fun I=>U.top .b (by simp only[ba.v,M];simp[aF,I]);have b0:t≠W:=fun I=>U.top .c (by simp only[ba.v,N];simp[aF,I]);have b9:s≠W:=fun I=>U.sep .b .c aK s (by simp only[ba.v,M];simp[aF]) (by simp only[ba.v,N];simp[aF,I]);have xb:s≠ae H:=fun I=>xc.out (I ▸ ib);have f4:W≠ae H:=fun I=>xc.out (I ▸ ic);have bb:b≠s:=fun I=>bc.out (I ▸ ib);have f5:b≠W:=fun I=>bc.out (I ▸ ic);have j4:(s=ae H)=False:=Xh xb;have j5:(W=ae H)=False:=Xh f4;have c3:∀K,bq L t 0 K=K ⟨6,0,[[.q0 (X.n:Int),z.rv,.sl 1 s A 0 (ae X.aJ),z.vo,.sl 1 W a 0 (ae z.aX),z.vg]]⟩:=aP (by rw[U.bX,M,N]);have c2:=bc.eT;have c4:=xc.eT;refine Z4 c3 c2 c4 e1 ?_;refine kX (td c5 cE aK aD) (mQ c5) ?_;obtain ⟨G1,a4⟩:∃G1,G1=L.set s (ak (⟨1,A,aB (X.aJ.map ec) i++[.q0 0]::f3⟩:bC)):=⟨_,rfl⟩;have d1:aH G1 t 0=ak ⟨6,0,[[.q0 (X.n:Int),z.rv,.sl 1 s A 0 (ae X.aJ),z.vo,.sl 1 W a 0 (ae z.aX),z.vg]]⟩:=by rw[a4,aW (Xg tb),U.bX,M,N]
    have g5:∀K,bq G1 t 0 K=K ⟨6,0,[[.q0 (X.n:Int),z.rv,.sl 1 s A 0 (ae X.aJ),z.vo,.sl 1 W a 0 (ae z.aX),z.vg]]⟩:=aP d1;have e0:ae G1=ae C+1:=by rw[a4,Xa,a3]
    have h8:List.drop (ae C+1) G1=[]:=Xo aD;rw[<-a4];have k0:∀o,List.drop (ae C+1) (G1.set t o)=[]:=fun o=>Xo (by rw[Xa];omega);obtain ⟨G2,a5⟩:∃G2,G2=G1.set t (ak (⟨6,0,[[.q0 (X.n:Int),z.rv,.sl 1 s A 0 (ae X.aJ - 1),z.vo,.sl 1 W a 0 (ae z.aX),z.vg]]⟩:bC)):=⟨_,rfl⟩;have d2:aH G2 t 0=ak ⟨6,0,[[.q0 (X.n:Int),z.rv,.sl 1 s A 0 (ae X.aJ - 1),z.vo,.sl 1 W a 0 (ae z.aX),z.vg]]⟩:=by rw[a5];exact bz (aU d1)
    have g2:∀F,F≠t->F≠s->∀w,aH G2 F w=aH L F w:=fun F J B w=>by rw[a5,aW (Xg J),a4,aW (Xg B)]
    have g7:∀K,bq G2 (ae H) 0 K=K ⟨1,0,[[.ptr t 0 0 0]]⟩:=aP (by rw[g2 _ (Xg f0) (Xg xb)];exact xc.ob);have f8:∀K,bq G2 b 0 K=K ⟨1,0,[[.q0 (i:Int)]]⟩:=aP (by rw[g2 _ (Xg c0) bb];exact bc.ob);have g3:∀K,bq G2 t 0 K=K ⟨6,0,[[.q0 (X.n:Int),z.rv,.sl 1 s A 0 (ae X.aJ - 1),z.vo,.sl 1 W a 0 (ae z.aX),z.vg]]⟩:=aP d2;have a8:aH G2 W a=ak ⟨1,a,(z.aX.map fun v=>[v])++d0⟩:=by rw[g2 _ (Xg b0) (Xg b9)];exact R
    have e2:ae G2=ae C+1:=by rw[a5,Xa,e0]
    have h9:List.drop (ae C+1) G2=[]:=Xo aD;simp only[go_sem,↓reduceIte,Nat.reduceLeDiff,Xb,g5,h8,a3,e0,j4,fL,Zm,aaf,X6,XD,Yi,YG,ZM,aF,<-a5,g7,f8,g3,e1,h9,e2];refine kX (yZ a8 cE aK aD) (mQ a8) ?_;obtain ⟨G3,a1⟩:∃G3,G3=G2.set W (ak (⟨1,a,aB (z.aX.map fun v=>[v]) i++[.nil]::d0⟩:bC)):=⟨_,rfl⟩;have d3:aH G3 t 0=ak ⟨6,0,[[.q0 (X.n:Int),z.rv,.sl 1 s A 0 (ae X.aJ - 1),z.vo,.sl 1 W a 0 (ae z.aX),z.vg]]⟩:=by rw[a1,aW (Xg b0),d2]
    have d6:∀K,bq G3 t 0 K=K ⟨6,0,[[.q0 (X.n:Int),z.rv,.sl 1 s A 0 (ae X.aJ - 1),z.vo,.sl 1 W a 0 (ae z.aX),z.vg]]⟩:=aP d3;have c6:ae G3=ae C+1:=by rw[a1,Xa,e2]
    have i0:List.drop (ae C+1) G3=[]:=Xo aD;have k1:∀o,List.drop (ae C+1) (G3.set t o)=[]:=fun o=>Xo (by rw[Xa];omega);rw[<-a1];obtain ⟨V,O⟩:∃V,V=G3.set t (ak (⟨6,0,[[.q0 (X.n:Int),z.rv,.sl 1 s A 0 (ae X.aJ - 1),z.vo,.sl 1 W a 0 (ae z.aX - 1),z.vg]]⟩:bC)):=⟨_,rfl⟩;have d4:aH V t 0=ak ⟨6,0,[[.q0 (X.n:Int),z.rv,.sl 1 s A 0 (ae X.aJ - 1),z.vo,.sl 1 W a 0 (ae z.aX - 1),z.vg]]⟩:=by rw[O];exact bz (aU d3)
    have g4:∀F,F≠t->F≠s->F≠W->∀w,aH V F w=aH L F w:=fun F J B h3 w=>by rw[O,aW (Xg J),a1,aW (Xg h3),g2 F J B]
    have f6:aH V s A=ak ⟨1,A,aB (X.aJ.map ec) i++[.q0 0]::f3⟩:=by rw[O,aW tb,a1,aW (Xg b9),a5,aW tb,a4,bz (aU c5)]
    have f7:aH V W a=ak ⟨1,a,aB (z.aX.map fun v=>[v]) i++[.nil]::d0⟩:=by rw[O,aW b0,a1,bz (aU a8)]
    have k4:aT L V [t,s,W]:=⟨by rw[O,Xa,c6,a3];exact WY _,fun F _ B w=>by simp at B;exact g4 F B.1 B.2.1 B.2.2 w⟩;have t4:=U.Ot hi d7 M (by rw[N,d8]) (by rw[d8] at d4;exact d4) f6 f7 k4;have f9:∀K,bq V b 0 K=K ⟨1,0,[[.q0 (i:Int)]]⟩:=aP (by rw[g4 _ (Xg c0) bb f5];exact bc.ob);have e5:au .i64 ((i:Int) - 1)=(i:Int) - 1:=wrap_i64 aD aD;have e6:au .i64 ((i:Int) - 1+1)=(i:Int):=by rw[wrap_i64 (by omega) (by omega)];omega
    have g9:b < ae V:=dp k4.1;obtain ⟨G5,b3⟩:∃G5,G5=V.set b (ak (⟨1,0,[[.q0 ((i:Int) - 1)]]⟩:bC)):=⟨_,rfl⟩;have g1:∀K,bq G5 b 0 K=K ⟨1,0,[[.q0 ((i:Int) - 1)]]⟩:=aP (by rw[b3];exact bz g9);have kb:aT V G5 [b]:=⟨by rw[b3];simp,fun F _ B w=>by simp at B;rw[b3];exact aW (Xg B)⟩;have d9:List.drop (ae G2) G3=[]:=Xo aD;have i5:ae V=ae C+1:=by rw[O,Xa,c6]
    have i1:List.drop (ae C+1) V=[]:=Xo aD;simp only[go_sem,↓reduceIte,Nat.reduceLeDiff,WY,Xb,d6,i0,c6,j5,fL,Zm,aaf,X6,XD,Yi,YG,ZM,aF,<-O,f9,e5,<-b3,g1,d9,i5,i1,e6];have o4:bp L V t z {z with vb := .sl 1 s A 0 (ae X.aJ - 1),vc := .sl 1 W a 0 (ae X.cells - 1),aX:=aB z.aX i}:=by
     refine ⟨k4.1,fun F J B w=>k4.2 F J (by simp;exact ⟨fun I=>B (.inl I),fun I=>B (I ▸ ib),fun I=>B (I ▸ ic)⟩) w,?_⟩;rintro F (rfl | ⟨q,hq⟩)
     .exact .inl (.inl rfl)
     .left;right;cases q with
      | b=>exact ⟨.b,by simp only[ba.v,M] at hq ⊢;simpa[aF] using hq⟩
      | o=>exact ⟨.o,hq⟩
      | c=>exact ⟨.c,by simp only[ba.v,N] at hq ⊢;simpa[aF] using hq⟩
      | g=>exact ⟨.g,hq⟩
      | r j =>
       simp only[ba.v,getD_erase] at hq;split at hq
       .exact ⟨.r j,hq⟩
       .exact ⟨.r (j+1),hq⟩
    have b4:=bc.eX o4;have x4:=xc.eX o4;exact next G5 _ _ i ⟨_,YD _,h5⟩ (t4.aQ kb (fun F S hm=>by simp at hm;exact b4.out (hm ▸ S))) (((ho.trans (bp.aQ kc)).trans o4).own kb hb.new) (x4.aQ kb (bk (Xg i9)))
 .have k3:ae X.cells<=i:=aD;cases hd with
  | done _ _ =>
   refine Z ?_;exact ⟨z,ho,rfl,h⟩
  | skip _ J _ _=>omega
  | Hy _ J _ _ _ _=>omega
  | bad _ J _ _ _=>omega
  | drop _ J _ _ _ _=>omega
section
variable {e:Env}
end
def bp.put (k:aT H y ids) (z:∀id,id∈ids->dV t D id\/ae H<=id) (a:∀id,dV t D' id->dV t D id\/ae H<=id):bp H y t D D' :=
 ⟨k.1,fun id x c w=>k.2 id x (fun b=>(z id b).elim c (fun h=>aD)) w,a⟩
def ig (t:Nat) (D:ba) (s:Slot) (a:Nat):Prop:=a∈aF (D.v s)\/¬dV t D a
def ig.ne (h:bG H t D T) (y:ig t D s a) (z:s'≠s):a∉aF (D.v s'):=by
 intro x;rcases y with k | k
 .exact h.sep s' s z a x k
 .exact k (.inr ⟨s',x⟩)
def ig.nt (h:bG H t D T) (x:ig t D s a):a≠t:=by
 rintro rfl;rcases x with k | k
 .exact h.top s k
 .exact k (.inl rfl)
def yM {H:aE} {t a:Nat} {D D':ba} {T:Tab} {s0:Slot} (h:bG H t D T) (f:ig t D s0 a) (b:∀s,s≠s0->D'.v s=D.v s) (c:∀id,id∈aF (D'.v s0)->id=a) :
  (∀s,t∉aF (D'.v s))/\(∀s s',s≠s'->∀id,id∈aF (D'.v s)->id∉aF (D'.v s')):=by
 refine ⟨fun s g=>?_,fun s s' y id x k=>?_⟩
 .by_cases z:s=s0
  .subst z;exact f.nt h (c t g).symm
  .rw[b s z] at g;exact h.top s g
 .by_cases z:s=s0
  .subst z;have:=c id x;subst this;rw[b s' (Xg y)] at k;exact f.ne h (Xg y) k
  .rw[b s z] at x;by_cases w:s'=s0
   .subst w;have:=c id k;subst this;exact f.ne h z x
   .rw[b s' w] at k;exact h.sep s s' y id x k
def lL (x:∀s,s≠s0->D'.v s=D.v s) (y:∀id,id∈aF (D'.v s0)->id=a) (z:dV t D a\/n<=a):∀id,dV t D' id->dV t D id\/n<=id:=by
 rintro id (rfl | ⟨s,h⟩)
 .exact .inl (.inl rfl)
 .by_cases k:s=s0
  .subst k;rw[y id h];exact z
  .rw[x s k] at h;exact .inl (.inr ⟨s,h⟩)
def bG.GG (h:bG H t D T) (j:ig t D .g a) (q:n=ae l)
  (K:aH z t 0=ak ⟨6,0,[[.q0 (T.n:Int),D.rv,D.vb,D.vo,D.vc,.sl 4 a ver 0 n]]⟩) (f:SlL z 4 a ver (l.map qC)) (x:aT H z [t,a]):bG z t {D with vg := .sl 4 a ver 0 n} {T with aN:=l}:=by
 have bU:∀s,s ≠ .g->∀y,y∈aF (D.v s)->y∉[t,a]:=fun s w y k m=>by
  simp at m;rcases m with rfl | rfl
  .exact h.top s k
  .exact j.ne h w k
 have ⟨X,W⟩:=yM (D':={D with vg := .sl 4 a ver 0 n}) h j (fun s f=>by cases s<;>first | rfl | exact absurd rfl f) (fun y k=>by simpa[ba.v,aF] using k);exact ⟨K,h.aI.aQ x (fun y k=>by rw[h.iv] at k;simp at k),h.iv,h.aJ.aQ x (bU .b aK),h.out.aQ x (bU .o aK),h.cells.aQ x (bU .c aK),h.cl,fun i p=>(h.rws i p).aQ x (bU (.r i) aK),.of (f.cr (bk q)),⟨h.live.1,oJ⟩,X,W⟩
def bG.EX (h:bG H t D T) (j:ig t D .o a) (q:n=ae l)
  (K:aH z t 0=ak ⟨6,0,[[.q0 (T.n:Int),D.rv,D.vb,.sl 1 a ver 0 n,D.vc,D.vg]]⟩) (f:SlL z 1 a ver (l.map ec)) (x:aT H z [t,a]):bG z t {D with vo := .sl 1 a ver 0 n} {T with out:=l}:=by
 have bU:∀s,s ≠ .o->∀y,y∈aF (D.v s)->y∉[t,a]:=fun s w y k m=>by
  simp at m;rcases m with rfl | rfl
  .exact h.top s k
  .exact j.ne h w k
 have ⟨X,W⟩:=yM (D':={D with vo := .sl 1 a ver 0 n}) h j (fun s f=>by cases s<;>first | rfl | exact absurd rfl f) (fun y k=>by simpa[ba.v,aF] using k);exact ⟨K,h.aI.aQ x (fun y k=>by rw[h.iv] at k;simp at k),h.iv,h.aJ.aQ x (bU .b aK),.inr ⟨a,ver,by rw[q];simp,f⟩,h.cells.aQ x (bU .c aK),h.cl,fun i p=>(h.rws i p).aQ x (bU (.r i) aK),h.aN.aQ x (bU .g aK),h.live,X,W⟩
def bG.EW (h:bG H t D T) (j:ig t D .b a) (q:n=ae l)
  (K:aH z t 0=ak ⟨6,0,[[.q0 (T.n:Int),D.rv,.sl 1 a ver 0 n,D.vo,D.vc,D.vg]]⟩) (f:SlL z 1 a ver (l.map ec)) (x:aT H z [t,a]):bG z t {D with vb := .sl 1 a ver 0 n} {T with aJ:=l}:=by
 have bU:∀s,s ≠ .b->∀y,y∈aF (D.v s)->y∉[t,a]:=fun s w y k m=>by
  simp at m;rcases m with rfl | rfl
  .exact h.top s k
  .exact j.ne h w k
 have ⟨X,W⟩:=yM (D':={D with vb := .sl 1 a ver 0 n}) h j (fun s f=>by cases s<;>first | rfl | exact absurd rfl f) (fun y k=>by simpa[ba.v,aF] using k);exact ⟨K,h.aI.aQ x (fun y k=>by rw[h.iv] at k;simp at k),h.iv,.inr ⟨a,ver,by rw[q];simp,f⟩,h.out.aQ x (bU .o aK),h.cells.aQ x (bU .c aK),h.cl,fun i p=>(h.rws i p).aQ x (bU (.r i) aK),h.aN.aQ x (bU .g aK),h.live,X,W⟩
def dd {α:Type} {l:List α} {i j:Nat} {x d:α} (h:i≠j):af (l.set j x) i d=af l i d:=by simp[af,XS (Xg h)]
def dS {α:Type} {l:List α} {j:Nat} {x d:α} (h:j < ae l):af (l.set j x) j d=x:=by simp[af,h]
def bG.JG (h:bG H t D T) (E:r < ae T.cells) (q:ig t D (.r r) a) (C:n=ae l) (A:D.vc = .sl 1 ca cver 0 (ae D.aX))
  (W:SlL f 4 a ver (l.map qC)) (B:SlL f 1 ca cver ((D.aX.map fun v=>[v]).set r [.sl 4 a ver 0 n])) (w:aT H f [a,ca]):bG f t {D with aX:=D.aX.set r (.sl 4 a ver 0 n)} {T with cells:=T.cells.set r l}:=by
 have j:ca∈aF (D.v .c):=by simp only[ba.v,A];simp[aF]
 have y:=h.cl ▸ E;have L:∀s,s ≠ .r r->({D with aX:=D.aX.set r (.sl 4 a ver 0 n)}:ba).v s=D.v s:=by
  intro s W;cases s with
  | r i =>
   have:i≠r:=bk W;simp only[ba.v];exact dd this
  | _=>rfl
 have J:({D with aX:=D.aX.set r (.sl 4 a ver 0 n)}:ba).v (.r r) = .sl 4 a ver 0 n:=by simp only[ba.v];exact dS y
 have bU:∀s,s ≠ .r r->s ≠ .c->∀p,p∈aF (D.v s)->p∉[a,ca]:=fun s X K p k m=>by
  simp at m;rcases m with rfl | rfl
  .exact q.ne h X k
  .exact h.sep s .c K _ k j
 have ⟨G,I⟩:=yM (D':={D with aX:=D.aX.set r (.sl 4 a ver 0 n)}) h q L (fun p k=>by rw[J] at k;simpa[aF] using k);have F:t∉[a,ca]:=by
  intro m;simp at m;rcases m with x | x
  .exact q.nt h x.symm
  .exact h.top .c (x ▸ j)
 refine ⟨?_,h.aI.aQ w (fun p k=>by rw[h.iv] at k;simp at k),h.iv,h.aJ.aQ w (bU .b aK aK),h.out.aQ w (bU .o aK aK),.inr ⟨ca,cver,?_,?_⟩,bk h.cl,fun i z=>?_,h.aN.aQ w (bU .g aK aK),⟨fun i z=>?_,h.live.2⟩,G,I⟩
 .show aH f t 0=ak ⟨6,0,[[.q0 (T.n:Int),D.rv,D.vb,D.vo,D.vc,D.vg]]⟩;rw[w.2 t (aU h.bX) F];exact h.bX
 .show D.vc=_;rw[A];simp
 .rw[<-Yp] at B;exact B
 .simp only[Xa] at z;show SlV f 4 (af (D.aX.set r (.sl 4 a ver 0 n)) i .aY) ((af (T.cells.set r l) i []).map qC);by_cases x:i=r
  .subst x;rw[dS y,dS z];exact W.cr (bk C)
  .rw[dd x,dd x];exact (h.rws i z).aQ w (bU (.r i) (bk x) aK)
 .simp only[Xa] at z;show ru (af (D.aX.set r (.sl 4 a ver 0 n)) i .aY) (af (T.cells.set r l) i []);by_cases x:i=r
  .subst x;rw[dS y];exact oJ
  .rw[dd x,dd x];exact h.live.1 i z
def Tab.lS (T:Tab) (i:Nat):Tab:={T with aJ:=aB T.aJ i,cells:=aB T.cells i,aN:=af T.cells i []}
def Slot.sg (i:Nat):Slot->Slot
 | .r j => .r (if j < i then j else j+1)
 | .g => .r i
 | s=>s
def Slot.O4 {i:Nat} {s s':Slot} (h:s.sg i=s'.sg i):s=s':=by
 cases s<;>cases s'<;>simp only[Slot.sg,Slot.r.injEq,reduceCtorEq] at h ⊢
 .split at h<;>omega
 .split at h<;>omega
 .split at h<;>split at h<;>omega
def bG.lS (h:bG H t D T) (f:i < ae T.cells) (I:ae T.aJ=ae T.cells)
  (B:D.vb = .sl 1 y k 0 (ae T.aJ)) (C:D.vc = .sl 1 z cver 0 (ae T.cells))
  (L:aH p t 0=ak ⟨6,0,[[.q0 (T.n:Int),D.rv,.sl 1 y k 0 (ae T.aJ - 1),D.vo,.sl 1 z cver 0 (ae T.cells - 1),af D.aX i .aY]]⟩)
  (q:aH p y k=ak ⟨1,k,aB (T.aJ.map ec) i++O::W⟩) (K:aH p z cver=ak ⟨1,cver,aB (D.aX.map fun v=>[v]) i++R::A⟩) (m:aT H p [t,y,z]) :
  bG p t {D with vb := .sl 1 y k 0 (ae T.aJ - 1),vc := .sl 1 z cver 0 (ae T.cells - 1),vg:=af D.aX i .aY,aX:=aB D.aX i} (T.lS i):=by
 have M:y∈aF (D.v .b):=by simp only[ba.v,B];simp[aF]
 have N:z∈aF (D.v .c):=by simp only[ba.v,C];simp[aF]
 have a:=h.cl;have bU:∀s,s ≠ .b->s ≠ .c->∀w,w∈aF (D.v s)->w∉[t,y,z]:=by
  intro s F G w x E;simp at E;rcases E with rfl | rfl | rfl
  .exact h.top s x
  .exact h.sep s .b F _ x M
  .exact h.sep s .c G _ x N
 have hv:∀s,aF (({D with vb := .sl 1 y k 0 (ae T.aJ - 1),vc := .sl 1 z cver 0 (ae T.cells - 1),vg:=af D.aX i .aY,aX:=aB D.aX i}:ba).v s)=aF (D.v (s.sg i)):=by
  intro s;cases s with
  | b=>simp only[ba.v,B,Slot.sg];rfl
  | o=>rfl
  | c=>simp only[ba.v,C,Slot.sg];rfl
  | g=>rfl
  | r j=>simp only[ba.v,getD_erase,Slot.sg];split<;>rfl
 refine ⟨L,h.aI.aQ m (fun w x=>by rw[h.iv] at x;simp at x),h.iv,.inr ⟨y,k,?_,O::W,?_⟩,h.out.aQ m (bU .o aK aK),.inr ⟨z,cver,?_,R::A,?_⟩,?_,fun j l=>?_,.of ((h.rws i f).aQ m (bU (.r i) aK aK)),⟨fun j l=>?_,h.live.1 i f⟩,fun s=>?_,fun s S X w x=>?_⟩
 .simp only[Tab.lS,W4,Xt (show i < ae T.aJ by omega)]
 .simp only[Tab.lS];rw[<-lf];exact q
 .simp only[W4,Xt (show i < ae D.aX by omega),a]
 .simp only;rw[<-lf];exact K
 .simp only[Tab.lS];rw[Xt (by omega),Xt f,a]
 .simp only[Tab.lS] at l ⊢;rw[Xt f] at l;rw[getD_erase,getD_erase];split
  .exact (h.rws j aD).aQ m (bU (.r j) aK aK)
  .exact (h.rws (j+1) aD).aQ m (bU (.r (j+1)) aK aK)
 .simp only[Tab.lS] at l ⊢;rw[Xt f] at l;rw[getD_erase,getD_erase];split
  .exact h.live.1 j aD
  .exact h.live.1 (j+1) aD
 .rw[hv];exact h.top _
 .rw[hv] at x ⊢;exact h.sep _ _ (fun J=>X (Slot.O4 J)) w x
def Tab.cO (T:Tab) (i k:Nat):Tab:={T.lS i with out:=aB T.out k,aN:=aB (af T.cells i []) (k+1),cells:=(aB T.cells i).map fun r=>aB r (k+1)}
def iX (cs:List (List Q)) (k c:Nat):List (List Q):=(cs.take c).map (fun r=>aB r (k+1))++cs.drop c
def Cm:ae (iX cs k c)=ae cs:=by simp[iX];omega
def IN (h:c < ae cs):af (iX cs k c) c []=af cs c []:=by unfold iX;simp only[af];rw[Xk cE];simp[XV (aa5 h)]
def Hs (h:c < ae cs):iX cs k (c+1)=(iX cs k c).set c (aB (af cs c []) (k+1)):=by
 unfold iX;have e:af cs c []=cs[c]:=by simp[af,h]
 have x:cs.take (c+1)=cs.take c++[cs[c]]:=by simp[h]
 rw[ZE _ _ (by simp;omega),e,x,Xu,XC,show c - ae ((cs.take c).map fun r=>aB r (k+1))=0 by simp;omega];have y:=XA h;rw[y,ZP];rfl
def IM:iX cs k (ae cs)=cs.map fun r=>aB r (k+1):=by simp[iX]
def Ht:iX cs k 0=cs:=by simp[iX]
def M9 (h:bG H t D T) (hw:eg T) (ho:bp H0 H t D0 D) (hx:gk H0 H t D x (.ptr t 0 0 0)) (hk:k < ae T.out) (hi:i < ae T.cells) :
  WP prog K kE (ky [.t 2,.t 3] (r8 H0 t D0 (T.cO i k) an)) [(1,.ptr x 0 0 0),(17,.q0 (k:Int)),(18,.q0 (i:Int))] H:=by
 refine uz ?_;have o9:=hw.wl;have o8:=hw.ml;have m7:=hw.bl;have F:=hw.row;have p0:=hx.lt;have n5:=aU h.bX;have O:x≠t:=fun E=>hx.out (.inl E);have ⟨A,p,R,c9,m6⟩:=h.aJ.live (fun h0=>by have B:=ZW ae h0;simp only[W4,XQ] at B;omega);have ⟨z,cver,J,g0,m8⟩:=h.cells.live (fun h0=>by have B:=ZW ae h0;simp only[W4,XQ] at B;have:=h.cl;omega);have ⟨X,cn,a7,g1,k2⟩:=h.out.live (fun h0=>by have B:=ZW ae h0;simp only[W4,XQ] at B;omega);have ⟨W,f,L,g2,k4⟩:=(h.rws i hi).uV ((h.live.1 i hi).2 (by rw[F i hi];omega));have b2:=h.cl;rw[W4] at R J a7 L;rw[F i hi] at L;have ib:dV t D A := .inr ⟨.b,by simp only[ba.v,R];simp[aF]⟩;have ic:dV t D z := .inr ⟨.c,by simp only[ba.v,J];simp[aF]⟩;have io:dV t D X := .inr ⟨.o,by simp only[ba.v,a7];simp[aF]⟩;have ir:dV t D W := .inr ⟨.r i,by simp only[ba.v,L];simp[aF]⟩;have tb:A≠t:=fun E=>h.top .b (by simp only[ba.v,R];simp[aF,E]);have tc:z≠t:=fun E=>h.top .c (by simp only[ba.v,J];simp[aF,E]);have to:X≠t:=fun E=>h.top .o (by simp only[ba.v,a7];simp[aF,E]);have tr:W≠t:=fun E=>h.top (.r i) (by simp only[ba.v,L];simp[aF,E]);have bc:A≠z:=fun E=>h.sep .b .c aK A (by simp only[ba.v,R];simp[aF]) (by simp only[ba.v,J];simp[aF,E]);have xb:A≠x:=fun E=>hx.out (E ▸ ib);have xc:z≠x:=fun E=>hx.out (E ▸ ic);have xo:X≠x:=fun E=>hx.out (E ▸ io);have xr:W≠x:=fun E=>hx.out (E ▸ ir);have n7:(A=x)=False:=Xh xb;have n8:(z=x)=False:=Xh xc;have n9:(X=x)=False:=Xh xo;have o0:(W=x)=False:=Xh xr;have ei:=ws i;have ek:=ws k;have l9:au .i64 ((k:Int)+2)=((k+1+1:Nat):Int):=by rw[wrap_i64 (by omega) (by omega)];omega
 have hT:∀K,bq H t 0 K=K ⟨6,0,[[.q0 (T.n:Int),D.rv,.sl 1 A p 0 (ae T.aJ),.sl 1 X cn 0 (ae T.out),.sl 1 z cver 0 (ae D.aX),D.vg]]⟩:=aP (by rw[h.bX,J,R,a7]);have hX:=hx.eT;have n0:(D.aX.map fun v=>[v])[i]?=ak [af D.aX i .aY]:=by simp[af,show i < ae D.aX by rw[b2];exact hi]
 have ⟨p3,r1,r2⟩:=h.cells.cr.read n0;rw[J] at r1;rw[L] at r2;obtain ⟨GA,c7⟩:∃GA,GA=H.set t (ak (⟨6,0,[[.q0 (T.n:Int),D.rv,.sl 1 A p 0 (ae T.aJ),.sl 1 X cn 0 (ae T.out),.sl 1 z cver 0 (ae D.aX),.sl 4 W f 0 (ae T.out+1)]]⟩:bC)):=⟨_,rfl⟩;have ga:∀id,id≠t->∀w,aH GA id w=aH H id w:=fun id U w=>by rw[c7,aW (Xg U)]
 have g5:aH GA t 0=ak ⟨6,0,[[.q0 (T.n:Int),D.rv,.sl 1 A p 0 (ae T.aJ),.sl 1 X cn 0 (ae T.out),.sl 1 z cver 0 (ae D.aX),.sl 4 W f 0 (ae T.out+1)]]⟩:=by rw[c7,bz n5]
 have g4:ae GA=ae H:=by rw[c7,Xa]
 have l0:aH GA x 0=ak ⟨1,0,[[.ptr t 0 0 0]]⟩:=by rw[ga x O];exact hx.ob
 have m5:∀K,bq GA x 0 K=K ⟨1,0,[[.ptr t 0 0 0]]⟩:=aP (by rw[ga x O];exact hx.ob);have m4:∀K,bq GA t 0 K=K ⟨6,0,[[.q0 (T.n:Int),D.rv,.sl 1 A p 0 (ae T.aJ),.sl 1 X cn 0 (ae T.out),.sl 1 z cver 0 (ae D.aX),.sl 4 W f 0 (ae T.out+1)]]⟩:=aP g5;simp only[go_sem,↓reduceIte,WY,Xb,hX,hT,r1,r2,<-c7,m5,m4,ei];have f4:aH GA A p=ak ⟨1,p,(T.aJ.map ec)++c9⟩:=by rw[ga A tb];exact m6
 refine kX (td (n:=ae T.aJ) (i:=i) f4 cE aK aD) (mQ f4) ?_;obtain ⟨V,a3⟩:∃V,V=GA.set A (ak (⟨1,p,aB (T.aJ.map ec) i++[.q0 0]::c9⟩:bC)):=⟨_,rfl⟩;have d0:aH V t 0=ak ⟨6,0,[[.q0 (T.n:Int),D.rv,.sl 1 A p 0 (ae T.aJ),.sl 1 X cn 0 (ae T.out),.sl 1 z cver 0 (ae D.aX),.sl 4 W f 0 (ae T.out+1)]]⟩:=by rw[a3,aW tb];exact g5
 have j2:∀K,bq V t 0 K=K ⟨6,0,[[.q0 (T.n:Int),D.rv,.sl 1 A p 0 (ae T.aJ),.sl 1 X cn 0 (ae T.out),.sl 1 z cver 0 (ae D.aX),.sl 4 W f 0 (ae T.out+1)]]⟩:=aP d0;have h3:ae V=ae H:=by rw[a3,Xa,g4]
 obtain ⟨S,b4⟩:∃S,S=V.set t (ak (⟨6,0,[[.q0 (T.n:Int),D.rv,.sl 1 A p 0 (ae T.aJ - 1),.sl 1 X cn 0 (ae T.out),.sl 1 z cver 0 (ae D.aX),.sl 4 W f 0 (ae T.out+1)]]⟩:bC)):=⟨_,rfl⟩;have h4:aH S t 0=ak ⟨6,0,[[.q0 (T.n:Int),D.rv,.sl 1 A p 0 (ae T.aJ - 1),.sl 1 X cn 0 (ae T.out),.sl 1 z cver 0 (ae D.aX),.sl 4 W f 0 (ae T.out+1)]]⟩:=by rw[b4,bz (aU d0)]
 have e5:ae S=ae H:=by rw[b4,Xa,h3]
 have c3:∀id,id≠t->id≠A->∀w,aH S id w=aH GA id w:=fun id U B w=>by rw[b4,aW (Xg U),a3,aW (Xg B)]
 have l1:aH S A p=ak ⟨1,p,aB (T.aJ.map ec) i++[.q0 0]::c9⟩:=by rw[b4,aW (Xg tb),a3,bz (aU f4)]
 have o2:aT GA S [t,A]:=⟨by rw[e5,g4];exact WY _,fun id _ B w=>by simp at B;exact c3 id B.1 B.2 w⟩;have g7:List.drop (ae GA) V=[]:=Xo aD;have g8:List.drop (ae V) S=[]:=Xo aD;have g9:(ae S=ae GA)=True:=XO aD;have g6:aH S x 0=ak ⟨1,0,[[.ptr t 0 0 0]]⟩:=by rw[c3 x O (Xg xb)];exact l0
 have j3:∀K,bq S x 0 K=K ⟨1,0,[[.ptr t 0 0 0]]⟩:=aP g6;have f1:∀K,bq S t 0 K=K ⟨6,0,[[.q0 (T.n:Int),D.rv,.sl 1 A p 0 (ae T.aJ - 1),.sl 1 X cn 0 (ae T.out),.sl 1 z cver 0 (ae D.aX),.sl 4 W f 0 (ae T.out+1)]]⟩:=aP h4;rw[<-a3];simp only[go_sem,↓reduceIte,Nat.reduceLeDiff,Xb,fL,Zm,aaf,X6,XD,Yi,YG,ZM,aF,j2,<-b4,g7,g8,g9,n7,j3,f1,ei];have f5:aH S z cver=ak ⟨1,cver,(D.aX.map fun v=>[v])++g0⟩:=by rw[c3 z tc (Xg bc),ga z tc];exact m8
 refine kX (yZ (n:=ae D.aX) (i:=i) f5 cE aK aD) (mQ f5) ?_;obtain ⟨a0,a4⟩:∃a0,a0=S.set z (ak (⟨1,cver,aB (D.aX.map fun v=>[v]) i++[.nil]::g0⟩:bC)):=⟨_,rfl⟩;have d1:aH a0 t 0=ak ⟨6,0,[[.q0 (T.n:Int),D.rv,.sl 1 A p 0 (ae T.aJ - 1),.sl 1 X cn 0 (ae T.out),.sl 1 z cver 0 (ae D.aX),.sl 4 W f 0 (ae T.out+1)]]⟩:=by rw[a4,aW tc];exact h4
 have j4:∀K,bq a0 t 0 K=K ⟨6,0,[[.q0 (T.n:Int),D.rv,.sl 1 A p 0 (ae T.aJ - 1),.sl 1 X cn 0 (ae T.out),.sl 1 z cver 0 (ae D.aX),.sl 4 W f 0 (ae T.out+1)]]⟩:=aP d1;have h9:ae a0=ae H:=by rw[a4,Xa,e5]
 obtain ⟨I,b5⟩:∃I,I=a0.set t (ak (⟨6,0,[[.q0 (T.n:Int),D.rv,.sl 1 A p 0 (ae T.aJ - 1),.sl 1 X cn 0 (ae T.out),.sl 1 z cver 0 (ae D.aX - 1),.sl 4 W f 0 (ae T.out+1)]]⟩:bC)):=⟨_,rfl⟩;have e6:aH I t 0=ak ⟨6,0,[[.q0 (T.n:Int),D.rv,.sl 1 A p 0 (ae T.aJ - 1),.sl 1 X cn 0 (ae T.out),.sl 1 z cver 0 (ae D.aX - 1),.sl 4 W f 0 (ae T.out+1)]]⟩:=by rw[b5,bz (aU d1)]
 have c4:ae I=ae H:=by rw[b5,Xa,h9]
 have c5:∀id,id≠t->id≠z->∀w,aH I id w=aH S id w:=fun id U B w=>by rw[b5,aW (Xg U),a4,aW (Xg B)]
 have l2:aH I z cver=ak ⟨1,cver,aB (D.aX.map fun v=>[v]) i++[.nil]::g0⟩:=by rw[b5,aW (Xg tc),a4,bz (aU f5)]
 have o3:aT S I [t,z]:=⟨by rw[c4,e5];exact WY _,fun id _ B w=>by simp at B;exact c5 id B.1 B.2 w⟩;have h6:List.drop (ae S) a0=[]:=Xo aD;have h7:List.drop (ae a0) I=[]:=Xo aD;have h8:(ae I=ae S)=True:=XO aD;have h5:aH I x 0=ak ⟨1,0,[[.ptr t 0 0 0]]⟩:=by rw[c5 x O (Xg xc)];exact g6
 have j5:∀K,bq I x 0 K=K ⟨1,0,[[.ptr t 0 0 0]]⟩:=aP h5;have f2:∀K,bq I t 0 K=K ⟨6,0,[[.q0 (T.n:Int),D.rv,.sl 1 A p 0 (ae T.aJ - 1),.sl 1 X cn 0 (ae T.out),.sl 1 z cver 0 (ae D.aX - 1),.sl 4 W f 0 (ae T.out+1)]]⟩:=aP e6;rw[<-a4];simp only[go_sem,↓reduceIte,Nat.reduceLeDiff,Xb,fL,Zm,aaf,X6,XD,Yi,YG,ZM,aF,j4,<-b5,h6,h7,h8,n8,j5,f2,ek];have l3:aH I A p=ak ⟨1,p,aB (T.aJ.map ec) i++[.q0 0]::c9⟩:=by rw[c5 A tb bc];exact l1
 have AP:aT H I [t,A,z]:=⟨by rw[c4];exact WY _,fun id _ B w=>by simp at B;rw[c5 id B.1 B.2.2,c3 id B.1 B.2.1,ga id B.1]⟩;have c0:=h.lS hi m7 R (by rw[J,b2]) (by rw[e6,L,b2,a7]) l3 l2 AP;obtain ⟨DC,a8⟩:∃DC:ba,DC={D with vb := .sl 1 A p 0 (ae T.aJ - 1),vc := .sl 1 z cver 0 (ae T.cells - 1),vg:=af D.aX i .aY,aX:=aB D.aX i}:=⟨_,rfl⟩;rw[<-a8] at c0;have e2:bp H I t D DC:=by
  refine bp.put AP (by rintro id C;simp at C;rcases C with rfl | rfl | rfl;exact .inl (.inl rfl);exact .inl ib;exact .inl ic) ?_;rintro id (rfl | ⟨q,hq⟩)
  .exact .inl (.inl rfl)
  .left;right;rw[a8] at hq;cases q with
   | b=>exact ⟨.b,by simp only[ba.v,R] at hq ⊢;simpa[aF] using hq⟩
   | o=>exact ⟨.o,hq⟩
   | c=>exact ⟨.c,by simp only[ba.v,J] at hq ⊢;simpa[aF] using hq⟩
   | g=>exact ⟨.r i,hq⟩
   | r j =>
    simp only[ba.v,getD_erase] at hq;split at hq
    .exact ⟨.r j,hq⟩
    .exact ⟨.r (j+1),hq⟩
 have c2:DC.vo = .sl 1 X cn 0 (ae T.out):=by rw[a8];exact a7
 have b3:DC.vg = .sl 4 W f 0 (ae T.out+1):=by rw[a8];exact L
 have n6:X≠W:=fun E=>c0.sep .o .g aK X (by simp only[ba.v,c2];simp[aF]) (by simp only[ba.v,b3];simp[aF,E]);have f7:aH I X cn=ak ⟨1,cn,(T.out.map ec)++g1⟩:=by
  have:X∉[t,A,z]:=by simp only[X3,Yb,ZB,not_or];exact ⟨to,fun E=>h.sep .o .b aK X (by simp only[ba.v,a7];simp[aF]) (by simp only[ba.v,R];simp[aF,E]),fun E=>h.sep .o .c aK X (by simp only[ba.v,a7];simp[aF]) (by simp only[ba.v,J];simp[aF,E])⟩
  rw[AP.2 X (aU k2) this];exact k2
 refine kX (td (n:=ae T.out) (i:=k) f7 cE aK aD) (mQ f7) ?_;obtain ⟨a1,a5⟩:∃a1,a1=I.set X (ak (⟨1,cn,aB (T.out.map ec) k++[.q0 0]::g1⟩:bC)):=⟨_,rfl⟩;have d2:aH a1 t 0=ak ⟨6,0,[[.q0 (T.n:Int),D.rv,.sl 1 A p 0 (ae T.aJ - 1),.sl 1 X cn 0 (ae T.out),.sl 1 z cver 0 (ae D.aX - 1),.sl 4 W f 0 (ae T.out+1)]]⟩:=by rw[a5,aW to];exact e6
 have j6:∀K,bq a1 t 0 K=K ⟨6,0,[[.q0 (T.n:Int),D.rv,.sl 1 A p 0 (ae T.aJ - 1),.sl 1 X cn 0 (ae T.out),.sl 1 z cver 0 (ae D.aX - 1),.sl 4 W f 0 (ae T.out+1)]]⟩:=aP d2;have i5:ae a1=ae H:=by rw[a5,Xa,c4]
 obtain ⟨N,b6⟩:∃N,N=a1.set t (ak (⟨6,0,[[.q0 (T.n:Int),D.rv,.sl 1 A p 0 (ae T.aJ - 1),.sl 1 X cn 0 (ae T.out - 1),.sl 1 z cver 0 (ae D.aX - 1),.sl 4 W f 0 (ae T.out+1)]]⟩:bC)):=⟨_,rfl⟩;have e9:aH N t 0=ak ⟨6,0,[[.q0 (T.n:Int),D.rv,.sl 1 A p 0 (ae T.aJ - 1),.sl 1 X cn 0 (ae T.out - 1),.sl 1 z cver 0 (ae D.aX - 1),.sl 4 W f 0 (ae T.out+1)]]⟩:=by rw[b6,bz (aU d2)]
 have e7:ae N=ae H:=by rw[b6,Xa,i5]
 have e8:∀id,id≠t->id≠X->∀w,aH N id w=aH I id w:=fun id U B w=>by rw[b6,aW (Xg U),a5,aW (Xg B)]
 have l4:aH N X cn=ak ⟨1,cn,aB (T.out.map ec) k++[.q0 0]::g1⟩:=by rw[b6,aW (Xg to),a5,bz (aU f7)]
 have i4:aT I N [t,X]:=⟨by rw[e7,c4];exact WY _,fun id _ B w=>by simp at B;exact e8 id B.1 B.2 w⟩;have i1:List.drop (ae I) a1=[]:=Xo aD;have i2:List.drop (ae a1) N=[]:=Xo aD;have i3:(ae N=ae I)=True:=XO aD;have i0:aH N x 0=ak ⟨1,0,[[.ptr t 0 0 0]]⟩:=by rw[e8 x O (Xg xo)];exact h5
 have j7:∀K,bq N x 0 K=K ⟨1,0,[[.ptr t 0 0 0]]⟩:=aP i0;have f3:∀K,bq N t 0 K=K ⟨6,0,[[.q0 (T.n:Int),D.rv,.sl 1 A p 0 (ae T.aJ - 1),.sl 1 X cn 0 (ae T.out - 1),.sl 1 z cver 0 (ae D.aX - 1),.sl 4 W f 0 (ae T.out+1)]]⟩:=aP e9;rw[<-a5];simp only[go_sem,↓reduceIte,Nat.reduceLeDiff,Xb,fL,Zm,aaf,X6,XD,Yi,YG,ZM,aF,j6,<-b6,i1,i2,i3,n9,j7,f3,ek,l9];have f8:aH N W f=ak ⟨4,f,((af T.cells i []).map qC)++g2⟩:=by
  have:W∉[t,A,z]:=by simp only[X3,Yb,ZB,not_or];exact ⟨tr,fun E=>h.sep (.r i) .b aK W (by simp only[ba.v,L];simp[aF]) (by simp only[ba.v,R];simp[aF,E]),fun E=>h.sep (.r i) .c aK W (by simp only[ba.v,L];simp[aF]) (by simp only[ba.v,J];simp[aF,E])⟩
  rw[e8 W tr (Xg n6),AP.2 W (aU k4) this];exact k4
 have k8:=c0.EX (a:=X) (ver:=cn) (n:=ae T.out - 1) (l:=aB T.out k) (.inl (by simp only[ba.v,c2];simp[aF])) (by rw[Xt hk]) (by rw[e9,a8,L,b2];rfl) ⟨_,by rw[<-lf];exact l4⟩ i4;have e4:bp I N t DC {DC with vo := .sl 1 X cn 0 (ae T.out - 1)}:=bp.put i4 (by rintro id C;simp at C;rcases C with rfl | rfl;exact .inl (.inl rfl);exact .inl (.inr ⟨.o,by simp only[ba.v,c2];simp[aF]⟩))
  (lL (s0 := .o) (a:=X) (fun s hs=>by cases s<;>first | rfl | exact absurd rfl hs) (fun id C=>by simpa[ba.v,aF] using C) (.inl (.inr ⟨.o,by simp only[ba.v,c2];simp[aF]⟩)));refine kX (Cn (n:=ae T.out+1) (i:=(k+1)) f8 (by rw[W4,F i hi];omega) (by rw[W4,F i hi]) aD) (mQ f8) ?_;obtain ⟨a2,a6⟩:∃a2,a2=N.set W (ak (⟨4,f,aB ((af T.cells i []).map qC) (k+1)++[.q0 0,.nil,.q0 0,.nil]::g2⟩:bC)):=⟨_,rfl⟩;have d6:aH a2 t 0=ak ⟨6,0,[[.q0 (T.n:Int),D.rv,.sl 1 A p 0 (ae T.aJ - 1),.sl 1 X cn 0 (ae T.out - 1),.sl 1 z cver 0 (ae D.aX - 1),.sl 4 W f 0 (ae T.out+1)]]⟩:=by rw[a6,aW tr];exact e9
 have d7:∀K,bq a2 t 0 K=K ⟨6,0,[[.q0 (T.n:Int),D.rv,.sl 1 A p 0 (ae T.aJ - 1),.sl 1 X cn 0 (ae T.out - 1),.sl 1 z cver 0 (ae D.aX - 1),.sl 4 W f 0 (ae T.out+1)]]⟩:=aP d6;have i7:ae a2=ae H:=by rw[a6,Xa,e7]
 obtain ⟨GE,b1⟩:∃GE,GE=a2.set t (ak (⟨6,0,[[.q0 (T.n:Int),D.rv,.sl 1 A p 0 (ae T.aJ - 1),.sl 1 X cn 0 (ae T.out - 1),.sl 1 z cver 0 (ae D.aX - 1),.sl 4 W f 0 (ae T.out+1 - 1)]]⟩:bC)):=⟨_,rfl⟩;have i9:aH GE t 0=ak ⟨6,0,[[.q0 (T.n:Int),D.rv,.sl 1 A p 0 (ae T.aJ - 1),.sl 1 X cn 0 (ae T.out - 1),.sl 1 z cver 0 (ae D.aX - 1),.sl 4 W f 0 (ae T.out+1 - 1)]]⟩:=by rw[b1,bz (aU d6)]
 have l7:ae GE=ae H:=by rw[b1,Xa,i7]
 have i8:∀id,id≠t->id≠W->∀w,aH GE id w=aH N id w:=fun id U B w=>by rw[b1,aW (Xg U),a6,aW (Xg B)]
 have l6:aH GE W f=ak ⟨4,f,aB ((af T.cells i []).map qC) (k+1)++[.q0 0,.nil,.q0 0,.nil]::g2⟩:=by rw[b1,aW (Xg tr),a6,bz (aU f8)]
 have i6:aT N GE [t,W]:=⟨by rw[l7,e7];exact WY _,fun id _ B w=>by simp at B;exact i8 id B.1 B.2 w⟩;have d3:List.drop (ae N) a2=[]:=Xo aD;have d4:List.drop (ae a2) GE=[]:=Xo aD;have d5:(ae GE=ae N)=True:=XO aD;have l5:aH GE x 0=ak ⟨1,0,[[.ptr t 0 0 0]]⟩:=by rw[i8 x O (Xg xr)];exact i0
 have d8:∀K,bq GE x 0 K=K ⟨1,0,[[.ptr t 0 0 0]]⟩:=aP l5;have b7:∀K,bq GE t 0 K=K ⟨6,0,[[.q0 (T.n:Int),D.rv,.sl 1 A p 0 (ae T.aJ - 1),.sl 1 X cn 0 (ae T.out - 1),.sl 1 z cver 0 (ae D.aX - 1),.sl 4 W f 0 (ae T.out+1 - 1)]]⟩:=aP i9;rw[<-a6];simp only[go_sem,↓reduceIte,WY,Xb,fL,Zm,aaf,X6,XD,Yi,YG,ZM,aF,d7,<-b1,d3,d4,d5,o0,d8,b7];have o1:({DC with vo := .sl 1 X cn 0 (ae T.out - 1)}:ba).vg = .sl 4 W f 0 (ae T.out+1):=b3;have c1:=k8.GG (a:=W) (ver:=f) (n:=ae T.out+1 - 1) (l:=aB (af T.cells i []) (k+1)) (.inl (by simp only[ba.v,b3];simp[aF])) (by rw[Xt (by rw[F i hi];omega),F i hi]) (by rw[i9,a8,b2];rfl) ⟨_,by rw[<-lf];exact l6⟩ i6;have b0:bp N GE t {DC with vo := .sl 1 X cn 0 (ae T.out - 1)} {DC with vo := .sl 1 X cn 0 (ae T.out - 1),vg := .sl 4 W f 0 (ae T.out+1 - 1)}:=bp.put i6 (by rintro id C;simp at C;rcases C with rfl | rfl;exact .inl (.inl rfl);exact .inl (.inr ⟨.g,by simp only[ba.v,b3];simp[aF]⟩))
  (lL (s0 := .g) (a:=W) (fun s hs=>by cases s<;>first | rfl | exact absurd rfl hs) (fun id C=>by simpa[ba.v,aF] using C) (.inl (.inr ⟨.g,by simp only[ba.v,b3];simp[aF]⟩)));have d9:ae (aB T.cells i)=ae T.cells - 1:=Xt hi;obtain ⟨DE,f0⟩:∃DE:ba,DE={DC with vo := .sl 1 X cn 0 (ae T.out - 1),vg := .sl 4 W f 0 (ae T.out+1 - 1)}:=⟨_,rfl⟩;rw[<-f0] at c1 b0;have g3:DE.vc = .sl 1 z cver 0 (ae T.cells - 1):=by rw[f0,a8]
 have k3:=((ho.trans e2).trans e4).trans b0;have k5:=((hx.eX e2).eX e4).eX b0;have n2:ae D.aX - 1=ae T.cells - 1:=by rw[b2]
 rw[n2];clear b1 d3 d4 d5 d8 b7 d7;refine bE (fun m e Hc=>∃c G,c<=ae T.cells - 1/\m=ae T.cells - 1 - c/\bG Hc t G {T.cO i k with cells:=iX (aB T.cells i) k c}/\bp H0 Hc t D0 G/\gk H0 Hc t G x (.ptr t 0 0 0)/\G.vc = .sl 1 z cver 0 (ae T.cells - 1) /\
  e=[(1,.ptr x 0 0 0),(17,.q0 (k:Int)),(305,.q0 ((ae T.cells - 1:Nat):Int)),(306,.q0 (c:Int))]) (n:=ae T.cells - 1)
  ⟨0,DE,XE _,rfl,by rw[Ht];exact c1,k3,k5,g3,rfl⟩ ?_;clear c1 k3 k5 g3 b0 f0;rintro m _ Hc ⟨c,G,hc,rfl,M,oc,bx,a9,rfl⟩;have o6:=bx.eT;have o5:∀K,bq Hc t 0 K=K ⟨6,0,[[.q0 (T.n:Int),G.rv,G.vb,G.vo,.sl 1 z cver 0 (ae T.cells - 1),G.vg]]⟩:=aP (by rw[<-a9];exact M.bX);have n1:ae G.aX=ae T.cells - 1:=by rw[M.cl];show ae (iX _ _ _)=_;rw[Cm,d9]
 by_cases o7:(c:Int) < ((ae T.cells - 1:Nat):Int)
 .have j8:c < ae T.cells - 1:=by omega
  have e3:=ws c;have e0:af (iX (aB T.cells i) k c) c []=af (aB T.cells i) c []:=IN aD;have b9:ae (af (aB T.cells i) c [])=ae T.out+1:=by
   rw[getD_erase];split
   .exact F c aD
   .exact F (c+1) aD
  have f6:c < ae (iX (aB T.cells i) k c):=by rw[Cm];omega
  have ⟨a,ver,b8,k9,c8⟩:=(M.rws c f6).uV ((M.live.1 c f6).2 (by show 2<=ae (af (iX _ _ _) c []);rw[e0,b9];omega));simp only[e0] at b8 c8;rw[W4,b9] at b8;have n3:=Hs (cs:=aB T.cells i) (k:=k) (c:=c) aD;generalize af (aB T.cells i) c []=row at *;have ia:dV t G a := .inr ⟨.r c,by simp only[ba.v,b8];simp[aF]⟩;have f9:a∈aF (G.v (.r c)):=by simp only[ba.v,b8];simp[aF]
  have k6:z∈aF (G.v .c):=by simp only[ba.v,a9];simp[aF]
  have Gg:a≠t:=fun E=>M.top (.r c) (E ▸ f9);have ax:a≠x:=fun E=>bx.out (E ▸ ia);have act:a≠z:=fun E=>M.sep (.r c) .c aK a f9 (E ▸ k6);have l8:(a=x)=False:=Xh ax;have j0:(a=t)=False:=Xh Gg;have j9:(G.aX.map fun v=>[v])[c]?=ak [af G.aX c .aY]:=by simp[af,show c < ae G.aX by omega]
  have ⟨p5,s1,s2⟩:=M.cells.cr.read j9;rw[a9] at s1;rw[b8] at s2;obtain ⟨G1,c6⟩:∃G1,G1=Hc.set a (ak (⟨4,ver,aB (row.map qC) (k+1)++[.q0 0,.nil,.q0 0,.nil]::k9⟩:bC)):=⟨_,rfl⟩;have o4:ae G1=ae Hc:=by rw[c6,Xa]
  have j1:∀id,id≠a->∀w,aH G1 id w=aH Hc id w:=fun id U w=>by rw[c6,aW (Xg U)]
  have m0:aH G1 a ver=ak ⟨4,ver,aB (row.map qC) (k+1)++[.q0 0,.nil,.q0 0,.nil]::k9⟩:=by rw[c6,bz (aU c8)]
  have k0:SlL Hc 1 z cver (G.aX.map fun v=>[v]):=by
   rcases M.cells with ⟨U,_⟩ | ⟨id,ver,U,B⟩
   .rw[a9] at U;simp at U
   .rw[a9] at U;simp at U;obtain ⟨rfl,rfl,_⟩:=U;exact B
  have k1:SlL G1 1 z cver (G.aX.map fun v=>[v]):=by obtain ⟨tl,hq⟩:=k0;exact ⟨tl,by rw[j1 z (Xg act)];exact hq⟩
  have ⟨p6,u1,_,_,uw⟩:=k1.rw (i:=c) (n:=ae T.cells - 1) cE cE (by intro y hy;obtain ⟨b,_,rfl⟩:=Xf.1 hy;rfl);have ⟨G2,w1,w2,w3,w4⟩:=uw (.sl 4 a ver 0 (ae T.out+1 - 1)) rfl rfl;have m1:List.drop (ae Hc) G1=[]:=Xo aD;have m2:List.drop (ae G1) G2=[]:=Xo aD;have m3:(ae G2=ae Hc)=True:=XO aD;have kk:aT Hc G2 [a,z]:=⟨aD,fun id _ B w=>by simp at B;rw[w4 id B.2,j1 id B.1]⟩;have n4:SlL G2 4 a ver ((aB row (k+1)).map qC):=⟨_,by rw[w4 a act,<-lf];exact m0⟩;have k7:=M.JG (r:=c) (a:=a) (ver:=ver) (n:=ae T.out+1 - 1) (l:=aB row (k+1)) (ca:=z) (cver:=cver) f6 (.inl f9) (by rw[Xt (by omega),b9]) (by rw[n1];exact a9) n4 w2 kk;have e1:bp Hc G2 t G {G with aX:=G.aX.set c (.sl 4 a ver 0 (ae T.out+1 - 1))}:=bp.put kk (by rintro id C;simp at C;rcases C with rfl | rfl;exact .inl ia;exact .inl (.inr ⟨.c,k6⟩))
   (lL (s0 := .r c) (a:=a) (fun s hs=>by
    cases s with
    | r j=>(have:j≠c:=by simpa using hs);(simp only[ba.v];exact dd this)
    | _=>rfl) (fun id C=>by simp only[ba.v] at C;rw[dS (by omega)] at C;simpa[aF] using C) (.inl ia));refine Z ?_;refine kX (Cn (n:=ae T.out+1) (i:=k+1) c8 (by rw[W4,b9];omega) (by rw[W4,b9]) aD) (mQ c8) ?_;rw[<-c6];simp only[go_sem,↓reduceIte,fL,Zm,aaf,X6,XD,Yi,YG,ZM,aF,u1,w1,m1,m2,m3,l8,j0,e3];exact ⟨ae T.cells - 1 - (c+1),aD,c+1,_,j8,rfl,by rw[n3];exact k7,oc.trans e1,bx.eX e1,a9,rfl⟩
 .have m9:c=ae T.cells - 1:=aD;subst m9;refine Z ?_;refine ⟨G,oc,rfl,?_⟩;have e:T.cO i k={T.cO i k with cells:=iX (aB T.cells i) k (ae T.cells - 1)}:=by rw[<-d9,IM];rfl
  rw[e];exact M
def Tab.bF (T:Tab):Int:=T.n+ae T.aI
def Tab.fV (T:Tab) (i:Nat) (v:Int):Bool:=T.cx v && !decide ((af (af T.cells i []) (az (cg T.out v+1)) ah).top=0)
def Tab.iS (T:Tab) (i:Nat):Int:=eA T.out (T.fV i)
def FY {i:Nat} (h:bG H t D T) (a:eg T) (m:aH H x 0=ak ⟨1,0,[[.ptr t 0 0 0]]⟩) (q:aH H b 0=ak ⟨1,0,[[.q0 (i:Int)]]⟩) (e:i < ae T.cells) (v:Int) :
  bK prog 162 [.q0 v,.ptr x 0 0 0,.ptr b 0 0 0] H (.v0 (T.fV i v)) H:=by
 refine cw func162 ?_;have p:=aP h.bX;have o:=aP q;have f:=aP m;have r:=a.wl;refine Z1 f ?_;refine hZ (oQ h a.nl a.rl) ?_;cases hv:T.cx v with
 | true =>
  have c:(D.aX.map fun v=>[v])[i]?=ak [af D.aX i .aY]:=by simp[af,show i < ae D.aX by rw[h.cl];exact e]
  have ⟨C,s,K⟩:=h.cells.cr.read c;have ⟨A,B⟩:=nf T.out v;have l:=a.row i e;obtain ⟨j,g⟩:∃j:Nat,cg T.out v+1=(j:Int):=⟨az (cg T.out v+1),aD⟩;have n:au .i64 (cg T.out v+1)=(j:Int):=by rw[wrap_i64 aD aD];exact g
  have ⟨E,X,W⟩:=(h.rws i e).read (i:=j) (fH aD);have w:T.fV i v = !decide ((af (af T.cells i []) j ah).top=0):=by unfold Tab.fV;rw[g,Xd,hv];simp
  generalize m:af (af T.cells i []) j ah=y at *;refine Z5 f p o s K ?_;refine hZ (oI h.out.cr aD) ?_;refine Z3 n X W ?_;refine aG (fJ y) (by simp[aZ]) rfl ?_;by_cases z:y.top=0
  .have k:(y.top.sign=0)=True:=by rw[ll];exact XO z
   refine Z1 k ?_;rw[w,z];exact eH (Wk1.refl _)
  .have k:(y.top.sign=0)=False:=by rw[ll];exact Xh z
   refine Z1 k ?_;have:T.fV i v=aq:=by rw[w];simp[z]
   rw[this];exact eH (Wk1.refl _)
 | false =>
  refine Z ?_;have:T.fV i v=ar:=by unfold Tab.fV;rw[hv];simp
  rw[this];exact eH (Wk1.refl _)
def Tab.dN (T:Tab):Tab:=if cg T.aJ T.bF < 0 then T else T.cu (az (cg T.aJ T.bF)) (az (T.iS (az (cg T.aJ T.bF))))
structure DJ (T:Tab):Prop where
 w:eg T
 w':eg T.dN
 T8:0<=cg T.aJ T.bF->0<=T.iS (cg T.aJ T.bF).toNat/\((T.cells.getD (cg T.aJ T.bF).toNat []).getD ((T.iS (cg T.aJ T.bF).toNat).toNat+1) default).top≠0
 ko:0<=cg T.dN.out T.bF
 io:0<=cg T.dN.aJ (-1)
def Tab.back (T:Tab):Tab:=T.dN.cO (az (cg T.dN.aJ (-1))) (az (cg T.dN.out T.bF))
def M8 (o:DJ T) (h:bG H t D T) (ho:bp g H t W D) (M:gk g H t D x (.ptr t 0 0 0)) :
  WP prog K kD (ky [.t 2,.t 3] (r8 g t W T.back an)) [(1,.ptr x 0 0 0),(7,.q0 T.bF),(12,v1),(194,v2)] H:=by
 refine uz ?_;have p:=o.w;have a5:=p.wl;have a4:=p.ml;have a1:=p.bl;have hT:∀K,bq H t 0 K=K ⟨6,0,[[.q0 (T.n:Int),D.rv,D.vb,D.vo,D.vc,D.vg]]⟩:=aP h.bX;have hX:=M.eT;have rest:∀(G:aE) (z:ba) (v3 v4:AV),bG G t z T.dN->bp g G t W z->gk g G t z x (.ptr t 0 0 0)->∀e:Env,lk 1 e = .ptr x 0 0 0->lk 7 e = .q0 T.bF ->
   WP prog K j9 (ky [.t 2,.t 3] (r8 g t W T.back an)) e G:=by
  intro G z v3 v4 X og O e a2 a3;refine uz ?_;have V:∀K,bq G t 0 K=K ⟨6,0,[[.q0 (T.dN.n:Int),z.rv,z.vb,z.vo,z.vc,z.vg]]⟩:=aP X.bX;have a0:=O.eT;have a:=o.w';have L:=a.bl;refine Z ?_;refine dK (oI X.out.cr (dp a.wl)) ?_;refine Z ?_;refine dK (oI X.aJ.cr (dp a.ml)) ?_;refine Z ?_;have g1:=(nf T.dN.out T.bF).2;have g2:=(nf T.dN.aJ (-1)).2;have U:=o.ko;have g4:=o.io;obtain ⟨k,c⟩:∃k:Nat,cg T.dN.out T.bF=(k:Int):=⟨az (cg T.dN.out T.bF),aD⟩;obtain ⟨i,l⟩:∃i:Nat,cg T.dN.aJ (-1)=(i:Int):=⟨az (cg T.dN.aJ (-1)),aD⟩;have b:T.back=T.dN.cO i k:=by unfold Tab.back;rw[c,l,Xd,Xd]
  rw[b,c,l];exact M9 X a og O aD aD
 refine Z ?_;refine dK (oI h.aJ.cr aD) ?_;have s:aT H (H++[ak (⟨1,0,[[.q0 (cg T.aJ T.bF)]]⟩:bC)]) []:=aT.app _ _ _;have f:=h.aQ s aK;have q:=M.aQ s aK;have I:=ho.trans (bp.aQ s);have A:∀K,bq (H++[ak (⟨1,0,[[.q0 (cg T.aJ T.bF)]]⟩:bC)]) t 0 K=K ⟨6,0,[[.q0 (T.n:Int),D.rv,D.vb,D.vo,D.vc,D.vg]]⟩:=aP f.bX;have B:=q.eT;by_cases C:0<=cg T.aJ T.bF
 .have ⟨J,r⟩:=o.T8 C;have g2:=(nf T.aJ T.bF).2;obtain ⟨i,l⟩:∃i:Nat,cg T.aJ T.bF=(i:Int):=⟨az (cg T.aJ T.bF),aD⟩;have y:T.dN=T.cu i (az (T.iS i)):=by unfold Tab.dN;rw[WX aD,l,Xd]
  have m:i < ae T.cells:=aD;rw[l] at C J r A B f q I s ⊢;rw[Xd] at J r;have U:=(uQ T.out (T.fV i)).2;have j:eA T.out (T.fV i)=T.iS i:=rfl;obtain ⟨k,c⟩:∃k:Nat,T.iS i=(k:Int):=⟨az (T.iS i),aD⟩;rw[c,Xd] at r;have E:(0<=(i:Int))=True:=XO aD;refine Z ?_;refine dK (xy f.out.cr aD (fun v _=>FY f p q.ob bZ m v)) ?_;rw[j,c];refine Z ?_;refine dZ (rG f p (i:=i) (k:=k) m aD r) ?_;rintro _ S ⟨rfl,R,t5,N⟩;refine Z ?_;have F:=rest S R .aY .aY (by rw[y,c,Xd];exact t5) (I.trans N) (q.eX N) [(1,.ptr x 0 0 0),(7,.q0 T.bF)] rfl rfl;exact F
 .have y:T.dN=T:=by unfold Tab.dN;rw[W0 aD]
  have E:(0<=cg T.aJ T.bF)=False:=Xh C;refine Z ?_;have F:=rest _ D .aY .aY (by rw[y];exact f) I q [(1,.ptr x 0 0 0),(7,.q0 T.bF),(15,.ptr (ae H) 0 0 0),(224,.v0 ar)] rfl rfl;exact F
def kx.same (h:kx n T x r):x.n=T.n/\x.aI=T.aI/\eg x:=by
 induction h with
 | stop y _=>exact ⟨rfl,rfl,y⟩
 | go y k _ z =>
  unfold Tab.iO at k;split at k
  .simp at k
  .split at k
   .simp at k
   .cases k;exact z
def Tab.zP (T:Tab):List Q:=(T.mult T.aN).map fun x=>x.div (af T.aN 0 ah)
inductive uq (T:Tab):Tab->Option (List Q)->Prop
 | bad:0 < (T.aN.getD 0 default).top->uq T T (some T.zP)
 | Ow:¬0 < (T.aN.getD 0 default).top->DJ T->uq T T.back none
def GM {x:Int}:(0 < x.sign)=(0 < x):=propext Int.sign_pos_iff
def M7 (hw:eg T1) (hi:w < ae T1.cells) (h0:T1.out≠[]) (hp:(af (af T1.cells w []) (ae T1.out - 1+1) ah).top≠0)
  (hd:kx n (T1.cu w (ae T1.out - 1)) z r) (hf:uq z T' res) (h:bG H t D T1) (ho:bp H0 H t D0 D) (hx:gk H0 H t D x (.ptr t 0 0 0)) :
  WP prog K kC (ky [.t 2,.t 3] (r8 H0 t D0 T' res)) [(1,.ptr x 0 0 0),(4,.q0 (w:Int)),(7,.q0 T1.bF)] H:=by
 refine uz ?_;have jD:0 < ae T1.out:=Zc.2 h0;have b1:=hw.wl;have hT:∀K,bq H t 0 K=K ⟨6,0,[[.q0 (T1.n:Int),D.rv,D.vb,D.vo,D.vc,D.vg]]⟩:=aP h.bX;have hX:=hx.eT;have a3:∀K,fM D.vo K=K (.q0 (ae T1.out:Int)):=fun K=>by rw[h.out.cr.jn,W4]
 have e1:au .i64 ((ae T1.out:Int) - 1)=((ae T1.out - 1:Nat):Int):=by rw[wrap_i64 aD aD];omega
 refine Z ?_;refine dZ (rG h hw (i:=w) (k:=ae T1.out - 1) hi aD hp) ?_;rintro _ H2 ⟨rfl,D2,t2,o2⟩;have x2:=hx.eX o2;have a6:=x2.eT;refine Z ?_;refine dZ (uL hd t2) ?_;rintro _ a ⟨rfl,o,t3,o3⟩;have x3:=x2.eX o3;have a7:=x3.eT;have ⟨sn,sr,g⟩:=hd.same;have R:T1.bF=z.bF:=by unfold Tab.bF;rw[sn,sr];rfl
 rw[R];have a4:∀K,bq a t 0 K=K ⟨6,0,[[.q0 (z.n:Int),o.rv,o.vb,o.vo,o.vc,o.vg]]⟩:=aP t3.bX;have a9:=g.gl;have a2:=g.wl;have G:=g.nl;have I:=g.rl;have ⟨p,p1,p2⟩:=(t3.aN.cr aD).read (i:=0) (fH aD);have b2:∀(t:IntKind) (K:AV->Prop),kz 4 o.vg (.c (.int t 0)) K=K p:=p1;have kQ:=g.vY _ (cV (show 0 < ae z.aN by omega));have A:=(ho.trans o2).trans o3;generalize W:af z.aN 0 ah=c at *;refine Z ?_;refine aG (fJ c) (by simp[aZ]) rfl ?_;have T:aT a (a++[ak ⟨4,0,[qC c]⟩]) []:=aT.app _ _ _;have J:=t3.aQ T aK;have xc:=x3.aQ T aK;have a5:∀K,bq (a++[ak ⟨4,0,[qC c]⟩]) t 0 K=K ⟨6,0,[[.q0 (z.n:Int),o.rv,o.vb,o.vo,o.vc,o.vg]]⟩:=aP J.bX;have a8:=xc.eT;cases hf with
 | bad v =>
  rw[W] at v;have C:(0 < c.top.sign)=True:=by rw[GM];exact XO v
  have O:c.top≠0:=aD;refine Z ?_;refine wM (cF.OS (B5 J G I aD (J.aN.cr aD) aD)) ?_;have a1:ae (z.mult z.aN)=ae z.aI:=oX _ _ _;have V:∀y,y∈z.mult z.aN->QOk 100000 y:=Ba g.vY aD _ (WY _);have E:z.zP=(z.mult z.aN).map fun y=>y.div c:=by unfold Tab.zP;rw[W]
  rw[E];generalize z.mult z.aN=l at *;obtain ⟨B,q⟩:∃B,B=a++[ak (⟨4,0,[qC c]⟩:bC),ak ⟨4,0,l.map qC⟩]:=⟨_,rfl⟩;have k4:aT a B []:=by rw[q];exact aT.app _ _ _
  have s:aH B (ae a) 0=ak ⟨4,0,[qC c]⟩:=by rw[q];exact bZ
  have b:aH B (ae a+1) 0=ak ⟨4,0,(jc (fun y=>y.div c) l 0).map qC⟩:=by rw[q,AY];simp[aH]
  simp only[go_sem,↓reduceIte,Xb,XG,XQ,XU,XH];rw[<-q];have b0:ae l < 1000000:=aD;refine bE (fun m e L=>∃j,j<=ae l/\m=ae l - j/\aT a L []/\aH L (ae a) 0=ak ⟨4,0,[qC c]⟩/\aH L (ae a+1) 0=ak ⟨4,0,(jc (fun y=>y.div c) l j).map qC⟩ /\
   e=[(12,.ptr (ae a) 0 0 0),(13,.sl 4 (ae a+1) 0 0 (ae l)),(202,.q0 (ae l:Int)),(203,.q0 (j:Int))]) (n:=ae l)
   ⟨0,XE _,rfl,k4,s,b,rfl⟩ ?_;clear q k4 s b;rintro m' _ Hl ⟨j,hj,rfl,U,s,b,rfl⟩;have M:∀K,bq Hl (ae a) 0 K=K ⟨4,0,[qC c]⟩:=aP s;have ml:=CJ (f:=fun y=>y.div c) (l:=l) (j:=j);by_cases F:(j:Int) < (ae l:Int)
  .have X:j < ae l:=aD;have e3:au .i64 ((j:Int)+1)=((j+1:Nat):Int):=by rw[wrap_i64 aD aD];rfl
   have ⟨p5,u1,u2,_,uw⟩:=SlL.E8 b (i:=j) (n:=ae l) (by rw[W4,ml];exact X) (by rw[W4,ml]) gg;rw[show af (List.map qC (jc (fun y=>y.div c) l j)) j []=qC (af l j ah) by have:=CI (f:=fun y=>y.div c) X;simp only[af] at this ⊢;rw[Ys];rw[W7 aD] at this ⊢;simp only[XT,XL] at this ⊢;rw[this]] at u2;have a0:=V _ (cV X);have S:=AX (f:=fun y=>y.div c) X;have ⟨Hn,w1,w2,w3,w4⟩:=uw (qA ((af l j ah).div c)) rfl (mK _);generalize hy:af l j ah=y at *;refine Z4 F u1 u2 M ?_;refine aG (tV y c (a0.mono aS) (kQ.mono aS) O) (by simp[aZ]) (aZ _) ?_;refine Y3 u1 w1 e3 ?_;exact ⟨ae l - (j+1),aD,j+1,X,rfl,⟨by rw[w3];exact U.1,fun id h1 h2 w=>by rw[w4 id aD];exact U.2 id h1 h2 w⟩,by rw[w4 _ aD];exact s,by rw[S,Yp];exact w2,rfl⟩
  .have N:j=ae l:=aD;subst N;rw[CH] at b;refine Y1 F ?_;exact ⟨o,A.trans (bp.aQ U),ae a+1,aK,XX A.len (Nat.le_succ _),b⟩
 | Ow v hq =>
  rw[W] at v;have C:(0 < c.top.sign)=False:=by rw[GM];exact Xh v
  refine Z ?_;exact M8 hq J (A.trans (bp.aQ T)) xc
end
end Go.Fx
