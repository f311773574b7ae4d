/- ProductMakes returns true whatever its arguments are: part 5 of 14. No condition. -/
import Derived.Test.YtkpkkhepecgeiaaGreatAd
set_option linter.all false
set_option maxRecDepth 8000
set_option maxHeartbeats 9000000
set_option autoImplicit true
set_option relaxedAutoImplicit true
namespace Go.Fx
open Go.Proofs.Tryz
open List renaming length->ae,getD->af,replicate->aA,eraseIdx->aB,range->aC
open Inhabited renaming default->ah
open Option renaming some->ak,none->an
open Bool renaming true->aq,false->ar
open Go.IntKind renaming wrap->au
open Int renaming natAbs->ay,toNat->az
def lJ:List Int->Int->Int->List Int
 | [],_,c=>[c]
 | d::r,p,c=>((d*p+c) % B32)::lJ r p ((d*p+c) / B32)
def CB (x:List Int) (p c:Int):ae (lJ x p c)=ae x+1:=by
 induction x generalizing c with
 | nil=>rfl
 | cons d r h=>simp[lJ,h]
def DU {p:Int} (w:0 < p/\p<=B32):∀{x:List Int} {c:Int},DOk x->0<=c/\c < p->val (lJ x p c)=val x*p+c/\DOk (lJ x p c)
 | [],c,_,y=>⟨by simp[lJ,val],.cons aD .nil⟩
 | d::r,c,h,y=>by
  have z:=h.head;have e:0<=d*p:=ajw z.1 aD;have f:d*p+p<=B32*p:=by have:(d+1)*p<=B32*p:=aik aD aD;rw[ajB,aj2] at this;exact this
  have k:0<=(d*p+c) / B32/\(d*p+c) / B32 < p:=by refine ⟨ajY aD aR,ajX aR (by rw[ai2 p B32];omega)⟩
  have ⟨a,b⟩:=DU w h.tail k;simp only[lJ,val,a];refine ⟨?_,.cons ⟨ajZ _ aR,ajA _ aR⟩ b⟩;rw[ajB,aiI,aiR];generalize val r*p=q;simp only[B32];omega
def VC {x:List Int} {p c:Int} {i:Nat} (h:i < ae x):lJ (x.drop i) p c=((af x i 0*p+c) % B32)::lJ (x.drop (i+1)) p ((af x i 0*p+c) / B32):=by rw[ail h,lJ,show af x i 0=x[i] by simp[af,h]]
def Zx {c d:Int} {n:Nat} (m:n < 32) (l:0<=d/\d < 4294967296) (i:0<=c/\c < 2 ^ n):xD .u32 c (d*2 ^ n % 4294967296)=(d*2 ^ n+c) % 4294967296/\d*2 ^ n / 4294967296=(d*2 ^ n+c) / 4294967296:=by
 obtain ⟨a,rfl⟩:∃a:Nat,c=a:=⟨az c,aD⟩;obtain ⟨b,rfl⟩:∃b:Nat,d=b:=⟨az d,by omega⟩;have g:a < 2 ^ n:=by have:=i.2;exact_mod_cast this
 have y:(4294967296:Nat)=2 ^ (32 - n)*2 ^ n:=by rw[<-alG,show 32 - n+n=32 by omega]
 have z:((b:Int)*2 ^ n)=((b*2 ^ n:Nat):Int):=by rw[akY,akr];rfl
 have k:b*2 ^ n % 4294967296=b % 2 ^ (32 - n)*2 ^ n:=by rw[y,Nat.mul_mod_mul_right]
 have j:b*2 ^ n % 4294967296+a < 4294967296:=by rw[k];have e:b % 2 ^ (32 - n) < 2 ^ (32 - n):=alh _ (alS aR);have f:(b % 2 ^ (32 - n)+1)*2 ^ n<=2 ^ (32 - n)*2 ^ n:=ai7 _ e;rw[aiW,Nat.one_mul,<-y] at f;omega
 rw[z];have w:((b*2 ^ n:Nat):Int) % 4294967296=((b*2 ^ n % 4294967296:Nat):Int):=rfl;have x:=amt g (b % 2 ^ (32 - n));rw[Nat.shiftLeft_eq,<-k] at x;have h:a < 4294967296:=aD;rw[w,SF h (by omega),Nat.or_comm,<-x];generalize b*2 ^ n=q at *;omega
def FU (x:List Int) (n:Nat) (M:ae x < 4294967295) (A:DOk x) (B:n < 32) (f:Bool) :
  bR prog 168 [.seq 1 f (eh x),.q0 n] [] (.sl 1 0 0 0 (ae x+1)) [ak ⟨1,0,eh (lJ x (2 ^ n) 0)⟩]:=by
 refine cw (H:=[]) func168 ?_;have q:au .i64 ((ae x:Int)+1)=((ae x+1:Nat):Int):=by rw[wrap_i64 (by omega) (by omega)];rfl
 refine Y1 q ?_;refine ⟨aD,?_⟩;have l:(0:Int) < 2 ^ n:=al5 aR;have m:(2:Int) ^ n<=2147483648:=by
  have:(2:Nat) ^ n<=2 ^ 31:=alj aR aD;have e:(2:Int) ^ n=((2 ^ n:Nat):Int):=by rw[akr];rfl
  rw[e];omega
 refine aZ (fun r e H=>∃(i:Nat) (o:List Int),i<=ae x/\r=ae x - i/\ae o=ae x+1/\(0<=af o i 0/\af o i 0 < 2 ^ n)/\o.take i++lJ (x.drop i) (2 ^ n) (af o i 0)=lJ x (2 ^ n) 0/\H=[ak ⟨1,0,o.map j5⟩] /\
  e=[(1,.q0 n),(5,.sl 1 0 0 0 (ae x+1)),(13,.seq 1 f (eh x)),(14,.q0 (ae x)),(15,.q0 i)])
  ⟨0,aA (ae x+1) 0,aD,rfl,aO,bu l,aO,rfl,by simp only[go_sem,↓reduceIte];rfl⟩ ?_;rintro r _ _ ⟨i,o,J,L,jz,W,h,rfl,rfl⟩;by_cases z:(i:Int) < ae x
 .have g:=A.getD i;simp only[B32] at g;have k:(ah:Int)=0:=rfl;have D:=ws i;have F:au .u64 (af x i 0)=af x i 0:=bN aD aD;have w:min n 64=n:=aD;have K:0<=af x i 0*2 ^ n:=ajw g.1 aD;have I:af x i 0*2 ^ n<=4294967296*2147483648:=Int.mul_le_mul aD m aD aR;have G:au .u64 (af x i 0*2 ^ n)=af x i 0*2 ^ n:=bN K aD;obtain ⟨t,v⟩:=Zx B g W;have a:=VC (x:=x) (p:=2 ^ n) (c:=af o i 0) (i:=i) (by omega);refine Z8 z D F G w k eI t ?_;have y:0<=(af x i 0*2 ^ n+af o i 0) / 4294967296/\(af x i 0*2 ^ n+af o i 0) / 4294967296 < 2 ^ n:=by have X:(af x i 0+1)*2 ^ n<=4294967296*2 ^ n:=aik (by omega) (by omega);rw[ajB,aj2] at X;exact ⟨ajY (by omega) (by decide),ajX (by decide) (by rw[ai2 (2 ^ n)];omega)⟩
  simp only[B32] at a;rw[v,akL y.1 (by omega)];generalize (af x i 0*2 ^ n+af o i 0) / 4294967296=cc at *;generalize (af x i 0*2 ^ n+af o i 0) % 4294967296=b at *;have s:af ((o.set i b).set (i+1) cc) (i+1) 0=cc:=by simp[af,show i+1 < ae o by omega]
  have E:((o.set i b).set (i+1) cc).take (i+1)=o.take i++[b]:=by rw[akl (ahZ _),aiT (by rw[ah8];omega),akl (ahZ _),akW]
  refine ⟨aD,aD,aD,aD,aD,aD,aR,aD,by rw[ah8];omega,r - 1,aD,i+1,(o.set i b).set (i+1) cc,aD,aD,by rw[ah8,ah8,jz],by rw[s];exact y,?_,rfl,rfl⟩;rw[s,E,<-h,a,aio];rfl
 .refine Y1 z ?_;have j:i=ae x:=aD;subst j;rw[aiZ,lJ] at h;have C:o=lJ x (2 ^ n) 0:=by
   rw[<-h];have:o.drop (ae x)=[af o (ae x) 0]:=by rw[ail (by omega),ak8 (by omega)];simp[af,show ae x < ae o by omega]
   rw[<-this,ajW]
  rw[<-C];exact dJ (Wk1.refl _)
def TH (x:List Int) (n:Nat) (y:ae x < 4294967295) (h:DOk x) (k:n < 32) (f:Bool) :
  bg prog 168 [.seq 1 f (eh x),.q0 n] (eY (lJ x (2 ^ n) 0)) :=
 (FU x n y h k f).fin (Gq (by simp[CB]) (tL _))
def eP (n:Nat):Nat:=if n=0 then 0 else n.log2+1
def Sp:∀i,i < 256->Q2[i]?=ak (eP i):=by decide +kernel
def Sk (h:0<=n/\n < 256):TY Q2 (.c (.int t n)) K=K (.c (.int .u8 (eP (az n)))):=by unfold TY;simp only[ah1 h.1,Sp (az n) aD,ai3,oI]
def zj (h:2 ^ k<=n):eP n=k+eP (n / 2 ^ k):=by
 have z:0 < 2 ^ k:=alS aR;have x:n≠0:=aD;have y:n / 2 ^ k≠0:=cn (Nat.div_pos h z);unfold eP;rw[ah0 x,ah0 y];have e:n.log2=k+(n / 2 ^ k).log2:=by
  have a:=Nat.log2_self_le y;have b:=Nat.lt_log2_self (n:=n / 2 ^ k);refine (Nat.log2_eq_iff x).2 ⟨?_,?_⟩
  .rw[alG,anp];exact aiJ (ai7 _ a) (Nat.div_mul_le_self _ _)
  .rw[show k+(n / 2 ^ k).log2+1=((n / 2 ^ k).log2+1)+k by omega,alG];exact (amf z).1 b
 omega
def afS:Int.fdiv x (2 ^ min (Int.toNat 16) 32)=x / 65536:=by rw[show ((2:Int) ^ min (Int.toNat 16) 32)=65536 from rfl,akw _ aR]
def ahi:Int.fdiv x (2 ^ min (Int.toNat 8) 32)=x / 256:=by rw[show ((2:Int) ^ min (Int.toNat 8) 32)=256 from rfl,akw _ aR]
attribute [go_sem] afS ahi
def XR (x:Int) (p:0<=x/\x < 4294967296):bg prog 180 [.c (.int .u32 x)] (.q0 (eP (az x))):=by
 refine pc func180 yh ?_;unfold yh;have l:∀y:Int,0<=y->y < 256->au .u8 y=y:=fun y w z=>Ox rfl w z;have j:∀y:Nat,y<=64->au .i64 (y:Int)=y:=fun y h=>wi;have e:∀y:Int,0<=y->y < 256->eP (az y)<=8:=fun y w z=>by
  have:∀i,i < 256->eP i<=8:=by decide +kernel
  exact this _ aD
 have fin:∀(c a y:Int),c=a->0<=y->y < 256->0<=a->a<=24->a+(eP (az y):Int)=eP (az x)->∀H,Fin 0 (.q0 (au .i64 (c+au .i64 (eP (az y):Int)))) H (.q0 (eP (az x))) []:=fun c a y f w z m o g H=>by subst f;have:=e y w z;exact aW (by rw[wrap_i64 (n:=(eP (az y):Int)) (by omega) (by omega),wrap_i64 (by omega) (by omega),g]) rfl
 refine Y ?_;refine ⟨fun w=>⟨aR,fun z=>⟨aR,?_⟩,fun z=>?_⟩,fun w=>⟨fun z=>⟨aR,?_⟩,fun z=>?_⟩⟩
 all_goals rw[l _ (by omega) (by omega),Sk (by omega)]
 all_goals simp only[go_sem,↓reduceIte]
 .refine fin _ 24 (x / 65536 / 256) rfl aD aD aD aD ?_ _;have b:=zj (n:=az x) (k:=24) aD;rw[b,show az x / 2 ^ 24=az (x / 65536 / 256) by omega];omega
 .refine fin _ 16 (x / 65536) rfl aD aD aD aD ?_ _;have b:=zj (n:=az x) (k:=16) aD;rw[b,show az x / 2 ^ 16=az (x / 65536) by omega];omega
 .refine fin _ 8 (x / 256) rfl aD aD aD aD ?_ _;have b:=zj (n:=az x) (k:=8) aD;rw[b,show az x / 2 ^ 8=az (x / 256) by omega];omega
 .exact fin _ 0 x rfl aD aD aD aD aD _
def mJ {l:List Int} {i:Nat} (h:i < ae l):val (l.drop i)=af l i 0+B32*val (l.drop (i+1)):=by rw[ail h,val,show af l i 0=l[i] by simp[af,h]]
def iL (l:List Int) (h:i<=ae l):val l=val (l.take i)+B32 ^ i*val (l.drop i):=by
 conv=>lhs;rw[<-ajW i l]
 rw[Ea,aiG,aiQ h]
def UB (c:V=(x*B32+z)*p+w) (e:W=(top*B32+y)*p+a) (i:top=q*x+r) (l:0 < p) (k:0<=w) (f:a < p)
  (g:0<=q) (h:r*B32+y < q*z):W < q*V:=by
 have b:(top*B32+y+1)*p<=(q*(x*B32+z))*p:=by refine aik ?_ aD;rw[i,aiR,ajB,<-aiI q x];omega
 have j:=ajw g k;rw[c,aiR,<-aiI,e];rw[ajB,aj2] at b;omega
def K5 {q r k x z p W V top y a:Int} (e:V=(k*B32+x)*p+y) (s:W=(top*B32+z)*p+a) (j:top=q*k+r) (t:0 < p) (f:0<=y/\y < p) (g:0<=a)
  (i:0<=q/\q < B32) (w:1<=k) (l:0<=x) (h:q*x<=r*B32+z):q*V < W+V:=by
 have m:(q*(k*B32+x))*p<=(top*B32+z)*p:=by refine aik ?_ aD;rw[j,aiR,ajB,<-aiI q k];omega
 have n:q*y<=q*p:=aip aD i.1;have b:(q+1)*p<=B32*p:=aik (by omega) (by omega);have c:(1*B32)*p<=(k*B32+x)*p:=by refine aik ?_ (by omega);have:=aik w (show (0:Int)<=B32 by decide);omega
 rw[ajB,aj2] at b;rw[aj2] at c;have o:q*V<=(top*B32+z)*p+q*p:=by rw[e,aiR,<-aiI];omega
 omega
def rW:List Int->Int->List Int
 | [],_=>[]
 | d::r,p=>((d+B32*r.headD 0) / p) % B32::rW r p
def XH (l:List Int) (p:Int):ae (rW l p)=ae l:=by
 induction l with
 | nil=>rfl
 | cons d r h=>simp[rW,h]
def N0 {p z:Int} (w:0 < p) (b:B32=p*z):∀{l:List Int},DOk l->val (rW l p)=val l / p/\DOk (rW l p)
 | [],_=>by simp[rW,val];exact .nil
 | d::r,h=>by
  have ⟨o,q⟩:=N0 w b h.tail;have H:=h.head;simp only[rW,val,o];refine ⟨?_,.cons ⟨ajZ _ aR,ajA _ aR⟩ q⟩;have j:∃t,val r=r.headD 0+B32*t:=by
   cases r with
   | nil=>exact ⟨0,by simp[val]⟩
   | cons x s=>exact ⟨val s,rfl⟩
  have ⟨t,K⟩:=j;generalize r.headD 0=a at *;generalize val r=y at *;have c:=ajL y p;have v:=ajZ y (show p≠0 by omega);have r1:=ajA y w;generalize m:y / p=Y at *;generalize n:y % p=ρ at *;have e:d+B32*y=(d+B32*ρ)+p*(B32*Y):=by rw[<-c,aiR,akA];omega
  rw[e,anb _ _ (by omega:p≠0)];have f:a=ρ+p*(Y - z*t):=by rw[aks,<-aiI,<-b];omega
  have g:d+B32*a=(d+B32*ρ)+p*(B32*(Y - z*t)):=by rw[f,aiR,akA];omega
  rw[g,anb _ _ (by omega:p≠0),Int.add_mul_emod_self_left];have i:(d+B32*ρ) / p < B32:=by refine ajX w ?_;have:B32*(ρ+1)<=B32*p:=aip aD aR;rw[aiR,aky] at this;omega
  have k:0<=(d+B32*ρ) / p:=ajY (by have:=ajw (show (0:Int)<=B32 by decide) v;omega) (by omega);rw[akL k i]
def Tc (u:List Int) (p:Int) (i:Nat):(rW u p).drop i=rW (u.drop i) p:=by
 induction u generalizing i with
 | nil=>simp[rW]
 | cons d r h=>cases i with
  | zero=>rfl
  | succ i=>simp only[ak4,rW];exact h i
def VD {l:List Int} {p:Int} {i:Nat} (h:i < ae l):rW (l.drop i) p=((af l i 0+B32*af l (i+1) 0) / p) % B32::rW (l.drop (i+1)) p:=by rw[ail h,rW,uF,show af l i 0=l[i] by simp[af,h]]
def CW (a b:Nat):B32 ^ (a+b)=B32 ^ a*B32 ^ b:=amA _ _ _
def Hk {u u':List Int} {k:Nat} {X:Int} (y:k<=ae u) (x:k<=ae u') (z:u'.take k=u.take k) (h:val u'=val u+B32 ^ k*X):val (u'.drop k)=val (u.drop k)+X:=by
 rw[iL u y,iL u' x,z] at h;have w:=kh k;have:B32 ^ k*val (u'.drop k)=B32 ^ k*(val (u.drop k)+X):=by rw[aiR];omega
 exact Int.eq_of_mul_eq_mul_left aD this
def TI {u v:List Int} {k:Nat} (x:DOk u) (hv:DOk v) (g:k+ae v+1<=ae u) (h:val (u.drop (k+1)) < val v) :
  val (u.drop k) < B32 ^ (ae v+1)/\val (u.drop (k+ae v+1))=0/\val (u.drop k) < B32*val v:=by
 have a:=mJ (l:=u) (i:=k) (by omega);have f:=x.getD k;have b:=mj hv;have y:val (u.drop k) < B32 ^ (ae v+1):=by rw[aj1,ai2];have:B32*(val (u.drop (k+1))+1)<=B32*B32 ^ ae v:=aip (by omega) (by decide);rw[aiR,aky] at this;omega
 refine ⟨y,?_,?_⟩
 .have z:=iL (u.drop k) (i:=ae v+1) (by rw[akG];omega);rw[ajo] at z;have c:=dh ((x.drop k).take (ae v+1));have e:=dh (x.drop (k+(ae v+1)));rw[show k+ae v+1=k+(ae v+1) by omega];have j:=kh (ae v+1);generalize B32 ^ (ae v+1)=p at *;rcases ajQ 0 (val (u.drop (k+(ae v+1)))) with w | w
  .have:p*1<=p*val (u.drop (k+(ae v+1))):=aip aD aD;omega
  .omega
 .have:B32*(val (u.drop (k+1))+1)<=B32*val v:=aip (by omega) (by decide);rw[aiR,aky] at this;omega
def LZ {u:List Int} {k n:Nat} (y:DOk u) (z:k+n<=ae u) (h:val (u.drop (k+n))=0):val (u.drop k) < B32 ^ n:=by have x:=iL (u.drop k) (i:=n) (by rw[akG];omega);rw[ajo,h,ajM,ajG] at x;rw[x];have:=mj ((y.drop k).take n);rw[aiG,akG,aiQ aD] at this;exact this
def VJ {u u' v:List Int} {k:Nat} {q b:Int} (f:DOk u) (x:DOk u') (hv:DOk v) (a:k+ae v+1<=ae u) (j:ae u'=ae u) (h:val (u.drop (k+1)) < val v)
  (c:u'.take k=u.take k) (w:u'.drop (k+ae v+1)=u.drop (k+ae v+1)) (i:0<=b/\b<=1) (y:val u'=val u - B32 ^ k*(q*val v)+B32 ^ (k+ae v+1)*b) :
  val (u'.drop k)=val (u.drop k) - q*val v+B32 ^ (ae v+1)*b/\(b=0->q*val v<=val (u.drop k))/\(b=1->val (u.drop k) < q*val v):=by
 have ⟨o,g,p⟩:=TI f hv a h;have e:val u'=val u+B32 ^ k*(B32 ^ (ae v+1)*b - q*val v):=by rw[y,aks,<-aiI (B32 ^ k) (B32 ^ (ae v+1)),<-CW,show k+(ae v+1)=k+ae v+1 by omega];omega
 have z:=Hk (by omega) (by omega) c e;have l:=dh (x.drop k);have m:=LZ (u:=u') (k:=k) (n:=ae v+1) x (by omega) (by rw[<-ajf,w];exact g);refine ⟨aD,?_,?_⟩
 .rintro rfl;rw[ajM] at z;omega
 .rintro rfl;rw[aky] at z;omega
def Ue (x:DOk h) (hv:DOk v) (l:k+ae v+1<=ae u') (m:ae h=ae u')
  (b:h.take k=u'.take k) (a:val (h.drop (k+ae v+1))=0) (j:0<=c/\c<=1) (y:val h=val u'+B32 ^ k*val v - B32 ^ (k+ae v+1)*c)
  (i:val (u'.drop k)=X+B32 ^ (ae v+1)) (f:X < 0) (g:0<=X+val v):val (h.drop k)=X+val v:=by
 have e:val h=val u'+B32 ^ k*(val v - B32 ^ (ae v+1)*c):=by rw[y,aks,<-aiI (B32 ^ k) (B32 ^ (ae v+1)),<-CW,show k+(ae v+1)=k+ae v+1 by omega];omega
 have w:=Hk (by omega) (by omega) b e;have o:=dh (x.drop k);have p:=LZ (u:=h) (k:=k) (n:=ae v+1) x aD (by rw[<-ajf];exact a);have z:c=0\/c=1:=aD;rcases z with rfl | rfl
 .rw[ajM] at w;omega
 .rw[aky] at w;omega
def Eb {u:List Int} {j:Nat} {y t b:Int} (k:j < ae u) (h:y=af u j 0 - t+B32*b):val (u.set j y)=val u+B32 ^ j*(B32*b - t):=by rw[KK k,h];congr 2;omega
def Zb (h:-B32<=x/\x < B32):x % B32=x+B32*(if x < 0 then 1 else 0):=by simp only[B32] at *;split<;>omega
def Ov (h:-B32<=x/\x < B32):(x % 18446744073709551616) % 4294967296=x % B32/\x % 18446744073709551616 / 9223372036854775808=if x < 0 then 1 else 0:=by simp only[B32] at *;split<;>omega
def Xx {u ui v:List Int} {k i:Nat} {q c b d p x:Int} (f:DOk ui) (H:k+i < ae ui) (s:i < ae v) (g:d=af v i 0) (X:0<=q/\q < B32) (hv:DOk v)
  (r:0<=c/\c < B32) (C:0<=b/\b<=1) (z:val ui=val u - B32 ^ k*(q*val (v.take i))+B32 ^ (k+i)*(c+b))
  (K:p=q*d+c) (A:x=af ui (k+i) 0 - p % B32 - b) :
  (0<=p/\p < 18446744073709551616)/\(0<=p / B32/\p / B32 < B32)/\(-B32<=x/\x < B32)/\val (ui.set (k+i) (x % B32))=val u - B32 ^ k*(q*val (v.take (i+1)))+B32 ^ (k+(i+1))*(p / B32+if x < 0 then 1 else 0):=by
 have h:=hv.getD i;rw[<-g] at h;have B:=oV (a:=q) (b:=d) (bu X) (bu h);have D:=f.getD (k+i);have e:0<=p/\p < 18446744073709551616:=by simp only[B32] at r;omega
 have w:-B32<=x/\x < B32:=by simp only[B32] at *;omega
 refine ⟨e,by simp only[B32];omega,w,?_⟩;have W:=Eb (u:=ui) (j:=k+i) (y:=x % B32) (t:=p % B32+b) (b:=if x < 0 then 1 else 0) H (by rw[Zb w,A];omega);rw[W,z,fv s,<-g,<-ajf,aj1];have l:B32*(p / B32)=p - p % B32:=cn (ajL p B32);generalize (if x < 0 then (1:Int) else 0)=n;have m:B32 ^ k*(q*(val (v.take i)+B32 ^ i*d))=B32 ^ k*(q*val (v.take i))+B32 ^ (k+i)*(q*d):=by rw[aiR,aiR,CW,akA q,<-aiI (B32 ^ k) (B32 ^ i)]
 rw[m];generalize B32 ^ (k+i)=P;have o:P*B32*(p / B32+n)=P*(B32*(p / B32)+B32*n):=by rw[aiI,aiR]
 rw[o,l,K];simp only[aiR,aks];omega
def Xw {u ui:List Int} {k m:Nat} {q c b x V:Int} (w:DOk ui) (a:k+m < ae ui) (i:0<=c/\c < B32) (g:0<=b/\b<=1) (h:val ui=val u - B32 ^ k*(q*V)+B32 ^ (k+m)*(c+b)) (f:x=af ui (k+m) 0 - c - b) :
  (-B32<=x/\x < B32)/\val (ui.set (k+m) (x % B32))=val u - B32 ^ k*(q*V)+B32 ^ (k+m+1)*(if x < 0 then 1 else 0):=by
 have l:=w.getD (k+m);have z:-B32<=x/\x < B32:=by simp only[B32] at *;omega
 refine ⟨z,?_⟩;have e:=Eb (u:=ui) (j:=k+m) (y:=x % B32) (t:=c+b) (b:=if x < 0 then 1 else 0) a (by rw[Zb z,f];omega);rw[e,h,aj1,aks,aiI];omega
def WJ {u ui v:List Int} {k i:Nat} {c s:Int} (z:k+i < ae ui) (y:i < ae v) (h:val ui=val u+B32 ^ k*val (v.take i) - B32 ^ (k+i)*c) (w:s=af ui (k+i) 0+af v i 0+c) :
  val (ui.set (k+i) (s % B32))=val u+B32 ^ k*val (v.take (i+1)) - B32 ^ (k+(i+1))*(s / B32):=by
 have x:s % B32=af ui (k+i) 0 - (-(af v i 0+c))+B32*(-(s / B32)):=by have:=ajL s B32;rw[ak9];omega
 rw[Eb z x,h,fv y,<-ajf,aj1,aiR (B32 ^ k),<-aiI (B32 ^ k) (B32 ^ i),<-CW,aiI,aks,ak9,ak9,ak9,aiR];omega
def WI {u ui:List Int} {k m:Nat} {c s V:Int} (y:k+m < ae ui) (h:val ui=val u+B32 ^ k*V - B32 ^ (k+m)*c) (z:s=af ui (k+m) 0+c) :
  val (ui.set (k+m) (s % B32))=val u+B32 ^ k*V - B32 ^ (k+m+1)*(s / B32):=by
 have x:s % B32=af ui (k+m) 0 - (-c)+B32*(-(s / B32)):=by have:=ajL s B32;rw[ak9];omega
 rw[Eb y x,h,aj1,aiI,aks,ak9,ak9,ak9];omega
def KW (h:x < 4294967296):eP x<=32:=by
 unfold eP;split
 .omega
 .rename_i y;have:=(Nat.log2_lt y (k:=32)).2 aD;omega
def Iv (x:Int) (h:0<=x/\x < 4294967296):bg prog 167 [.c (.int .u32 x)] (.q0 ((32 - eP (az x):Nat):Int)):=by
 refine pw func167 ?_;have k:=KW (x:=az x) aD;have e:au .i64 (32 - (eP (az x):Int))=((32 - eP (az x):Nat):Int):=by rw[wrap_i64 aD aD];omega
 refine Y ?_;refine cX (XR x h) ?_;refine Y1 e ?_;exact aW rfl rfl
def PZ (z:x≠0) (h:x < 4294967296):2147483648<=x*2 ^ (32 - eP x)/\x*2 ^ (32 - eP x) < 4294967296/\32 - eP x < 32:=by
 have w:=KW h;have e:eP x=x.log2+1:=by unfold eP;rw[ah0 z]
 have a:=Nat.log2_self_le z;have b:=Nat.lt_log2_self (n:=x);have k:(2147483648:Nat)=2 ^ x.log2*2 ^ (32 - eP x):=by rw[<-alG,show x.log2+(32 - eP x)=31 by omega]
 have y:(4294967296:Nat)=2 ^ (x.log2+1)*2 ^ (32 - eP x):=by rw[<-alG,show x.log2+1+(32 - eP x)=32 by omega]
 refine ⟨?_,?_,aD⟩
 .rw[k];exact ai7 _ a
 .rw[y];exact Nat.mul_lt_mul_of_pos_right b (alS aR)
def ti:Nat->Int->List Int
 | 0,_=>[]
 | k+1,v=>v % B32::ti k (v / B32)
def KD:∀{l:List Int},DOk l->l=ti (ae l) (val l)
 | [],_=>rfl
 | d::r,h=>by have k:=KD h.tail;have x:=h.head;simp only[aiF,ti,val];simp only[B32] at *;rw[show (d+4294967296*val r) % 4294967296=d by omega,show (d+4294967296*val r) / 4294967296=val r by omega,<-k]
def NA (k:Nat) (v:Int):ae (ti k v)=k:=by
 induction k generalizing v with
 | zero=>rfl
 | succ k h=>simp[ti,h]
def PH (k:Nat) (v:Int):DOk (ti k v):=by
 induction k generalizing v with
 | zero=>exact .nil
 | succ k h=>exact .cons ⟨ajZ _ aR,ajA _ aR⟩ (h _)
def Il:∀{k:Nat} {v:Int},0<=v->v < B32 ^ k->val (ti k v)=v
 | 0,v,x,h=>by simp at h;simp[ti,val];omega
 | k+1,v,x,h=>by have:=Il (k:=k) (v:=v / B32) (ajY x aR) (ajX aR (by rw[aj1] at h;exact h));simp only[ti,val,this];have:=ajL v B32;omega
def Q8 (o:DOk y) (O:2<=ae y) (R:af y (ae y - 1) 0≠0) (J:n=32 - eP (az (af y (ae y - 1) 0))) :
  ∃v,cH (lJ y (2 ^ n) 0)=v/\ae v=ae y/\DOk v/\val v=val y*2 ^ n/\2147483648<=af v (ae v - 1) 0:=by
 have F:=o.getD (ae y - 1);simp only[B32] at F;generalize s:af y (ae y - 1) 0=t at *;have ⟨X,l,W⟩:=PZ (x:=az t) aD aD;rw[<-J] at X l W;have p:(0:Int) < 2 ^ n:=al5 aR;have r:(2:Int) ^ n<=B32:=by
  have:(2:Nat) ^ n<=2 ^ 31:=alj aR aD;have e:(2:Int) ^ n=((2 ^ n:Nat):Int):=by rw[akr];rfl
  rw[e];simp only[B32];omega
 have ⟨L,f⟩:=DU ⟨p,r⟩ (x:=y) (c:=0) o ⟨aR,p⟩;rw[ajG] at L;have b:=CB y (2 ^ n) 0;have A:(2147483648:Int)<=t*2 ^ n:=by
  obtain ⟨x,rfl⟩:∃x:Nat,t=x:=⟨az t,aD⟩;have e:(x:Int)*2 ^ n=((x*2 ^ n:Nat):Int):=by rw[akY,akr];rfl
  rw[e];simp at X;omega
 have N:t*2 ^ n+2 ^ n<=4294967296:=by
  obtain ⟨x,rfl⟩:∃x:Nat,t=x:=⟨az t,aD⟩;have e:(x:Int)*2 ^ n+2 ^ n=((x*2 ^ n+2 ^ n:Nat):Int):=by rw[Int.natCast_add,akY,akr];rfl
  rw[e];simp at l;have z:(4294967296:Nat)=2 ^ (32 - n)*2 ^ n:=by rw[<-alG,show 32 - n+n=32 by omega]
  rw[z] at l;have:x < 2 ^ (32 - n):=Nat.lt_of_mul_lt_mul_right l;have:(x+1)*2 ^ n<=2 ^ (32 - n)*2 ^ n:=ai7 _ this;rw[aiW,Nat.one_mul,<-z] at this;omega
 have K:=fv (m:=y) (i:=ae y - 1) aD;rw[show ae y - 1+1=ae y by omega,aiK,s] at K;have j:=mj (o.take (ae y - 1));rw[aiG,aiQ (by omega)] at j;have M:=dh (o.take (ae y - 1));have P:=kh (ae y - 1);have w:B32 ^ ae y=B32 ^ (ae y - 1)*B32:=by rw[<-aj1];congr 1;omega
 have I:val y*2 ^ n < B32 ^ ae y:=by
  rw[w,K,ajB];have C:val (y.take (ae y - 1))*2 ^ n < B32 ^ (ae y - 1)*2 ^ n:=ald j p;have D:B32 ^ (ae y - 1)*t*2 ^ n+B32 ^ (ae y - 1)*2 ^ n<=B32 ^ (ae y - 1)*B32:=by rw[aiI,<-aiR];exact aip (by simp only[B32];omega) aD
  omega
 have G:B32 ^ (ae y - 1)*2147483648<=val y*2 ^ n:=by
  rw[K,ajB];have C:0<=val (y.take (ae y - 1))*2 ^ n:=ajw M aD;have D:B32 ^ (ae y - 1)*2147483648<=B32 ^ (ae y - 1)*t*2 ^ n:=by rw[aiI];exact aip A aD
  omega
 have H:val (lJ y (2 ^ n) 0)=val ((lJ y (2 ^ n) 0).take (ae y))+B32 ^ ae y*af (lJ y (2 ^ n) 0) (ae y) 0:=by have:=fv (m:=lJ y (2 ^ n) 0) (i:=ae y) aD;rw[<-this,<-b,aiK]
 have k:af (lJ y (2 ^ n) 0) (ae y) 0=0:=by
  have g:=f.getD (ae y);have g2:=dh (f.take (ae y));have E:=kh (ae y);rcases ajQ 0 (af (lJ y (2 ^ n) 0) (ae y) 0) with h | h
  .have:B32 ^ ae y*1<=B32 ^ ae y*af (lJ y (2 ^ n) 0) (ae y) 0:=aip aD aD;omega
  .omega
 refine ⟨(lJ y (2 ^ n) 0).take (ae y),?_,by rw[aiG];omega,f.take _,by rw[k,ajM] at H;omega,?_⟩
 .rw[<-lL (by omega) (by rw[b];exact k),b,show ae y+1 - 1=ae y by omega];refine rJ ?_;rw[aiG,b,aiQ (by omega)];intro B;have:=fv (m:=(lJ y (2 ^ n) 0).take (ae y)) (i:=ae y - 1) (by rw[aiG];omega);rw[B,ajM,ajG,show ae y - 1+1=ae y by omega,amy,Nat.min_self,amy,aiQ (by omega)] at this;have q:=mj (f.take (ae y - 1));rw[aiG,aiQ (by omega)] at q;rw[k,ajM] at H;omega
 .rw[aiG,b,aiQ (by omega)];have:=fv (m:=(lJ y (2 ^ n) 0).take (ae y)) (i:=ae y - 1) (by rw[aiG];omega);rw[show ae y - 1+1=ae y by omega,amy,Nat.min_self,amy,aiQ (by omega)] at this;have q:=mj (f.take (ae y - 1));rw[aiG,aiQ (by omega)] at q;rw[k,ajM] at H;generalize af ((lJ y (2 ^ n) 0).take (ae y)) (ae y - 1) 0=a at *;rcases ajQ a 2147483648 with h | h
  .have:B32 ^ (ae y - 1)*(a+1)<=B32 ^ (ae y - 1)*2147483648:=aip aD aD;rw[aiR,aky] at this;omega
  .exact h
structure IB (u0:Int) (v:List Int) (L K:Nat) (u o:List Int):Prop where
 Et:u.length=L
 jz:o.length=L - v.length
 hu:DOk u
 ho:DOk o
 hK:K<=L - v.length
 lt:val (u.drop K) < val v
 eq:val v*(B32 ^ K*val (o.drop K))+val u=u0
def IB.step {y:Int} {v:List Int} {L k:Nat} {u o u':List Int} (I:IB y v L (k+1) u o) (g:ae v<=L) (hv:DOk v) {q:Int} (j:ae u'=ae u) (e:DOk u') (c:u'.take k=u.take k) (b:0<=q/\q < B32)
  (h:val (u'.drop k)=val (u.drop k) - q*val v) (x:val (u'.drop k) < val v):IB y v L k u' (o.set k q):=by
 have hK:=I.hK;have f:=I.Et;have a:=I.jz;refine ⟨aD,by rw[ah8];exact a,e,I.ho.set _ b,aD,x,?_⟩;have z:(o.set k q).drop k=q::o.drop (k+1):=by rw[ail (by rw[ah8];omega),akW,akc aD]
 have w:val u'=val u - B32 ^ k*(q*val v):=by rw[iL u' (i:=k) aD,iL u (i:=k) aD,c,h,aks];omega
 rw[z,w,val,<-I.eq,aj1,aiR,aiR,aiI (B32 ^ k) B32,akA (val v) (B32 ^ k) q,ai2 (val v) q];omega
def M0 (y:DOk x) (hv:DOk v) (t:1<=ae v) (g:ae v<=ae x) (X:(2:Int) ^ n<=2147483648) (W:2147483648<=af v (ae v - 1) 0) :
  val ((lJ x (2 ^ n) 0).drop (ae x+1 - ae v)) < val v:=by
 have k:(0:Int) < 2 ^ n:=al5 aR;have ⟨j,z⟩:=DU ⟨k,show (2:Int) ^ n<=B32 by simp only[B32];omega⟩ (x:=x) (c:=0) y ⟨aR,k⟩;have f:=CB x (2 ^ n) 0;rw[ajG] at j;generalize lJ x (2 ^ n) 0=u at *;have a:=fv (m:=u) (i:=ae x) aD;rw[<-f,aiK] at a;have r:=dh (z.take (ae x));have b:=mj y;have s:=ald b k;have H:=kh (ae x);have K:af u (ae x) 0 < 2 ^ n:=by
  rcases ajQ (af u (ae x) 0) (2 ^ n) with h | h
  .exact h
  .have:=aip h (show (0:Int)<=B32 ^ ae x by omega);omega
 have o:ae (u.drop (ae x+1 - ae v))=ae v:=by rw[akG];omega
 have w:=fv (m:=u.drop (ae x+1 - ae v)) (i:=ae v - 1) aD;rw[show ae v - 1+1=ae (u.drop (ae x+1 - ae v)) by omega,aiK] at w;have p:af (u.drop (ae x+1 - ae v)) (ae v - 1) 0=af u (ae x) 0:=by simp only[af,ajS];rw[show ae x+1 - ae v+(ae v - 1)=ae x by omega]
 rw[p] at w;have q:=mj ((z.drop (ae x+1 - ae v)).take (ae v - 1));rw[aiG,o,aiQ (by omega)] at q;have l:=fv (m:=v) (i:=ae v - 1) aD;rw[show ae v - 1+1=ae v by omega,aiK] at l;have A:=dh (hv.take (ae v - 1));have e:=kh (ae v - 1);have:B32 ^ (ae v - 1)*(af u (ae x) 0+1)<=B32 ^ (ae v - 1)*af v (ae v - 1) 0:=aip aD aD;rw[aiR,aky] at this;omega
def RJ {u:List Int} {k m:Nat} (x:DOk u) (hm:2<=m) (z:k+m+1<=ae u) (y:val (u.drop (k+m+1))=0) :
  ∃h,0<=h/\h < B32 ^ (m - 2)/\val (u.drop k)=((af u (k+m) 0*B32+af u (k+m - 1) 0)*B32+af u (k+m - 2) 0)*B32 ^ (m - 2)+h:=by
 refine ⟨val ((u.drop k).take (m - 2)),dh ((x.drop k).take _),?_,?_⟩
 .have:=mj ((x.drop k).take (m - 2));rw[aiG,akG,aiQ aD] at this;exact this
 .have e:=iL (u.drop k) (i:=m - 2) (by rw[akG];omega);rw[ajo,mJ (l:=u) (i:=k+(m - 2)) (by omega),mJ (l:=u) (i:=k+(m - 2)+1) (by omega),mJ (l:=u) (i:=k+(m - 2)+1+1) (by omega),
   show k+(m - 2)+1+1+1=k+m+1 by omega,y,show k+(m - 2)+1+1=k+m by omega,show k+(m - 2)+1=k+m - 1 by omega,show k+(m - 2)=k+m - 2 by omega] at e;rw[e,ai2 (B32 ^ (m - 2))];rw[anq];congr 2;simp only[B32];omega
def OI (hv:DOk v) (hm:2<=ae v) :
  ∃h,0<=h/\h < B32 ^ (ae v - 2)/\val v=(af v (ae v - 1) 0*B32+af v (ae v - 2) 0)*B32 ^ (ae v - 2)+h:=by
 refine ⟨val (v.take (ae v - 2)),dh (hv.take _),?_,?_⟩
 .have:=mj (hv.take (ae v - 2));rw[aiG,aiQ aD] at this;exact this
 .have e:=iL v (i:=ae v - 2) aD;rw[mJ (l:=v) (i:=ae v - 2) (by omega),mJ (l:=v) (i:=ae v - 2+1) (by omega),
   show ae v - 2+1+1=ae v by omega,aiZ,show ae v - 2+1=ae v - 1 by omega] at e
  conv=>lhs;rw[e]
  rw[ai2 (B32 ^ (ae v - 2)),anq];congr 2;simp only[B32,val];omega
def ZQ (l:V=(k*B32+x)*p+y) (m:W=(top*B32+w)*p+e) (n:0 < p) (f:y < p) (g:0<=e) (j:x < B32) (i:0<=w) (h:W < B32*V):top<=k*B32+(B32 - 1):=by
 rcases ajQ (k*B32+(B32 - 1)) top with z | z
 .exfalso;have a:(k*B32+B32)*B32*p<=(top*B32+w)*p:=by refine aik ?_ aD;have:(k*B32+B32)*B32<=top*B32:=aik aD aR;omega
  have b:(k*B32+x)*p+y < (k*B32+B32)*p:=by have:(k*B32+x+1)*p<=(k*B32+B32)*p:=aik aD aD;rw[ajB,aj2] at this;omega
  have c:B32*V < B32*((k*B32+B32)*p):=Int.mul_lt_mul_of_pos_left aD aR;have d:B32*((k*B32+B32)*p)=(k*B32+B32)*B32*p:=by rw[<-aiI,ai2 B32]
  omega
 .exact z
section
variable {P:Program} {N:Nat} {e:Env} {H:aF}
def AN (id:Nat) (Post:Env->aF->Prop):cx:=fun x e H=>x = .exit id/\Post e H
@[go_sem] def aay {id j:Nat} {Post:Env->aF->Prop}:AN id Post (.exit j) e H=(j=id/\Post e H):=by simp[AN]
def Ow {aY:List Nat} {c:cF} {id:Nat} {K:Env->aF->Prop} {R:cx} (Inv:Nat->Env->aF->Prop) (Post:Env->aF->Prop) {n:Nat} (k:Inv n (dd aY e) H)
  (round:∀n e H,Inv n e H->WP P N c (lh (fun h H'=>∃m,m < n/\Inv m (dd aY h) H') (AN id Post)) e H) (z:∀e H,Post e H->K e H):CM P N aY c (qi id (lh K R)) e H:=by intro y;refine (aZ (Q:=AN id Post) Inv k round y).mono fun x e H a=>?_;obtain ⟨rfl,w⟩:=a;simp only[Bs,ajs,Ak];exact z _ _ w
@[go_sem] def afU:Int.fdiv x (2 ^ min (Int.toNat 63) 64)=x / 9223372036854775808:=by rw[show ((2:Int) ^ min (Int.toNat 63) 64)=9223372036854775808 from rfl,akw _ aR]
def Zd (t:Nat) (l:Env):lk t l = .ba\/∃p,p∈l/\lk t l=p.2:=by
 induction l with
 | nil=>exact .inl rfl
 | cons x r y =>
  have ⟨s,v⟩:=x;simp only[lk];split
  .exact .inr ⟨(s,v),aO,rfl⟩
  .rcases y with h | ⟨p,k,h⟩
   .exact .inl h
   .exact .inr ⟨p,by simp[k],h⟩
def Qm (aY:List Nat) (m:Nat) (Inv:Nat->Env->aF->Prop) (n:Nat):Env->aF->Prop:=fun e' H'=>∃k,k < n/\(H'.take m).all (cg m)=aq/\(dd aY e').all (fun p=>jO m p.2)=aq/\Inv k (dd aY e') (H'.take m)
def Ar {aY:List Nat} {c:cF} {Q:cx} (m:Nat) (Inv:Nat->Env->aF->Prop) {n:Nat} (y:∀n e H,Inv n e H->ae H=m) (g:Inv n (dd aY e) H)
  (round:∀n e H,Inv n e H->WP P N c (lh (Qm aY m Inv n) Q) e H):CM P N aY c Q e H:=by
 intro o;refine Kg (Gc _ aY e H) (MJ (e:=dd aY e) Inv g fun n e H a=>?_);have hm:=y n e H a;refine (WP.aw o (round n e H a)).mono fun x z f b=>?_;cases x with
 | normal =>
  have ⟨k,q,i,j,l⟩:=b;refine ⟨k,dd aY z,f.take m,q,?_,l⟩;rw[hm];refine WkS.KQ (Ou (ahZ _) i) fun t=>?_;rcases Pq aY z t with h | h
  .rcases Zd t (dd aY z) with w | ⟨p,r,w⟩
   .exact .inl w
   .exact .inr ⟨h,by rw[<-h,w];exact ah4.1 j p r⟩
  .exact .inl h
 | _=>exact b
def ym {aY:List Nat} {c:cF} {id:Nat} {K:Env->aF->Prop} {R:cx} (m:Nat) (Inv:Nat->Env->aF->Prop) (Post:Env->aF->Prop) {n:Nat} (h:∀n e H,Inv n e H->ae H=m) (k:Inv n (dd aY e) H)
  (round:∀n e H,Inv n e H->WP P N c (lh (Qm aY m Inv n) (AN id Post)) e H) (z:∀e H,Post e H->K e H):CM P N aY c (qi id (lh K R)) e H:=by intro y;refine (Ar (Q:=AN id Post) m Inv h k round y).mono fun x e H a=>?_;obtain ⟨rfl,w⟩:=a;simp only[Bs,ajs,Ak];exact z _ _ w
@[go_sem] def agT {aY:List Nat} {m n:Nat} {Inv:Nat->Env->aF->Prop}:Qm aY m Inv n e H=∃k,k < n/\(H.take m).all (cg m)=aq/\(dd aY e).all (fun p=>jO m p.2)=aq/\Inv k (dd aY e) (H.take m):=(rfl)
def Qk (v:AV) (n:Nat) (H:aF) (r:AV) (H2:aF):AV->Prop:=fun w=>Fin n (.bM [v,w]) H r H2
@[go_sem] def agI:Qk v n H r h w=Fin n (.bM [v,w]) H r h:=(rfl)
def Wa (y:AV) (ag:Bool) (k n:Nat) (H:aF) (r:AV) (H2:aF):AV->Prop:=fun v=>LdP ag k y H (Qk v n H r H2)
@[go_sem] def agH:Wa y ag k n H r h v=LdP ag k y H (Qk v n H r h):=(rfl)
def Sn:LdP ag k a H K=bO (match a with
  | .fp cs o=>gC ag cs o k
  | .ptr id ver i o=>(aI H id ver).bind fun ob=>(ob.xs[i]?).bind fun x=>gC ag x o k
  | _=>an) K:=(rfl)
def LL:DP e H (.cell x ag k)=(match lk x e with
  | .fp cs o=>gC ag cs o k
  | .ptr id ver i o=>(aI H id ver).bind fun ob=>(ob.xs[i]?).bind fun x=>gC ag x o k
  | _=>an):=(rfl)
@[go_sem] def aaQ:xN e H [.cell x ag k,.cell y h w] n r z=LdP ag k (lk x e) H (Wa (lk y e) h w n H r z):=by simp only[xN,ng,LL,Sn,kC,zW,ai3];congr 1
end
def Ge (a b:Int):au .u64 (au .u64 a - b)=(a - b) % 18446744073709551616:=by rw[oL,oL];omega
def UA {top y p W V h f z w:Int} (g:V=(h*B32+f)*p+z) (n:W=(top*B32+y)*p+w) (o:0 < p) (i:0<=z) (j:w < p) (m:y < B32) (k:0 < h) (x:0<=f) (l:0<=top):W < (top / h+1)*V:=by
 have e:=ajL top h;have r1:=ajA top k;have r:0<=top / h:=ajY l aD;generalize top / h=q at *;have a:(top+1)*B32*p<=(q+1)*h*B32*p:=by refine aik (aik ?_ (by decide)) (by omega);rw[ajB,ai2 q h];omega
 have b:(q+1)*h*B32*p<=(q+1)*V:=by rw[g,aiI (q+1) h B32,aiI (q+1)];refine aip ?_ (by omega);rw[ajB];have:=ajw x (show 0<=p by omega);omega
 have c:W < (top+1)*B32*p:=by have:(top*B32+y+1)*p<=(top+1)*B32*p:=aik (by rw[ajB];simp only[B32] at *;omega) aD;rw[ajB,aj2] at this;omega
 omega
def aaa (x y:List Int) (hx:DOk x) (hy:DOk y) (hl:ae x < 4294967294) (h2:2<=ae y) (k7:ae y<=ae x) (hs:cH y=y) (f g:Bool) :
  bg prog 138 [.seq 1 f (eh x),.seq 1 g (eh y)] (.bM [eY (ti (ae x+1 - ae y) (val x / val y)),eY (ti (ae y) (val x % val y))]):=by
 have i8:af y (ae y - 1) 0≠0:=by intro h0;have:=lL (l:=y) aD h0;have R:=xK (y.take (ae y - 1));rw[this,hs,aiG] at R;omega
 have ⟨v,i4,e6,w,a1,i5⟩:=Q8 hy h2 i8 rfl;have e7:=hy.getD (ae y - 1);simp only[B32] at e7;have ⟨_,_,hn⟩:=PZ (x:=az (af y (ae y - 1) 0)) aD aD;generalize g8:32 - eP (az (af y (ae y - 1) 0))=n at *;refine pw func138 ?_;have z:(ah:Int)=0:=rfl;have e1:au .i64 ((ae y:Int) - 1)=((ae y - 1:Nat):Int):=by rw[wrap_i64 (by omega) (by omega)];omega
 have b1:((ae y - 1:Nat):Int) < (ae y:Int):=aD;have nn:∀n:Nat,(0<=(n:Int)):=fun n=>aD;refine Y4 z e1 b1 nn ?_;refine cX (Iv _ e7) ?_;rw[g8];refine Y ?_;refine dS (FU x n aD hx hn f) ?_;refine Y ?_;refine cY (TH y n (by omega) hy hn g) ?_;refine cX (Gb (lJ y (2 ^ n) 0) (by rw[CB];omega) ar) ?_;rw[i4];have e2:au .i64 (((ae x+1:Nat):Int) - ae v)=((ae x+1 - ae v:Nat):Int):=by rw[wrap_i64 (by omega) (by omega)];omega
 have e3:au .i64 (((ae x+1 - ae v:Nat):Int) - 1)=((ae x+1 - ae v:Nat):Int) - 1:=by rw[wrap_i64 (by omega) (by omega)]
 refine Y3 e2 e3 nn ?_;have b6:(0:Int) < 2 ^ n:=al5 aR;have g9:(2:Int) ^ n<=2147483648:=by
  have:(2:Nat) ^ n<=2 ^ 31:=alj aR aD;have e:(2:Int) ^ n=((2 ^ n:Nat):Int):=by rw[akr];rfl
  rw[e];omega
 have ⟨f0,j4⟩:=DU ⟨b6,show (2:Int) ^ n<=B32 by simp only[B32];omega⟩ (x:=x) (c:=0) hx ⟨aR,b6⟩;rw[ajG] at f0;refine ⟨aD,?_⟩;refine aZ (fun K e H=>∃u o,IB (val x*2 ^ n) v (ae x+1) K u o/\H=[ak ⟨1,0,eh u⟩,ak ⟨1,0,eh o⟩] /\
  e=[(6,.q0 n),(7,.sl 1 0 0 0 (ae x+1)),(8,eY v),(9,.q0 (ae v)),(10,.sl 1 1 0 0 (ae x+1 - ae v)),(11,.q0 ((K:Int) - 1))])
  (n:=ae x+1 - ae v) ⟨lJ x (2 ^ n) 0,aA (ae x+1 - ae v) 0,⟨CB _ _ _,aO,j4,fun d hd=>by rw[(ajN.1 hd).2];decide,ahZ _,?_,?_⟩,rfl,rfl⟩ ?_
 .exact M0 hx w aD aD g9 i5
 .rw[ak8 (by simp)];simp only[val,ajM,f0];omega
 rintro K _ _ ⟨u,o,I,rfl,rfl⟩;rcases K with _ | k
 case zero =>
  have h0:((0:Int)<=((0:Nat):Int) - 1)=False:=aO;refine Y2 h0 nn ?_;have G:=I.lt;have F:=I.eq;simp only[ajx,anr,aj2] at G F;have hz:B32=2 ^ n*2 ^ (32 - n):=by rw[<-amA,show n+(32 - n)=32 by omega];rfl
  have ⟨j2,e9⟩:=N0 b6 hz I.hu;have j3:=XH u (2 ^ n);have Et:=I.Et;have i7:0 < val y:=by
   have R:=dh hy;have h3:=dh I.hu;rcases ajQ 0 (val y) with h | h
   .exact h
   .have:val y=0:=aD;rw[this,Int.zero_mul] at a1;omega
  have e0:val u=2 ^ n*(val x - val y*val o):=by rw[a1] at F;rw[aks,ai2 _ (val x),<-F,ai2 (val y) (2 ^ n),aiI];omega
  have a4:val u / 2 ^ n=val x - val y*val o:=by rw[e0,Int.mul_ediv_cancel_left _ (by omega)]
  have f9:0<=val x - val y*val o:=by rw[<-a4];exact ajY (dh I.hu) aD
  have g0:val x - val y*val o < val y:=by rw[e0,a1,ai2 (val y) (2 ^ n)] at G;exact amK G aD
  have d0:val o=val x / val y:=(((amm i7 (q:=val o) (r:=val x - val y*val o)).2 ⟨aD,f9,g0⟩).1).symm;have h9:val x - val y*val o=val x % val y:=by rw[d0];have:=ajL (val x) (val y);omega
  refine ⟨aD,?_⟩;refine aZ (fun K e H=>∃(i:Nat) (r:List Int),i<=ae v/\K=ae v - i/\ae r=ae v/\r.take i=(rW u (2 ^ n)).take i/\H=[ak ⟨1,0,eh u⟩,ak ⟨1,0,eh o⟩,ak ⟨1,0,eh r⟩] /\
   e=[(6,.q0 n),(7,.sl 1 0 0 0 (ae x+1)),(10,.sl 1 1 0 0 (ae x+1 - ae v)),(25,.sl 1 2 0 0 (ae v)),(229,.q0 (ae v)),(230,.q0 i)]) (n:=ae v)
   ⟨0,aA (ae v) 0,aiL _,rfl,aO,rfl,rfl,rfl⟩ ?_;rintro K _ _ ⟨i,r,hi,rfl,N,T,rfl,rfl⟩;by_cases A:(i:Int) < (ae v:Int)
  .have B:i < ae v:=aD;have g1:=I.hu.getD i;have g2:=I.hu.getD (i+1);simp only[B32] at g1 g2;have D:(0:Int)<=32:=aR;have W:(1:Nat)<=1:=aR;have y1:au .u64 (af u i 0)=af u i 0:=bN aD aD;have P:au .u64 (af u (i+1) 0)=af u (i+1) 0:=bN aD aD;have y3:au .u64 (af u (i+1) 0*4294967296)=af u (i+1) 0*4294967296:=bN aD aD;have y4:xD .u64 (af u i 0) (af u (i+1) 0*4294967296)=af u i 0+4294967296*af u (i+1) 0:=by rw[show af u (i+1) 0*4294967296=af u (i+1) 0*2 ^ 32 from rfl,v9 (k:=32) (by omega) (by omega) (by omega)];omega
   have y5:au .i64 ((i:Int)+1)=((i+1:Nat):Int):=by rw[wrap_i64 (by omega) (by omega)];omega
   have y6:(i:Int) < ((ae x+1:Nat):Int):=aD;have y7:((i+1:Nat):Int) < ((ae x+1:Nat):Int):=aD;have y8:i < ae u:=aD;have y9:i+1 < ae u:=aD;have O:min n 64=n:=aD;have j6:Int.fdiv (af u i 0+4294967296*af u (i+1) 0) (2 ^ n)=(af u i 0+4294967296*af u (i+1) 0) / 2 ^ n:=akw _ aD;have j7:i < ae r:=aD;simp only[go_sem,↓reduceIte,aia,z,nn,A,D,W,y1,P,y3,y4,y5,y6,y7,y8,y9,O,j6,j7,eI];have i0:=VD (l:=u) (p:=2 ^ n) (i:=i) y8;refine ⟨ae v - (i+1),aD,i+1,r.set i ((af u i 0+4294967296*af u (i+1) 0) / 2 ^ n % 4294967296),B,rfl,by rw[ah8];exact N,?_,rfl,rfl⟩;have e1:=Tc u (2 ^ n) i;have e2:(rW u (2 ^ n))[i]?=ak ((af u i 0+4294967296*af u (i+1) 0) / 2 ^ n % 4294967296):=by have:(rW u (2 ^ n))[i]?=((rW u (2 ^ n)).drop i)[0]?:=aO;rw[this,e1,i0];rfl
   rw[aiT (by rw[ah8];omega),akW,akl (ahZ _),T,List.take_add_one,e2];rfl
  .have J:i=ae v:=by omega
   subst J;refine Y1 A ?_;rw[<-N,aiK,N] at T;have d9:DOk r:=by rw[T];exact e9.take _
   have i6:val r=val x % val y:=by
    have R:=iL (rW u (2 ^ n)) (i:=ae v) (by rw[j3];omega);rw[<-T,j2,a4] at R;have h3:=dh (e9.drop (ae v));have h4:=dh d9;have h5:=mj w;have h6:val y<=val v:=by rw[a1];have:=aip (show (1:Int)<=2 ^ n by omega) (show 0<=val y by omega);omega
    have hB:=kh (ae v);generalize B32 ^ ae v=p at *;rw[<-h9];rcases ajQ 0 (val ((rW u (2 ^ n)).drop (ae v))) with h7 | h7
    .have:p*1<=p*val ((rW u (2 ^ n)).drop (ae v)):=aip aD aD;omega
    .have h8:val ((rW u (2 ^ n)).drop (ae v))=0:=aD;rw[h8,ajM] at R;omega
   have er:r=ti (ae y) (val x % val y):=by rw[<-i6,<-e6,<-N];exact KD d9
   have eo:o=ti (ae x+1 - ae y) (val x / val y):=by rw[<-d0,<-e6,<-I.jz];exact KD I.ho
   refine pD (id:=1) (ver:=0) (ob:=⟨1,0,eh o⟩) (by simp[aI]) (tL o) ?_;have g1:dD 1 0 1 (eh o) (.bM [.sl 1 1 0 0 (ae x+1 - ae v),.sl 1 2 0 0 (ae v)]) = .bM [eY o,.sl 1 2 0 0 (ae v)]:=by simp only[dD,qB,fm,aiS,ajE,ajx];rw[<-I.jz,<-ah3 (f:=j5),aiK];simp
   show Fin 0 (dD 1 0 1 (eh o) _) _ _ _;rw[g1];refine pD (id:=2) (ver:=0) (ob:=⟨1,0,eh r⟩) (by simp[aI]) (tL r) ?_;have g2:dD 2 0 1 (eh r) (.bM [eY o,.sl 1 2 0 0 (ae v)]) = .bM [eY o,eY r]:=by simp only[dD,qB,fm,aiS,ajE,ajx];rw[<-N,<-ah3 (f:=j5),aiK];simp
   show Fin 0 (dD 2 0 1 (eh r) _) _ _ _;rw[g2];exact aW (by rw[er,eo]) rfl
 case succ =>
  have g7:((k+1:Nat):Int) - 1=(k:Int):=aD;have k6:k+ae v < ae x+1:=cn I.hK;have f1:au .i64 ((k:Int)+ae v)=((k+ae v:Nat):Int):=by rw[wrap_i64 (by omega) (by omega)];omega
  have f2:au .i64 (((k+ae v:Nat):Int) - 1)=((k+ae v - 1:Nat):Int):=by rw[wrap_i64 (by omega) (by omega)];omega
  have f3:au .i64 (((k+ae v:Nat):Int) - 2)=((k+ae v - 2:Nat):Int):=by rw[wrap_i64 (by omega) (by omega)];omega
  have f4:au .i64 ((ae v:Int) - 1)=((ae v - 1:Nat):Int):=by rw[wrap_i64 (by omega) (by omega)];omega
  have f5:au .i64 ((ae v:Int) - 2)=((ae v - 2:Nat):Int):=by rw[wrap_i64 (by omega) (by omega)];omega
  have c1:((k+ae v:Nat):Int) < ((ae x+1:Nat):Int):=aD;have c2:((k+ae v - 1:Nat):Int) < ((ae x+1:Nat):Int):=aD;have c3:((k+ae v - 2:Nat):Int) < ((ae x+1:Nat):Int):=aD;have c4:((ae v - 1:Nat):Int) < (ae v:Int):=aD;have c5:((ae v - 2:Nat):Int) < (ae v:Int):=aD;have n1:k+ae v < ae u:=by rw[I.Et];omega
  have n2:k+ae v - 1 < ae u:=aD;have n3:k+ae v - 2 < ae u:=aD;have g1:=I.hu.getD (k+ae v);have g2:=I.hu.getD (k+ae v - 1);have g3:=I.hu.getD (k+ae v - 2);have g4:=w.getD (ae v - 1);have g5:=w.getD (ae v - 2);simp only[B32] at g1 g2 g3 g4 g5;have d1:au .u64 (af u (k+ae v) 0)=af u (k+ae v) 0:=bN aD aD;have d2:au .u64 (af u (k+ae v - 1) 0)=af u (k+ae v - 1) 0:=bN aD aD;have d3:au .u64 (af u (k+ae v - 2) 0)=af u (k+ae v - 2) 0:=bN aD aD;have d4:au .u64 (af v (ae v - 1) 0)=af v (ae v - 1) 0:=bN aD aD;have d5:au .u64 (af v (ae v - 2) 0)=af v (ae v - 2) 0:=bN aD aD;have d6:au .u64 (af u (k+ae v) 0*4294967296)=af u (k+ae v) 0*4294967296:=bN aD aD;have d7:xD .u64 (af u (k+ae v) 0*4294967296) (af u (k+ae v - 1) 0)=af u (k+ae v) 0*4294967296+af u (k+ae v - 1) 0:=by rw[Ij,show af u (k+ae v) 0*4294967296=af u (k+ae v) 0*2 ^ 32 from rfl,v9 (k:=32) (by omega) (by omega) (by omega)];omega
  have k0:(0:Int)<=(k:Int):=aD;have i3:(af v (ae v - 1) 0=0)=False:=aie aD;have ⟨_,wz,wB⟩:=TI (k:=k) I.hu w aD I.lt;have ⟨Wr,b9,f7,hW⟩:=RJ (k:=k) (m:=ae v) I.hu aD aD wz;have ⟨Vr,a2,b8,hV⟩:=OI w aD;have M:=kh (ae v - 2);have D:(0:Int)<=32:=aR;obtain ⟨top,b2⟩:∃t,t=af u (k+ae v) 0*4294967296+af u (k+ae v - 1) 0:=⟨_,rfl⟩;have U:0<=top/\top < 18446744073709551616:=aD;rw[<-b2] at d7;simp only[B32] at hW hV;rw[<-b2] at hW;have b5:=UA hV hW M a2 f7 (by simp only[B32];omega) aD aD U.1;have i1:=ZQ hV hW M b8 b9 (by simp only[B32];omega) aD wB;simp only[B32] at i1;have t1:top.tdiv (af v (ae v - 1) 0)=top / af v (ae v - 1) 0:=ai6 U.1;have t2:top.tmod (af v (ae v - 1) 0)=top % af v (ae v - 1) 0:=ajn U.1;have t3:=ajY U.1 (show 0<=af v (ae v - 1) 0 by omega);have t4:top / af v (ae v - 1) 0<=4294967297:=by have:top / af v (ae v - 1) 0 < 4294967298:=ajX aD aD;omega
  have t5:au .u64 (top / af v (ae v - 1) 0)=top / af v (ae v - 1) 0:=bN t3 aD;have t6:=ajZ top (show af v (ae v - 1) 0≠0 by omega);have t7:=ajA top (show 0 < af v (ae v - 1) 0 by omega);have t8:=ajL top (af v (ae v - 1) 0);simp only[go_sem,↓reduceIte,aia,z,nn,g7,f1,f2,f4,c1,c2,c4,n1,n2,d1,d2,d4,d6,d7,i3,aly,ajz,D,t1,t2,t5];refine Ow (fun Q e H=>∃q r:Int,Q=az q/\top=q*af v (ae v - 1) 0+r/\(0<=r/\r < 4294967296)/\(0<=q/\q<=4294967297)/\val (u.drop k) < (q+1)*val v/\H=[ak ⟨1,0,eh u⟩,ak ⟨1,0,eh o⟩] /\
   e=[(6,.q0 n),(7,.sl 1 0 0 0 (ae x+1)),(8,eY v),(9,.q0 (ae v)),(10,.sl 1 1 0 0 (ae x+1 - ae v)),(11,.q0 k),(13,.c (.int .u64 q)),(14,.c (.int .u64 r))])
   (fun e H=>∃q:Int,(0<=q/\q < 4294967296)/\val (u.drop k) < (q+1)*val v/\q*val v < val (u.drop k)+val v/\H=[ak ⟨1,0,eh u⟩,ak ⟨1,0,eh o⟩]/\lk 6 e = .q0 n/\lk 7 e = .sl 1 0 0 0 (ae x+1)/\lk 8 e=eY v/\lk 9 e = .q0 (ae v) /\
    lk 10 e = .sl 1 1 0 0 (ae x+1 - ae v)/\lk 11 e = .q0 k/\lk 13 e = .c (.int .u64 q))
   ⟨_,_,rfl,by rw[ai2];omega,⟨t6,aD⟩,⟨t3,t4⟩,b5,rfl,rfl⟩ ?_ ?_
  .rintro Q _ _ ⟨q,r,rfl,d8,hr,hq,g6,rfl,rfl⟩;have a3:(4294967296<=q\/r*4294967296+af u (k+ae v - 2) 0 < q*af v (ae v - 2) 0)->1<=q/\val (u.drop k) < q*val v:=by
    rintro (h | h)
    .refine ⟨aD,?_⟩;have:B32*val v<=q*val v:=aik h (dh w);omega
    .refine ⟨?_,UB hV hW d8 M a2 f7 hq.1 h⟩;rcases ajQ q 1 with R | R
     .have:q=0:=aD;subst this;omega
     .exact R
   have w2:au .u64 (r+af v (ae v - 1) 0)=r+af v (ae v - 1) 0:=bN aD aD;have c0:1<=q->val (u.drop k) < q*val v ->
    (4294967296<=r+af v (ae v - 1) 0->q - 1 < 4294967296/\(q - 1)*val v < val (u.drop k)+val v)/\top=(q - 1)*af v (ae v - 1) 0+(r+af v (ae v - 1) 0)/\val (u.drop k) < (q - 1+1)*val v:=by
    intro R h3;have e1:(q - 1)*af v (ae v - 1) 0=q*af v (ae v - 1) 0 - af v (ae v - 1) 0:=by rw[Int.sub_mul,aj2]
    refine ⟨fun hb=>?_,aD,by rw[Int.sub_add_cancel];exact h3⟩;have b7:q - 1 < 4294967296:=by
     rcases ajQ (q - 1) 4294967296 with h | h
     .exact h
     .have:q=4294967297:=aD;subst this;omega
    refine ⟨b7,K5 (q:=q - 1) (r:=r+af v (ae v - 1) 0) hV hW aD M ⟨a2,b8⟩ b9 ⟨aD,b7⟩ aD aD ?_⟩;have:=oV (a:=q - 1) (b:=af v (ae v - 2) 0) ⟨aD,b7⟩ g5;simp only[B32];omega
   by_cases S:4294967296<=q
   .have ⟨k1,k2⟩:=a3 (.inl S);have ⟨k3,k4,k5⟩:=c0 k1 k2;have w1:au .u64 (q - 1)=q - 1:=bN aD aD;refine Y8 z nn S f4 c4 d4 w1 w2 ?_;exact ⟨fun h=>⟨q - 1,⟨aD,(k3 h).1⟩,k5,(k3 h).2,rfl⟩,fun h=>⟨az (q - 1),aD,q - 1,_,rfl,k4,⟨aD,aD⟩,⟨aD,aD⟩,k5,rfl⟩⟩
   .have p1:=oV (a:=q) (b:=af v (ae v - 2) 0) ⟨aD,aD⟩ g5;have w3:au .u64 (q*af v (ae v - 2) 0)=q*af v (ae v - 2) 0:=bN aD aD;have w4:au .u64 (r*4294967296)=r*4294967296:=bN aD aD;have w5:xD .u64 (r*4294967296) (af u (k+ae v - 2) 0)=r*4294967296+af u (k+ae v - 2) 0:=by rw[Ij,show r*4294967296=r*2 ^ 32 from rfl,v9 (k:=32) (by omega) (by omega) (by omega)];omega
    by_cases hc:r*4294967296+af u (k+ae v - 2) 0 < q*af v (ae v - 2) 0
    .have ⟨k1,k2⟩:=a3 (.inr hc);have ⟨k3,k4,k5⟩:=c0 k1 k2;have w1:au .u64 (q - 1)=q - 1:=bN aD aD;simp only[go_sem,↓reduceIte,aia,z,nn,S,f4,c4,d4,w1,w2,f5,c5,d5,f1,f3,n3,c3,d3,w3,w4,w5,hc,D];exact ⟨fun h=>⟨q - 1,⟨aD,(k3 h).1⟩,k5,(k3 h).2,rfl⟩,fun h=>⟨az (q - 1),aD,q - 1,_,rfl,k4,⟨aD,aD⟩,⟨aD,aD⟩,k5,rfl⟩⟩
    .simp only[go_sem,↓reduceIte,aia,z,nn,S,f5,c5,d5,f1,f3,n3,c3,d3,w3,w4,w5,hc,D];exact ⟨q,⟨aD,aD⟩,g6,K5 hV hW d8 M ⟨a2,b8⟩ b9 ⟨aD,by simp only[B32];omega⟩ aD aD (by simp only[B32];omega),rfl⟩
  .rintro e _ ⟨q,hq,c7,j9,rfl,l6,l7,l8,l9,i9,j0,j1⟩;refine Y7 l6 l7 l8 l9 i9 j0 j1 ?_;have qb:0<=q*val v:=ajw hq.1 (dh w);have done:∀(u':List Int) (q':Int),ae u'=ae u->DOk u'->u'.take k=u.take k->(0<=q'/\q' < 4294967296)->val (u'.drop k)=val (u.drop k) - q'*val v->val (u'.drop k) < val v ->
     ∃m,m < k+1/\∃f6 e8,IB (val x*2 ^ n) v (ae x+1) m f6 e8/\([ak ⟨1,0,eh u'⟩,ak ⟨1,0,eh (o.set k q')⟩]:aF)=[ak ⟨1,0,eh f6⟩,ak ⟨1,0,eh e8⟩] /\
     ([(6,.q0 n),(7,.sl 1 0 0 0 (ae x+1)),(8,eY v),(9,.q0 (ae v)),(10,.sl 1 1 0 0 (ae x+1 - ae v)),(11,.q0 ((k:Int) - 1))]:Env) =
     [(6,.q0 n),(7,.sl 1 0 0 0 (ae x+1)),(8,eY v),(9,.q0 (ae v)),(10,.sl 1 1 0 0 (ae x+1 - ae v)),(11,.q0 ((m:Int) - 1))] :=
    fun u' q' z1 z2 z3 z4 z5 z6=>⟨k,aD,u',o.set k q',I.step aD w z1 z2 z3 z4 z5 z6,rfl,rfl⟩;have o1:k < ae o:=by rw[I.jz];have:=I.hK;omega
   have o2:(k:Int) < ((ae x+1 - ae v:Nat):Int):=cn I.jz;have o3:au .i64 ((k:Int) - 1)=(k:Int) - 1:=wrap_i64 aD aD;have o4:q % 4294967296=q:=akL hq.1 hq.2;have W:(1:Nat)<=1:=aR;have c6:(0:Int)<=63:=aR;refine aZ (fun K e H=>∃(i:Nat) (ui:List Int) (c b:Int),i<=ae v/\K=ae v - i/\DOk ui/\ae ui=ae u/\ui.take k=u.take k/\ui.drop (k+i)=u.drop (k+i)/\(0<=c/\c < 4294967296)/\(0<=b/\b<=1) /\
    val ui=val u - B32 ^ k*(q*val (v.take i))+B32 ^ (k+i)*(c+b)/\H=[ak ⟨1,0,eh ui⟩,ak ⟨1,0,eh o⟩] /\
    e=[(6,.q0 n),(7,.sl 1 0 0 0 (ae x+1)),(8,eY v),(9,.q0 (ae v)),(10,.sl 1 1 0 0 (ae x+1 - ae v)),(11,.q0 k),(13,.c (.int .u64 q)),(15,.c (.int .u64 b)),(16,.c (.int .u64 c)),
     (126,eY v),(127,.q0 (ae v)),(128,.q0 i)]) (n:=ae v)
    ⟨0,u,0,0,aiL _,rfl,I.hu,rfl,rfl,rfl,aR,aR,by simp[val],rfl,rfl⟩ ?_;rintro K _ _ ⟨i,ui,c,b,hi,rfl,E,Et,e4,c8,hc,hb,j,rfl,rfl⟩;by_cases A:(i:Int) < (ae v:Int)
   .have B:i < ae v:=aD;have gd:=w.getD i;have gu:=E.getD (k+i);simp only[B32] at gd gu;have ⟨m1,m2,m3,m4⟩:=Xx (u:=u) (v:=v) (k:=k) (i:=i) (q:=q) (c:=c) (b:=b) (p:=q*af v i 0+c) E aD B rfl (by simp only[B32];omega) w (by simp only[B32];omega) hb j rfl rfl;have ⟨m5,m6⟩:=Ov m3;have p1:=oV (a:=q) (b:=af v i 0) hq gd;have y1:au .u64 (af v i 0)=af v i 0:=bN aD aD;have P:au .u64 (q*af v i 0)=q*af v i 0:=bN aD aD;have y3:au .u64 (q*af v i 0+c)=q*af v i 0+c:=bN aD aD;have y4:au .i64 ((k:Int)+i)=((k+i:Nat):Int):=by rw[wrap_i64 (by omega) (by omega)];omega
    have y5:((k+i:Nat):Int) < ((ae x+1:Nat):Int):=aD;have y6:k+i < ae ui:=aD;have y7:au .u64 (af ui (k+i) 0)=af ui (k+i) 0:=bN aD aD;have y8:au .u32 (q*af v i 0+c)=(q*af v i 0+c) % 4294967296:=eI _;have y9:au .u64 ((q*af v i 0+c) % 4294967296)=(q*af v i 0+c) % 4294967296:=bN aD aD;have O:au .i64 ((i:Int)+1)=((i+1:Nat):Int):=by rw[wrap_i64 (by omega) (by omega)];omega
    simp only[go_sem,↓reduceIte,aia,z,nn,A,D,y1,P,y3,y4,y5,y6,y7,y8,y9,O,Ge,eI];simp only[B32] at m5 m6;rw[m5,m6];refine ⟨aR,aR,ae v - (i+1),aD,i+1,ui.set (k+i) ((af ui (k+i) 0 - (q*af v i 0+c) % 4294967296 - b) % 4294967296),(q*af v i 0+c) / 4294967296,_,B,rfl,E.set _ ⟨ajZ _ aR,ajA _ aR⟩,
     by rw[ah8];exact Et,by rw[akl (by omega)];exact e4,?_,m2,?_,m4,rfl,rfl⟩
    .rw[akc (by omega),<-ajf,<-ajo,c8,ajo]
    .split<;>decide
   .have J:i=ae v:=aD;subst J;have gu:=E.getD (k+ae v);simp only[B32] at gu;have y1:au .u64 (af ui (k+ae v) 0)=af ui (k+ae v) 0:=bN aD aD;have P:k+ae v < ae ui:=aD;rw[aiK] at j;have ⟨m1,m2⟩:=Xw (u:=u) (k:=k) (m:=ae v) (q:=q) (V:=val v) (c:=c) (b:=b) E P hc hb j rfl;have ⟨m3,m4⟩:=Ov m1;have C:(ui.set (k+ae v) ((af ui (k+ae v) 0 - c - b) % B32)).take k=u.take k:=by rw[akl (by omega)];exact e4
    have a5:(ui.set (k+ae v) ((af ui (k+ae v) 0 - c - b) % B32)).drop (k+ae v+1)=u.drop (k+ae v+1):=by rw[akc (by omega),<-ajo,c8,ajo]
    have L:DOk (ui.set (k+ae v) ((af ui (k+ae v) 0 - c - b) % B32)):=E.set _ ⟨ajZ _ aR,ajA _ aR⟩;have ⟨r1,r2,r3⟩:=VJ (u:=u) (v:=v) (k:=k) (q:=q) I.hu L w aD (by rw[ah8];exact Et) I.lt C a5 (by split<;>decide) m2;simp only[B32] at m3 m4;by_cases a7:af ui (k+ae v) 0 - c - b < 0
    .rw[ah1 a7] at m4 r1 r2 r3;have k9:=r3 rfl;have y3:au .u64 (q - 1)=q - 1:=by
      refine bN ?_ aD;rcases ajQ q 1 with h | h
      .have:q=0:=aD;subst this;have:=dh (I.hu.drop k);omega
      .omega
     have o5:(q - 1) % 4294967296=q - 1:=by rw[oL] at y3;omega
     simp only[go_sem,↓reduceIte,aia,z,nn,A,f1,c1,y1,P,Ge,eI,m3,m4,y3,c6,W];generalize i2:ui.set (k+ae v) ((af ui (k+ae v) 0 - c - b) % 4294967296)=u1 at *;have e5:ae u1=ae u:=by rw[<-i2,ah8];exact Et
     refine aZ (fun K e H=>∃(i:Nat) (s:List Int) (c:Int),i<=ae v/\K=ae v - i/\DOk s/\ae s=ae u/\s.take k=u.take k/\s.drop (k+i)=u1.drop (k+i)/\(0<=c/\c<=1) /\
      val s=val u1+B32 ^ k*val (v.take i) - B32 ^ (k+i)*c/\H=[ak ⟨1,0,eh s⟩,ak ⟨1,0,eh o⟩] /\
      e=[(6,.q0 n),(7,.sl 1 0 0 0 (ae x+1)),(8,eY v),(9,.q0 (ae v)),(10,.sl 1 1 0 0 (ae x+1 - ae v)),(11,.q0 k),(13,.c (.int .u64 (q - 1))),(22,.c (.int .u32 c)),
       (187,eY v),(188,.q0 (ae v)),(189,.q0 i)]) (n:=ae v)
      ⟨0,u1,0,aiL _,rfl,L,e5,C,rfl,aR,by simp[val],rfl,rfl⟩ ?_;rintro K _ _ ⟨i,s,c,hi,rfl,a0,b3,a9,a6,hc,j,rfl,rfl⟩;by_cases A:(i:Int) < (ae v:Int)
     .have B:i < ae v:=aD;have gd:=w.getD i;have gu:=a0.getD (k+i);simp only[B32] at gd gu;have y4:au .i64 ((k:Int)+i)=((k+i:Nat):Int):=by rw[wrap_i64 (by omega) (by omega)];omega
      have y5:((k+i:Nat):Int) < ((ae x+1:Nat):Int):=aD;have y6:k+i < ae s:=aD;have O:au .i64 ((i:Int)+1)=((i+1:Nat):Int):=by rw[wrap_i64 (by omega) (by omega)];omega
      have b4:=WJ (u:=u1) (ui:=s) (v:=v) (k:=k) (i:=i) (c:=c) y6 B j rfl;refine Z6 z nn A y4 y5 y6 ?_;refine cX (CF _ _ c gu gd hc) ?_;refine Z6 z nn y5 y6 O W ?_;refine ⟨ae v - (i+1),aD,i+1,s.set (k+i) ((af s (k+i) 0+af v i 0+c) % 4294967296),(af s (k+i) 0+af v i 0+c) / 4294967296,B,rfl,a0.set _ ⟨ajZ _ aR,ajA _ aR⟩,
       by rw[ah8];exact b3,by rw[akl (by omega)];exact a9,?_,by omega,b4,rfl,rfl⟩;rw[akc (by omega),<-ajf,<-ajo,a6,ajo]
     .have J:i=ae v:=aD;subst J;have P:k+ae v < ae s:=aD;rw[aiK] at j;have b4:=WI (u:=u1) (ui:=s) (k:=k) (m:=ae v) (c:=c) (V:=val v) P j rfl;simp only[go_sem,↓reduceIte,aia,z,nn,A,f1,c1,P,eI,o1,o2,o3,o5,W];have gu:=a0.getD (k+ae v);simp only[B32] at gu;have a8:DOk (s.set (k+ae v) ((af s (k+ae v) 0+c) % 4294967296)):=a0.set _ ⟨ajZ _ aR,ajA _ aR⟩;have b0:(s.set (k+ae v) ((af s (k+ae v) 0+c) % 4294967296)).take k=u.take k:=by rw[akl (by omega)];exact a9
      have c9:(s.set (k+ae v) ((af s (k+ae v) 0+c) % 4294967296)).drop (k+ae v+1)=u1.drop (k+ae v+1):=by rw[akc (by omega),<-ajo,a6,ajo]
      have j8:=dh w;have r4:=Ue (u':=u1) (v:=v) (k:=k) (X:=val (u.drop k) - q*val v) (c:=(af s (k+ae v) 0+c) / 4294967296) a8 w aD (by rw[ah8];omega) (by rw[b0,C]) (by rw[c9,a5];exact wz)
       aD b4 (by rw[r1,aky]) aD (by rw[ajB] at c7;omega);refine done _ (q - 1) (by rw[ah8];exact b3) a8 b0 (by rw[oL] at y3;omega) ?_ ?_
      .rw[r4,Int.sub_mul,aj2];omega
      .rw[r4];omega
    .rw[ah0 a7] at m4 r1 r2 r3;have k8:=r2 rfl;rw[ajM,ajG] at r1;have f8:((0:Int)=1)=False:=aO;simp only[go_sem,↓reduceIte,aia,z,nn,A,f1,c1,y1,P,Ge,eI,m3,m4,f8,c6,W,o1,o2,o3,o4];exact done _ q (by rw[ah8];exact Et) L C hq r1 (by rw[r1];rw[ajB] at c7;omega)
def ahg {α:Type} {h k x y a b:α} {l:List α}:(h::k::x::y::a::l).set 4 b=h::k::x::y::b::l:=(rfl)
def agm {α:Type} {h k x y z w a b c:α} {l:List α}:(h::k::x::y::z::w::a::b::c::l).take 9=h::k::x::y::z::w::a::b::c::[]:=(rfl)
def afb {α:Type} {h k x y z w a b c:α} {l:List α}:(h::k::x::y::z::w::a::b::c::l).drop 9=l:=(rfl)
def aeN {α:Type} {h k x y z w a b c e:α} {l:List α}:(h::k::x::y::z::w::a::b::c::e::l).take 10=h::k::x::y::z::w::a::b::c::e::[]:=(rfl)
def ad7 {α:Type} {k x y z w a b c e f h:α} {l:List α}:(k::x::y::z::w::a::b::c::e::f::h::l).drop 11=l:=(rfl)
def afz:bO (h::k::y::z::w::a::b::c::e::f::x::l)[10]? K=K x:=(rfl)
def acD {m id a b c:Nat}:jO m (.ptr id a b c)=decide (id < m):=(rfl)
def aev {m k id a b c:Nat}:jO m (.sl k id a b c)=decide (id < m):=(rfl)
def aeu {m k id a b c:Nat}:bp m (.sl k id a b c)=decide (id < m):=(rfl)
def afE:jO m (.c v)=aq:=(rfl)
def acE:jO m (.seq k f xs)=aq:=(rfl)
attribute [go_sem] ahg agm afb aeN ad7 afz acD aev aeu afE acE
def Sm (n:Int):Prop := -4611686018427387904 < n/\n < 4611686018427387904
instance (n:Int):Decidable (Sm n):=inferInstanceAs (Decidable (_/\_))
def zv (n:Int):Int:=if Sm n then n else n.sign
def zd (n:Int):AV:=if Sm n then .nil else eY (aX (ay n))
abbrev zA (n:Int):AV := .agg [.q0 (zv n),zd n]
def iT (n:Int):ju n=zA n:=by
 by_cases h:Sm n
 .rw[oO h,zA,zv,zd,ah1 h,ah1 h]
 .rw[vO h,zA,zv,zd,ah0 h,ah0 h]
def nr (h:Sm n):zv n=n:=ah1 h
def qU (h:Sm n):zd n = .nil:=ah1 h
def TQ (h:¬Sm n):zd n=eY (aX (ay n)):=ah0 h
def Eh (h:Sm n):zA n = .agg [.q0 n,.nil]:=by rw[zA,nr h,qU h]
def Mw:bB (zd n)=aq:=by unfold zd;split<;>rfl
def WH:dM (zd n)=aq:=by unfold zd;split<;>rfl
attribute [go_sem] Mw WH
def J9 (n:Int):bT (zd n)=aq:=by unfold zd;split<;>rfl
@[go_sem] def At (k:Nat) (n:Int):bp k (zd n)=aq:=by unfold zd;split<;>rfl
def KZ (h:¬Sm n):aX (ay n)≠[]:=fun k=>by rw[ky] at k;exact h ⟨aD,aD⟩
def aea:Bq ar (zd n) K=K (.v0 (decide (Sm n))):=by
 by_cases h:Sm n
 .rw[qU h,MX];simp[h]
 .rw[TQ h,HR];simp[h,KZ h]
def acs:Bq aq (zd n) K=K (.v0 (!decide (Sm n))):=by
 by_cases h:Sm n
 .rw[qU h,R4];simp[h]
 .rw[TQ h,HR];simp[h,KZ h]
attribute [go_sem] aea acs
def bI (n:Int):bJ (zA n)=aq:=by rw[<-iT];exact fH n
def MP (n:Int):eO (zA n)=aq:=by rw[<-iT];exact Us n
def MZ (h:a=zA n):Fin 0 a H (zA n) []:=by rw[<-iT] at h ⊢;exact jw h
def Ph (k:Nat) (n:Int):qF k (zA n)=aq:=by show (bp k (.q0 (zv n))&&(bp k (zd n)&&aq))=aq;rw[At];rfl
def FX:Sm 0:=aR
def sm1:Sm 1:=aR
def acM (n:Int) (h:-9223372036854775808<=n/\n < 9223372036854775808):bg prog 92 [.q0 n] (zA n):=by rw[<-iT];exact ZX n h
def Jy (n:Int):bg prog 111 [zA n] (.q0 n.sign):=by rw[<-iT];exact Oj n
def Rb (n:Int):bg prog 115 [zA n] (zA (-n)):=by rw[<-iT,<-iT];exact WD n
def Wt (n:Int):bg prog 110 [zA n] (zA (ay n)):=by rw[<-iT,<-iT];exact abk n
def Nz (n:Int):bg prog 134 [zA n] (.bM [.q0 n.sign,eY (aX (ay n))]):=by rw[<-iT];exact Ao n
def Jz (s:Int) (l:List Int) (y:s=1\/s = -1\/s=0) (x:ae l < 4294967296) (k:DOk l) (f:Bool) (h:s=0->val l=0):bg prog 137 [.q0 s,.seq 1 f (eh l)] (zA (s*val l)):=by rw[<-iT];exact F9 s l y x k f h
def Dg (k:Nat) (n:Int):Prop:=ay n < 4294967296 ^ k
def Dg.len (h:Dg k n):ae (aX (ay n))<=k:=jq.2 h
def Wu (n m:Int) (h:Dg 4000000000 n) (hm:Dg 4000000000 m):bg prog 140 [zA n,zA m] (zA (n+m)):=by have k:=h.len;have x:=hm.len;rw[<-iT,<-iT,<-iT];exact abl n m aD aD
def Bc (n m:Int) (h:Dg 2000000000 n) (hm:Dg 2000000000 m):bg prog 141 [zA n,zA m] (zA (n*m)):=by have k:=h.len;have x:=hm.len;rw[<-iT,<-iT,<-iT];exact abn n m aD aD
def Dg.mono (h:Dg a n) (k:a<=b):Dg b n:=aiB h (alj aR k)
def Dg.mul (h:Dg a n) (g:Dg b m):Dg (a+b) (n*m):=by unfold Dg at *;rw[aln,alG];exact Nat.mul_lt_mul'' h g
def Dg.add (h:Dg a n) (g:Dg a m):Dg (a+1) (n+m):=by unfold Dg at *;have:ay (n+m)<=ay n+ay m:=Int.natAbs_add_le n m;rw[amS];omega
def Dg.neg (h:Dg a n):Dg a (-n):=by unfold Dg at *;rw[al1];exact h
def Dg.le (h:Dg a n) (hm:ay m<=ay n):Dg a m:=alc hm h
def Dg.tdiv (h:Dg a n):Dg a (n.tdiv m):=h.le (by rw[amn];exact alA _ _)
def Dg.tmod (h:Dg a n):Dg a (n.tmod m):=h.le (by rw[alB];exact Nat.mod_le _ _)
def N9 (n m:Int):n.tdiv m=n.sign*m.sign*((ay n:Int) / (ay m:Int))/\(m≠0->n.tmod m=n.sign*((ay n:Int) % (ay m:Int))):=by
 have key:∀a b:Nat,((a:Int)).tdiv b=(a:Int) / (b:Int):=fun a b=>ai6 aD;have h:∀a b:Nat,((a:Int)).tmod b=(a:Int) % (b:Int):=fun a b=>ajn aD;have ⟨a,y⟩:=Int.eq_nat_or_neg n;have ⟨b,z⟩:=Int.eq_nat_or_neg m;by_cases k:a=0
 .subst k;have:n=0:=aD;subst this;simp
 by_cases x:b=0
 .subst x;have:m=0:=aD;subst this;simp
 have w:(a:Int).sign=1:=ai5 aD;have c:(b:Int).sign=1:=ai5 aD;rcases y with rfl | rfl<;>rcases z with rfl | rfl <;>
  simp only[Int.sign_neg,w,c,al1,amE,Int.neg_tdiv,Int.tdiv_neg,Int.neg_tmod,Int.tmod_neg,key,h,aj2,aky,am3,ak9,Int.neg_neg,implies_true,akg]
def OH (h:n≠0):4294967296 ^ (ae (aX n) - 1)<=n:=by have:aX n≠[]:=fun x=>h (ky.1 x);have y:=akb.2 this;have:=mt (jq (n:=n) (k:=ae (aX n) - 1)).2 aD;omega
def Zt (k:Nat):(B32 ^ k:Int)=((4294967296 ^ k:Nat):Int):=by rw[akr];rfl
def ZD {a b:Nat} (h:b≠0):(a:Int) / (b:Int) < B32 ^ (ae (aX a)+1 - ae (aX b)):=by
 have x:a < 4294967296 ^ ae (aX a):=jq.1 (ahZ _);have y:=OH h;have c:=akb.2 fun k=>h (ky.1 k);rw[Zt];refine ajX aD ?_;have z:4294967296 ^ ae (aX a)<=4294967296 ^ (ae (aX a)+1 - ae (aX b))*b:=by refine aiJ (alj (by decide) (show ae (aX a)<=(ae (aX a)+1 - ae (aX b))+(ae (aX b) - 1) by omega)) ?_;rw[alG];exact Nat.mul_le_mul_left _ y
 have w:=aiB x z;have:((4294967296 ^ (ae (aX a)+1 - ae (aX b)):Nat):Int)*(b:Int)=((4294967296 ^ (ae (aX a)+1 - ae (aX b))*b:Nat):Int):=by rw[akY]
 rw[this];omega
def uR (n m:Int):n.sign*m.sign=1\/n.sign*m.sign = -1\/n.sign*m.sign=0:=by rcases jE n with h | h | h<;>rcases jE m with g | g | g<;>rw[h,g]<;>decide
def Rc (n m:Int) (A:m≠0) (hn:Dg 4000000000 n) (hm:Dg 4000000000 m):bg prog 112 [zA n,zA m] (.bM [zA (n.tdiv m),zA (n.tmod m)]):=by
 have ln:=hn.len;have lm:=hm.len;refine pw func112 ?_;have ⟨D,j⟩:=N9 n m;have j:=j A;have x:∀(a b:Int) H,a=n.tdiv m->b=n.tmod m->Fin 0 (.bM [zA a,zA b]) H (.bM [zA (n.tdiv m),zA (n.tmod m)]) []:=fun a b H E F=>by rw[E,F];refine jK ?_;show (qF 0 (zA _)&&(qF 0 (zA _)&&aq))=aq;rw[Ph,Ph];rfl
 by_cases T:Sm n/\Sm m
 .have ⟨f,W⟩:=T;have E:=nr f;have F:=nr W;have c1:Sm (n.tdiv m):=by
   have:ay (n.tdiv m)<=ay n:=by rw[amn];exact alA _ _
   unfold Sm at *;omega
  have c2:Sm (n.tmod m):=by
   have:ay (n.tmod m)<=ay n:=by rw[alB];exact Nat.mod_le _ _
   unfold Sm at *;omega
  have w1:au .i64 (n.tdiv m)=n.tdiv m:=wrap_i64 (by unfold Sm at *;omega) (by unfold Sm at *;omega);have L:(m=0)=False:=aie A;simp only[go_sem,↓reduceIte,Nat.reduceLeDiff,ahZ,f,W,E,F,w1,L,aly,ajz];have:=x (n.tdiv m) (n.tmod m);rw[Eh c1,Eh c2] at this ⊢;exact this _ rfl rfl
 .have M:(¬Sm n)\/(Sm n/\¬Sm m):=by
   by_cases h:Sm n
   .exact .inr ⟨h,fun g=>T ⟨h,g⟩⟩
   .exact .inl h
  have ⟨C,v⟩:=fS (ay n);have ⟨K,X⟩:=fS (ay m);have o:aX (ay m)≠[]:=fun h=>A (by rw[ky] at h;omega);have a0:0 < ae (aX (ay m)):=akb.2 o;have ws:au .i64 (n.sign*m.sign)=n.sign*m.sign:=by rcases uR n m with h | h | h<;>rw[h]<;>decide
  have c:n.sign=0->n=0:=fun h=>ai8.1 h;have w:n.sign*m.sign=0->n=0:=fun h=>by
   rcases Int.mul_eq_zero.1 h with h | h
   .exact c h
   .exact absurd (ai8.1 h) A
  rcases M with f | ⟨f,W⟩
  case' inl=>simp only[go_sem,↓reduceIte,ahZ,f]
  case' inr=>simp only[go_sem,↓reduceIte,ahZ,f,W]
  all_goals refine aH (Nz n) (by simp[bI]) rfl ?_
  all_goals simp only[go_sem,↓reduceIte,ahZ]
  all_goals refine aH (Nz m) (by simp[bI]) rfl ?_
  all_goals simp only[go_sem,↓reduceIte]
  all_goals refine aH (LX (aX (ay n)) (aX (ay m)) aD aD v X (lT _) (lT _) ar ar) rfl rfl ?_
  all_goals (
   rw[C,K]
   by_cases hc:ay n < ay m
   .have z:((ay n:Int) - (ay m:Int)).sign < 0:=aka.2 aD
    refine Y1 z ?_
    have:=x 0 n
    rw[Eh FX] at this
    refine this _ ?_ ?_
    .rw[D,am4 (by omega) (by omega),ajM]
    .rw[j,akL (by omega) (by omega),Int.sign_mul_natAbs]
   .have z:¬((ay n:Int) - (ay m:Int)).sign < 0:=fun h=>hc (by have:=aka.1 h;omega)
    by_cases l:(ae (aX (ay m)):Int)=1
    .obtain ⟨k,e⟩:∃k,aX (ay m)=[k]:=by
      match aX (ay m),l with
      | [k],_=>exact ⟨k,rfl⟩
      | [],h=>simp at h
      | _::_::_,h=>simp at h;omega
     have t:val [k]=ay m:=by rw[<-e];exact K
     have a3:0<=k/\k < 4294967296:=by have:=X k (by rw[e];simp);simpa[B32] using this
     simp only[val,ajM,ajG] at t
     have ⟨R,V,S,D4⟩:=E9 (y:=k) aD v
     have z1:af ([k]:List Int) 0 0=k:=rfl
     have i:(ah:Int)=0:=rfl
     have I:(((1:Nat):Int)=1)=True:=aO
     have G:((0:Int) < ((1:Nat):Int))=True:=aO
     refine Y6 z e i z1 I G ?_
     refine cX (X4 (aX (ay n)) k aD v aD ar) ?_
     have B:val (fT (aX (ay n)) k).1=(ay n:Int) / ay m/\(fT (aX (ay n)) k).2=(ay n:Int) % ay m:=by rw[C] at R;rw[<-t];have:=(amm (show 0 < k by omega) (a:=(ay n:Int)) (q:=val (fT (aX (ay n)) k).1) (r:=(fT (aX (ay n)) k).2)).2 ⟨by rw[R,ai2 k];omega,S,D4⟩;exact ⟨this.1.symm,this.2.symm⟩
     have U:=Uv (aX (ay n)) k
     generalize hQ:(fT (aX (ay n)) k).1=P at *
     generalize hR:(fT (aX (ay n)) k).2=rd at *
     refine Y1 ws ?_
     refine aH (Jz (n.sign*m.sign) P (uR n m) aD V ar (fun h=>by rw[B.1,w h];simp)) rfl (bI _) ?_
     simp only[go_sem,↓reduceIte,Yt]
     refine aH (Jz n.sign [rd] (jE n) aO (.cons ⟨S,by simp only[B32];omega⟩ .nil) aq (fun h=>by rw[B.2,c h];simp[val])) rfl (bI _) ?_
     refine Y ?_
     exact x _ _ _ (by rw[D,B.1]) (by rw[j,<-B.2];simp[val])
    .have J:ae (aX (ay m))<=ae (aX (ay n)):=Em (by omega)
     refine Y2 z l ?_
     refine cX (aaa (aX (ay n)) (aX (ay m)) v X aD aD J (lT _) ar ar) ?_
     have q0:(0:Int)<=(ay n:Int) / ay m:=ajY aD aD
     have r0:(0:Int)<=(ay n:Int) % ay m:=ajZ _ aD
     have r1:(ay n:Int) % ay m < B32 ^ ae (aX (ay m)):=by have h1:=ajA (ay n:Int) (show (0:Int) < ay m by omega);have h2:=mj X;rw[K] at h2;omega
     have p:=Il q0 (ZD (a:=ay n) (b:=ay m) aD)
     have s:=Il r0 r1
     have a1:=NA (ae (aX (ay n))+1 - ae (aX (ay m))) ((ay n:Int) / ay m)
     have a2:=NA (ae (aX (ay m))) ((ay n:Int) % ay m)
     rw[C,K]
     have N:=PH (ae (aX (ay n))+1 - ae (aX (ay m))) ((ay n:Int) / ay m)
     have O:=PH (ae (aX (ay m))) ((ay n:Int) % ay m)
     generalize ti (ae (aX (ay n))+1 - ae (aX (ay m))) ((ay n:Int) / ay m)=P at *
     generalize ti (ae (aX (ay m))) ((ay n:Int) % ay m)=rd at *
     refine Y1 ws ?_
     refine aH (Jz (n.sign*m.sign) P (uR n m) aD N ar (fun h=>by rw[p,w h];simp)) rfl (bI _) ?_
     refine Y ?_
     refine aH (Jz n.sign rd (jE n) aD O ar (fun h=>by rw[s,c h];simp)) rfl (bI _) ?_
     refine Y ?_
     exact x _ _ _ (by rw[D,p]) (by rw[j,s]))
def aaN (n m:Int) (g:Dg 4000000000 n) (hm:Dg 4000000000 m):bg prog 91 [zA n,zA m] (zA (Int.gcd n m)):=by
 refine pc func91 OD ?_;refine uz ?_;refine Z ?_;refine aH (Wt n) (by simp[bI]) (bI _) ?_;refine Z ?_;refine aH (Wt m) (by simp[bI]) (bI _) ?_;simp only[go_sem,↓reduceIte,ahZ];refine Ar 3 (fun k e H=>∃a b:Nat,k=b/\Nat.gcd a b=Int.gcd n m/\Dg 4000000000 a/\Dg 4000000000 b/\H=[ak ⟨2,0,[[.q0 (zv a),zd a]]⟩,ak ⟨2,0,[[.q0 (zv b),zd b]]⟩,ak ⟨2,0,[[.q0 0,.nil]]⟩] /\
  e=[(2,.ptr 0 0 0 0),(3,.ptr 1 0 0 0),(4,.ptr 2 0 0 0)]) (by rintro n e H ⟨a,b,_,_,_,_,rfl,_⟩;rfl) ⟨ay n,ay m,rfl,rfl,g,hm,rfl,rfl⟩ ?_;rintro k _ _ ⟨a,b,rfl,c,z,w,rfl,rfl⟩;refine Z ?_;refine aH (Jy k) (by simp[bI]) rfl ?_;by_cases y:k=0
 .subst y;have f:((0:Nat):Int).sign=0:=rfl;refine Z ?_;refine MZ ?_;rw[<-c];simp
 .have f:((k:Int).sign=0)=False:=aie (fun h=>y (cn (ai8.1 h)));refine Z ?_;refine aH (Rc a k aD z w) (by simp[bI]) (by simp[bJ,MP]) ?_;simp only[go_sem,↓reduceIte,ahZ];have x:(a:Int).tmod k=((a % k:Nat):Int):=by rw[ajn aD];rfl
  refine ⟨a % k,alh _ aD,aR,k,a % k,rfl,?_,w,?_,by rw[x]⟩
  .rw[<-c,amo a k,Nat.gcd_rec k a,amo]
  .rw[<-x];exact z.tmod
structure Q where
 top:Int
 low:Int
abbrev qC (a:Q):List AV:=[.q0 (zv a.top),zd a.top,.q0 (zv a.low),zd a.low]
abbrev qA (a:Q):AV := .agg (qC a)
def Q.lo (a:Q):Int:=if a.low=0 then 1 else a.low
def bE (a:Q):bJ (qA a)=aq:=by
 show (eO (.q0 (zv a.top))&&(eO (zd a.top)&&(eO (.q0 (zv a.low))&&(eO (zd a.low)&&aq))))=aq;have h:∀n,eO (zd n)=aq:=fun n=>by unfold zd;split<;>rfl
 rw[h,h];rfl
def Xm (k:Nat) (a:Q):jO k (qA a)=aq:=by show (bp k (.q0 (zv a.top))&&(bp k (zd a.top)&&(bp k (.q0 (zv a.low))&&(bp k (zd a.low)&&aq))))=aq;rw[At,At];rfl
def sK (h:x=qA a):Fin 0 x H (qA a) []:=by subst h;exact jK (Xm 0 a)
def z7 (a:Q):(qC a).all bT=aq:=by show (bT (.q0 (zv a.top))&&(bT (zd a.top)&&(bT (.q0 (zv a.low))&&(bT (zd a.low)&&aq))))=aq;rw[J9,J9];rfl
def aaO:bg prog 173 [] (zA 1):=by refine pw func173 ?_;rw[Eh sm1];refine Z ?_;exact aW rfl rfl
def Bb (a:Q):bg prog 142 [qA a] (zA a.lo):=by
 refine pw func142 ?_;refine Z ?_;refine aH (Jy a.low) (by simp[bI]) rfl ?_;by_cases h:a.low=0
 .have e:a.low.sign=0:=by rw[h];rfl
  refine Y1 e ?_;refine aH aaO rfl (bI _) ?_;refine Z ?_;exact MZ (by unfold Q.lo;rw[ah1 h])
 .have e:=aie (fun g=>h (ai8.1 g));refine Z ?_;exact MZ (by unfold Q.lo;rw[ah0 h])
def ru (n:Int) (h:-9223372036854775808<=n/\n < 9223372036854775808):bg prog 89 [.q0 n] (qA ⟨n,0⟩):=by refine pw func89 ?_;refine Z ?_;refine aH (acM n h) rfl (bI _) ?_;refine Z ?_;exact sK (by rw[qA,qC,nr FX,qU FX])
def yN (a:Q) (k:0<=a.low):bg prog 139 [qA a] (.v0 (decide (a.low<=1))):=by
 refine pw func139 ?_;by_cases h:Sm a.low
 .refine Z ?_;exact aW (by rw[nr h]) rfl
 .have x:¬a.low<=1:=fun g=>h ⟨aD,aD⟩;refine Z ?_;exact aW rfl rfl
def j9 (a:Q):bg prog 96 [qA a] (.q0 a.top.sign):=by refine pw func96 ?_;refine Z ?_;refine aH (Jy a.top) (by simp[bI]) rfl ?_;refine Z ?_;exact aW rfl rfl
def Q.neg (a:Q):Q:=⟨-a.top,a.low⟩
def Ny (a:Q):bg prog 164 [qA a] (qA a.neg):=by refine pw func164 ?_;refine Z ?_;refine aH (Rb a.top) (by simp[bI]) (bI _) ?_;refine Z ?_;exact sK rfl
def Q.ratio (a b:Int):Q:=if b.tdiv (Int.gcd a b) < 0 then ⟨-(a.tdiv (Int.gcd a b)),-(b.tdiv (Int.gcd a b))⟩ else ⟨a.tdiv (Int.gcd a b),b.tdiv (Int.gcd a b)⟩
def KC (a b:Int) (q:b≠0) (n:Dg 4000000000 a) (m:Dg 4000000000 b):bg prog 97 [zA a,zA b] (qA (Q.ratio a b)):=by
 refine pc func97 L4 ?_;refine uz ?_;refine Z ?_;refine aH (aaN a b n m) (by simp[bI]) (bI _) ?_;have c:(Int.gcd a b:Int)≠0:=by have:Int.gcd a b≠0:=fun h=>q (amv.1 h).2;omega
 have f:Dg 4000000000 (Int.gcd a b:Int):=by refine m.le ?_;have:=Nat.le_of_dvd aD (Nat.gcd_dvd_right (ay a) (ay b));exact this
 have rest:∀(x y:Int) (g:List AV),x=a.tdiv (Int.gcd a b)->y=b.tdiv (Int.gcd a b)->WP prog 39 zk (jh [.cell 4 aq 4] 0 (qA (Q.ratio a b)) []) [(2,.ptr 0 0 0 0),(3,.ptr 1 0 0 0),(4,.ptr 2 0 0 0)]
   [ak ⟨2,0,[[.q0 (zv x),zd x]]⟩,ak ⟨2,0,[[.q0 (zv y),zd y]]⟩,ak ⟨4,0,[[.q0 0,.nil,.q0 0,.nil]]⟩,ak ⟨2,0,[g]⟩]:=by
  intro x y g o p;refine uz ?_;refine Y ?_;refine aH (Jy y) (by simp[bI]) rfl ?_;by_cases k:y < 0
  .have e:=aka.2 k;refine Y1 e ?_;refine aH (Rb x) (by simp[bI]) (bI _) ?_;refine Y ?_;refine aH (Rb y) (by simp[bI]) (bI _) ?_;refine Z ?_;exact sK (by unfold Q.ratio;rw[<-o,<-p,ah1 k])
  .have e:¬y.sign < 0:=fun h=>k (aka.1 h);refine Y1 e ?_;exact sK (by unfold Q.ratio;rw[<-o,<-p,ah0 k])
 generalize s:(Int.gcd a b:Int)=g at *;by_cases w:g=1
 .have z:zv g=1:=by rw[w];rfl
  have l:Sm g:=by rw[w];exact sm1
  refine Z2 z l ?_;exact rest a b _ (by rw[w,amT]) (by rw[w,amT])
 .have r:(¬(zv g=1))\/(zv g=1/\¬Sm g):=by
   by_cases i:zv g=1
   .refine .inr ⟨i,fun k=>w ?_⟩;rw[nr k] at i;exact i
   .exact .inl i
  rcases r with z | ⟨j,l⟩
  case' inr=>have z:=aiq j
  case' inl=>simp only[go_sem,↓reduceIte,ahZ,z,aja]
  case' inr=>simp only[go_sem,↓reduceIte,ahZ,z,l,ajl,aja]
  all_goals (
   refine aH (Rc a g c n f) (by simp[bI]) (by simp[bJ,MP]) ?_
   refine Y ?_
   refine aH (Rc b g c m f) (by simp[bI]) (by simp[bJ,MP]) ?_
   refine Y ?_
   exact rest _ _ _ rfl rfl)
structure QOk (k:Nat) (a:Q):Prop where
 low:0<=a.low
 top:Dg k a.top
 den:Dg k a.low
def uq (k:Nat) (h:0 < k):Dg k 1:=by show 1 < 4294967296 ^ k;exact Nat.one_lt_pow aD aR
def QOk.lo (h:QOk k a) (x:0 < k):Dg k a.lo/\0 < a.lo:=by
 unfold Q.lo;split
 .exact ⟨uq k x,aR⟩
 .exact ⟨h.den,cn h.low⟩
def Q.add (a b:Q):Q:=if a.low<=1/\b.low<=1 then ⟨a.top+b.top,0⟩ else Q.ratio (a.top*b.lo+b.top*a.lo) (a.lo*b.lo)
def Q.mul (a b:Q):Q:=if a.low<=1/\b.low<=1 then ⟨a.top*b.top,0⟩ else Q.ratio (a.top*b.top) (a.lo*b.lo)
def Q.div (a b:Q):Q:=Q.ratio (a.top*b.lo) (a.lo*b.top)
def Q.sub (a b:Q):Q:=a.add b.neg
def SI (a b:Q) (k:QOk 1000000 a) (h:QOk 1000000 b):bg prog 113 [qA a,qA b] (qA (a.add b)):=by
 refine pw func113 ?_;have ⟨w,f⟩:=k.lo aR;have ⟨c,g⟩:=h.lo aR;have e:([qA a]:List AV).all bJ=aq:=by simp[bE]
 have x:([qA b]:List AV).all bJ=aq:=by simp[bE]
 refine Z ?_;refine aH (yN a k.low) e rfl ?_;by_cases l:a.low<=1/\b.low<=1
 .have ⟨y,z⟩:=l;refine Z ?_;refine aH (yN b h.low) x rfl ?_;refine Z ?_;refine aH (Wu a.top b.top (k.top.mono aR) (h.top.mono aR)) (by simp[bI]) (bI _) ?_;refine Z ?_;exact sK (by unfold Q.add;rw[ah1 ⟨y,z⟩,qA,qC,nr FX,qU FX])
 .have z:(¬a.low<=1)\/(a.low<=1/\¬b.low<=1):=aD;rcases z with y | ⟨y,z⟩
  case' inl=>simp only[go_sem,↓reduceIte,Nat.reduceLeDiff,ahZ,y]
  case' inr =>
   refine Z ?_;refine aH (yN b h.low) x rfl ?_;refine Z ?_
  all_goals (
   refine aH (Bb b) x (bI _) ?_
   refine Z ?_
   refine aH (Bc a.top b.lo (k.top.mono aR) (c.mono aR)) (by simp[bI]) (bI _) ?_
   refine Z ?_
   refine aH (Bb a) e (bI _) ?_
   refine Z ?_
   refine aH (Bc b.top a.lo (h.top.mono aR) (w.mono aR)) (by simp[bI]) (bI _) ?_
   refine Z ?_
   have i:=k.top.mul c
   have j:=h.top.mul w
   refine aH (Wu _ _ (i.mono aR) (j.mono aR)) (by simp[bI]) (bI _) ?_
   refine Z ?_
   refine aH (Bb a) e (bI _) ?_
   refine Z ?_
   refine aH (Bb b) x (bI _) ?_
   refine Z ?_
   refine aH (Bc a.lo b.lo (w.mono aR) (c.mono aR)) (by simp[bI]) (bI _) ?_
   refine Z ?_
   have m:=w.mul c
   have n:a.lo*b.lo≠0:=cn (al6 f g)
   refine aH (KC _ _ n ((i.add j).mono aR) (m.mono aR)) (by simp[bI]) (bE _) ?_
   refine Z ?_
   exact sK (by unfold Q.add;rw[ah0 l]))
def SL (a b:Q) (k:QOk 1000000 a) (h:QOk 1000000 b):bg prog 114 [qA a,qA b] (qA (a.mul b)):=by
 refine pw func114 ?_;have ⟨g,w⟩:=k.lo aR;have ⟨i,c⟩:=h.lo aR;have e:([qA a]:List AV).all bJ=aq:=by simp[bE]
 have z:([qA b]:List AV).all bJ=aq:=by simp[bE]
 refine Z ?_;refine aH (yN a k.low) e rfl ?_;by_cases f:a.low<=1/\b.low<=1
 .have ⟨x,y⟩:=f;refine Z ?_;refine aH (yN b h.low) z rfl ?_;refine Z ?_;refine aH (Bc a.top b.top (k.top.mono aR) (h.top.mono aR)) (by simp[bI]) (bI _) ?_;refine Z ?_;exact sK (by unfold Q.mul;rw[ah1 ⟨x,y⟩,qA,qC,nr FX,qU FX])
 .have y:(¬a.low<=1)\/(a.low<=1/\¬b.low<=1):=aD;rcases y with x | ⟨x,y⟩
  case' inl=>simp only[go_sem,↓reduceIte,Nat.reduceLeDiff,x]
  case' inr =>
   refine Z ?_;refine aH (yN b h.low) z rfl ?_;refine Z ?_
  all_goals (
   refine aH (Bc a.top b.top (k.top.mono aR) (h.top.mono aR)) (by simp[bI]) (bI _) ?_
   refine Z ?_
   refine aH (Bb a) e (bI _) ?_
   refine Z ?_
   refine aH (Bb b) z (bI _) ?_
   refine Z ?_
   refine aH (Bc a.lo b.lo (g.mono aR) (i.mono aR)) (by simp[bI]) (bI _) ?_
   refine Z ?_
   have j:=k.top.mul h.top
   have l:=g.mul i
   have m:a.lo*b.lo≠0:=cn (al6 w c)
   refine aH (KC _ _ m (j.mono aR) (l.mono aR)) (by simp[bI]) (bE _) ?_
   refine Z ?_
   exact sK (by unfold Q.mul;rw[ah0 f]))
def Cq (a b:Q) (h:QOk 1000000 a) (k:QOk 1000000 b) (g:b.top≠0):bg prog 156 [qA a,qA b] (qA (a.div b)):=by
 refine pw func156 ?_;have ⟨x,i⟩:=h.lo aR;have ⟨y,j⟩:=k.lo aR;have z:([qA a]:List AV).all bJ=aq:=by simp[bE]
 have w:([qA b]:List AV).all bJ=aq:=by simp[bE]
 refine Z ?_;refine aH (Bb b) w (bI _) ?_;refine Z ?_;refine aH (Bc a.top b.lo (h.top.mono aR) (y.mono aR)) (by simp[bI]) (bI _) ?_;refine Z ?_;refine aH (Bb a) z (bI _) ?_;refine Z ?_;refine aH (Bc a.lo b.top (x.mono aR) (k.top.mono aR)) (by simp[bI]) (bI _) ?_;refine Z ?_;have c:=h.top.mul y;have e:=x.mul k.top;have f:a.lo*b.top≠0:=akE aD g;refine aH (KC _ _ f (c.mono aR) (e.mono aR)) (by simp[bI]) (bE _) ?_;refine Z ?_;exact sK rfl
def QOk.neg (h:QOk k a):QOk k a.neg:=⟨h.low,h.top.neg,h.den⟩
def SM (a b:Q) (k:QOk 1000000 a) (x:QOk 1000000 b):bg prog 157 [qA a,qA b] (qA (a.sub b)):=by
 refine pw func157 ?_;have h:([qA b]:List AV).all bJ=aq:=by simp[bE]
 refine Z ?_;refine aH (Ny b) h (bE _) ?_;refine Z ?_;refine aH (SI a b.neg k x.neg) (by simp[bE]) (bE _) ?_;refine Z ?_;exact sK rfl
def SK (a b:Q) (h:QOk 1000000 a) (k:QOk 1000000 b):bg prog 161 [qA a,qA b] (.c (.int .i64 (a.sub b).top.sign)):=by refine pw func161 ?_;refine Z ?_;refine aH (SM a b h k) (by simp[bE]) (bE _) ?_;refine Z ?_;refine aH (j9 _) (by simp[bE]) rfl ?_;refine Z ?_;exact aW rfl rfl
def aP {H:aF} {id ver:Nat} {ob:bz} (h:aI H id ver=ak ob):id < ae H:=(aid.1 (dF h).1).1
def cJ {H l:aF} {id ver:Nat} (h:id < ae H):aI (H++l) id ver=aI H id ver:=by unfold aI;rw[aic h]
def ct {H:aF} {k v:Nat} {xs:List (List AV)} {l:aF}:aI (H++ak ⟨k,v,xs⟩::l) (ae H) v=ak ⟨k,v,xs⟩:=by unfold aI;simp
def aS {H:aF} {id k ver:Nat} {o:Option bz} (h:id≠k):aI (H.set id o) k ver=aI H k ver:=by unfold aI;rw[ajc h]
def bn {H:aF} {id v:Nat} {k:Nat} {xs:List (List AV)} (h:id < ae H):aI (H.set id (ak ⟨k,v,xs⟩)) id v=ak ⟨k,v,xs⟩:=by unfold aI;rw[alD h];simp
def aK {H:aF} {id ver:Nat} {ob:bz} (h:aI H id ver=ak ob) (K:bz->Prop):bk H id ver K=K ob:=by unfold bk;rw[h];rfl
def iu {xs:List (List AV)} {i:Nat} {x:List AV} (h:xs[i]?=ak x) (K:List AV->Prop):ElP xs i K=K x:=by unfold ElP;rw[h];rfl
def abP {H l:aF} {k v ver:Nat} {xs:List (List AV)} {K:bz->Prop}:bk (H++ak ⟨k,v,xs⟩::l) (ae H) ver K=(v=ver/\K ⟨k,v,xs⟩):=by simp[bk,aI,fD]
def abQ {H l:aF} {o:Option bz} {k v ver:Nat} {xs:List (List AV)} {K:bz->Prop}:bk (H++o::ak ⟨k,v,xs⟩::l) (ae H+1) ver K=(v=ver/\K ⟨k,v,xs⟩):=by simp[bk,aI,fD]
def NZ:(H++o::l).set (ae H) b=H++b::l:=by rw[ajy _ _ (ahZ _)];simp
def adg:(H++o::h::l).set (ae H+1) b=H++o::b::l:=by rw[ajy _ _ aD];simp
def adh:(H++o::h::k::l).set (ae H+2) b=H++o::h::b::l:=by rw[ajy _ _ aD];simp
def adG {H l m:aF}:(H++l)++m=H++(l++m):=aio ..
def aez {H l:aF}:ae (H++l)=ae H+ae l:=ain ..
attribute [go_sem] abP abQ NZ adg adh adG aez
inductive SlV (H:aF) (k:Nat):AV->List (List AV)->Prop
 | nil:SlV H k .nil []
 | seq {f:Bool} {xs:List (List AV)}:SlV H k (.seq k f xs) xs
 | sl {id ver:Nat} {xs tl:List (List AV)}:aI H id ver=some ⟨k,ver,xs++tl⟩->SlV H k (.sl k id ver 0 xs.length) xs
def SlL (H:aF) (k id ver:Nat) (xs:List (List AV)):Prop:=∃tl,aI H id ver=ak ⟨k,ver,xs++tl⟩
def SlL.cZ {H:aF} {k id ver n:Nat} {xs:List (List AV)} (h:SlL H k id ver xs) (x:n=ae xs):SlV H k (.sl k id ver 0 n) xs:=by have ⟨y,h⟩:=h;subst x;exact .sl h
def SlV.same {H H':aF} {k:Nat} {v:AV} {xs:List (List AV)} (h:SlV H k v xs) (x:∀id,id∈aG v->∀ver,aI H' id ver=aI H id ver):SlV H' k v xs:=by
 cases h with
 | nil=>exact .nil
 | seq=>exact .seq
 | sl h=>exact .sl (by rw[x _ (by simp[aG])];exact h)
def SlV.fN {H:aF} {k:Nat} {v:AV} {xs:List (List AV)} (h:SlV H k v xs) (K:AV->Prop):gH v K=K (.q0 (ae xs:Int)):=by
 cases h with
 | nil=>rfl
 | seq=>simp[gH,Kt,bO]
 | sl h=>rfl
def SlV.cV {H:aF} {k:Nat} {v:AV} {xs:List (List AV)} (h:SlV H k v xs):∀id,id∈aG v->id < ae H:=by
 cases h with
 | nil=>simp[aG]
 | seq=>simp[aG]
 | sl h=>intro id x;simp[aG] at x;subst x;exact aP h
def SlV.cell {H:aF} {k:Nat} {v:AV} {xs:List (List AV)} (h:SlV H k v xs):bB v=aq/\v.cells=[v]/\dA v=aq:=by cases h<;>exact ⟨rfl,rfl,rfl⟩
def SlV.read {H:aF} {k:Nat} {v:AV} {xs:List (List AV)} (h:SlV H k v xs) {i:Nat} {x:List AV} (z:xs[i]?=ak x):∃p,(∀(t:IntKind) (K:AV->Prop),mZ k v (.c (.int t (i:Int))) K=K p)/\(∀ag n K,LdP ag n p H K=iX ag x 0 n K):=by
 have y:=(aid.1 z).1;cases h with
 | nil=>simp at y
 | seq =>
  have e:af xs i []=x:=by simp[af,z]
  refine ⟨.fp x 0,fun t K=>?_,fun ag n K=>rfl⟩;simp only[mZ,Kr,fD,ah9,e];refine propext ⟨fun h=>h.2,fun h=>⟨⟨by first | exact rfl | trivial,aD,aD⟩,h⟩⟩
 | sl h =>
  rename_i w ver a;have e:(xs++a)[i]?=ak x:=aic y ▸ z;refine ⟨.ptr w ver (0+i) 0,fun t K=>?_,fun ag n K=>?_⟩
  .rw[Ch];refine propext ⟨fun h=>h.2,fun h=>⟨⟨rfl,aD,aD⟩,h⟩⟩
  .rw[Ci,aK h,Po,aia,iu e,GG]
def DA (h:∀id,id∈l->id≠a):ig a l:=by
 induction l with
 | nil=>trivial
 | cons b r x=>exact ⟨ait (h b aO),x fun id k=>h id (by simp[k])⟩
def SlV.wP {H:aF} {k:Nat} {v:AV} {xs:List (List AV)} (h:SlV H k v xs) {i:Nat} {x:List AV} (z:xs[i]?=ak x):∃p,(∀(t:IntKind) (K:AV->Prop),mZ k v (.c (.int t (i:Int))) K=K p)/\(∀ag n K,LdP ag n p H K=iX ag x 0 n K)/\∀a,ae H<=a->ig a (aG p)=True:=by
 have y:=(aid.1 z).1;cases h with
 | nil=>simp at y
 | seq =>
  have e:af xs i []=x:=by simp[af,z]
  refine ⟨.fp x 0,fun t K=>?_,fun ag n K=>rfl,fun _ _=>rfl⟩;simp only[mZ,Kr,fD,ah9,e];refine propext ⟨fun h=>h.2,fun h=>⟨⟨by first | exact rfl | trivial,aD,aD⟩,h⟩⟩
 | sl h =>
  rename_i b ver f;have e:(xs++f)[i]?=ak x:=aic y ▸ z;have w:=aP h;refine ⟨.ptr b ver (0+i) 0,fun t K=>?_,fun ag n K=>?_,fun a g=>aiq (DA (by simp[aG];omega))⟩
  .rw[Ch];refine propext ⟨fun h=>h.2,fun h=>⟨⟨rfl,aD,aD⟩,h⟩⟩
  .rw[Ci,aK h,Po,aia,iu e,GG]
def SlL.rw {H:aF} {k id ver n:Nat} {xs:List (List AV)} (h:SlL H k id ver xs) {i:Nat} (z:i < ae xs) (r:n=ae xs) (o:∀x,x∈xs->ae x=k) :
  ∃p,(∀(t:IntKind) (K:AV->Prop),mZ k (.sl k id ver 0 n) (.c (.int t (i:Int))) K=K p)/\(∀ag m K,LdP ag m p H K=iX ag (af xs i []) 0 m K)/\p = .ptr id ver (0+i) 0 /\
   ∀y:AV,ae y.cells=k->y.cells.all bB=aq->∃H',(∀K,StP k p y H K=K H')/\SlL H' k id ver (xs.set i y.cells)/\ae H'=ae H/\(∀j,j≠id->∀w,aI H' j w=aI H j w):=by
 have ⟨a,h⟩:=h;subst r;have e:(xs++a)[i]?=ak xs[i]:=aic z ▸ ah6 z;have f:af xs i []=xs[i]:=by simp[af,z]
 have q:=o xs[i] (ajj z);refine ⟨.ptr id ver (0+i) 0,fun t K=>?_,fun ag m K=>?_,rfl,fun y b g=>⟨H.set id (ak ⟨k,ver,(xs++a).set i y.cells⟩),fun K=>?_,⟨a,?_⟩,ah8 ..,fun j l w=>aS (ait l)⟩⟩
 .rw[Ch];refine propext ⟨fun h=>h.2,fun h=>⟨⟨rfl,aD,aD⟩,h⟩⟩
 .rw[Ci,aK h,Po,aia,iu e,GG,f]
 .rw[KH,aK h,ZN,aia,iu e,ZO];have s:gD xs[i] 0 y.cells=y.cells:=by simp[gD,b,q]
  rw[s];refine propext ⟨fun h=>h.2,fun h=>⟨⟨b,aD,g⟩,h⟩⟩
 .rw[bn (aP h),amp _ _ z]
def SlL.NV {H:aF} {k id ver n:Nat} {xs:List (List AV)} (h:aI H id ver=ak ⟨k,ver,xs⟩) {i:Nat} (z:i < ae xs) (q:n=ae xs) (l:∀x,x∈xs->ae x=k) :
  ∃p,(∀(t:IntKind) (K:AV->Prop),mZ k (.sl k id ver 0 n) (.c (.int t (i:Int))) K=K p)/\(∀ag m K,LdP ag m p H K=iX ag (af xs i []) 0 m K)/\p = .ptr id ver (0+i) 0 /\
   ∀y:AV,ae y.cells=k->y.cells.all bB=aq->∃H',(∀K,StP k p y H K=K H')/\aI H' id ver=ak ⟨k,ver,xs.set i y.cells⟩/\ae H'=ae H/\(∀j,j≠id->∀w,aI H' j w=aI H j w):=by
 subst q;have e:=ah6 z;have b:af xs i []=xs[i]:=by simp[af,z]
 have o:=l xs[i] (ajj z);refine ⟨.ptr id ver (0+i) 0,fun t K=>?_,fun ag m K=>?_,rfl,fun y a f=>⟨H.set id (ak ⟨k,ver,xs.set i y.cells⟩),fun K=>?_,?_,ah8 ..,fun j g w=>aS (ait g)⟩⟩
 .rw[Ch];refine propext ⟨fun h=>h.2,fun h=>⟨⟨rfl,aD,aD⟩,h⟩⟩
 .rw[Ci,aK h,Po,aia,iu e,GG,b]
 .rw[KH,aK h,ZN,aia,iu e,ZO];have r:gD xs[i] 0 y.cells=y.cells:=by simp[gD,a,o]
  rw[r];refine propext ⟨fun h=>h.2,fun h=>⟨⟨a,aD,f⟩,h⟩⟩
 .rw[bn (aP h)]
instance:Inhabited Q:=⟨⟨0,0⟩⟩
def NL (c:b≠0) (x:Dg k a) (y:Dg k b):QOk k (Q.ratio a b):=by
 have z:(Int.gcd a b:Int) ∣ b:=amI ..;have w:b.tdiv (Int.gcd a b)≠0:=by intro h;have:=Int.tdiv_mul_cancel z;rw[h] at this;omega
 unfold Q.ratio;split
 .exact ⟨by show 0 <= -(b.tdiv (Int.gcd a b));omega,x.tdiv.neg,y.tdiv.neg⟩
 .exact ⟨by show 0<=b.tdiv (Int.gcd a b);omega,x.tdiv,y.tdiv⟩
def tK (k:Nat):Dg k 0:=by show 0 < 4294967296 ^ k;exact alS aR
def Mu (k:Nat):QOk k ah:=⟨aR,tK k,tK k⟩
def QOk.mono (h:QOk a x) (k:a<=b):QOk b x:=⟨h.low,h.top.mono k,h.den.mono k⟩
def Zs (z:0 < j) (w:0 < k) (h:QOk j a) (x:QOk k b):QOk (j+k) (a.mul b):=by
 unfold Q.mul;split
 .exact ⟨ajV 0,h.top.mul x.top,tK _⟩
 .have ⟨c,e⟩:=h.lo z;have ⟨f,g⟩:=x.lo w;have y:a.lo*b.lo≠0:=cn (al6 e g);exact NL y (h.top.mul x.top) (c.mul f)
def sX (a:Q):(qC a).all bB=aq:=by show (bB (.q0 (zv a.top))&&(bB (zd a.top)&&(bB (.q0 (zv a.low))&&(bB (zd a.low)&&aq))))=aq;rw[Mw,Mw];rfl
def jC {l:List Q}:∀x,x∈l.map qC->ae x=4:=by intro x h;obtain ⟨a,_,rfl⟩:=aiw.1 h;rfl
def iW {l:List Q} {i:Nat} (h:i < ae l):(l.map qC)[i]?=ak (qC (af l i ah)):=by simp[h]
def Ct:qC ah=[.q0 0,.nil,.q0 0,.nil]:=by show [AV.q0 (zv 0),zd 0,.q0 (zv 0),zd 0]=_;rw[nr FX,qU FX]
def aL (H H':aF) (ids:List Nat):Prop:=ae H<=ae H'/\∀id,id < ae H->id∉ids->∀w,aI H' id w=aI H id w
def aL.refl (H:aF) (ids:List Nat):aL H H ids:=⟨ahZ _,fun _ _ _ _=>rfl⟩
def aL.trans (h:aL H G ids) (g:aL G F ids):aL H F ids :=
 ⟨aiJ h.1 g.1,fun y k x w=>by rw[g.2 y (aiB k h.1) x,h.2 y k x]⟩
def aL.app (H l:aF) (ids:List Nat):aL H (H++l) ids:=⟨aO,fun k h _ w=>cJ h⟩
def aL.mono (h:aL H H' a) (k:∀x,x∈a->x∈b):aL H H' b:=⟨h.1,fun e y z w=>h.2 e y (fun c=>z (k _ c)) w⟩
def SlV.aQ {H H':aF} {k:Nat} {v:AV} {xs:List (List AV)} {ids:List Nat} (h:SlV H k v xs) (z:aL H H' ids) (y:∀id,id∈aG v->id∉ids):SlV H' k v xs :=
 h.same fun id x w=>z.2 id (h.cV id x) (y id x) w
def SlL.aQ {H H':aF} {k id ver:Nat} {xs:List (List AV)} {ids:List Nat} (h:SlL H k id ver xs) (y:aL H H' ids) (x:id∉ids):SlL H' k id ver xs:=by have ⟨z,h⟩:=h;exact ⟨z,by rw[y.2 id (aP h) x];exact h⟩
def aL.write (y:ae H'=ae H) (k:∀j,j≠a->∀w,aI H' j w=aI H j w):aL H H' [a]:=⟨aD,fun x _ h w=>k x (by simpa using h) w⟩
def mW (f a x:Q):Q:=if x.top=0 then a else a.add (f.mul x)
def dT (l fresh:List Q) (k:Nat):List Q :=
 if (af l (k+1) ah).top=0 then l else
  List.zipWith (mW (af l (k+1) ah)) (l.set (k+1) ah) fresh
def jg (l fresh:List Q) (f:Q) (c:Nat):List Q:=(List.zipWith (mW f) l fresh).take c++l.drop c
def Gx (h:ae fresh=ae l):ae (jg l fresh f c)=ae l:=by simp[jg,h];omega
def Vf (l fresh:List Q) (f:Q):jg l fresh f 0=l:=by simp[jg]
def Xu (h:ae fresh=ae l):jg l fresh f (ae l)=List.zipWith (mW f) l fresh:=by unfold jg;rw[aiZ,aiu,aiv (by simp[h])]
def Pw (h:ae fresh=ae l) (k:c < ae l):af (jg l fresh f c) c ah=af l c ah:=by unfold jg;simp only[af];rw[aiC bW,ajS];congr 2;simp[h];omega
def Ve (h:ae fresh=ae l) (k:c < ae l):jg l fresh f (c+1)=(jg l fresh f c).set c (mW f (af l c ah) (af fresh c ah)):=by
 unfold jg;have y:c < ae (List.zipWith (mW f) l fresh):=by simp[h,k]
 rw[aiT y,ajy _ _ bW];have x:c - ae ((List.zipWith (mW f) l fresh).take c)=0:=by simp[h];omega
 rw[x,ail k,akt,aio];congr 1;simp[af,k,h]
def JM {H:aF} {a ver:Nat} {l fresh:List Q} {k:Nat} {vt vf:AV} (L:SlL H 4 a ver (l.map qC)) (hf:SlV H 4 vf (fresh.map qC)) (a1:a∉aG vf) (X:ae fresh=ae l) (J:k+1 < ae l) (b3:ae l < 1000000)
  (nu:∀x,x∈l->QOk 100000 x) (a4:∀x,x∈fresh->QOk 400000 x) :
  cR prog 179 [vt,.sl 4 a ver 0 (ae l),vf,.q0 (k:Int)] H fun r H'=>r = .bM []/\SlL H' 4 a ver ((dT l fresh k).map qC)/\aL H H' [a]:=by
 refine qw func179 ?_;have e1:=ws k;have ⟨p,a9,b0⟩:=(L.cZ (n:=ae l) aO).read (iW J);refine Z ?_;refine aH (j9 (af l (k+1) ah)) (by simp[bE]) rfl ?_;generalize j:af l (k+1) ah=f at *;by_cases I:f.top=0
 .have hs:(f.top.sign=0)=True:=aiq (by rw[I];rfl);refine Y1 hs ?_;have hr:dT l fresh k=l:=by unfold dT;rw[j,ah1 I]
  rw[hr];exact ⟨L.aQ (aL.app H _ []) aO,aL.app H _ _⟩
 .have hs:=aie (fun h=>I (ai8.1 h));have hn:∀K:AV->Prop,gH vf K=K (.q0 (ae l:Int)):=fun K=>by rw[hf.fN,ah3,X]
  have a7:a < ae H:=by obtain ⟨tl,h⟩:=L;exact aP h
  have ⟨p2,w1,_,_,wr⟩:=(L.aQ (aL.app H [ak ⟨4,0,[qC f]⟩] []) aO).rw (i:=k+1) (n:=ae l) (bu J) aO jC;have ⟨F,w2,w3,w4,w5⟩:=wr (.agg [.q0 0,.nil,.q0 0,.nil]) rfl rfl;have B:=(aL.app H _ _).trans (aL.write w4 w5);have M:aI F (ae H) 0=ak ⟨4,0,[qC f]⟩:=by rw[w5 _ aD];exact ct
  have s:ae H < ae F:=by rw[w4];simp
  have a6:SlL F 4 a ver ((l.set (k+1) ah).map qC):=by
   have e:(AV.agg [.q0 0,.nil,.q0 0,.nil]).cells=qC ah:=by rw[Ct];rfl
   rw[e] at w3;rw[ajF];exact w3
  have U:ae (l.set (k+1) ah)=ae l:=ah8 ..;have m:dT l fresh k=List.zipWith (mW f) (l.set (k+1) ah) fresh:=by unfold dT;rw[j,ah0 I]
  have D:∀x,x∈l.set (k+1) ah->QOk 100000 x:=fun x q=>by
   rcases ai4 q with h | rfl
   .exact nu x h
   .exact Mu _
  have g:QOk 100000 f:=by
   rw[<-j];have:af l (k+1) ah=l[k+1]:=by simp[af,J]
   rw[this];exact nu _ (ajj J)
  generalize l.set (k+1) ah=z at *;refine Y5 hs e1 w1 w2 hn ?_;refine aZ (fun n e b=>∃c,c<=ae l/\n=ae l - c/\aL F b [a]/\SlL b 4 a ver ((jg z fresh f c).map qC) /\
   e=[(1,.sl 4 a ver 0 (ae l)),(8,.ptr (ae H) 0 0 0),(24,vf),(25,.q0 (ae l:Int)),(26,.q0 (c:Int))]) (n:=ae l)
   ⟨0,aiL _,rfl,aL.refl _ _,by rw[Vf];exact a6,rfl⟩ ?_;rintro n _ b ⟨c,hc,rfl,C,sc,rfl⟩;by_cases V:(c:Int) < (ae l:Int)
  .have v:c < ae l:=aD;have w:c < ae z:=aD;have y:ae fresh=ae z:=aD;have fc:=hf.aQ (B.trans C) (fun id S hm=>by simp at hm;subst hm;exact a1 S);obtain ⟨p3,b1,b2⟩:=fc.read (iW (show c < ae fresh by omega));have a2:af fresh c ah∈fresh:=by
    have:af fresh c ah=fresh[c]:=by simp[af,show c < ae fresh by omega]
    rw[this];exact ajj _
   have P:af z c ah∈z:=by
    have:af z c ah=z[c]:=by simp[af,w]
    rw[this];exact ajj _
   have E:=a4 _ a2;have a3:=D _ P;have W:=Ve (f:=f) y w;generalize af fresh c ah=x at *;have e2:=ws c;refine Z ?_;refine aH (j9 x) (by simp[bE]) rfl ?_;have t:aI b (ae H) 0=ak ⟨4,0,[qC f]⟩:=by rw[C.2 _ s bW];exact M
   have O:=aP t;have sg:=sc.aQ (aL.app b [ak ⟨4,0,[qC x]⟩] []) aO;by_cases q:x.top=0
   .have o:(x.top.sign=0)=True:=aiq (by rw[q];rfl);refine Y2 o e2 ?_;refine ⟨ae l - (c+1),aD,c+1,v,rfl,C.trans (aL.app b _ _),?_,rfl⟩;rw[W];have:mW f (af z c ah) x=af (jg z fresh f c) c ah:=by rw[Pw y w];unfold mW;rw[ah1 q]
    rw[this];have A:(jg z fresh f c).set c (af (jg z fresh f c) c ah)=jg z fresh f c:=by
     have T:c < ae (jg z fresh f c):=by rw[Gx y];exact w
     have:af (jg z fresh f c) c ah=(jg z fresh f c)[c]:=by simp[af,T]
     rw[this,List.set_getElem_self]
    rw[A];exact sg
   .have o:=aie (fun h=>q (ai8.1 h));have ⟨p4,v1,v2,v3,vw⟩:=sg.rw (i:=c) (n:=ae l) (by rw[ah3,Gx y];exact w) (by rw[ah3,Gx y];omega) jC;have a0:af ((jg z fresh f c).map qC) c []=qC (af z c ah):=by rw[<-Pw (f:=f) y w];simp[af,show c < ae (jg z fresh f c) by rw[Gx y];exact w]
    rw[a0] at v2;generalize a8:af z c ah=G at *;have a5:QOk (100000+400000) (f.mul x):=Zs aR aR g E;have ⟨H3,u1,u2,u3,u4⟩:=vw (qA (G.add (f.mul x))) rfl (sX _);have N:∀K,bk (b++[ak ⟨4,0,[qC x]⟩]) (ae H) 0 K=K ⟨4,0,[qC f]⟩:=aK (by rw[cJ O];exact t);refine Y4 o v1 v2 N ?_;refine aH (SL f x (g.mono aR) (E.mono aR)) (by simp[bE]) (bE _) ?_;refine Y ?_;refine aH (SI G (f.mul x) (a3.mono aR) (a5.mono aR)) (by simp[bE]) (bE _) ?_;refine Y3 e2 v1 u1 ?_;refine ⟨ae l - (c+1),aD,c+1,v,rfl,(C.trans (aL.app b _ _)).trans (aL.write u3 u4),?_,rfl⟩;rw[W,ajF];have:mW f G x=G.add (f.mul x):=by unfold mW;rw[ah0 q]
    rw[this];exact u2
  .have R:c=ae l:=aD;subst R;refine Y1 V ?_;rw[m,<-Xu aD,U];exact ⟨sc,B.trans C⟩
structure dB where
 vM:List Q
 add:Q
 eq:Bool
 fl:Bool
def de (r:dB):List AV := .seq 4 r.fl (r.vM.map qC)::(qC r.add++[.c (.bool r.eq)])
structure Tab where
 n:Nat
 aU:List dB
 aT:List Int
 out:List Int
 cells:List (List Q)
 aM:List Q
def cN (n:Int):List AV:=[.c (.int .i64 n)]
structure bD where
 rv:AV
 vb:AV
 vo:AV
 vc:AV
 vg:AV
 aV:List AV
inductive Slot where
 | b | o | c | g
 | r (i:Nat)
deriving DecidableEq
def bD.v (D:bD):Slot->AV
 | .b=>D.vb
 | .o=>D.vo
 | .c=>D.vc
 | .g=>D.vg
 | .r i=>af D.aV i .ba
def SlN (H:aF) (k:Nat) (v:AV) (xs:List (List AV)):Prop:=(v = .nil/\xs=[])\/∃id ver,v = .sl k id ver 0 (ae xs)/\SlL H k id ver xs
def SlN.cZ {H:aF} {k:Nat} {v:AV} {xs:List (List AV)} (h:SlN H k v xs):SlV H k v xs:=by
 rcases h with ⟨rfl,rfl⟩ | ⟨id,ver,rfl,h⟩
 .exact .nil
 .exact h.cZ rfl
def SlN.aQ {H H':aF} {k:Nat} {v:AV} {xs:List (List AV)} {ids:List Nat} (h:SlN H k v xs) (y:aL H H' ids) (x:∀id,id∈aG v->id∉ids):SlN H' k v xs:=by
 rcases h with ⟨rfl,rfl⟩ | ⟨id,ver,rfl,h⟩
 .exact .inl ⟨rfl,rfl⟩
 .exact .inr ⟨id,ver,rfl,h.aQ y (x id (by simp[aG]))⟩
def SlN.live {H:aF} {k:Nat} {v:AV} {xs:List (List AV)} (h:SlN H k v xs) (x:xs≠[]):∃id ver,v = .sl k id ver 0 (ae xs)/\SlL H k id ver xs:=by
 rcases h with ⟨rfl,h⟩ | h
 .exact absurd h x
 .exact h
def kP:AV->Prop
 | .sl _ _ _ _ _=>True
 | _=>False
def Dt:AV->Prop
 | .nil=>True
 | .sl _ _ _ _ _=>True
 | .seq _ f _=>f=aq
 | _=>False
def zO (v:AV) (l:List Q):Prop:=Dt v/\(2<=ae l->kP v)
def vW {k id ver i n:Nat} {l:List Q}:zO (.sl k id ver i n) l:=⟨trivial,fun _=>trivial⟩
def AO (H:aF) (v:AV) (l:List Q):Prop:=(l≠[]->SlV H 4 v (l.map qC))/\∀id,id∈aG v->id < ae H
def AO.of (h:SlV H 4 v (l.map qC)):AO H v l:=⟨fun _=>h,h.cV⟩
def AO.cZ (h:AO H v l) (k:0 < ae l):SlV H 4 v (l.map qC):=h.1 (akb.1 k)
def AO.aQ (h:AO H v l) (x:aL H H' ids) (z:∀id,id∈aG v->id∉ids):AO H' v l :=
 ⟨fun y=>(h.1 y).aQ x z,fun id k=>aiB (h.2 id k) x.1⟩
structure ck (H:aF) (t:Nat) (D:bD) (T:Tab):Prop where
 bF:aI H t 0=some ⟨6,0,[[.c (.int .i64 (T.n:Int)),D.rv,D.vb,D.vo,D.vc,D.vg]]⟩
 aU:SlV H 6 D.rv (T.aU.map de)
 lI:aG D.rv=[]
 aT:SlN H 1 D.vb (T.aT.map cN)
 out:SlN H 1 D.vo (T.out.map cN)
 cells:SlN H 1 D.vc (D.aV.map fun v=>[v])
 cl:D.aV.length=T.cells.length
 rws:∀i,i < T.cells.length->SlV H 4 (D.aV.getD i .ba) ((T.cells.getD i []).map qC)
 aM:AO H D.vg T.aM
 live:(∀i,i < T.cells.length->zO (D.aV.getD i .ba) (T.cells.getD i []))/\zO D.vg T.aM
 top:∀s,t∉aG (D.v s)
 sep:∀s s',s≠s'->∀id,id∈aG (D.v s)->id∉aG (D.v s')
def fJ (t:Nat) (D:bD) (id:Nat):Prop:=id=t\/∃s,id∈aG (D.v s)
def ck.lt {H:aF} {t:Nat} {D:bD} {T:Tab} (h:ck H t D T) {id:Nat} (k:fJ t D id):id < ae H:=by
 rcases k with rfl | ⟨s,k⟩
 .exact aP h.bF
 .cases s with
  | b=>exact h.aT.cZ.cV id k
  | o=>exact h.out.cZ.cV id k
  | c=>exact h.cells.cZ.cV id k
  | g=>exact h.aM.2 id k
  | r i =>
   rcases aij i (ae T.cells) with x | x
   .exact (h.rws i x).cV id k
   .have:D.v (.r i) = .ba:=by simp[bD.v,af,show ae D.aV<=i by rw[h.cl];exact x]
    rw[this] at k;simp[aG] at k
def ck.aQ (h:ck H t D T) (x:aL H H' ids) (y:∀id,fJ t D id->id∉ids):ck H' t D T where
 bF:=by rw[x.2 t (aP h.bF) (y t (.inl rfl))];exact h.bF
 aU:=h.aU.aQ x (fun id k=>by rw[h.lI] at k;simp at k)
 lI:=h.lI
 aT:=h.aT.aQ x (fun id k=>y id (.inr ⟨.b,k⟩))
 out:=h.out.aQ x (fun id k=>y id (.inr ⟨.o,k⟩))
 cells:=h.cells.aQ x (fun id k=>y id (.inr ⟨.c,k⟩))
 cl:=h.cl
 rws:=fun i z=>(h.rws i z).aQ x (fun id k=>y id (.inr ⟨.r i,k⟩))
 aM:=h.aM.aQ x (fun id k=>y id (.inr ⟨.g,k⟩))
 live:=h.live
 top:=h.top
 sep:=h.sep
def ck.setRow {H H':aF} {t:Nat} {D:bD} {T:Tab} (h:ck H t D T) {r a ver n:Nat} {l:List Q} (K:r < ae T.cells) (hv:af D.aV r .ba = .sl 4 a ver 0 n) (p:n=ae l) (q:SlL H' 4 a ver (l.map qC)) (y:aL H H' [a]) :
  ck H' t D {T with cells:=T.cells.set r l}:=by
 have j:a∈aG (D.v (.r r)):=by simp only[bD.v,hv];simp[aG]
 have cK:∀s,s ≠ .r r->∀w,w∈aG (D.v s)->w∉[a]:=fun s f w k m=>by simp at m;subst m;exact h.sep s (.r r) f _ k j
 refine ⟨?_,h.aU.aQ y (fun w k=>by rw[h.lI] at k;simp at k),h.lI,h.aT.aQ y (cK .b aO),h.out.aQ y (cK .o aO),h.cells.aQ y (cK .c aO),bu h.cl,fun i z=>?_,h.aM.aQ y (cK .g aO),⟨fun i z=>?_,h.live.2⟩,h.top,h.sep⟩
 .have:t≠a:=fun x=>h.top (.r r) (x ▸ j);rw[y.2 t (aP h.bF) (by simpa using this)];exact h.bF
 .simp only[ah8] at z;by_cases x:i=r
  .subst x;have e:af (T.cells.set i l) i []=l:=by simp[af,z]
   rw[e,hv];exact q.cZ (bu p)
  .have e:af (T.cells.set r l) i []=af T.cells i []:=by simp[af,ajc (ait x)]
   rw[e];exact (h.rws i z).aQ y (cK (.r i) (bu x))
 .simp only[ah8] at z;by_cases x:i=r
  .subst x;rw[hv];exact vW
  .have e:af (T.cells.set r l) i []=af T.cells i []:=by simp[af,ajc (ait x)]
   show zO _ (af (T.cells.set r l) i []);rw[e];exact h.live.1 i z
def ck.yQ (h:ck H t D T) (hv:D.vg = .sl 4 a ver 0 n) (m:n=ae l) (p:SlL H' 4 a ver (l.map qC)) (x:aL H H' [a]):ck H' t D {T with aM:=l}:=by
 have w:a∈aG (D.v .g):=by simp only[bD.v,hv];simp[aG]
 have cK:∀s,s ≠ .g->∀y,y∈aG (D.v s)->y∉[a]:=fun s z y k e=>by simp at e;subst e;exact h.sep s .g z _ k w
 refine ⟨?_,h.aU.aQ x (fun y k=>by rw[h.lI] at k;simp at k),h.lI,h.aT.aQ x (cK .b aO),h.out.aQ x (cK .o aO),h.cells.aQ x (cK .c aO),h.cl,fun i j=>(h.rws i j).aQ x (cK (.r i) aO),?_,⟨h.live.1,by rw[hv];exact vW⟩,h.top,h.sep⟩
 .have:t≠a:=fun f=>h.top .g (f ▸ w);rw[x.2 t (aP h.bF) (by simpa using this)];exact h.bF
 .rw[hv];exact .of (p.cZ (bu m))
def ck.VB (h:ck H t D T) (hv:D.vb = .sl 1 a ver 0 n) (m:n=ae l) (p:SlL H' 1 a ver (l.map cN)) (x:aL H H' [a]):ck H' t D {T with aT:=l}:=by
 have w:a∈aG (D.v .b):=by simp only[bD.v,hv];simp[aG]
 have cK:∀s,s ≠ .b->∀y,y∈aG (D.v s)->y∉[a]:=fun s z y k e=>by simp at e;subst e;exact h.sep s .b z _ k w
 refine ⟨?_,h.aU.aQ x (fun y k=>by rw[h.lI] at k;simp at k),h.lI,.inr ⟨a,ver,by rw[hv,m];simp,p⟩,h.out.aQ x (cK .o aO),h.cells.aQ x (cK .c aO),h.cl,fun i j=>(h.rws i j).aQ x (cK (.r i) aO),h.aM.aQ x (cK .g aO),h.live,h.top,h.sep⟩;have:t≠a:=fun f=>h.top .b (f ▸ w);rw[x.2 t (aP h.bF) (by simpa using this)];exact h.bF
def ck.ZK (h:ck H t D T) (hv:D.vo = .sl 1 a ver 0 n) (m:n=ae l) (p:SlL H' 1 a ver (l.map cN)) (x:aL H H' [a]) (q:T.out≠[]):ck H' t D {T with out:=l}:=by
 have w:a∈aG (D.v .o):=by simp only[bD.v,hv];simp[aG]
 have cK:∀s,s ≠ .o->∀y,y∈aG (D.v s)->y∉[a]:=fun s z y k e=>by simp at e;subst e;exact h.sep s .o z _ k w
 refine ⟨?_,h.aU.aQ x (fun y k=>by rw[h.lI] at k;simp at k),h.lI,h.aT.aQ x (cK .b aO),.inr ⟨a,ver,by rw[hv,m];simp,p⟩,h.cells.aQ x (cK .c aO),h.cl,fun i j=>(h.rws i j).aQ x (cK (.r i) aO),h.aM.aQ x (cK .g aO),h.live,h.top,h.sep⟩;have:t≠a:=fun f=>h.top .o (f ▸ w);rw[x.2 t (aP h.bF) (by simpa using this)];exact h.bF
def ck.newRow (h:ck H t D T) (I:r < ae T.cells) (F:D.vc = .sl 1 ca cver 0 (ae D.aV)) (y:¬fJ t D a) (C:SlL H 4 a ver (l.map qC))
  (G:SlL H' 1 ca cver ((D.aV.map fun v=>[v]).set r [.sl 4 a ver 0 (ae l)])) (w:aL H H' [ca]):ck H' t {D with aV:=D.aV.set r (.sl 4 a ver 0 (ae l))} {T with cells:=T.cells.set r l}:=by
 have B:ca∈aG (D.v .c):=by simp only[bD.v,F];simp[aG]
 have cK:∀s,s ≠ .c->∀p,p∈aG (D.v s)->p∉[ca]:=fun s e p k m=>by simp at m;subst m;exact h.sep s .c e _ k B
 have f:r < ae D.aV:=h.cl ▸ I;have A:∀s,s ≠ .r r->({D with aV:=D.aV.set r (.sl 4 a ver 0 (ae l))}:bD).v s=D.v s:=by
  intro s C;cases s with
  | r i =>
   have:i≠r:=bu C;simp[bD.v,af,ajc (ait this)]
  | _=>rfl
 have E:({D with aV:=D.aV.set r (.sl 4 a ver 0 (ae l))}:bD).v (.r r) = .sl 4 a ver 0 (ae l):=by simp[bD.v,af,f]
 have e:a≠ca:=fun x=>y (.inr ⟨.c,x ▸ B⟩);refine ⟨?_,h.aU.aQ w (fun p k=>by rw[h.lI] at k;simp at k),h.lI,h.aT.aQ w (cK .b aO),h.out.aQ w (cK .o aO),.inr ⟨ca,cver,?_,?_⟩,bu h.cl,fun i j=>?_,h.aM.aQ w (cK .g aO),⟨fun i j=>?_,h.live.2⟩,fun s=>?_,fun s W X p k=>?_⟩
 .have:t≠ca:=fun x=>h.top .c (x ▸ B);show aI H' t 0=ak ⟨6,0,[[.q0 (T.n:Int),D.rv,D.vb,D.vo,D.vc,D.vg]]⟩;rw[w.2 t (aP h.bF) (by simpa using this)];exact h.bF
 .show D.vc=_;rw[F];simp
 .rw[<-ajF] at G;exact G
 .simp only[ah8] at j;by_cases x:i=r
  .subst x;have q:af (T.cells.set i l) i []=l:=by simp[af,j]
   have z:af (D.aV.set i (.sl 4 a ver 0 (ae l))) i .ba = .sl 4 a ver 0 (ae l):=by simp[af,f]
   rw[q,z];exact (C.aQ w (bu e)).cZ aO
  .have q:af (T.cells.set r l) i []=af T.cells i []:=by simp[af,ajc (ait x)]
   have z:af (D.aV.set r (.sl 4 a ver 0 (ae l))) i .ba=af D.aV i .ba:=by simp[af,ajc (ait x)]
   rw[q,z];exact (h.rws i j).aQ w (cK (.r i) aO)
 .simp only[ah8] at j;by_cases x:i=r
  .subst x;have z:af (D.aV.set i (.sl 4 a ver 0 (ae l))) i .ba = .sl 4 a ver 0 (ae l):=by simp[af,f]
   show zO (af (D.aV.set i (.sl 4 a ver 0 (ae l))) i .ba) _;rw[z];exact vW
  .have z:af (D.aV.set r (.sl 4 a ver 0 (ae l))) i .ba=af D.aV i .ba:=by simp[af,ajc (ait x)]
   have q:af (T.cells.set r l) i []=af T.cells i []:=by simp[af,ajc (ait x)]
   show zO (af (D.aV.set r (.sl 4 a ver 0 (ae l))) i .ba) (af (T.cells.set r l) i []);rw[z,q];exact h.live.1 i j
 .by_cases x:s = .r r
  .subst x;rw[E];simp only[aG,akX];exact fun x=>y (.inl x.symm)
  .rw[A s x];exact h.top s
 .by_cases x:s = .r r
  .subst x;rw[E] at k;simp[aG] at k;subst k;rw[A W (ait X)];exact fun m=>y (.inr ⟨W,m⟩)
  .rw[A s x] at k;by_cases K:W = .r r
   .subst K;rw[E];simp only[aG,akX];exact fun m=>y (.inr ⟨s,m ▸ k⟩)
   .rw[A W K];exact h.sep s W X p k
section
variable {P:Program}
@[reducible] def br (l:List Int):List (List AV):=l.map cN
@[reducible] def iz (l:List Int):AV := .seq 1 ar (br l)
def aew {d:Int}:cN d=[.q0 d]:=(rfl)
def afQ {l:List Int} {i:Nat} {y:Int}:(l.map cN).set i [.q0 y]=(l.set i y).map cN:=(ajF (f:=cN)).symm
def aeD:aA n [.q0 y]=(aA n y).map cN:=by simp[cN]
attribute [go_sem] aew afQ aeD
def gV (l:List Int):(br l).all (fun x=>x.all bT)=aq:=by simp[br,cN,bT]
def Dv (v:AV) (l:List Int):Prop:=Wk0 v (iz l)
def Dv.seq (f:Bool) (l:List Int):Dv (.seq 1 f (br l)) l:=by cases f;exact .refl _;exact .full 1 _
def Dv.wk (h:Dv v l):Wk1 v (iz l) := .cell h
def YQ (h:Dv v l) (k:jO 0 v=aq):Fin 0 v H (iz l) []:=oP h.wk k
def RS (n:Int):Prop := -2305843009213693952 < n/\n < 2305843009213693952
instance (n:Int):Decidable (RS n):=inferInstanceAs (Decidable (_/\_))
def rv (n:Int):Int:=if RS n then n else 0
def rn (n:Int):Bool:=if RS n then ar else decide (n < 0)
def rd (n:Int):AV:=if RS n then .nil else iz (dx (ay n))
abbrev rC (n:Int):List AV:=[.q0 (rv n),.v0 (rn n),rd n]
abbrev rA (n:Int):AV := .agg (rC n)
def gj (h:RS n):rA n = .agg [.q0 n,.v0 ar,.nil]:=by unfold rA rC rv rn rd;rw[ah1 h,ah1 h,ah1 h]
def z8 (h:¬RS n):rA n = .agg [.q0 0,.v0 (decide (n < 0)),iz (dx (ay n))]:=by unfold rA rC rv rn rd;rw[ah0 h,ah0 h,ah0 h]
def ag8:bB (rd n)=aq:=by unfold rd;split<;>rfl
def ag7:dM (rd n)=aq:=by unfold rd;split<;>rfl
attribute [go_sem] ag8 ag7
def JL (n:Int):bT (rd n)=aq:=by unfold rd;split<;>rfl
@[go_sem] def FO (k:Nat) (n:Int):bp k (rd n)=aq:=by unfold rd;split<;>rfl
def bq (n:Int):bJ (rA n)=aq:=by
 show (eO (.q0 (rv n))&&(eO (.v0 (rn n))&&(eO (rd n)&&aq)))=aq;have:eO (rd n)=aq:=by unfold rd;split<;>rfl
 rw[this];rfl
def PN (k:Nat) (n:Int):jO k (rA n)=aq:=by show (bp k (.q0 (rv n))&&(bp k (.v0 (rn n))&&(bp k (rd n)&&aq)))=aq;rw[FO];rfl
def uA (h:a=rA n):Fin 0 a H (rA n) []:=aW h (by rw[h];exact PN 0 n)
def rl (n:Int):Nat:=if RS n then 0 else ae (dx (ay n))
@[go_sem] def afL:gH (rd n) K=K (.q0 (rl n:Int)):=by
 unfold rd rl;split
 .rfl
 .rw[Ng]
def IF (h:¬RS n):n≠0:=fun k=>h (by subst k;decide)
def JO:(0 < (rl n:Int))=¬RS n:=by
 unfold rl;refine propext ⟨fun h x=>?_,fun h=>?_⟩
 .rw[ah1 x] at h;simp at h
 .rw[ah0 h];have:dx (ay n)≠[]:=fun k=>by rw[Gl] at k;exact IF h aD
  have:=akb.2 this;omega
def oa:((rl n:Int)=0)=RS n:=by
 have:=JO (n:=n);refine propext ⟨fun h=>?_,fun h=>?_⟩
 .by_cases k:RS n
  .exact k
  .have x:=this ▸ k;omega
 .have x:¬0 < (rl n:Int):=by rw[this];simpa using h
  omega
def rs0:RS 0:=aR
def YA (h:Dg k n):ae (dx (ay n))<=2*k:=by rw[k7];refine aiB h ?_;rw[Nat.pow_mul];exact Nat.pow_le_pow_left aR k
inductive Acc (n0:Nat) (H:aF) (k:Nat):AV->List (List AV)->Prop
 | nil:Acc n0 H k .nil []
 | sq {xs:List (List AV)}:Acc n0 H k (.seq k true xs) xs
 | sl {id ver:Nat} {xs:List (List AV)}:n0<=id->aI H id ver=some ⟨k,ver,xs⟩->Acc n0 H k (.sl k id ver 0 xs.length) xs
def Acc.aQ {n0 k:Nat} {H H':aF} {v:AV} {xs:List (List AV)} {ids:List Nat} (h:Acc n0 H k v xs) (w:aL H H' ids) (z:∀id,id∈aG v->id∉ids):Acc n0 H' k v xs:=by
 cases h with
 | nil=>exact .nil
 | sq=>exact .sq
 | sl y x=>exact .sl y (by rw[w.2 _ (aP x) (z _ (by simp[aG]))];exact x)
def Acc.ge {n0 k:Nat} {H:aF} {v:AV} {xs:List (List AV)} (h:Acc n0 H k v xs):∀id,id∈aG v->n0<=id/\id < ae H:=by
 cases h with
 | nil=>simp[aG]
 | sq=>simp[aG]
 | sl y z=>intro id x;simp[aG] at x;subst x;exact ⟨y,aP z⟩
def Acc.app {n0 k:Nat} {H:aF} {v:AV} {xs:List (List AV)} (h:Acc n0 H k v xs) (c:n0<=ae H) (g:ae xs < 4000000000) (y:List AV) :
  ∃x H',(∀K,bX k v [y] H K=K x H')/\Acc n0 H' k x (xs++[y])/\aL H H' (aG v)/\(∀id,id∈aG v->id∈aG x)/\(∀id,id∈aG x->id∈aG v\/id=ae H)/\bB x=aq/\x.cells=[x]/\dA x=aq:=by
 cases h with
 | nil =>
  refine ⟨.sl k (ae H) 0 0 1,H++[ak ⟨k,0,[y]⟩],fun K=>?_,Acc.sl (xs:=[y]) c ct,aL.app _ _ _,by simp[aG],by simp[aG],rfl,rfl,rfl⟩;rw[vD];simp
 | sq =>
  have f:il k H (.seq k aq xs) [y]=ak (.sl k (ae H) 0 0 (ae xs+1),H++[ak ⟨k,0,xs++[y]⟩]):=by show (if k=k/\ae xs+1<=4294967296 then _ else an)=_;rw[ah1 ⟨rfl,aD⟩];rfl
  refine ⟨.sl k (ae H) 0 0 (ae xs+1),H++[ak ⟨k,0,xs++[y]⟩],fun K=>?_,?_,aL.app _ _ _,by simp[aG],by simp[aG],rfl,rfl,rfl⟩
  .simp only[bX,f];rfl
  .have:=Acc.sl (n0:=n0) (H:=H++[ak ⟨k,0,xs++[y]⟩]) (k:=k) (id:=ae H) (ver:=0) (xs:=xs++[y]) c ct;simpa using this
 | sl e a =>
  rename_i id ver;have z:=aP a;refine ⟨.sl k id (ver+1) 0 (ae xs+1),H.set id (ak ⟨k,ver+1,xs++[y]⟩),fun K=>?_,?_,⟨aO,fun j _ b w=>by simp[aG] at b;exact aS (ait b)⟩,by simp[aG],by simp[aG],rfl,rfl,rfl⟩
  .rw[oM a aO];refine propext ⟨fun h=>?_,fun h=>⟨rfl,bW,?_⟩⟩
   .simpa using h.2.2
   .simpa using h
  .have:=Acc.sl (n0:=n0) (H:=H.set id (ak ⟨k,ver+1,xs++[y]⟩)) (k:=k) (id:=id) (ver:=ver+1) (xs:=xs++[y]) e (bn z);simpa using this
def Acc.fin {n0:Nat} {H:aF} {k:Nat} {v:AV} {xs:List (List AV)} (h:Acc n0 H k v xs) (w:xs.all (fun x=>x.all bT)=aq):Fin 0 v H (.seq k ar xs) []:=by
 cases h with
 | nil=>exact oP (.cell (.Dz k)) rfl
 | sq=>exact oP (.cell (.full k xs)) rfl
 | sl a z =>
  refine pD z w ?_;rename_i y ver;have:dD y ver k xs (AV.sl k y ver 0 (ae xs)) = .seq k ar xs:=td rfl;show Fin 0 (dD y ver k xs (AV.sl k y ver 0 (ae xs))) _ _ _;rw[this];exact jK rfl
def Gs {id ver k:Nat} {xs:List (List AV)} {a:AV} (h:bT a=aq):fm id ver k xs a=a:=by cases a<;>first | rfl | simp[bT] at h
def Oq:∀l:List AV,WkL l l
 | [] => .nil
 | a::l => .cons (.refl a) (Oq l)
def Ot (h:Wk0 a b):WkL (l++[a]) (l++[b]):=by
 induction l with
 | nil=>exact .cons h .nil
 | cons x l k=>exact .cons (.refl x) k
def tI (h:bT a=aq) (n:Nat):bp n a=aq:=by cases a<;>first | rfl | (simp[bT] at h;try simp[bp,h])
def Acc.YO {n0:Nat} {H:aF} {k:Nat} {v:AV} {xs:List (List AV)} {pre:List AV} (h:Acc n0 H k v xs) (i:xs.all (fun x=>x.all bT)=aq) (z:pre.all bT=aq):Fin 0 (.agg (pre++[v])) H (.agg (pre++[.seq k ar xs])) []:=by
 have j:pre.all (bp 0)=aq:=by rw[ah4] at z ⊢;exact fun a b=>tI (z a b) 0
 have c:∀w,bp 0 w=aq->jO 0 (.agg (pre++[w]))=aq:=fun w l=>by show (pre++[w]).all (bp 0)=aq;rw[ajk,j];simp[l]
 cases h with
 | nil=>exact oP (.agg (Ot (.Dz k))) (c _ rfl)
 | sq=>exact oP (.agg (Ot (.full k xs))) (c _ rfl)
 | sl m g =>
  refine pD g i ?_;rename_i y ver;have e:pre.map (fm y ver k xs)=pre:=by rw[ah4] at z;exact (ajh fun a b=>Gs (z a b)).trans (amU _)
  have f:fm y ver k xs (AV.sl k y ver 0 (ae xs)) = .seq k ar xs:=by simp[fm]
  show Fin 0 (.agg ((pre++[AV.sl k y ver 0 (ae xs)]).map (fm y ver k xs))) _ _ _;rw[aii,e,aiS,ajE,f];exact jK (c _ rfl)
def Acc.cell {n0 k:Nat} {H:aF} {v:AV} {xs:List (List AV)} (h:Acc n0 H k v xs):bB v=aq/\v.cells=[v]/\dA v=aq:=by cases h<;>exact ⟨rfl,rfl,rfl⟩
def Acc.cZ {n0 k:Nat} {H:aF} {v:AV} {xs:List (List AV)} (h:Acc n0 H k v xs):SlV H k v xs:=by
 cases h with
 | nil=>exact .nil
 | sq=>exact .seq
 | sl y x=>exact .sl (tl:=[]) (by rw[aiu];exact x)
def mK (n:Int):bg prog 146 [rA n] (.q0 n.sign):=by
 refine pw func146 ?_;have y:((0:Int) < 0)=False:=aie aR;have w:¬RS n->(0 < (ae (dx (ay n)):Int))=True:=fun h=>aiq (by have:=JO (n:=n);unfold rl at this;rw[ah0 h] at this;rw[this];exact h);rcases akM n 0 with k | k | k
 .have z:=ai0 k;have x:(n < 0)=True:=aiq k;rw[z];by_cases h:RS n
  .rw[gj h];refine Z2 y x ?_;exact aW rfl rfl
  .rw[z8 h];simp only[go_sem,↓reduceIte,w h,x];exact aW rfl rfl
 .subst k;rw[gj rs0];refine Z1 y ?_;exact aW rfl rfl
 .have z:=ai5 k;have x:(n < 0)=False:=aie aD;have a:(0 < n)=True:=aiq k;rw[z];by_cases h:RS n
  .rw[gj h];refine Z3 y x a ?_;exact aW rfl rfl
  .rw[z8 h];simp only[go_sem,↓reduceIte,ah5,w h,x,y];exact aW rfl rfl
def Ap (n:Int):bg prog 149 [rA n] (rA (-n)):=by
 refine pw func149 ?_;have c:((0:Int) < 0)=False:=aie aR;by_cases h:RS n
 .have x:RS (-n):=⟨cn h.2,cn h.1⟩;have k:au .i64 (0 - n) = -n:=by have:=h.1;have:=h.2;rw[wrap_i64 aD aD];omega
  rw[gj h,gj x];refine Z2 c k ?_;exact aW rfl rfl
 .have x:¬RS (-n):=fun w=>h ⟨cn w.2,cn w.1⟩;have k:au .i64 (0 - 0)=0:=aR;have b:(0 < (ae (dx (ay n)):Int))=True:=aiq (by have:=JO (n:=n);unfold rl at this;rw[ah0 h] at this;rw[this];exact h);have y:=IF h;have a:(!decide (n < 0))=decide (-n < 0):=by
   rcases amF y with z | z
   .rw[air z,aif aD];rfl
   .rw[aif aD,air aD];rfl
  rw[z8 h,z8 x,al1];refine Y3 b k a ?_;exact aW rfl rfl
def aac (n:Int):bg prog 183 [rA n] (rA (ay n)):=by
 refine pw func183 ?_;refine Y ?_;refine aH (mK n) (by simp[bq]) rfl ?_;by_cases k:n < 0
 .have h:(n.sign < 0)=True:=(show (n.sign < 0)=(n < 0) from propext aka) ▸ aiq k;refine Y1 h ?_;refine aH (Ap n) (by simp[bq]) (bq _) ?_;refine Y ?_;rw[show -n=(ay n:Int) by omega];exact uA rfl
 .have h:(n.sign < 0)=False:=(show (n.sign < 0)=(n < 0) from propext aka) ▸ aie k;refine Y1 h ?_;rw[show n=(ay n:Int) by omega];exact uA aO
def MU (h:n≠0) (o l:List Int) (k:o++dx n=l):(o++[((n % 1073741824:Nat):Int)])++dx (n / 1073741824)=l:=by rw[<-k,vN h];simp
def CH (n:Int):bg prog 150 [rA n] (iz (dx (ay n))):=by
 refine pw func150 ?_;have s:((0:Int) < 0)=False:=aie aR;by_cases h:RS n
 .have B:=h.1;have C:=h.2;have g:au .i64 (0 - n) = -n:=by rw[wrap_i64 aD aD];omega
  have i:max n (-n)=(ay n:Int):=aD;rw[gj h];refine Y3 s g i ?_;refine aZ (fun k e H=>∃(m:Nat) (o:List Int) (v:AV),m=k/\m < 2305843009213693952/\ae o<=100/\ae o+ae (dx m)<=100/\Acc 0 H 1 v (br o)/\o++dx m=dx (ay n)/\e=[(3,v),(4,.q0 (m:Int))]) (n:=ay n)
   ⟨ay n,[],.nil,rfl,aD,aO,by have:ae (dx (ay n))<=3:=k7.2 aD;simp;omega,.nil,aO,rfl⟩ ?_;rintro k _ H ⟨m,o,v,rfl,E,j,l,a,z,rfl⟩;by_cases w:(0:Int) < (m:Int)
  .have x:m≠0:=aD;have q:((m:Int)).tmod 1073741824=((m % 1073741824:Nat):Int):=by rw[ajn aD];omega
   have r:au .i64 (((m:Int)).tdiv 1073741824)=((m / 1073741824:Nat):Int):=by rw[ai6 aD,wrap_i64 aD aD];omega
   have ⟨b,H',c,f,t,X,W,A⟩:=a.app (aiL _) bW (cN ((m % 1073741824:Nat):Int));have y:∀K,bX 1 v [[.q0 ((m % 1073741824:Nat):Int)]] H K=K b H':=c;refine Y4 w q r y ?_;have D:ae (dx m)=ae (dx (m / 1073741824))+1:=by rw[vN x];rfl
   exact ⟨aR,aR,m / 1073741824,aD,m / 1073741824,o++[((m % 1073741824:Nat):Int)],b,rfl,aD,bW,bW,by simpa[br] using f,MU x o _ z,rfl⟩
  .have x:m=0:=aD;subst x;rw[s9,aiu] at z;subst z;refine Y1 w ?_;exact a.fin (gV _)
 .have p:(0 < (ae (dx (ay n)):Int))=True:=aiq (by have:=JO (n:=n);unfold rl at this;rw[ah0 h] at this;rw[this];exact h);rw[z8 h];refine Y1 p ?_;exact aW rfl rfl
def Ua (n:Int):ay (n.tmod 1073741824)=ay n % 1073741824:=alB ..
def CQ (n:Int):ay (n.tdiv 1073741824)=ay n / 1073741824:=amn ..
def Kz (w:-9223372036854775808<=x/\x < 9223372036854775808):max (x.tmod 1073741824) (au .i64 (0 - x.tmod 1073741824))=((ay x % 1073741824:Nat):Int)/\au .i64 (x.tdiv 1073741824)=x.tdiv 1073741824 /\ -9223372036854775808<=x.tdiv 1073741824/\x.tdiv 1073741824 < 9223372036854775808:=by have h:=Ua x;have k:=CQ x;have y:=alh (ay x) (show 0 < 1073741824 by decide);have z:ay x / 1073741824<=ay x:=alA _ _;refine ⟨by rw[wrap_i64 (by omega) (by omega)];omega,wrap_i64 aD aD,aD,aD⟩
def Ws {n:Int} (E:-9223372036854775808<=n/\n < 9223372036854775808) (h:¬RS n) {H:aF} (a:aI H 0 0=ak ⟨3,0,[[.q0 0,.v0 ar,.nil]]⟩) {B:Env} :
  WP prog 40 sG (jh [.cell 2 aq 3] 0 (rA n) []) ((0,.q0 n)::(2,.ptr 0 0 0 0)::(4,.q0 (n.tdiv 1073741824))::(5,.seq 1 aq [[.q0 ((ay n % 1073741824:Nat):Int)]])::B) H:=by
 refine uz ?_;have F:=IF h;have D:ae (dx (ay n))<=3:=k7.2 aD;have m:[((ay n % 1073741824:Nat):Int)]++dx (ay (n.tdiv 1073741824))=dx (ay n):=by rw[CQ,vN (n:=ay n) aD];rfl
 have ⟨_,_,O,R⟩:=Kz E;refine Y ?_;refine aZ (fun k e H=>∃(x:Int) (o:List Int) (v:AV),ay x=k/\(-9223372036854775808<=x/\x < 9223372036854775808)/\o++dx (ay x)=dx (ay n)/\Acc 1 H 1 v (br o)/\aI H 0 0=ak ⟨3,0,[[.q0 0,.v0 ar,.nil]]⟩ /\
  e=[(0,.q0 n),(2,.ptr 0 0 0 0),(4,.q0 x),(5,v)]) (n:=ay (n.tdiv 1073741824))
  ⟨_,[((ay n % 1073741824:Nat):Int)],.seq 1 aq _,rfl,⟨O,R⟩,m,.sq,a,rfl⟩ ?_;rintro k _ H ⟨x,o,v,rfl,G,g,z,a,rfl⟩;have ⟨J,L,M,N⟩:=Kz G;have jz:ae o<=3:=by have:=akS ae g;rw[ain] at this;omega
 have cv:=z.cell;have b:=aP a;by_cases c:x=0
 .subst c;rw[show ay (0:Int)=0 from rfl,s9,aiu] at g;subst g;have l:=aK a;have C:∀r K,bk (H.set 0 (ak ⟨3,0,r⟩)) 0 0 K=K ⟨3,0,r⟩:=fun r K=>aK (bn b) K;refine Y3 l cv C ?_;rw[z8 h];refine Acc.YO (n0:=1) (pre:=[.q0 0,.v0 (decide (n < 0))]) (z.aQ (H':=H.set 0 (ak ⟨3,0,[[.q0 0,.v0 (decide (n < 0)),v]]⟩)) (ids:=[0]) ⟨aO,fun j _ s w=>by simp at s;exact aS (ait s)⟩ (fun I y=>by have:=(z.ge I y).1;simp;omega)) (gV _) rfl
 .have q:ay x≠0:=aD;have f:(x=0)=False:=aie c;have ⟨t,H',X,W,A,S,T,U⟩:=z.app aD bW (cN ((ay x % 1073741824:Nat):Int));have i:∀K,bX 1 v [[.q0 ((ay x % 1073741824:Nat):Int)]] H K=K t H':=X;refine Y4 f J L i ?_;have e:=MU q o _ g;rw[<-CQ] at e;have p:ay (x.tdiv 1073741824) < ay x:=by rw[CQ];exact Nat.div_lt_self aD aR
  exact ⟨aR,aR,_,p,x.tdiv 1073741824,o++[((ay x % 1073741824:Nat):Int)],t,rfl,⟨M,N⟩,e,by rw[br,aii];exact W,by rw[A.2 0 b (fun y=>by have:=(z.ge 0 y).1;omega)];exact a,rfl⟩
def wW (n:Int) (w:-9223372036854775808<=n/\n < 9223372036854775808):bg prog 101 [.q0 n] (rA n):=by
 refine pc func101 Ez ?_;refine uz ?_;by_cases h:RS n
 .have x:(-2305843009213693952 < n)=True:=aiq h.1;have y:(n < 2305843009213693952)=True:=aiq h.2;rw[gj h];refine Y2 x y ?_;exact aW rfl rfl
 .have k:=h;have ⟨a,b,_,_⟩:=Kz w;rcases Classical.not_and_iff_not_or_not.1 k with z | z
  .have x:(-2305843009213693952 < n)=False:=aie z;simp only[go_sem,↓reduceIte,x,a,b,ah5];exact ⟨aR,aR,Ws w h rfl⟩
  .have x:(-2305843009213693952 < n)=True:=aiq aD;have y:(n < 2305843009213693952)=False:=aie z;refine Y4 x y a b ?_;exact ⟨aR,aR,Ws w h rfl⟩
def X3 (l:List Int) (w:ae l < 4294967296) (f:Bool):bg prog 191 [.seq 1 f (br l)] (iz (cH l)):=by
 refine pw func191 ?_;refine Y ?_;refine aZ (fun n e H=>∃m f,e=[(0,AV.seq 1 f (br m))]/\H=[]/\n=ae m/\ae m < 4294967296/\cH m=cH l) ⟨l,f,rfl,rfl,rfl,w,rfl⟩ ?_;rintro _ _ _ ⟨m,f,rfl,rfl,rfl,b,y⟩;have k:cH m=m->Fin 0 (AV.seq 1 f (br m)) [] (iz (cH l)) []:=fun h=>by rw[<-y,h];exact YQ (Dv.seq f m) rfl
 by_cases h:(0:Int) < ae m
 .have a:au .i64 (ae m - 1)=ae m - 1:=wrap_i64 aD aD;have z:az ((ae m:Int) - 1)=ae m - 1:=aD;refine Y3 h a z ?_;refine ⟨aD,fun x=>⟨aD,ae m - 1,aD,m.take (ae m - 1),_,rfl,?_,?_,?_⟩,fun x=>k (rJ x)⟩
  .simp
  .simp;omega
  .rw[lL aD x,y]
 .refine Y1 h ?_;have:m=[]:=aiA aD;subst this;exact k rfl
def J4 (l m:List Int) (W:ae l < 4294967296) (hm:ae m < 4294967296) (k:DK l) (x:DK m) (q:cH l=l) (r:cH m=m) (f g:Bool) :
  bg prog 187 [.seq 1 f (br l),.seq 1 g (br m)] (.c (.int .i64 (vl l - vl m).sign)):=by
 refine pw func187 ?_;by_cases p:(ae l:Int)=ae m
 .have y:ae l=ae m:=aD;have v:au .i64 ((ae m:Int) - 1)=(ae m:Int) - 1:=wi;refine Z2 p v ?_;refine aZ (fun n e H=>∃i:Nat,i<=ae l/\n=i/\H=[]/\l.drop i=m.drop i/\e=[(0,AV.seq 1 f (br l)),(1,AV.seq 1 g (br m)),(5,AV.c (Value.int IntKind.i64 ((i:Int) - 1)))]) ⟨ae l,ahZ _,rfl,rfl,by rw[aiZ,y,aiZ],by rw[y];rfl⟩ ?_;rintro n _ _ ⟨i,X,A,rfl,j,rfl⟩;by_cases t:i=0
  .subst t;have b:(0<=((0:Nat):Int) - 1)=False:=aie aR;refine Y1 b ?_;have:l=m:=bu j;exact aW (by rw[this];simp) rfl
  .have z:az ((i:Int) - 1)=i - 1:=by omega
   have b:(0<=((i:Nat):Int) - 1)=True:=aiq aD;have K:au .i64 ((i:Int) - 1 - 1)=((i - 1:Nat):Int) - 1:=by rw[wrap_i64 (by omega) (by omega)];omega
   have h:l.drop (i - 1+1)=m.drop (i - 1+1):=by rw[show i - 1+1=i by omega];exact j
   have B:(i:Int) - 1 < (ae l:Int):=aD;have C:(i:Int) - 1 < (ae m:Int):=aD;rcases akM (af l (i - 1) 0) (af m (i - 1) 0) with w | w | w
   .have a:(af l (i - 1) ah < af m (i - 1) ah)=True:=aiq w;refine Y3 z b a ?_;refine ⟨aD,aD,aW ?_ rfl⟩;rw[sign_neg];have:=J0 k x aD aD h w;omega
   .have a:(af l (i - 1) ah < af m (i - 1) ah)=False:=aie (by rw[show (ah:Int)=0 from rfl];omega);have o:(af m (i - 1) ah < af l (i - 1) ah)=False:=aie (by rw[show (ah:Int)=0 from rfl];omega);refine Y5 z b a o K ?_;refine ⟨aD,aD,aD,aD,i - 1,aD,i - 1,aD,rfl,?_,rfl⟩;rw[ail (by omega:i - 1 < ae l),ail (by omega:i - 1 < ae m),h];congr 1;simpa[af,show i - 1 < ae l by omega,show i - 1 < ae m by omega] using w
   .have a:(af l (i - 1) ah < af m (i - 1) ah)=False:=aie (by rw[show (ah:Int)=0 from rfl];omega);have o:(af m (i - 1) ah < af l (i - 1) ah)=True:=aiq w;refine Y4 z b a o ?_;refine ⟨aD,aD,aD,aD,aW ?_ rfl⟩;rw[qL];have:=J0 x k aD aD h.symm w;omega
 .by_cases s:(ae l:Int) < ae m
  .refine Z2 p s ?_;refine aW ?_ rfl;rw[sign_neg];have:=CE k x r aD;omega
  .refine Z2 p s ?_;refine aW ?_ rfl;rw[qL];have:=CE x k q aD;omega
def tS:List Int->List Int->Int->List Int
 | [],[],c=>if 0 < c then [c] else []
 | x::r,s,c=>((c+x+s.headD 0) % B30)::tS r s.tail ((c+x+s.headD 0) / B30)
 | [],y::s,c=>((c+y) % B30)::tS [] s ((c+y) / B30)
def It:∀(a b:List Int) {c:Int},DK a->DK b->0<=c/\c<=1->vl (tS a b c)=vl a+vl b+c/\DK (tS a b c)/\ae (tS a b c)<=max (ae a) (ae b)+1
 | [],[],c,_,_,j=>by
  unfold tS;split
  .exact ⟨by simp[vl],.cons (by simp only[B30];omega) .nil,aO⟩
  .exact ⟨by simp[vl];omega,.nil,aO⟩
 | x::r,s,c,e,h,j=>by
  have l:=e.head;have g:0<=s.headD 0/\s.headD 0 < B30:=by
   cases s with
   | nil=>decide
   | cons y s=>exact h.head
  have f:DK s.tail:=by
   cases s with
   | nil=>exact .nil
   | cons y s=>exact h.tail
  have k:vl s=s.headD 0+B30*vl s.tail:=by cases s<;>simp[vl]
  simp only[B30] at l g k;have ⟨z,w,i⟩:=It r s.tail e.tail f (c:=(c+x+s.headD 0) / B30) (by simp only[B30];omega);unfold tS;simp only[vl,z];refine ⟨?_,.cons (by simp only[B30];omega) w,?_⟩
  .rw[k];simp only[B30];omega
  .simp only[aiF];have:ae s.tail=ae s - 1:=List.length_tail;omega
 | [],y::s,c,e,h,j=>by have g:=h.head;simp only[B30] at g;have ⟨z,w,i⟩:=It [] s .nil h.tail (c:=(c+y) / B30) (by simp only[B30];omega);unfold tS;simp only[vl,z];refine ⟨by simp only[B30];omega,.cons (by simp only[B30];omega) w,?_⟩;simp only[aiF,aiV] at i ⊢;omega
def VF {a b:List Int} {c:Int} {i:Nat} (h:i < ae a\/i < ae b\/0 < c) (l:0<=c/\c<=1):tS (a.drop i) (b.drop i) c=((c+af a i 0+af b i 0) % B30)::tS (a.drop (i+1)) (b.drop (i+1)) ((c+af a i 0+af b i 0) / B30):=by
 rcases aij i (ae a) with k | k
 .rw[ail k,tS,uF,drop_tail,show af a i 0=a[i] by simp[af,k]]
 .have z:=aih k;have w:a.drop (i+1)=[]:=aih aD;have e:af a i 0=0:=by simp[af,k]
  rw[z,w,e];rcases aij i (ae b) with x | x
  .rw[ail x,tS,show af b i 0=b[i] by simp[af,x],ajG]
  .have f:=aih x;have g:b.drop (i+1)=[]:=aih aD;have j:af b i 0=0:=by simp[af,x]
   have y:c=1:=aD;rw[f,g,j,y];simp[tS,B30]
def XK {a b:List Int} {c:Int} {i:Nat} (h:¬(i < ae a\/i < ae b\/0 < c)):tS (a.drop i) (b.drop i) c=[]:=by rw[aih aD,aih aD];unfold tS;rw[ah0 aD]
def aae (a b:List Int) (a7:ae a < 3000000000) (a8:ae b < 3000000000) (T:DK a) (U:DK b) (f g:Bool) :
  bg prog 186 [.seq 1 f (br a),.seq 1 g (br b)] (iz (tS a b 0)):=by
 refine pc func186 CY ?_;refine uz ?_;refine Y ?_;refine aZ (fun n e H=>∃(i:Nat) (c:Int) (o:List Int) (v:AV),(i<=max (ae a) (ae b)\/c=0/\i=max (ae a) (ae b)+1)/\n=2*(max (ae a) (ae b) - i)+az c/\ae o=i/\(0<=c/\c<=1)/\tS a b 0=o++tS (a.drop i) (b.drop i) c/\Acc 0 H 1 v (br o) /\
  e=[(0,.seq 1 f (br a)),(1,.seq 1 g (br b)),(5,v),(6,.q0 c),(7,.q0 (i:Int))]) ⟨0,0,[],.nil,aD,rfl,rfl,aR,rfl,.nil,rfl⟩ ?_;rintro n _ H ⟨i,c,o,v,hi,hn,ho,hc,p,I,rfl⟩;have D:=T.getD i;have E:=U.getD i;simp only[B30] at D E;have A:i < ae a\/i < ae b\/0 < c->∀{Q:cx} {G:Env} {N:Nat} (u:Int),u=c+af a i 0+af b i 0->(∀y H',Acc 0 H' 1 y (br (o++[(c+af a i 0+af b i 0) % B30]))->Q .normal [(0,.seq 1 f (br a)),(1,.seq 1 g (br b)),(5,y),(6,.q0 ((c+af a i 0+af b i 0) / B30)),(7,.q0 (i:Int))] H') ->
   WP prog N rT Q ((0,.seq 1 f (br a))::(1,.seq 1 g (br b))::(5,v)::(6,.q0 u)::(7,.q0 (i:Int))::G) H:=fun k Q G N u hu S=>by
  subst hu;refine uz ?_;have V:0<=c+af a i 0+af b i 0/\c+af a i 0+af b i 0 < 2147483649:=aD;generalize ht:c+af a i 0+af b i 0=t at *;have t1:t.tmod 1073741824=t % 1073741824:=ajn aD;have t2:au .i64 (t.tdiv 1073741824)=t / 1073741824:=by rw[ai6 (by omega),wrap_i64 (by omega) (by omega)]
  have ⟨y,H',L,M,a3,a4,a5,a6⟩:=I.app (aiL _) bW (cN (t % 1073741824));have B:∀K,bX 1 v [[.q0 (t % 1073741824)]] H K=K y H':=L;refine Y3 t1 t2 B ?_;exact ⟨aR,aR,S y H' (by rw[br,aii];exact M)⟩
 have round:i < ae a\/i < ae b\/0 < c->∀y H',Acc 0 H' 1 y (br (o++[(c+af a i 0+af b i 0) % B30]))->∃m,m < n/\∃(q:Nat) (r:Int) (F:List Int) (w:AV),(q<=max (ae a) (ae b)\/r=0/\q=max (ae a) (ae b)+1)/\m=2*(max (ae a) (ae b) - q)+az r/\ae F=q/\(0<=r/\r<=1)/\tS a b 0=F++tS (a.drop q) (b.drop q) r/\Acc 0 H' 1 w (br F) /\
   ([(0,.seq 1 f (br a)),(1,.seq 1 g (br b)),(5,y),(6,.q0 ((c+af a i 0+af b i 0) / B30)),(7,.q0 ((i+1:Nat):Int))]:Env)=[(0,.seq 1 f (br a)),(1,.seq 1 g (br b)),(5,w),(6,.q0 r),(7,.q0 (q:Int))]:=fun k y H' x=>by
  have s:¬i < ae a->af a i 0=0:=fun h=>by simp[af,show ae a<=i by omega]
  have X:¬i < ae b->af b i 0=0:=fun h=>by simp[af,show ae b<=i by omega]
  have a0:i<=max (ae a) (ae b):=aD;have hm:2*(max (ae a) (ae b) - (i+1))+az ((c+af a i 0+af b i 0) / B30) < n:=by
   simp only[B30];rcases aij i (max (ae a) (ae b)) with h | h
   .omega
   .have l:=s aD;have z:=X aD;rw[l,z];omega
  refine ⟨_,hm,i+1,_,_,y,?_,rfl,by simp[ho],by simp only[B30];omega,by rw[p,VF k hc];simp,x,rfl⟩;rcases aij i (max (ae a) (ae b)) with h | h
  .exact .inl aD
  .have l:=s aD;have z:=X aD;exact .inr ⟨by rw[l,z];simp only[B30];omega,aD⟩
 have W:=ws i;by_cases k:i < ae a\/i < ae b\/0 < c
 .have J:au .i64 (c+af a i 0)=c+af a i 0:=wrap_i64 (by omega) (by omega);have x2:au .i64 (c+af a i 0+af b i 0)=c+af a i 0+af b i 0:=wrap_i64 aD aD;have x3:au .i64 (c+af b i 0)=c+af b i 0:=wrap_i64 aD aD;have j:(ah:Int)=0:=rfl;have s:¬(i:Int) < ae a->af a i 0=0:=fun h=>by simp[af,show ae a<=i by omega]
  have X:¬(i:Int) < ae b->af b i 0=0:=fun h=>by simp[af,show ae b<=i by omega]
  have O:¬(i:Int) < ae a->¬(i:Int) < ae b->(0 < c)=True:=fun l z=>aiq aD;by_cases l:(i:Int) < (ae a:Int)
  .by_cases z:(i:Int) < (ae b:Int)
   .refine Y3 l j J ?_;refine ⟨aD,?_⟩;refine uz ?_;refine Y3 z j x2 ?_;refine ⟨aD,A k _ rfl fun y H' x=>?_⟩;refine Y1 W ?_;exact round k y H' x
   .refine Y3 l j J ?_;refine ⟨aD,?_⟩;refine uz ?_;refine Y1 z ?_;refine A k _ (cn (X z)) fun y H' x=>?_;refine Y1 W ?_;exact round k y H' x
  .by_cases z:(i:Int) < (ae b:Int)
   .refine Z2 l z ?_;refine uz ?_;refine Y3 z j x3 ?_;refine ⟨aD,A k _ (cn (s l)) fun y H' x=>?_⟩;refine Y1 W ?_;exact round k y H' x
   .have C:=O l z;refine Z3 l z C ?_;refine uz ?_;refine Y1 z ?_;refine A k _ (zU (s l) (X z)) fun y H' x=>?_;refine Y1 W ?_;exact round k y H' x
 .have l:((i:Int) < (ae a:Int))=False:=aie aD;have z:((i:Int) < (ae b:Int))=False:=aie aD;have R:(0 < c)=False:=aie aD;refine Z3 l z R ?_;rw[p,XK k,aiu];exact I.fin (gV _)
def Ey (a b:List Int) (U:ae a < 3000000000) (V:ae b < 3000000000) (R:DK a) (S:DK b) (f g:Bool) :
  bg prog 188 [.seq 1 f (br a),.seq 1 g (br b)] (iz (nz a b 0)):=by
 refine pc func188 ou ?_;refine uz ?_;refine Y ?_;refine aZ (fun n e H=>∃(i:Nat) (c:Int) (o:List Int) (v:AV),i<=ae a/\n=ae a - i/\ae o=i/\(0<=c/\c<=1)/\nz a b 0=o++nz (a.drop i) (b.drop i) c/\Acc 0 H 1 v (br o) /\
  e=[(0,.seq 1 f (br a)),(1,.seq 1 g (br b)),(5,v),(6,.q0 (-c)),(9,.q0 (ae a:Int)),(10,.q0 (i:Int))]) ⟨0,0,[],.nil,aD,rfl,rfl,aR,rfl,.nil,rfl⟩ ?_;rintro n _ H ⟨i,c,o,v,hi,hn,ho,hc,z,G,rfl⟩;by_cases l:(i:Int) < ae a
 .have X:=R.getD i;have W:=S.getD i;simp only[B30] at X W;have y:(ah:Int)=0:=rfl;have E:=ws i;have L:au .i64 (-c+af a i 0)=af a i 0 - c:=by rw[wrap_i64 (by omega) (by omega)];omega
  have x2:au .i64 (af a i 0 - c - af b i 0)=af a i 0 - af b i 0 - c:=by rw[wrap_i64 (by omega) (by omega)];omega
  have zc:¬(i:Int) < ae b->af b i 0=0:=fun h=>by simp[af,show ae b<=i by omega]
  have J:∀{Q:cx} {F:Env} {N:Nat} (u:Int),u=af a i 0 - af b i 0 - c->(∀k H',Acc 0 H' 1 k (br (o++[(af a i 0 - af b i 0 - c) % B30]))->Q .normal [(0,.seq 1 f (br a)),(1,.seq 1 g (br b)),(5,k),(6,.q0 ((af a i 0 - af b i 0 - c) / B30)),(9,.q0 (ae a:Int)),(10,.q0 (i:Int))] H') ->
    WP prog N jo Q ((0,.seq 1 f (br a))::(1,.seq 1 g (br b))::(5,v)::(6,.q0 u)::(9,.q0 (ae a:Int))::(10,.q0 (i:Int))::F) H:=fun {Q F N} u hu I=>by
   rw[<-hu] at I;have T:-1073741824<=u/\u < 1073741824:=aD;refine uz ?_;have ⟨k,H',M,O,a3,a4,a5,a6⟩:=G.app (aiL _) bW (cN (u % 1073741824));have j:∀K,bX 1 v [[.q0 (u % 1073741824)]] H K=K k H':=M;have s:=I k H' (by rw[br,aii];exact O);by_cases q:u < 0
   .have C:au .i64 (u+1073741824)=u % 1073741824:=by rw[wrap_i64 (by omega) (by omega)];omega
    have D:u / B30 = -1:=by simp only[B30];omega
    rw[D] at s;refine Y3 q C j ?_;exact s
   .have C:u=u % 1073741824:=aD;have D:u / B30=0:=by simp only[B30];omega
    rw[D] at s;rw[<-C] at j;refine Y2 q j ?_;exact s
  have round:∀k H',Acc 0 H' 1 k (br (o++[(af a i 0 - af b i 0 - c) % B30]))->∃m,m < n/\∃(p:Nat) (r:Int) (B:List Int) (w:AV),p<=ae a/\m=ae a - p/\ae B=p/\(0<=r/\r<=1)/\nz a b 0=B++nz (a.drop p) (b.drop p) r/\Acc 0 H' 1 w (br B) /\
    ([(0,.seq 1 f (br a)),(1,.seq 1 g (br b)),(5,k),(6,.q0 ((af a i 0 - af b i 0 - c) / B30)),(9,.q0 (ae a:Int)),(10,.q0 ((i+1:Nat):Int))]:Env)=[(0,.seq 1 f (br a)),(1,.seq 1 g (br b)),(5,w),(6,.q0 (-r)),(9,.q0 (ae a:Int)),(10,.q0 (p:Int))]:=fun k H' x =>
   ⟨ae a - (i+1),aD,i+1,-((af a i 0 - af b i 0 - c) / B30),_,k,aD,rfl,by simp[ho],by simp only[B30];omega,by rw[z,NW (by omega)];simp,x,by rw[Int.neg_neg]⟩;by_cases t:(i:Int) < (ae b:Int)
  .refine Y5 l t y L x2 ?_;refine ⟨aD,aD,J _ rfl fun k H' x=>?_⟩;refine Y1 E ?_;exact round k H' x
  .refine Y4 l t y L ?_;refine ⟨aD,J _ (cn (zc t)) fun k H' x=>?_⟩;refine Y1 E ?_;exact round k H' x
 .have A:i=ae a:=aD;refine Y1 l ?_;rw[z,A,aiZ,nz,aiu];exact G.fin (gV _)
end
end Go.Fx
