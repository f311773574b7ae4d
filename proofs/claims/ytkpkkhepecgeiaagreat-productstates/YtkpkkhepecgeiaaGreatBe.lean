/- A state of the product is allowed or initial exactly when its two parts are; ProductStates returns true whatever its arguments are: part 5 of 10. No condition. -/
import Derived.Test.YtkpkkhepecgeiaaGreatBd
import Derived.ChangeArms
set_option linter.all false
set_option maxRecDepth 8000
set_option maxHeartbeats 9000000
set_option autoImplicit true
set_option relaxedAutoImplicit true
namespace Go.Fx
open Go.Proofs.Tryz
open List renaming length->ae,getD->af,replicate->aA,eraseIdx->aB,range->aC
open Inhabited renaming default->ah
open Option renaming some->ak,none->an
open Bool renaming true->aq,false->ar
open Go.IntKind renaming wrap->au
open Int renaming natAbs->ay,toNat->az
def Ms (n m:Int) (g:Dg 4000000000 n) (hm:Dg 4000000000 m):a9 prog 91 [zA n,zA m] (zA (Int.gcd n m)):=by
 refine pc func91 FM ?_;refine uz ?_;refine Z ?_;refine aG (Mq n) (by simp[bf]) (bf _) ?_;refine Z ?_;refine aG (Mq m) (by simp[bf]) (bf _) ?_;simp only[go_sem,↓reduceIte,WY];refine yf 3 (fun k e H=>∃a b:Nat,k=b/\Nat.gcd a b=Int.gcd n m/\Dg 4000000000 a/\Dg 4000000000 b/\H=[ak ⟨2,0,[[.q0 (zv a),zd a]]⟩,ak ⟨2,0,[[.q0 (zv b),zd b]]⟩,ak ⟨2,0,[[.q0 0,.nil]]⟩] /\
  e=[(2,.ptr 0 0 0 0),(3,.ptr 1 0 0 0),(4,.ptr 2 0 0 0)]) (by rintro n e H ⟨a,b,_,_,_,_,rfl,_⟩;rfl) ⟨ay n,ay m,rfl,rfl,g,hm,rfl,rfl⟩ ?_;rintro k _ _ ⟨a,b,rfl,c,z,w,rfl,rfl⟩;refine Z ?_;refine aG (Bc k) (by simp[bf]) rfl ?_;by_cases y:k=0
 .subst y;have f:((0:Nat):Int).sign=0:=rfl;refine Z ?_;refine Eg ?_;rw[<-c];simp
 .have f:((k:Int).sign=0)=False:=Xh (fun h=>y (dp (XM.1 h)));refine Z ?_;refine aG (HR a k aD z w) (by simp[bf]) (by simp[bP,D7]) ?_;simp only[go_sem,↓reduceIte,WY];have x:(a:Int).tmod k=((a % k:Nat):Int):=by rw[ZX aD];rfl
  refine ⟨a % k,aaz _ aD,aS,k,a % k,rfl,?_,w,?_,by rw[x]⟩
  .rw[<-c,abU a k,Nat.gcd_rec k a,abU]
  .rw[<-x];exact z.tmod
structure Q where
 top:Int
 low:Int
abbrev qC (a:Q):List AV:=[.q0 (zv a.top),zd a.top,.q0 (zv a.low),zd a.low]
abbrev qA (a:Q):AV := .agg (qC a)
def Q.lo (a:Q):Int:=if a.low=0 then 1 else a.low
def aZ (a:Q):bP (qA a)=aq:=by
 show (fP (.q0 (zv a.top))&&(fP (zd a.top)&&(fP (.q0 (zv a.low))&&(fP (zd a.low)&&aq))))=aq;have h:∀n,fP (zd n)=aq:=fun n=>by unfold zd;split<;>rfl
 rw[h,h];rfl
def Nh (k:Nat) (a:Q):jR k (qA a)=aq:=by show (ck k (.q0 (zv a.top))&&(ck k (zd a.top)&&(ck k (.q0 (zv a.low))&&(ck k (zd a.low)&&aq))))=aq;rw[rW,rW];rfl
def kh (h:x=qA a):Fin 0 x H (qA a) []:=by subst h;exact iZ (Nh 0 a)
def pK (a:Q):(qC a).all b8=aq:=by show (b8 (.q0 (zv a.top))&&(b8 (zd a.top)&&(b8 (.q0 (zv a.low))&&(b8 (zd a.low)&&aq))))=aq;rw[BF,BF];rfl
def PR:a9 prog 173 [] (zA 1):=by refine pw func173 ?_;rw[vM Q9];refine Z ?_;exact aV rfl rfl
def sJ (a:Q):a9 prog 142 [qA a] (zA a.lo):=by
 refine pw func142 ?_;refine Z ?_;refine aG (Bc a.low) (by simp[bf]) rfl ?_;by_cases h:a.low=0
 .have e:a.low.sign=0:=by rw[h];rfl
  refine Y1 e ?_;refine aG PR rfl (bf _) ?_;refine Z ?_;exact Eg (by unfold Q.lo;rw[W0 h])
 .have e:=Xh (fun g=>h (XM.1 g));refine Z ?_;exact Eg (by unfold Q.lo;rw[WX h])
def lR (n:Int) (h:-9223372036854775808<=n/\n < 9223372036854775808):a9 prog 89 [.q0 n] (qA ⟨n,0⟩):=by refine pw func89 ?_;refine Z ?_;refine aG (EJ n h) rfl (bf _) ?_;refine Z ?_;exact kh (by rw[qA,qC,jv xT,lA xT])
def qM (a:Q) (k:0<=a.low):a9 prog 139 [qA a] (.v0 (decide (a.low<=1))):=by
 refine pw func139 ?_;by_cases h:Sm a.low
 .refine Z ?_;exact aV (by rw[jv h]) rfl
 .have x:¬a.low<=1:=fun g=>h ⟨aD,aD⟩;refine Z ?_;exact aV rfl rfl
def fJ (a:Q):a9 prog 96 [qA a] (.q0 a.top.sign):=by refine pw func96 ?_;refine Z ?_;refine aG (Bc a.top) (by simp[bf]) rfl ?_;refine Z ?_;exact aV rfl rfl
def Q.neg (a:Q):Q:=⟨-a.top,a.low⟩
def EM (a:Q):a9 prog 164 [qA a] (qA a.neg):=by refine pw func164 ?_;refine Z ?_;refine aG (HQ a.top) (by simp[bf]) (bf _) ?_;refine Z ?_;exact kh rfl
def Q.ratio (a b:Int):Q:=if b.tdiv (Int.gcd a b) < 0 then ⟨-(a.tdiv (Int.gcd a b)),-(b.tdiv (Int.gcd a b))⟩ else ⟨a.tdiv (Int.gcd a b),b.tdiv (Int.gcd a b)⟩
def yH (a b:Int) (q:b≠0) (n:Dg 4000000000 a) (m:Dg 4000000000 b):a9 prog 97 [zA a,zA b] (qA (Q.ratio a b)):=by
 refine pc func97 Db ?_;refine uz ?_;refine Z ?_;refine aG (Ms a b n m) (by simp[bf]) (bf _) ?_;have c:(Int.gcd a b:Int)≠0:=by have:Int.gcd a b≠0:=fun h=>q (Int.gcd_eq_zero_iff.1 h).2;omega
 have f:Dg 4000000000 (Int.gcd a b:Int):=by refine m.le ?_;have:=Nat.le_of_dvd aD (Nat.gcd_dvd_right (ay a) (ay b));exact this
 have rest:∀(x y:Int) (g:List AV),x=a.tdiv (Int.gcd a b)->y=b.tdiv (Int.gcd a b)->WP prog 39 q7 (pQ [.cell 4 aq 4] 0 (qA (Q.ratio a b)) []) [(2,.ptr 0 0 0 0),(3,.ptr 1 0 0 0),(4,.ptr 2 0 0 0)]
   [ak ⟨2,0,[[.q0 (zv x),zd x]]⟩,ak ⟨2,0,[[.q0 (zv y),zd y]]⟩,ak ⟨4,0,[[.q0 0,.nil,.q0 0,.nil]]⟩,ak ⟨2,0,[g]⟩]:=by
  intro x y g o p;refine uz ?_;refine Y ?_;refine aG (Bc y) (by simp[bf]) rfl ?_;by_cases k:y < 0
  .have e:=aaa.2 k;refine Y1 e ?_;refine aG (HQ x) (by simp[bf]) (bf _) ?_;refine Y ?_;refine aG (HQ y) (by simp[bf]) (bf _) ?_;refine Z ?_;exact kh (by unfold Q.ratio;rw[<-o,<-p,W0 k])
  .have e:¬y.sign < 0:=fun h=>k (aaa.1 h);refine Y1 e ?_;exact kh (by unfold Q.ratio;rw[<-o,<-p,WX k])
 generalize s:(Int.gcd a b:Int)=g at *;by_cases w:g=1
 .have z:zv g=1:=by rw[w];rfl
  have l:Sm g:=by rw[w];exact Q9
  refine Z2 z l ?_;exact rest a b _ (by rw[w,Int.tdiv_one]) (by rw[w,Int.tdiv_one])
 .have r:(¬(zv g=1))\/(zv g=1/\¬Sm g):=by
   by_cases i:zv g=1
   .refine .inr ⟨i,fun k=>w ?_⟩;rw[jv k] at i;exact i
   .exact .inl i
  rcases r with z | ⟨j,l⟩
  case' inr=>have z:=XO j
  case' inl=>simp only[go_sem,↓reduceIte,WY,z,X9]
  case' inr=>simp only[go_sem,↓reduceIte,WY,z,l,Yy,X9]
  all_goals (
   refine aG (HR a g c n f) (by simp[bf]) (by simp[bP,D7]) ?_
   refine Y ?_
   refine aG (HR b g c m f) (by simp[bf]) (by simp[bP,D7]) ?_
   refine Y ?_
   exact rest _ _ _ rfl rfl)
structure QOk (k:Nat) (a:Q):Prop where
 low:0<=a.low
 top:Dg k a.top
 den:Dg k a.low
def Ea (k:Nat) (h:0 < k):Dg k 1:=by show 1 < 4294967296 ^ k;exact Nat.one_lt_pow aD aS
def QOk.lo (h:QOk k a) (x:0 < k):Dg k a.lo/\0 < a.lo:=by
 unfold Q.lo;split
 .exact ⟨Ea k x,aS⟩
 .exact ⟨h.den,dp h.low⟩
def Q.add (a b:Q):Q:=if a.low<=1/\b.low<=1 then ⟨a.top+b.top,0⟩ else Q.ratio (a.top*b.lo+b.top*a.lo) (a.lo*b.lo)
def Q.mul (a b:Q):Q:=if a.low<=1/\b.low<=1 then ⟨a.top*b.top,0⟩ else Q.ratio (a.top*b.top) (a.lo*b.lo)
def Q.div (a b:Q):Q:=Q.ratio (a.top*b.lo) (a.lo*b.top)
def Q.sub (a b:Q):Q:=a.add b.neg
def EK (a b:Q) (k:QOk 1000000 a) (h:QOk 1000000 b):a9 prog 113 [qA a,qA b] (qA (a.add b)):=by
 refine pw func113 ?_;have ⟨w,f⟩:=k.lo aS;have ⟨c,g⟩:=h.lo aS;have e:([qA a]:List AV).all bP=aq:=by simp[aZ]
 have x:([qA b]:List AV).all bP=aq:=by simp[aZ]
 refine Z ?_;refine aG (qM a k.low) e rfl ?_;by_cases l:a.low<=1/\b.low<=1
 .have ⟨y,z⟩:=l;refine Z ?_;refine aG (qM b h.low) x rfl ?_;refine Z ?_;refine aG (Mr a.top b.top (k.top.mono aS) (h.top.mono aS)) (by simp[bf]) (bf _) ?_;refine Z ?_;exact kh (by unfold Q.add;rw[W0 ⟨y,z⟩,qA,qC,jv xT,lA xT])
 .have z:(¬a.low<=1)\/(a.low<=1/\¬b.low<=1):=aD;rcases z with y | ⟨y,z⟩
  case' inl=>simp only[go_sem,↓reduceIte,Nat.reduceLeDiff,WY,y]
  case' inr =>
   refine Z ?_;refine aG (qM b h.low) x rfl ?_;refine Z ?_
  all_goals (
   refine aG (sJ b) x (bf _) ?_
   refine Z ?_
   refine aG (sK a.top b.lo (k.top.mono aS) (c.mono aS)) (by simp[bf]) (bf _) ?_
   refine Z ?_
   refine aG (sJ a) e (bf _) ?_
   refine Z ?_
   refine aG (sK b.top a.lo (h.top.mono aS) (w.mono aS)) (by simp[bf]) (bf _) ?_
   refine Z ?_
   have i:=k.top.mul c
   have j:=h.top.mul w
   refine aG (Mr _ _ (i.mono aS) (j.mono aS)) (by simp[bf]) (bf _) ?_
   refine Z ?_
   refine aG (sJ a) e (bf _) ?_
   refine Z ?_
   refine aG (sJ b) x (bf _) ?_
   refine Z ?_
   refine aG (sK a.lo b.lo (w.mono aS) (c.mono aS)) (by simp[bf]) (bf _) ?_
   refine Z ?_
   have m:=w.mul c
   have n:a.lo*b.lo≠0:=dp (abC f g)
   refine aG (yH _ _ n ((i.add j).mono aS) (m.mono aS)) (by simp[bf]) (aZ _) ?_
   refine Z ?_
   exact kh (by unfold Q.add;rw[WX l]))
def EL (a b:Q) (k:QOk 1000000 a) (h:QOk 1000000 b):a9 prog 114 [qA a,qA b] (qA (a.mul b)):=by
 refine pw func114 ?_;have ⟨g,w⟩:=k.lo aS;have ⟨i,c⟩:=h.lo aS;have e:([qA a]:List AV).all bP=aq:=by simp[aZ]
 have z:([qA b]:List AV).all bP=aq:=by simp[aZ]
 refine Z ?_;refine aG (qM a k.low) e rfl ?_;by_cases f:a.low<=1/\b.low<=1
 .have ⟨x,y⟩:=f;refine Z ?_;refine aG (qM b h.low) z rfl ?_;refine Z ?_;refine aG (sK a.top b.top (k.top.mono aS) (h.top.mono aS)) (by simp[bf]) (bf _) ?_;refine Z ?_;exact kh (by unfold Q.mul;rw[W0 ⟨x,y⟩,qA,qC,jv xT,lA xT])
 .have y:(¬a.low<=1)\/(a.low<=1/\¬b.low<=1):=aD;rcases y with x | ⟨x,y⟩
  case' inl=>simp only[go_sem,↓reduceIte,Nat.reduceLeDiff,x]
  case' inr =>
   refine Z ?_;refine aG (qM b h.low) z rfl ?_;refine Z ?_
  all_goals (
   refine aG (sK a.top b.top (k.top.mono aS) (h.top.mono aS)) (by simp[bf]) (bf _) ?_
   refine Z ?_
   refine aG (sJ a) e (bf _) ?_
   refine Z ?_
   refine aG (sJ b) z (bf _) ?_
   refine Z ?_
   refine aG (sK a.lo b.lo (g.mono aS) (i.mono aS)) (by simp[bf]) (bf _) ?_
   refine Z ?_
   have j:=k.top.mul h.top
   have l:=g.mul i
   have m:a.lo*b.lo≠0:=dp (abC w c)
   refine aG (yH _ _ m (j.mono aS) (l.mono aS)) (by simp[bf]) (aZ _) ?_
   refine Z ?_
   exact kh (by unfold Q.mul;rw[WX f]))
def tV (a b:Q) (h:QOk 1000000 a) (k:QOk 1000000 b) (g:b.top≠0):a9 prog 156 [qA a,qA b] (qA (a.div b)):=by
 refine pw func156 ?_;have ⟨x,i⟩:=h.lo aS;have ⟨y,j⟩:=k.lo aS;have z:([qA a]:List AV).all bP=aq:=by simp[aZ]
 have w:([qA b]:List AV).all bP=aq:=by simp[aZ]
 refine Z ?_;refine aG (sJ b) w (bf _) ?_;refine Z ?_;refine aG (sK a.top b.lo (h.top.mono aS) (y.mono aS)) (by simp[bf]) (bf _) ?_;refine Z ?_;refine aG (sJ a) z (bf _) ?_;refine Z ?_;refine aG (sK a.lo b.top (x.mono aS) (k.top.mono aS)) (by simp[bf]) (bf _) ?_;refine Z ?_;have c:=h.top.mul y;have e:=x.mul k.top;have f:a.lo*b.top≠0:=aah aD g;refine aG (yH _ _ f (c.mono aS) (e.mono aS)) (by simp[bf]) (aZ _) ?_;refine Z ?_;exact kh rfl
def QOk.neg (h:QOk k a):QOk k a.neg:=⟨h.low,h.top.neg,h.den⟩
def Jw (a b:Q) (k:QOk 1000000 a) (x:QOk 1000000 b):a9 prog 157 [qA a,qA b] (qA (a.sub b)):=by
 refine pw func157 ?_;have h:([qA b]:List AV).all bP=aq:=by simp[aZ]
 refine Z ?_;refine aG (EM b) h (aZ _) ?_;refine Z ?_;refine aG (EK a b.neg k x.neg) (by simp[aZ]) (aZ _) ?_;refine Z ?_;exact kh rfl
def Jv (a b:Q) (h:QOk 1000000 a) (k:QOk 1000000 b):a9 prog 161 [qA a,qA b] (.c (.int .i64 (a.sub b).top.sign)):=by refine pw func161 ?_;refine Z ?_;refine aG (Jw a b h k) (by simp[aZ]) (aZ _) ?_;refine Z ?_;refine aG (fJ _) (by simp[aZ]) rfl ?_;refine Z ?_;exact aV rfl rfl
def aU {H:aE} {id ver:Nat} {ob:bC} (h:aH H id ver=ak ob):id < ae H:=(W9.1 (ct h).1).1
def fI {H l:aE} {id ver:Nat} (h:id < ae H):aH (H++l) id ver=aH H id ver:=by unfold aH;rw[Xc h]
def bZ {H:aE} {k v:Nat} {xs:List (List AV)} {l:aE}:aH (H++ak ⟨k,v,xs⟩::l) (ae H) v=ak ⟨k,v,xs⟩:=by unfold aH;simp
def aW {H:aE} {id k ver:Nat} {o:Option bC} (h:id≠k):aH (H.set id o) k ver=aH H k ver:=by unfold aH;rw[XS h]
def bz {H:aE} {id v:Nat} {k:Nat} {xs:List (List AV)} (h:id < ae H):aH (H.set id (ak ⟨k,v,xs⟩)) id v=ak ⟨k,v,xs⟩:=by unfold aH;rw[aak h];simp
def aP {H:aE} {id ver:Nat} {ob:bC} (h:aH H id ver=ak ob) (K:bC->Prop):bq H id ver K=K ob:=by unfold bq;rw[h];rfl
def py {xs:List (List AV)} {i:Nat} {x:List AV} (h:xs[i]?=ak x) (K:List AV->Prop):ElP xs i K=K x:=by unfold ElP;rw[h];rfl
def QT {H l:aE} {k v ver:Nat} {xs:List (List AV)} {K:bC->Prop}:bq (H++ak ⟨k,v,xs⟩::l) (ae H) ver K=(v=ver/\K ⟨k,v,xs⟩):=by simp[bq,aH,dM]
def QW {H l:aE} {o:Option bC} {k v ver:Nat} {xs:List (List AV)} {K:bC->Prop}:bq (H++o::ak ⟨k,v,xs⟩::l) (ae H+1) ver K=(v=ver/\K ⟨k,v,xs⟩):=by simp[bq,aH,dM]
def E9:(H++o::l).set (ae H) b=H++b::l:=by rw[ZE _ _ (WY _)];simp
def So:(H++o::h::l).set (ae H+1) b=H++o::b::l:=by rw[ZE _ _ aD];simp
def SN {H l m:aE}:(H++l)++m=H++(l++m):=XC ..
def TE {H l:aE}:ae (H++l)=ae H+ae l:=Xn ..
attribute [go_sem] QT QW E9 So SN TE
inductive SlV (H:aE) (k:Nat):AV->List (List AV)->Prop
 | nil:SlV H k .nil []
 | seq {f:Bool} {xs:List (List AV)}:SlV H k (.seq k f xs) xs
 | sl {id ver:Nat} {xs tl:List (List AV)}:aH H id ver=some ⟨k,ver,xs++tl⟩->SlV H k (.sl k id ver 0 xs.length) xs
def SlL (H:aE) (k id ver:Nat) (xs:List (List AV)):Prop:=∃tl,aH H id ver=ak ⟨k,ver,xs++tl⟩
def SlL.cr {H:aE} {k id ver n:Nat} {xs:List (List AV)} (h:SlL H k id ver xs) (x:n=ae xs):SlV H k (.sl k id ver 0 n) xs:=by have ⟨y,h⟩:=h;subst x;exact .sl h
def SlV.same {H x:aE} {k:Nat} {v:AV} {xs:List (List AV)} (h:SlV H k v xs) (y:∀id,id∈aF v->∀ver,aH x id ver=aH H id ver):SlV x k v xs:=by
 cases h with
 | nil=>exact .nil
 | seq=>exact .seq
 | sl h=>exact .sl (by rw[y _ (by simp[aF])];exact h)
def SlV.jn {H:aE} {k:Nat} {v:AV} {xs:List (List AV)} (h:SlV H k v xs) (K:AV->Prop):fM v K=K (.q0 (ae xs:Int)):=by
 cases h with
 | nil=>rfl
 | seq=>simp[fM,BX,bD]
 | sl h=>rfl
def SlV.pC {H:aE} {k:Nat} {v:AV} {xs:List (List AV)} (h:SlV H k v xs):∀id,id∈aF v->id < ae H:=by
 cases h with
 | nil=>simp[aF]
 | seq=>simp[aF]
 | sl h=>intro id x;simp[aF] at x;subst x;exact aU h
def SlV.cell {H:aE} {k:Nat} {v:AV} {xs:List (List AV)} (h:SlV H k v xs):bh v=aq/\v.cells=[v]/\eC v=aq:=by cases h<;>exact ⟨rfl,rfl,rfl⟩
def SlV.read {H:aE} {k:Nat} {v:AV} {xs:List (List AV)} (h:SlV H k v xs) {i:Nat} {x:List AV} (z:xs[i]?=ak x):∃p,(∀(t:IntKind) (K:AV->Prop),kz k v (.c (.int t (i:Int))) K=K p)/\(∀ag n K,LdP ag n p H K=gn ag x 0 n K):=by
 have y:=(W9.1 z).1;cases h with
 | nil=>simp at y
 | seq =>
  have e:af xs i []=x:=by simp[af,z]
  refine ⟨.fp x 0,fun t K=>?_,fun ag n K=>rfl⟩;simp only[kz,BW,dM,Xd,e];refine propext ⟨fun h=>h.2,fun h=>⟨⟨by first | exact rfl | trivial,aD,aD⟩,h⟩⟩
 | sl h =>
  rename_i w ver a;have e:(xs++a)[i]?=ak x:=Xc y ▸ z;refine ⟨.ptr w ver (0+i) 0,fun t K=>?_,fun ag n K=>?_⟩
  .rw[yv];refine propext ⟨fun h=>h.2,fun h=>⟨⟨rfl,aD,aD⟩,h⟩⟩
  .rw[yw,aP h,Mo,Xb,py e,DD]
def Lr (h:∀id,id∈l->id≠a):fL a l:=by
 induction l with
 | nil=>trivial
 | cons b r x=>exact ⟨Xg (h b aK),x fun id k=>h id (by simp[k])⟩
def SlV.sP {H:aE} {k:Nat} {v:AV} {xs:List (List AV)} (h:SlV H k v xs) {i:Nat} {x:List AV} (z:xs[i]?=ak x):∃p,(∀(t:IntKind) (K:AV->Prop),kz k v (.c (.int t (i:Int))) K=K p)/\(∀ag n K,LdP ag n p H K=gn ag x 0 n K)/\∀a,ae H<=a->fL a (aF p)=True:=by
 have y:=(W9.1 z).1;cases h with
 | nil=>simp at y
 | seq =>
  have e:af xs i []=x:=by simp[af,z]
  refine ⟨.fp x 0,fun t K=>?_,fun ag n K=>rfl,fun _ _=>rfl⟩;simp only[kz,BW,dM,Xd,e];refine propext ⟨fun h=>h.2,fun h=>⟨⟨by first | exact rfl | trivial,aD,aD⟩,h⟩⟩
 | sl h =>
  rename_i b ver f;have e:(xs++f)[i]?=ak x:=Xc y ▸ z;have w:=aU h;refine ⟨.ptr b ver (0+i) 0,fun t K=>?_,fun ag n K=>?_,fun a g=>XO (Lr (by simp[aF];omega))⟩
  .rw[yv];refine propext ⟨fun h=>h.2,fun h=>⟨⟨rfl,aD,aD⟩,h⟩⟩
  .rw[yw,aP h,Mo,Xb,py e,DD]
def SlL.rw {H:aE} {k id ver n:Nat} {xs:List (List AV)} (h:SlL H k id ver xs) {i:Nat} (z:i < ae xs) (s:n=ae xs) (q:∀x,x∈xs->ae x=k) :
  ∃p,(∀(t:IntKind) (K:AV->Prop),kz k (.sl k id ver 0 n) (.c (.int t (i:Int))) K=K p)/\(∀ag m K,LdP ag m p H K=gn ag (af xs i []) 0 m K)/\p = .ptr id ver (0+i) 0 /\
   ∀y:AV,ae y.cells=k->y.cells.all bh=aq->∃a,(∀K,StP k p y H K=K a)/\SlL a k id ver (xs.set i y.cells)/\ae a=ae H/\(∀j,j≠id->∀w,aH a j w=aH H j w):=by
 have ⟨b,h⟩:=h;subst s;have e:(xs++b)[i]?=ak xs[i]:=Xc z ▸ W7 z;have g:af xs i []=xs[i]:=by simp[af,z]
 have r:=q xs[i] (YN z);refine ⟨.ptr id ver (0+i) 0,fun t K=>?_,fun ag m K=>?_,rfl,fun y f l=>⟨H.set id (ak ⟨k,ver,(xs++b).set i y.cells⟩),fun K=>?_,⟨b,?_⟩,Xa ..,fun j o w=>aW (Xg o)⟩⟩
 .rw[yv];refine propext ⟨fun h=>h.2,fun h=>⟨⟨rfl,aD,aD⟩,h⟩⟩
 .rw[yw,aP h,Mo,Xb,py e,DD,g]
 .rw[Cb,aP h,O6,Xb,py e,O7];have v:eN xs[i] 0 y.cells=y.cells:=by simp[eN,f,r]
  rw[v];refine propext ⟨fun h=>h.2,fun h=>⟨⟨f,aD,l⟩,h⟩⟩
 .rw[bz (aU h),List.set_append_left _ _ z]
def SlL.E8 {H:aE} {k id ver n:Nat} {xs:List (List AV)} (h:aH H id ver=ak ⟨k,ver,xs⟩) {i:Nat} (a:i < ae xs) (r:n=ae xs) (o:∀x,x∈xs->ae x=k) :
  ∃p,(∀(t:IntKind) (K:AV->Prop),kz k (.sl k id ver 0 n) (.c (.int t (i:Int))) K=K p)/\(∀ag m K,LdP ag m p H K=gn ag (af xs i []) 0 m K)/\p = .ptr id ver (0+i) 0 /\
   ∀y:AV,ae y.cells=k->y.cells.all bh=aq->∃z,(∀K,StP k p y H K=K z)/\aH z id ver=ak ⟨k,ver,xs.set i y.cells⟩/\ae z=ae H/\(∀j,j≠id->∀w,aH z j w=aH H j w):=by
 subst r;have e:=W7 a;have f:af xs i []=xs[i]:=by simp[af,a]
 have q:=o xs[i] (YN a);refine ⟨.ptr id ver (0+i) 0,fun t K=>?_,fun ag m K=>?_,rfl,fun y b g=>⟨H.set id (ak ⟨k,ver,xs.set i y.cells⟩),fun K=>?_,?_,Xa ..,fun j l w=>aW (Xg l)⟩⟩
 .rw[yv];refine propext ⟨fun h=>h.2,fun h=>⟨⟨rfl,aD,aD⟩,h⟩⟩
 .rw[yw,aP h,Mo,Xb,py e,DD,f]
 .rw[Cb,aP h,O6,Xb,py e,O7];have s:eN xs[i] 0 y.cells=y.cells:=by simp[eN,b,q]
  rw[s];refine propext ⟨fun h=>h.2,fun h=>⟨⟨b,aD,g⟩,h⟩⟩
 .rw[bz (aU h)]
instance:Inhabited Q:=⟨⟨0,0⟩⟩
def vk (c:b≠0) (x:Dg k a) (y:Dg k b):QOk k (Q.ratio a b):=by
 have z:(Int.gcd a b:Int) ∣ b:=Int.gcd_dvd_right ..;have w:b.tdiv (Int.gcd a b)≠0:=by intro h;have:=Int.tdiv_mul_cancel z;rw[h] at this;omega
 unfold Q.ratio;split
 .exact ⟨by show 0 <= -(b.tdiv (Int.gcd a b));omega,x.tdiv.neg,y.tdiv.neg⟩
 .exact ⟨by show 0<=b.tdiv (Int.gcd a b);omega,x.tdiv,y.tdiv⟩
def m8 (k:Nat):Dg k 0:=by show 0 < 4294967296 ^ k;exact abf aS
def DF (k:Nat):QOk k ah:=⟨aS,m8 k,m8 k⟩
def QOk.mono (h:QOk a x) (k:a<=b):QOk b x:=⟨h.low,h.top.mono k,h.den.mono k⟩
def ED (z:0 < j) (w:0 < k) (h:QOk j a) (x:QOk k b):QOk (j+k) (a.mul b):=by
 unfold Q.mul;split
 .exact ⟨Yn 0,h.top.mul x.top,m8 _⟩
 .have ⟨c,e⟩:=h.lo z;have ⟨f,g⟩:=x.lo w;have y:a.lo*b.lo≠0:=dp (abC e g);exact vk y (h.top.mul x.top) (c.mul f)
def mK (a:Q):(qC a).all bh=aq:=by show (bh (.q0 (zv a.top))&&(bh (zd a.top)&&(bh (.q0 (zv a.low))&&(bh (zd a.low)&&aq))))=aq;rw[DH,DH];rfl
def gg {l:List Q}:∀x,x∈l.map qC->ae x=4:=by intro x h;obtain ⟨a,_,rfl⟩:=Xf.1 h;rfl
def fH {l:List Q} {i:Nat} (h:i < ae l):(l.map qC)[i]?=ak (qC (af l i ah)):=by simp[h]
def tY:qC ah=[.q0 0,.nil,.q0 0,.nil]:=by show [AV.q0 (zv 0),zd 0,.q0 (zv 0),zd 0]=_;rw[jv xT,lA xT]
def aT (H H':aE) (ids:List Nat):Prop:=ae H<=ae H'/\∀id,id < ae H->id∉ids->∀w,aH H' id w=aH H id w
def aT.refl (H:aE) (ids:List Nat):aT H H ids:=⟨WY _,fun _ _ _ _=>rfl⟩
def aT.trans (h:aT H G ids) (g:aT G F ids):aT H F ids :=
 ⟨XX h.1 g.1,fun y k x w=>by rw[g.2 y (Yf k h.1) x,h.2 y k x]⟩
def aT.app (H l:aE) (ids:List Nat):aT H (H++l) ids:=⟨aK,fun k h _ w=>fI h⟩
def aT.mono (h:aT H y a) (k:∀x,x∈a->x∈b):aT H y b:=⟨h.1,fun f z c w=>h.2 f z (fun e=>c (k _ e)) w⟩
def SlV.aQ {H y:aE} {k:Nat} {v:AV} {xs:List (List AV)} {ids:List Nat} (h:SlV H k v xs) (a:aT H y ids) (z:∀id,id∈aF v->id∉ids):SlV y k v xs :=
 h.same fun id x w=>a.2 id (h.pC id x) (z id x) w
def SlL.aQ {H x:aE} {k id ver:Nat} {xs:List (List AV)} {ids:List Nat} (h:SlL H k id ver xs) (z:aT H x ids) (y:id∉ids):SlL x k id ver xs:=by have ⟨w,h⟩:=h;exact ⟨w,by rw[z.2 id (aU h) y];exact h⟩
def aT.write (z:ae k=ae H) (x:∀j,j≠a->∀w,aH k j w=aH H j w):aT H k [a]:=⟨aD,fun y _ h w=>x y (by simpa using h) w⟩
def jf (f a x:Q):Q:=if x.top=0 then a else a.add (f.mul x)
def di (l fresh:List Q) (k:Nat):List Q :=
 if (af l (k+1) ah).top=0 then l else
  List.zipWith (jf (af l (k+1) ah)) (l.set (k+1) ah) fresh
def fR (l fresh:List Q) (f:Q) (c:Nat):List Q:=(List.zipWith (jf f) l fresh).take c++l.drop c
def yB (h:ae fresh=ae l):ae (fR l fresh f c)=ae l:=by simp[fR,h];omega
def Lo (l fresh:List Q) (f:Q):fR l fresh f 0=l:=by simp[fR]
def Nq (h:ae fresh=ae l):fR l fresh f (ae l)=List.zipWith (jf f) l fresh:=by unfold fR;rw[YX,Xz,Xq (by simp[h])]
def Gt (h:ae fresh=ae l) (k:c < ae l):af (fR l fresh f c) c ah=af l c ah:=by unfold fR;simp only[af];rw[Xk cE,YU];congr 2;simp[h];omega
def Lm (h:ae fresh=ae l) (k:c < ae l):fR l fresh f (c+1)=(fR l fresh f c).set c (jf f (af l c ah) (af fresh c ah)):=by
 unfold fR;have y:c < ae (List.zipWith (jf f) l fresh):=by simp[h,k]
 rw[XW y,ZE _ _ cE];have x:c - ae ((List.zipWith (jf f) l fresh).take c)=0:=by simp[h];omega
 rw[x,XA k,ZP,XC];congr 1;simp[af,k,h]
def Bp {H:aE} {a ver:Nat} {l fresh:List Q} {k:Nat} {vt vf:AV} (L:SlL H 4 a ver (l.map qC)) (hf:SlV H 4 vf (fresh.map qC)) (a1:a∉aF vf) (X:ae fresh=ae l) (J:k+1 < ae l) (b3:ae l < 1000000)
  (Q1:∀x,x∈l->QOk 100000 x) (a4:∀x,x∈fresh->QOk 400000 x) :
  cF prog 179 [vt,.sl 4 a ver 0 (ae l),vf,.q0 (k:Int)] H fun r H'=>r = .bI []/\SlL H' 4 a ver ((di l fresh k).map qC)/\aT H H' [a]:=by
 refine qw func179 ?_;have e1:=ws k;have ⟨p,a9,b0⟩:=(L.cr (n:=ae l) aK).read (fH J);refine Z ?_;refine aG (fJ (af l (k+1) ah)) (by simp[aZ]) rfl ?_;generalize j:af l (k+1) ah=f at *;by_cases I:f.top=0
 .have hs:(f.top.sign=0)=True:=XO (by rw[I];rfl);refine Y1 hs ?_;have hr:di l fresh k=l:=by unfold di;rw[j,W0 I]
  rw[hr];exact ⟨L.aQ (aT.app H _ []) aK,aT.app H _ _⟩
 .have hs:=Xh (fun h=>I (XM.1 h));have hn:∀K:AV->Prop,fM vf K=K (.q0 (ae l:Int)):=fun K=>by rw[hf.jn,W4,X]
  have a7:a < ae H:=by obtain ⟨tl,h⟩:=L;exact aU h
  have ⟨p2,w1,_,_,wr⟩:=(L.aQ (aT.app H [ak ⟨4,0,[qC f]⟩] []) aK).rw (i:=k+1) (n:=ae l) (bk J) aK gg;have ⟨F,w2,w3,w4,w5⟩:=wr (.agg [.q0 0,.nil,.q0 0,.nil]) rfl rfl;have B:=(aT.app H _ _).trans (aT.write w4 w5);have M:aH F (ae H) 0=ak ⟨4,0,[qC f]⟩:=by rw[w5 _ aD];exact bZ
  have s:ae H < ae F:=by rw[w4];simp
  have a6:SlL F 4 a ver ((l.set (k+1) ah).map qC):=by
   have e:(AV.agg [.q0 0,.nil,.q0 0,.nil]).cells=qC ah:=by rw[tY];rfl
   rw[e] at w3;rw[Yp];exact w3
  have U:ae (l.set (k+1) ah)=ae l:=Xa ..;have m:di l fresh k=List.zipWith (jf f) (l.set (k+1) ah) fresh:=by unfold di;rw[j,WX I]
  have D:∀x,x∈l.set (k+1) ah->QOk 100000 x:=fun x q=>by
   rcases Yq q with h | rfl
   .exact Q1 x h
   .exact DF _
  have g:QOk 100000 f:=by
   rw[<-j];have:af l (k+1) ah=l[k+1]:=by simp[af,J]
   rw[this];exact Q1 _ (YN J)
  generalize l.set (k+1) ah=z at *;refine Y5 hs e1 w1 w2 hn ?_;refine bE (fun n e b=>∃c,c<=ae l/\n=ae l - c/\aT F b [a]/\SlL b 4 a ver ((fR z fresh f c).map qC) /\
   e=[(1,.sl 4 a ver 0 (ae l)),(8,.ptr (ae H) 0 0 0),(24,vf),(25,.q0 (ae l:Int)),(26,.q0 (c:Int))]) (n:=ae l)
   ⟨0,XE _,rfl,aT.refl _ _,by rw[Lo];exact a6,rfl⟩ ?_;rintro n _ b ⟨c,hc,rfl,C,sc,rfl⟩;by_cases V:(c:Int) < (ae l:Int)
  .have v:c < ae l:=aD;have w:c < ae z:=aD;have y:ae fresh=ae z:=aD;have fc:=hf.aQ (B.trans C) (fun id S hm=>by simp at hm;subst hm;exact a1 S);obtain ⟨p3,b1,b2⟩:=fc.read (fH (show c < ae fresh by omega));have a2:af fresh c ah∈fresh:=by
    have:af fresh c ah=fresh[c]:=by simp[af,show c < ae fresh by omega]
    rw[this];exact YN _
   have P:af z c ah∈z:=by
    have:af z c ah=z[c]:=by simp[af,w]
    rw[this];exact YN _
   have E:=a4 _ a2;have a3:=D _ P;have W:=Lm (f:=f) y w;generalize af fresh c ah=x at *;have e2:=ws c;refine Z ?_;refine aG (fJ x) (by simp[aZ]) rfl ?_;have t:aH b (ae H) 0=ak ⟨4,0,[qC f]⟩:=by rw[C.2 _ s cE];exact M
   have O:=aU t;have sg:=sc.aQ (aT.app b [ak ⟨4,0,[qC x]⟩] []) aK;by_cases q:x.top=0
   .have o:(x.top.sign=0)=True:=XO (by rw[q];rfl);refine Y2 o e2 ?_;refine ⟨ae l - (c+1),aD,c+1,v,rfl,C.trans (aT.app b _ _),?_,rfl⟩;rw[W];have:jf f (af z c ah) x=af (fR z fresh f c) c ah:=by rw[Gt y w];unfold jf;rw[W0 q]
    rw[this];have A:(fR z fresh f c).set c (af (fR z fresh f c) c ah)=fR z fresh f c:=by
     have T:c < ae (fR z fresh f c):=by rw[yB y];exact w
     have:af (fR z fresh f c) c ah=(fR z fresh f c)[c]:=by simp[af,T]
     rw[this,List.set_getElem_self]
    rw[A];exact sg
   .have o:=Xh (fun h=>q (XM.1 h));have ⟨p4,v1,v2,v3,vw⟩:=sg.rw (i:=c) (n:=ae l) (by rw[W4,yB y];exact w) (by rw[W4,yB y];omega) gg;have a0:af ((fR z fresh f c).map qC) c []=qC (af z c ah):=by rw[<-Gt (f:=f) y w];simp[af,show c < ae (fR z fresh f c) by rw[yB y];exact w]
    rw[a0] at v2;generalize a8:af z c ah=G at *;have a5:QOk (100000+400000) (f.mul x):=ED aS aS g E;have ⟨H3,u1,u2,u3,u4⟩:=vw (qA (G.add (f.mul x))) rfl (mK _);have N:∀K,bq (b++[ak ⟨4,0,[qC x]⟩]) (ae H) 0 K=K ⟨4,0,[qC f]⟩:=aP (by rw[fI O];exact t);refine Y4 o v1 v2 N ?_;refine aG (EL f x (g.mono aS) (E.mono aS)) (by simp[aZ]) (aZ _) ?_;refine Y ?_;refine aG (EK G (f.mul x) (a3.mono aS) (a5.mono aS)) (by simp[aZ]) (aZ _) ?_;refine Y3 e2 v1 u1 ?_;refine ⟨ae l - (c+1),aD,c+1,v,rfl,(C.trans (aT.app b _ _)).trans (aT.write u3 u4),?_,rfl⟩;rw[W,Yp];have:jf f G x=G.add (f.mul x):=by unfold jf;rw[WX q]
    rw[this];exact u2
  .have R:c=ae l:=aD;subst R;refine Y1 V ?_;rw[m,<-Nq aD,U];exact ⟨sc,B.trans C⟩
structure bV where
 dh:List Q
 add:Q
 eq:Bool
 fl:Bool
def bT (r:bV):List AV := .seq 4 r.fl (r.dh.map qC)::(qC r.add++[.c (.bool r.eq)])
structure Tab where
 n:Nat
 aI:List bV
 aJ:List Int
 out:List Int
 cells:List (List Q)
 aN:List Q
def ec (n:Int):List AV:=[.c (.int .i64 n)]
structure ba where
 rv:AV
 vb:AV
 vo:AV
 vc:AV
 vg:AV
 aX:List AV
inductive Slot where
 | b | o | c | g
 | r (i:Nat)
deriving DecidableEq
def ba.v (D:ba):Slot->AV
 | .b=>D.vb
 | .o=>D.vo
 | .c=>D.vc
 | .g=>D.vg
 | .r i=>af D.aX i .aY
def SlN (H:aE) (k:Nat) (v:AV) (xs:List (List AV)):Prop:=(v = .nil/\xs=[])\/∃id ver,v = .sl k id ver 0 (ae xs)/\SlL H k id ver xs
def SlN.cr {H:aE} {k:Nat} {v:AV} {xs:List (List AV)} (h:SlN H k v xs):SlV H k v xs:=by
 rcases h with ⟨rfl,rfl⟩ | ⟨id,ver,rfl,h⟩
 .exact .nil
 .exact h.cr rfl
def SlN.aQ {H x:aE} {k:Nat} {v:AV} {xs:List (List AV)} {ids:List Nat} (h:SlN H k v xs) (z:aT H x ids) (y:∀id,id∈aF v->id∉ids):SlN x k v xs:=by
 rcases h with ⟨rfl,rfl⟩ | ⟨id,ver,rfl,h⟩
 .exact .inl ⟨rfl,rfl⟩
 .exact .inr ⟨id,ver,rfl,h.aQ z (y id (by simp[aF]))⟩
def SlN.live {H:aE} {k:Nat} {v:AV} {xs:List (List AV)} (h:SlN H k v xs) (x:xs≠[]):∃id ver,v = .sl k id ver 0 (ae xs)/\SlL H k id ver xs:=by
 rcases h with ⟨rfl,h⟩ | h
 .exact absurd h x
 .exact h
def uV:AV->Prop
 | .sl _ _ _ _ _=>True
 | _=>False
def HG:AV->Prop
 | .nil=>True
 | .sl _ _ _ _ _=>True
 | .seq _ f _=>f=aq
 | _=>False
def ru (v:AV) (l:List Q):Prop:=HG v/\(2<=ae l->uV v)
def oJ {k id ver i n:Nat} {l:List Q}:ru (.sl k id ver i n) l:=⟨trivial,fun _=>trivial⟩
def r9 (H:aE) (v:AV) (l:List Q):Prop:=(l≠[]->SlV H 4 v (l.map qC))/\∀id,id∈aF v->id < ae H
def r9.of (h:SlV H 4 v (l.map qC)):r9 H v l:=⟨fun _=>h,h.pC⟩
def r9.cr (h:r9 H v l) (k:0 < ae l):SlV H 4 v (l.map qC):=h.1 (Zc.1 k)
def r9.aQ (h:r9 H v l) (x:aT H y ids) (w:∀id,id∈aF v->id∉ids):r9 y v l :=
 ⟨fun z=>(h.1 z).aQ x w,fun id k=>Yf (h.2 id k) x.1⟩
structure bG (H:aE) (t:Nat) (D:ba) (T:Tab):Prop where
 bX:aH H t 0=some ⟨6,0,[[.c (.int .i64 (T.n:Int)),D.rv,D.vb,D.vo,D.vc,D.vg]]⟩
 aI:SlV H 6 D.rv (T.aI.map bT)
 iv:aF D.rv=[]
 aJ:SlN H 1 D.vb (T.aJ.map ec)
 out:SlN H 1 D.vo (T.out.map ec)
 cells:SlN H 1 D.vc (D.aX.map fun v=>[v])
 cl:D.aX.length=T.cells.length
 rws:∀i,i < T.cells.length->SlV H 4 (D.aX.getD i .aY) ((T.cells.getD i []).map qC)
 aN:r9 H D.vg T.aN
 live:(∀i,i < T.cells.length->ru (D.aX.getD i .aY) (T.cells.getD i []))/\ru D.vg T.aN
 top:∀s,t∉aF (D.v s)
 sep:∀s s',s≠s'->∀id,id∈aF (D.v s)->id∉aF (D.v s')
def dV (t:Nat) (D:ba) (id:Nat):Prop:=id=t\/∃s,id∈aF (D.v s)
def bG.lt {H:aE} {t:Nat} {D:ba} {T:Tab} (h:bG H t D T) {id:Nat} (k:dV t D id):id < ae H:=by
 rcases k with rfl | ⟨s,k⟩
 .exact aU h.bX
 .cases s with
  | b=>exact h.aJ.cr.pC id k
  | o=>exact h.out.cr.pC id k
  | c=>exact h.cells.cr.pC id k
  | g=>exact h.aN.2 id k
  | r i =>
   rcases Xe i (ae T.cells) with x | x
   .exact (h.rws i x).pC id k
   .have:D.v (.r i) = .aY:=by simp[ba.v,af,show ae D.aX<=i by rw[h.cl];exact x]
    rw[this] at k;simp[aF] at k
def bG.aQ (h:bG H t D T) (x:aT H z ids) (y:∀id,dV t D id->id∉ids):bG z t D T where
 bX:=by rw[x.2 t (aU h.bX) (y t (.inl rfl))];exact h.bX
 aI:=h.aI.aQ x (fun id k=>by rw[h.iv] at k;simp at k)
 iv:=h.iv
 aJ:=h.aJ.aQ x (fun id k=>y id (.inr ⟨.b,k⟩))
 out:=h.out.aQ x (fun id k=>y id (.inr ⟨.o,k⟩))
 cells:=h.cells.aQ x (fun id k=>y id (.inr ⟨.c,k⟩))
 cl:=h.cl
 rws:=fun i w=>(h.rws i w).aQ x (fun id k=>y id (.inr ⟨.r i,k⟩))
 aN:=h.aN.aQ x (fun id k=>y id (.inr ⟨.g,k⟩))
 live:=h.live
 top:=h.top
 sep:=h.sep
def bG.setRow {H f:aE} {t:Nat} {D:ba} {T:Tab} (h:bG H t D T) {r a ver n:Nat} {l:List Q} (X:r < ae T.cells) (hv:af D.aX r .aY = .sl 4 a ver 0 n) (q:n=ae l) (K:SlL f 4 a ver (l.map qC)) (y:aT H f [a]) :
  bG f t D {T with cells:=T.cells.set r l}:=by
 have m:a∈aF (D.v (.r r)):=by simp only[ba.v,hv];simp[aF]
 have bU:∀s,s ≠ .r r->∀w,w∈aF (D.v s)->w∉[a]:=fun s j w k p=>by simp at p;subst p;exact h.sep s (.r r) j _ k m
 refine ⟨?_,h.aI.aQ y (fun w k=>by rw[h.iv] at k;simp at k),h.iv,h.aJ.aQ y (bU .b aK),h.out.aQ y (bU .o aK),h.cells.aQ y (bU .c aK),bk h.cl,fun i z=>?_,h.aN.aQ y (bU .g aK),⟨fun i z=>?_,h.live.2⟩,h.top,h.sep⟩
 .have:t≠a:=fun x=>h.top (.r r) (x ▸ m);rw[y.2 t (aU h.bX) (by simpa using this)];exact h.bX
 .simp only[Xa] at z;by_cases x:i=r
  .subst x;have e:af (T.cells.set i l) i []=l:=by simp[af,z]
   rw[e,hv];exact K.cr (bk q)
  .have e:af (T.cells.set r l) i []=af T.cells i []:=by simp[af,XS (Xg x)]
   rw[e];exact (h.rws i z).aQ y (bU (.r i) (bk x))
 .simp only[Xa] at z;by_cases x:i=r
  .subst x;rw[hv];exact oJ
  .have e:af (T.cells.set r l) i []=af T.cells i []:=by simp[af,XS (Xg x)]
   show ru _ (af (T.cells.set r l) i []);rw[e];exact h.live.1 i z
def bG.GK (h:bG H t D T) (hv:D.vg = .sl 4 a ver 0 n) (p:n=ae l) (q:SlL w 4 a ver (l.map qC)) (x:aT H w [a]):bG w t D {T with aN:=l}:=by
 have e:a∈aF (D.v .g):=by simp only[ba.v,hv];simp[aF]
 have bU:∀s,s ≠ .g->∀y,y∈aF (D.v s)->y∉[a]:=fun s z y k f=>by simp at f;subst f;exact h.sep s .g z _ k e
 refine ⟨?_,h.aI.aQ x (fun y k=>by rw[h.iv] at k;simp at k),h.iv,h.aJ.aQ x (bU .b aK),h.out.aQ x (bU .o aK),h.cells.aQ x (bU .c aK),h.cl,fun i m=>(h.rws i m).aQ x (bU (.r i) aK),?_,⟨h.live.1,by rw[hv];exact oJ⟩,h.top,h.sep⟩
 .have:t≠a:=fun j=>h.top .g (j ▸ e);rw[x.2 t (aU h.bX) (by simpa using this)];exact h.bX
 .rw[hv];exact .of (q.cr (bk p))
def bG.LG (h:bG H t D T) (hv:D.vb = .sl 1 a ver 0 n) (p:n=ae l) (q:SlL w 1 a ver (l.map ec)) (x:aT H w [a]):bG w t D {T with aJ:=l}:=by
 have e:a∈aF (D.v .b):=by simp only[ba.v,hv];simp[aF]
 have bU:∀s,s ≠ .b->∀y,y∈aF (D.v s)->y∉[a]:=fun s z y k f=>by simp at f;subst f;exact h.sep s .b z _ k e
 refine ⟨?_,h.aI.aQ x (fun y k=>by rw[h.iv] at k;simp at k),h.iv,.inr ⟨a,ver,by rw[hv,p];simp,q⟩,h.out.aQ x (bU .o aK),h.cells.aQ x (bU .c aK),h.cl,fun i m=>(h.rws i m).aQ x (bU (.r i) aK),h.aN.aQ x (bU .g aK),h.live,h.top,h.sep⟩;have:t≠a:=fun j=>h.top .b (j ▸ e);rw[x.2 t (aU h.bX) (by simpa using this)];exact h.bX
def bG.O3 (h:bG H t D T) (hv:D.vo = .sl 1 a ver 0 n) (p:n=ae l) (q:SlL w 1 a ver (l.map ec)) (x:aT H w [a]) (K:T.out≠[]):bG w t D {T with out:=l}:=by
 have e:a∈aF (D.v .o):=by simp only[ba.v,hv];simp[aF]
 have bU:∀s,s ≠ .o->∀y,y∈aF (D.v s)->y∉[a]:=fun s z y k f=>by simp at f;subst f;exact h.sep s .o z _ k e
 refine ⟨?_,h.aI.aQ x (fun y k=>by rw[h.iv] at k;simp at k),h.iv,h.aJ.aQ x (bU .b aK),.inr ⟨a,ver,by rw[hv,p];simp,q⟩,h.cells.aQ x (bU .c aK),h.cl,fun i m=>(h.rws i m).aQ x (bU (.r i) aK),h.aN.aQ x (bU .g aK),h.live,h.top,h.sep⟩;have:t≠a:=fun j=>h.top .o (j ▸ e);rw[x.2 t (aU h.bX) (by simpa using this)];exact h.bX
def bG.newRow (h:bG H t D T) (J:r < ae T.cells) (G:D.vc = .sl 1 ca cver 0 (ae D.aX)) (y:¬dV t D a) (E:SlL H 4 a ver (l.map qC))
  (I:SlL B 1 ca cver ((D.aX.map fun v=>[v]).set r [.sl 4 a ver 0 (ae l)])) (w:aT H B [ca]):bG B t {D with aX:=D.aX.set r (.sl 4 a ver 0 (ae l))} {T with cells:=T.cells.set r l}:=by
 have C:ca∈aF (D.v .c):=by simp only[ba.v,G];simp[aF]
 have bU:∀s,s ≠ .c->∀p,p∈aF (D.v s)->p∉[ca]:=fun s e p k m=>by simp at m;subst m;exact h.sep s .c e _ k C
 have f:r < ae D.aX:=h.cl ▸ J;have A:∀s,s ≠ .r r->({D with aX:=D.aX.set r (.sl 4 a ver 0 (ae l))}:ba).v s=D.v s:=by
  intro s E;cases s with
  | r i =>
   have:i≠r:=bk E;simp[ba.v,af,XS (Xg this)]
  | _=>rfl
 have F:({D with aX:=D.aX.set r (.sl 4 a ver 0 (ae l))}:ba).v (.r r) = .sl 4 a ver 0 (ae l):=by simp[ba.v,af,f]
 have e:a≠ca:=fun x=>y (.inr ⟨.c,x ▸ C⟩);refine ⟨?_,h.aI.aQ w (fun p k=>by rw[h.iv] at k;simp at k),h.iv,h.aJ.aQ w (bU .b aK),h.out.aQ w (bU .o aK),.inr ⟨ca,cver,?_,?_⟩,bk h.cl,fun i j=>?_,h.aN.aQ w (bU .g aK),⟨fun i j=>?_,h.live.2⟩,fun s=>?_,fun s W X p k=>?_⟩
 .have:t≠ca:=fun x=>h.top .c (x ▸ C);show aH B t 0=ak ⟨6,0,[[.q0 (T.n:Int),D.rv,D.vb,D.vo,D.vc,D.vg]]⟩;rw[w.2 t (aU h.bX) (by simpa using this)];exact h.bX
 .show D.vc=_;rw[G];simp
 .rw[<-Yp] at I;exact I
 .simp only[Xa] at j;by_cases x:i=r
  .subst x;have q:af (T.cells.set i l) i []=l:=by simp[af,j]
   have z:af (D.aX.set i (.sl 4 a ver 0 (ae l))) i .aY = .sl 4 a ver 0 (ae l):=by simp[af,f]
   rw[q,z];exact (E.aQ w (bk e)).cr aK
  .have q:af (T.cells.set r l) i []=af T.cells i []:=by simp[af,XS (Xg x)]
   have z:af (D.aX.set r (.sl 4 a ver 0 (ae l))) i .aY=af D.aX i .aY:=by simp[af,XS (Xg x)]
   rw[q,z];exact (h.rws i j).aQ w (bU (.r i) aK)
 .simp only[Xa] at j;by_cases x:i=r
  .subst x;have z:af (D.aX.set i (.sl 4 a ver 0 (ae l))) i .aY = .sl 4 a ver 0 (ae l):=by simp[af,f]
   show ru (af (D.aX.set i (.sl 4 a ver 0 (ae l))) i .aY) _;rw[z];exact oJ
  .have z:af (D.aX.set r (.sl 4 a ver 0 (ae l))) i .aY=af D.aX i .aY:=by simp[af,XS (Xg x)]
   have q:af (T.cells.set r l) i []=af T.cells i []:=by simp[af,XS (Xg x)]
   show ru (af (D.aX.set r (.sl 4 a ver 0 (ae l))) i .aY) (af (T.cells.set r l) i []);rw[z,q];exact h.live.1 i j
 .by_cases x:s = .r r
  .subst x;rw[F];simp only[aF,ZR];exact fun x=>y (.inl x.symm)
  .rw[A s x];exact h.top s
 .by_cases x:s = .r r
  .subst x;rw[F] at k;simp[aF] at k;subst k;rw[A W (Xg X)];exact fun m=>y (.inr ⟨W,m⟩)
  .rw[A s x] at k;by_cases K:W = .r r
   .subst K;rw[F];simp only[aF,ZR];exact fun m=>y (.inr ⟨s,m ▸ k⟩)
   .rw[A W K];exact h.sep s W X p k
section
variable {P:Program}
@[reducible] def jN (l:List Int):List (List AV):=l.map ec
@[reducible] def iz (l:List Int):AV := .seq 1 ar (jN l)
def TB {d:Int}:ec d=[.q0 d]:=(rfl)
def TI:aA n [.q0 y]=(aA n y).map ec:=by simp[ec]
attribute [go_sem] TB TI
def Gk (l:List Int):(jN l).all (fun x=>x.all b8)=aq:=by simp[jN,ec,b8]
def RS (n:Int):Prop := -2305843009213693952 < n/\n < 2305843009213693952
instance (n:Int):Decidable (RS n):=inferInstanceAs (Decidable (_/\_))
def rv (n:Int):Int:=if RS n then n else 0
def rd (n:Int):AV:=if RS n then .nil else iz (Ou (ay n))
def rl (n:Int):Nat:=if RS n then 0 else ae (Ou (ay n))
inductive Acc (n0:Nat) (H:aE) (k:Nat):AV->List (List AV)->Prop
 | nil:Acc n0 H k .nil []
 | sq {xs:List (List AV)}:Acc n0 H k (.seq k true xs) xs
 | sl {id ver:Nat} {xs:List (List AV)}:n0<=id->aH H id ver=some ⟨k,ver,xs⟩->Acc n0 H k (.sl k id ver 0 xs.length) xs
def Acc.aQ {n0 k:Nat} {H x:aE} {v:AV} {xs:List (List AV)} {ids:List Nat} (h:Acc n0 H k v xs) (a:aT H x ids) (w:∀id,id∈aF v->id∉ids):Acc n0 x k v xs:=by
 cases h with
 | nil=>exact .nil
 | sq=>exact .sq
 | sl z y=>exact .sl z (by rw[a.2 _ (aU y) (w _ (by simp[aF]))];exact y)
def Acc.ge {n0 k:Nat} {H:aE} {v:AV} {xs:List (List AV)} (h:Acc n0 H k v xs):∀id,id∈aF v->n0<=id/\id < ae H:=by
 cases h with
 | nil=>simp[aF]
 | sq=>simp[aF]
 | sl y z=>intro id x;simp[aF] at x;subst x;exact ⟨y,aU z⟩
def Acc.app {n0 k:Nat} {H:aE} {v:AV} {xs:List (List AV)} (h:Acc n0 H k v xs) (e:n0<=ae H) (i:ae xs < 4000000000) (y:List AV) :
  ∃x z,(∀K,c6 k v [y] H K=K x z)/\Acc n0 z k x (xs++[y])/\aT H z (aF v)/\(∀id,id∈aF v->id∈aF x)/\(∀id,id∈aF x->id∈aF v\/id=ae H)/\bh x=aq/\x.cells=[x]/\eC x=aq:=by
 cases h with
 | nil =>
  refine ⟨.sl k (ae H) 0 0 1,H++[ak ⟨k,0,[y]⟩],fun K=>?_,Acc.sl (xs:=[y]) e bZ,aT.app _ _ _,by simp[aF],by simp[aF],rfl,rfl,rfl⟩;rw[DM];simp
 | sq =>
  have g:hU k H (.seq k aq xs) [y]=ak (.sl k (ae H) 0 0 (ae xs+1),H++[ak ⟨k,0,xs++[y]⟩]):=by show (if k=k/\ae xs+1<=4294967296 then _ else an)=_;rw[W0 ⟨rfl,aD⟩];rfl
  refine ⟨.sl k (ae H) 0 0 (ae xs+1),H++[ak ⟨k,0,xs++[y]⟩],fun K=>?_,?_,aT.app _ _ _,by simp[aF],by simp[aF],rfl,rfl,rfl⟩
  .simp only[c6,g];rfl
  .have:=Acc.sl (n0:=n0) (H:=H++[ak ⟨k,0,xs++[y]⟩]) (k:=k) (id:=ae H) (ver:=0) (xs:=xs++[y]) e bZ;simpa using this
 | sl f b =>
  rename_i id ver;have a:=aU b;refine ⟨.sl k id (ver+1) 0 (ae xs+1),H.set id (ak ⟨k,ver+1,xs++[y]⟩),fun K=>?_,?_,⟨aK,fun j _ c w=>by simp[aF] at c;exact aW (Xg c)⟩,by simp[aF],by simp[aF],rfl,rfl,rfl⟩
  .rw[qX b aK];refine propext ⟨fun h=>?_,fun h=>⟨rfl,cE,?_⟩⟩
   .simpa using h.2.2
   .simpa using h
  .have:=Acc.sl (n0:=n0) (H:=H.set id (ak ⟨k,ver+1,xs++[y]⟩)) (k:=k) (id:=id) (ver:=ver+1) (xs:=xs++[y]) f (bz a);simpa using this
def Acc.fin {n0:Nat} {H:aE} {k:Nat} {v:AV} {xs:List (List AV)} (h:Acc n0 H k v xs) (w:xs.all (fun x=>x.all b8)=aq):Fin 0 v H (.seq k ar xs) []:=by
 cases h with
 | nil=>exact oD (.cell (.HL k)) rfl
 | sq=>exact oD (.cell (.full k xs)) rfl
 | sl a z =>
  refine qJ z w ?_;rename_i y ver;have:dT y ver k xs (AV.sl k y ver 0 (ae xs)) = .seq k ar xs:=rn rfl;show Fin 0 (dT y ver k xs (AV.sl k y ver 0 (ae xs))) _ _ _;rw[this];exact iZ rfl
def Nd {id ver k:Nat} {xs:List (List AV)} {a:AV} (h:b8 a=aq):fX id ver k xs a=a:=by cases a<;>first | rfl | simp[b8] at h
def FC:∀l:List AV,WkL l l
 | [] => .nil
 | a::l => .cons (.refl a) (FC l)
def M1 (h:b8 a=aq) (n:Nat):ck n a=aq:=by cases a<;>first | rfl | (simp[b8] at h;try simp[ck,h])
def Acc.cell {n0 k:Nat} {H:aE} {v:AV} {xs:List (List AV)} (h:Acc n0 H k v xs):bh v=aq/\v.cells=[v]/\eC v=aq:=by cases h<;>exact ⟨rfl,rfl,rfl⟩
end
def wW {j k:Nat} {a b:Q} (w:0 < j) (c:0 < k) (h:QOk j a) (x:QOk k b) (y:b.top≠0):QOk (j+k) (a.div b):=by have ⟨e,g⟩:=h.lo w;have ⟨f,i⟩:=x.lo c;have z:a.lo*b.top≠0:=aah aD y;exact vk z (h.top.mul f) (e.mul x.top)
def Q.one:Q:=⟨1,0⟩
def tS:QOk 1 Q.one:=⟨Yn 0,Ea 1 aS,m8 1⟩
def nQ (row:List Q) (k c:Nat):Q:=if c=k+1 then ah else if (af row c ah).top=0 then ah else ((af row c ah).div (af row (k+1) ah)).neg
def cR (row:List Q) (k:Nat):List Q:=((aC (ae row)).map (nQ row k)).set (k+1) (Q.one.div (af row (k+1) ah))
def nK (w c:Nat) (g:Nat->Q):List Q:=(aC w).map fun j=>if j < c then g j else ah
def En:ae (nK w c g)=w:=by simp[nK]
def I6 (w:Nat) (g:Nat->Q):nK w 0 g=aA w ah:=by unfold nK;apply ZL aK;intro i h k;simp
def K5 (w:Nat) (g:Nat->Q):nK w w g=(aC w).map g:=by unfold nK;apply YE;intro j h;rw[W0 (by simpa using h)]
def I5 (z:c < w):nK w (c+1) g=(nK w c g).set c (g c):=by
 unfold nK;apply ZL aK;intro i x y;simp only[aaZ,aaN,aa0];by_cases h:c=i
 .subst h;simp
 .rw[WX h];by_cases k:i < c
  .rw[W0 aD,W0 k]
  .rw[WX aD,WX k]
def Cx (y:c < w) (x:g c=ah):nK w (c+1) g=nK w c g:=by
 unfold nK;apply YE;intro j z;by_cases h:j=c
 .subst h;rw[W0 aD,WX aD,x]
 .by_cases k:j < c
  .rw[W0 aD,W0 k]
  .rw[WX aD,WX k]
def eG (cs:List (List Q)) (fresh:List Q) (i k r:Nat):List (List Q):=(aC (ae cs)).map fun j=>if j=i then fresh else if j < r then di (af cs j []) fresh k else af cs j []
def Tab.cu (T:Tab) (i k:Nat):Tab :=
 {T with
  cells:=eG T.cells (cR (af T.cells i []) k) i k (ae T.cells)
  aN:=di T.aN (cR (af T.cells i []) k) k
  aJ:=T.aJ.set i (af T.out k 0)
  out:=T.out.set k (af T.aJ i 0)}
def wP:ae (eG cs fresh i k r)=ae cs:=by simp[eG]
def wO (h:j < ae cs):af (eG cs fresh i k r) j []=if j=i then fresh else if j < r then di (af cs j []) fresh k else af cs j []:=by unfold eG;simp[af,h]
def Dh (z:i < ae cs):eG cs fresh i k 0=cs.set i fresh:=by
 unfold eG;apply ZL aK;intro j y x;simp only[aaZ,aaN,aa0];by_cases h:i=j
 .subst h;simp
 .rw[WX (Xg h),WX h];simp at x;simp[af,x]
def De (h:r=i):eG cs fresh i k (r+1)=eG cs fresh i k r:=by
 unfold eG;apply YE;intro j z;by_cases x:j=i
 .rw[W0 x,W0 x]
 .rw[WX x,WX x];by_cases y:j < r
  .rw[W0 aD,W0 y]
  .rw[WX aD,WX y]
def Df (b:r < ae cs) (h:r≠i):eG cs fresh i k (r+1)=(eG cs fresh i k r).set r (di (af cs r []) fresh k):=by
 unfold eG;apply ZL aK;intro j w a;simp only[aaZ,aaN,aa0];by_cases y:r=j
 .subst y;rw[W0 rfl,WX h,W0 aD]
 .rw[WX y];by_cases x:j=i
  .rw[W0 x,W0 x]
  .rw[WX x,WX x];by_cases z:j < r
   .rw[W0 aD,W0 z]
   .rw[WX aD,WX z]
structure eg (T:Tab):Prop where
 nl:T.n < 1000000
 rl:T.aI.length < 1000000
 bl:T.aJ.length=T.cells.length
 ml:T.cells.length < 1000000
 wl:T.out.length < 999999
 row:∀i,i < T.cells.length->(T.cells.getD i []).length=T.out.length+1
 gl:T.aN.length=T.out.length+1
 kQ:∀i,i < T.cells.length->∀x,x∈T.cells.getD i []->QOk 100000 x
 vY:∀x,x∈T.aN->QOk 100000 x
def SlV.uV {H:aE} {k:Nat} {v:AV} {xs:List (List AV)} (h:SlV H k v xs) (x:uV v):∃id ver,v = .sl k id ver 0 (ae xs)/\SlL H k id ver xs:=by
 cases h with
 | nil=>exact x.elim
 | seq=>exact x.elim
 | sl h=>exact ⟨_,_,rfl,_,h⟩
structure bp (H H':aE) (t:Nat) (D D':ba):Prop where
 len:H.length<=H'.length
 aR:∀id,id < H.length->¬dV t D id->∀w,aH H' id w=aH H id w
 new:∀id,dV t D' id->dV t D id\/H.length<=id
def cV {α:Type} [Inhabited α] {l:List α} {i:Nat} (h:i < ae l):af l i ah∈l:=by
 have:af l i ah=l[i]:=by simp[af,h]
 rw[this];exact YN h
def ub (w:Nat):aA w [AV.q0 0,.nil,.q0 0,.nil]=(aA w (ah:Q)).map qC:=by rw[ZS,tY]
def vq (h:ae fresh=ae l):ae (di l fresh k)=ae l:=by
 unfold di;split
 .rfl
 .simp[h]
def rG (h:bG H t D T) (P:eg T) (R:i < ae T.cells) (hk:k < ae T.out) (hp:(af (af T.cells i []) (k+1) ah).top≠0) :
  cF prog 155 [.ptr t 0 0 0,.q0 (i:Int),.q0 (k:Int)] H fun r H'=>r = .bI []/\∃D',bG H' t D' (T.cu i k)/\bp H H' t D D':=by
 refine qw func155 ?_;have hm:=P.ml;have k9:=P.wl;have g0:T.out≠[]:=fun h0=>by rw[h0] at hk;simp at hk
 have j7:∀i,i < ae T.cells->uV (af D.aX i .aY):=fun i R=>(h.live.1 i R).2 (by rw[P.row i R];omega);have ⟨d1,b7,g8,g6⟩:=(h.rws i R).uV (j7 i R);have k3:=P.row i R;have a0:=P.kQ i R;rw[W4] at g8;have ⟨S,a9,m,k6⟩:=h.cells.live (fun h0=>by have z:=h.cl;have q:=ZW ae h0;simp only[W4,XQ] at q;omega);rw[W4] at m;have e1:au .i64 ((k:Int)+1)=((k+1:Nat):Int):=by rw[wrap_i64 aD aD];rfl
 have hT:∀K,bq H t 0 K=K ⟨6,0,[[.q0 (T.n:Int),D.rv,D.vb,D.vo,D.vc,D.vg]]⟩:=aP h.bX;have i9:(D.aX.map fun v=>[v])[i]?=ak [af D.aX i .aY]:=by simp[af,show i < ae D.aX by rw[h.cl];exact R]
 have ⟨pc,c1,c2⟩:=h.cells.cr.read i9;obtain ⟨pp,p1,p2⟩:=(h.rws i R).read (fH (show k+1 < ae (af T.cells i []) by omega));rw[m] at c1;rw[g8] at p1 c2;generalize j6:af T.cells i []=row at *;have a8:=a0 _ (cV (show k+1 < ae row by omega));have h9:(ae row:Int)<=4294967296:=aD;have nn:∀n:Nat,(0<=(n:Int)):=fun n=>aD;generalize c7:af row (k+1) ah=p at *;simp only[go_sem,↓reduceIte,WY,Xb,e1,hT,m,c1,c2,p1,p2,h9,nn,Yn];have hz:=ub (ae row);obtain ⟨H1,U⟩:∃H1,H1=H++[ak ⟨4,0,[qC p]⟩,ak ⟨4,0,aA (ae row) [AV.q0 0,.nil,.q0 0,.nil]⟩]:=⟨_,rfl⟩;rw[<-U];have a5:aT H H1 []:=by rw[U];exact aT.app _ _ _
 have d4:aH H1 (ae H) 0=ak ⟨4,0,[qC p]⟩:=by rw[U];exact bZ
 have i4:SlL H1 4 (ae H+1) 0 ((nK (ae row) 0 (nQ row k)).map qC):=by refine ⟨[],?_⟩;rw[U,I6,<-hz,Xz];show aH (H++([ak ⟨4,0,[qC p]⟩]++[ak ⟨4,0,_⟩])) (ae H+1) 0=_;rw[<-XC];have e:ae H+1=ae (H++[ak (⟨4,0,[qC p]⟩:bC)]):=aK;rw[e];exact bZ
 have b8:=h.aQ a5 aK;have lt:∀id,dV t D id->id < ae H:=fun id c3=>h.lt c3;clear U;refine bE (fun n e G=>∃c,c<=ae row/\n=ae row - c/\aT H1 G [ae H+1]/\SlL G 4 (ae H+1) 0 ((nK (ae row) c (nQ row k)).map qC) /\
  e=[(0,.ptr t 0 0 0),(1,.q0 (i:Int)),(2,.q0 (k:Int)),(6,.sl 4 d1 b7 0 (ae row)),(7,.ptr (ae H) 0 0 0),(8,.sl 4 (ae H+1) 0 0 (ae row)),(27,.q0 (ae row:Int)),(28,.q0 (c:Int))]) (n:=ae row)
  ⟨0,XE _,rfl,aT.refl _ _,i4,rfl⟩ ?_;rintro n _ G ⟨c,hc,rfl,kc,sc,rfl⟩;have k2:d1 < ae H:=by obtain ⟨tl,F⟩:=g6;exact aU F
 have g7:SlL G 4 d1 b7 (row.map qC):=(g6.aQ a5 aK).aQ kc cE;have i5:aH G (ae H) 0=ak ⟨4,0,[qC p]⟩:=by rw[kc.2 _ (aU d4) aK];exact d4
 have d5:∀K,bq G (ae H) 0 K=K ⟨4,0,[qC p]⟩:=aP i5;have e2:au .i64 ((c:Int)+1)=((c+1:Nat):Int):=by rw[wrap_i64 aD aD];rfl
 by_cases c5:(c:Int) < (ae row:Int)
 .have A:c < ae row:=aD;by_cases b9:c=k+1
  .have V:((c:Int)=((k+1:Nat):Int))=True:=XO aD;refine Z4 e1 e2 c5 V ?_;exact ⟨ae row - (c+1),aD,c+1,A,rfl,kc,by rw[Cx A (by unfold nQ;rw[W0 b9])];exact sc,rfl⟩
  .have V:((c:Int)=((k+1:Nat):Int))=False:=Xh aD;have ⟨p3,r1,r2⟩:=(g7.cr (n:=ae row) aK).read (fH A);have j8:=a0 _ (cV A);generalize h6:af row c ah=x at *;refine Z5 e1 c5 V r1 r2 ?_;refine aG (fJ x) (by simp[aZ]) rfl ?_;by_cases F:x.top=0
   .have c8:(x.top.sign=0)=True:=XO (by rw[F];rfl);refine Y2 c8 e2 ?_;exact ⟨ae row - (c+1),aD,c+1,A,rfl,kc,by rw[Cx A (by unfold nQ;rw[WX b9,h6,W0 F])];exact sc,rfl⟩
   .have c8:(x.top.sign=0)=False:=Xh (fun h=>F (XM.1 h));have ⟨p4,v1,_,_,vw⟩:=sc.rw (i:=c) (n:=ae row) (by rw[W4,En];exact A) (by rw[W4,En]) gg;have ⟨H3,u1,u2,u3,u4⟩:=vw (qA (x.div p).neg) rfl (mK _);refine Z4 c8 r1 r2 d5 ?_;refine aG (tV x p (j8.mono aS) (a8.mono aS) hp) (by simp[aZ]) (aZ _) ?_;refine Y ?_;refine aG (EM (x.div p)) (by simp[aZ]) (aZ _) ?_;refine Y3 v1 u1 e2 ?_;refine ⟨ae row - (c+1),aD,c+1,A,rfl,kc.trans (aT.write u3 u4),?_,rfl⟩;rw[I5 A,Yp];have:nQ row k c=(x.div p).neg:=by unfold nQ;rw[WX b9,h6,WX F,c7]
    rw[this];exact u2
 .have i8:c=ae row:=by omega
  subst i8;rw[K5] at sc;have ⟨p4,v1,_,_,vw⟩:=sc.rw (i:=k+1) (n:=ae row) cE aK gg;have ⟨H3,u1,u2,u3,u4⟩:=vw (qA (Q.one.div p)) rfl (mK _);have I:cR row k=((aC (ae row)).map (nQ row k)).set (k+1) (Q.one.div p):=by unfold cR;rw[c7]
  have i3:SlL H3 4 (ae H+1) 0 ((cR row k).map qC):=by rw[I,Yp];exact u2
  have c0:ae (cR row k)=ae row:=by unfold cR;simp
  have h8:aT H1 H3 [ae H+1]:=kc.trans (aT.write u3 u4);have W:bG H3 t D T:=b8.aQ h8 (fun id c3 hm=>by have:=lt id c3;simp at hm;omega);have d6:∀K,bq H3 t 0 K=K ⟨6,0,[[.q0 (T.n:Int),D.rv,D.vb,D.vo,D.vc,D.vg]]⟩:=aP W.bX;have i0:∀x,x∈cR row k->QOk 400000 x:=by
   intro x F;rw[I] at F;rcases Yq F with F | rfl
   .obtain ⟨c,hc,rfl⟩:=Xf.1 F;have i7:c < ae row:=bk hc;unfold nQ;split
    .exact DF _
    .split
     .exact DF _
     .rw[c7];exact ((wW aS aS (a0 _ (cV i7)) a8 hp).neg).mono aS
   .exact (wW aS aS tS a8 hp).mono aS
  have e8:SlL H3 1 S a9 (D.aX.map fun v=>[v]):=by
   rcases W.cells with ⟨z,_⟩ | ⟨id,ver,z,q⟩
   .rw[m] at z;simp at z
   .rw[m] at z;simp at z;obtain ⟨rfl,rfl⟩:=z;exact q
  have b5:i < ae D.aX:=by rw[h.cl];exact R
  have ⟨p5,x1,_,_,xw⟩:=e8.rw (i:=i) (n:=ae D.aX) (bk b5) aK (by intro x F;obtain ⟨a,_,rfl⟩:=Xf.1 F;rfl);have ⟨H4,y1,y2,y3,y4⟩:=xw (.sl 4 (ae H+1) 0 0 (ae row)) rfl rfl;have f9:qA (⟨1,0⟩:Q)=qA Q.one:=rfl;have f:=W.newRow (r:=i) (l:=cR row k) (a:=ae H+1) (ver:=0) R m (fun j1=>dp (lt _ j1)) i3 (by rw[c0];exact y2) (aT.write y3 y4);have b4:SlL H4 4 (ae H+1) 0 ((cR row k).map qC):=i3.aQ (aT.write y3 y4) (by have:=lt S (.inr ⟨.c,by simp[ba.v,m,aF]⟩);simp;omega);rw[c0] at f;obtain ⟨y,X⟩:∃y:ba,y={D with aX:=D.aX.set i (.sl 4 (ae H+1) 0 0 (ae row))}:=⟨_,rfl⟩;rw[<-X] at f;have a4:y.vc = .sl 1 S a9 0 (ae D.aX):=by rw[X];exact m
  have d7:∀K,bq H4 t 0 K=K ⟨6,0,[[.q0 (T.n:Int),y.rv,y.vb,y.vo,y.vc,y.vg]]⟩:=aP f.bX;have d0:aT H1 H4 [ae H+1,S]:=(h8.mono aK).trans ((aT.write y3 y4).mono aK);refine Y2 c5 e1 ?_;refine aG (lR 1 aS) rfl (aZ _) ?_;rw[f9];refine Z1 d5 ?_;refine aG (tV Q.one p (tS.mono aS) (a8.mono aS) hp) (by simp[aZ]) (aZ _) ?_;refine Z8 v1 u1 d6 m x1 y1 d7 a4 ?_;have k4:ae y.aX=ae D.aX:=by rw[X];simp
  have J:af y.aX i .aY = .sl 4 (ae H+1) 0 0 (ae row):=by rw[X];simp[af,b5]
  have j0:ae H+1∈aF (y.v (.r i)):=by simp only[ba.v,J];simp[aF]
  have b6:∀id,dV t y id->dV t D id\/ae H<=id:=by
   rintro id (rfl | ⟨s,hs⟩)
   .exact .inl (.inl rfl)
   .by_cases g9:s = .r i
    .subst g9;simp only[ba.v,J,aF,ZR] at hs;right;omega
    .left;right;refine ⟨s,?_⟩;rw[X] at hs;cases s with
     | r j =>
      have:j≠i:=fun he=>g9 (by rw[he]);simp only[ba.v] at hs ⊢;rw[show af (D.aX.set i (.sl 4 (ae H+1) 0 0 (ae row))) j .aY=af D.aX j .aY by simp[af,XS (Xg this)]] at hs;exact hs
     | _=>exact hs
  have e6:dV t D S := .inr ⟨.c,by simp[ba.v,m,aF]⟩;have rF:ae H<=ae H4/\∀id,id < ae H->¬dV t D id->∀w,aH H4 id w=aH H id w:=by refine ⟨XX a5.1 d0.1,fun id z q w=>?_⟩;rw[d0.2 id (Yf z a5.1) (by simp;exact ⟨aD,fun he=>q (he ▸ e6)⟩),a5.2 id z aK]
  have k8:ae D.aX < 1000000:=by rw[h.cl];exact hm
  have h4:y.vg=D.vg:=by rw[X]
  have h3:y.vb=D.vb:=by rw[X]
  have h5:y.vo=D.vo:=by rw[X]
  clear d6 W x1 y1 v1 u1 c1 c2 p1 p2 xw vw;refine bE (fun n e G=>∃r,r<=ae D.aX/\n=ae D.aX - r/\bG G t y {T with cells:=eG T.cells (cR row k) i k r}/\SlL G 4 (ae H+1) 0 ((cR row k).map qC) /\
   (ae H<=ae G/\∀id,id < ae H->¬dV t D id->∀w,aH G id w=aH H id w) /\
   e=[(0,.ptr t 0 0 0),(1,.q0 (i:Int)),(2,.q0 (k:Int)),(8,.sl 4 (ae H+1) 0 0 (ae row)),(72,.q0 (ae D.aX:Int)),(73,.q0 (r:Int))]) (n:=ae D.aX)
   ⟨0,XE _,rfl,by rw[Dh R];exact f,b4,rF,rfl⟩ ?_;clear f d7 b4 rF d0;rintro n _ G ⟨r,hr,rfl,tc,fc,oc,rfl⟩;have d8:∀K,bq G t 0 K=K ⟨6,0,[[.q0 (T.n:Int),y.rv,y.vb,y.vo,y.vc,y.vg]]⟩:=aP tc.bX;have e3:au .i64 ((r:Int)+1)=((r+1:Nat):Int):=by rw[wrap_i64 aD aD];rfl
  have d3:SlV G 4 (.sl 4 (ae H+1) 0 0 (ae row)) ((cR row k).map qC):=fc.cr (by simp[c0]);by_cases c4:(r:Int) < (ae D.aX:Int)
  .have O:r < ae T.cells:=dp h.cl;by_cases a1:r=i
   .have a2:((r:Int)=(i:Int))=True:=XO aD;refine Z3 c4 a2 e3 ?_;exact ⟨ae D.aX - (r+1),aD,r+1,aD,rfl,by rw[De a1];exact tc,fc,oc,rfl⟩
   .have a2:((r:Int)=(i:Int))=False:=Xh (by omega);have e9:af (eG T.cells (cR row k) i k r) r []=af T.cells r []:=by rw[wO O,WX a1,WX aD]
    have a3:r < ae (eG T.cells (cR row k) i k r):=by rw[wP];exact O
    have ⟨a,ver,C,d9⟩:=(tc.rws r a3).uV ((tc.live.1 r a3).2 (by simp only;rw[e9,P.row r O];omega));simp only[e9] at C d9;rw[W4] at C;have e7:(y.aX.map fun v=>[v])[r]?=ak [af y.aX r .aY]:=by simp[af,show r < ae y.aX by omega]
    have ⟨pr,z1,z2⟩:=tc.cells.cr.read e7;rw[a4] at z1;rw[C] at z2;have b0:a∉aF (.sl 4 (ae H+1) 0 0 (ae row)):=by
     have:a∈aF (y.v (.r r)):=by simp only[ba.v,C];simp[aF]
     have:=tc.sep (.r r) (.r i) (bk a1) a this;simp only[ba.v,J] at this;exact this
    have l0:=P.row r O;have E:=Bp (vt := .ptr t 0 0 0) (k:=k) d9 d3 b0 aD aD aD (P.kQ r O) i0;refine Z6 c4 a2 d8 a4 z1 z2 ?_;refine dZ E ?_;rintro _ H5 ⟨rfl,s1,s2⟩;refine Y1 e3 ?_;have e0:dV t D a:=by
     rcases b6 a (.inr ⟨.r r,by simp only[ba.v,C];simp[aF]⟩) with z | z
     .exact z
     .right;refine ⟨.r r,?_⟩;have:af y.aX r .aY=af D.aX r .aY:=by rw[X];simp[af,XS (Xg a1)]
      simp only[ba.v,<-this,C];simp[aF]
    refine ⟨ae D.aX - (r+1),aD,r+1,aD,rfl,?_,fc.aQ s2 (by simpa[aF] using Xg (by simpa[aF] using b0)),⟨XX oc.1 s2.1,fun id z q w=>by rw[s2.2 id (Yf z oc.1) (by simp;exact fun he=>q (he ▸ e0)),oc.2 id z q]⟩,rfl⟩;have:=tc.setRow a3 C (l:=di (af T.cells r []) (cR row k) k) (by rw[vq aD]) s1 s2;rw[Df O a1];exact this
  .have j5:r=ae D.aX:=aD;subst j5;have f7:ae D.aX=ae T.cells:=h.cl;have ⟨gid,k1,M,f0⟩:=(tc.aN.cr (by show 0 < ae T.aN;rw[P.gl];omega)).uV (tc.live.2.2 (by show 2<=ae T.aN;rw[P.gl];omega));simp only at M f0;rw[W4] at M;have f6:gid∉aF (.sl 4 (ae H+1) 0 0 (ae row)):=by
    have:gid∈aF (y.v .g):=by simp only[ba.v,M];simp[aF]
    have:=tc.sep .g (.r i) aK gid this;simp only[ba.v,J] at this;exact this
   have k7:=P.gl;have E:=Bp (vt := .ptr t 0 0 0) (k:=k) f0 d3 f6 aD aD aD P.vY i0;refine Z3 c4 d8 M ?_;refine dZ E ?_;rintro _ H6 ⟨rfl,s1,s2⟩;have B:=tc.GK M (l:=di T.aN (cR row k) k) (by rw[vq aD]) s1 s2;have f5:dV t D gid := .inr ⟨.g,by simp only[ba.v,<-h4,M];simp[aF]⟩;have o6:ae H<=ae H6/\∀id,id < ae H->¬dV t D id->∀w,aH H6 id w=aH H id w :=
    ⟨XX oc.1 s2.1,fun id z q w=>by rw[s2.2 id (Yf z oc.1) (by simp;exact fun he=>q (he ▸ f5)),oc.2 id z q]⟩;have i6:∀K,bq H6 t 0 K=K ⟨6,0,[[.q0 (T.n:Int),y.rv,y.vb,y.vo,y.vc,y.vg]]⟩:=aP B.bX;have k5:=P.bl;have ⟨d2,k0,L,e4⟩:=B.aJ.live (fun h0=>by have q:=ZW ae h0;simp only[W4,XQ] at q;omega);have ⟨a6,cn,N,c6⟩:=B.out.live (fun h0=>by have q:=ZW ae h0;simp only[W4,XQ] at q;omega);simp only at L e4 N c6;rw[W4] at L N;have c9:∀(l:List Int) (x:List AV),x∈l.map ec->ae x=1:=by intro l x F;obtain ⟨a,_,rfl⟩:=Xf.1 F;rfl
   have h7:∀(l:List Int) (j:Nat),j < ae l->af (l.map ec) j []=ec (af l j 0):=by intro l j hj;simp[af,hj]
   have ⟨pb,b1,b2,b3,bw⟩:=e4.rw (i:=i) (n:=ae T.aJ) (by rw[W4];show i < ae T.aJ;omega) aK (c9 _);have ⟨po,o1,o2,o3,_⟩:=c6.rw (i:=k) (n:=ae T.out) (bk hk) aK (c9 _);rw[h7 T.aJ i aD] at b2;rw[h7 T.out k hk] at o2;have ⟨H7,f1,f2,f3,f4⟩:=bw (.q0 (af T.out k 0)) rfl rfl;have i1:=B.LG L (l:=T.aJ.set i (af T.out k 0)) aK (by rw[Yp];exact f2) (aT.write f3 f4);have j3:a6≠d2:=by
    have z:a6∈aF (y.v .o):=by simp only[ba.v,N];simp[aF]
    have:=B.sep .o .b aK a6 z;simp only[ba.v,L,aF,ZR] at this;exact this
   have j2:SlL H7 1 a6 cn (T.out.map ec):=c6.aQ (aT.write f3 f4) (bk j3);have ⟨j9,q1,q2,q3,qw⟩:=j2.rw (i:=k) (n:=ae T.out) (bk hk) aK (c9 _);have j4:j9=po:=by rw[q3,o3]
   subst j4;have ⟨H8,g1,g2,g3,g4⟩:=qw (.q0 (af T.aJ i 0)) rfl rfl;have i2:=i1.O3 N (l:=T.out.set k (af T.aJ i 0)) aK (by rw[Yp];exact g2) (aT.write g3 g4) g0;have a7:∀n,ec n=[.q0 n]:=fun n=>rfl;simp only[go_sem,↓reduceIte,Xb,i6,L,N,b1,b2,o1,o2,a7,f1,g1];have e5:dV t D d2 := .inr ⟨.b,by simp only[ba.v,<-h3,L];simp[aF]⟩;have f8:dV t D a6 := .inr ⟨.o,by simp only[ba.v,<-h5,N];simp[aF]⟩;refine ⟨y,?_,⟨aD,fun id z q w=>?_,b6⟩⟩
   .have g5:T.cu i k={T with cells:=eG T.cells (cR row k) i k (ae D.aX),aN:=di T.aN (cR row k) k,aJ:=T.aJ.set i (af T.out k 0),out:=T.out.set k (af T.aJ i 0)}:=by unfold Tab.cu;rw[j6,f7]
    rw[g5];exact i2
   .rw[g4 id (fun he=>q (he ▸ f8)),f4 id (fun he=>q (he ▸ e5)),o6.2 id z q]
instance:Inhabited bV:=⟨⟨[],ah,ar,ar⟩⟩
def Tab.fj (T:Tab) (v:Int):Bool:=decide ((T.n:Int)<=v)&&decide (v < (T.n:Int)+ae T.aI)&&(af T.aI (az (v - T.n)) ah).eq
def Tab.cx (T:Tab) (v:Int):Bool:=decide ((T.n:Int)<=v) && !T.fj v
def JJ (r:bV) (K:AV->Prop):gn ar (bT r) 5 1 K=K (.v0 r.eq):=rfl
def LB (h:bG H t D T) (x:T.aI≠[]):∃f,D.rv = .seq 6 f (T.aI.map bT):=by
 have z:=h.aI;have y:=h.iv;generalize D.rv=v at *;generalize k:T.aI.map bT=w at *;cases z with
 | nil=>simp at k;exact absurd k x
 | seq=>exact ⟨_,rfl⟩
 | sl _=>simp[aF] at y
def zn (h:bG H t D T) (j:T.n < 1000000) (l:ae T.aI < 1000000):bK prog 152 [.ptr t 0 0 0,.q0 v] H (.v0 (T.fj v)) H:=by
 refine cw func152 ?_;have w:=aP h.bX;have i:∀K,fM D.rv K=K (.q0 (ae T.aI:Int)):=fun K=>by rw[h.aI.jn,W4]
 have a:au .i64 ((T.n:Int)+ae T.aI)=(T.n:Int)+ae T.aI:=wi;by_cases y:(T.n:Int)<=v
 .by_cases k:v < (T.n:Int)+ae T.aI
  .have ⟨f,x⟩:=LB h (fun c=>by rw[c] at k;simp at k;omega);have b:au .i64 (v - T.n)=v - T.n:=wi;have e:(0:Int)<=v - T.n:=aD;have g:v - T.n < (ae T.aI:Int):=aD;rw[x] at w;have z:∀K,fM (.seq 6 f (T.aI.map bT)) K=K (.q0 (ae T.aI:Int)):=fun K=>x ▸ i K;simp only[go_sem,↓reduceIte,Xb,y,k,a,b,w,z,e,g,JJ];have:T.fj v=(af T.aI (az (v - T.n)) ah).eq:=by unfold Tab.fj;simp[y,k]
   rw[this];exact eH (Wk1.refl _)
  .refine Z ?_;have:T.fj v=ar:=by unfold Tab.fj;simp[k]
   rw[this];exact eH (Wk1.refl _)
 .refine Z ?_;have:T.fj v=ar:=by unfold Tab.fj;simp[y]
  rw[this];exact eH (Wk1.refl _)
def oQ (h:bG H t D T) (x:T.n < 1000000) (y:ae T.aI < 1000000):bK prog 160 [.ptr t 0 0 0,.q0 v] H (.v0 (T.cx v)) H:=by
 refine cw func160 ?_;have z:=aP h.bX;by_cases k:(T.n:Int)<=v
 .refine Z ?_;refine dK (zn h x y) ?_;refine Z ?_;have:T.cx v = !T.fj v:=by unfold Tab.cx;simp[k]
  rw[this];exact eH (Wk1.refl _)
 .refine Z ?_;have:T.cx v=ar:=by unfold Tab.cx;simp[k]
  rw[this];exact eH (Wk1.refl _)
def cg:List Int->Int->Int
 | [],_ => -1
 | a::r,x=>if x=a then 0 else if cg r x < 0 then -1 else cg r x+1
def nf (l:List Int) (x:Int):-1<=cg l x/\cg l x < ae l:=by
 induction l with
 | nil=>simp[cg]
 | cons a r h =>
  simp only[cg,XG];split
  .omega
  .split<;>omega
def HF {l:List Int} {x:Int} {j:Nat} (z:j < ae l) (h:af l j 0=x) (y:∀i,i < j->af l i 0≠x):cg l x=j:=by
 induction l generalizing j with
 | nil=>simp at z
 | cons a r w =>
  cases j with
  | zero=>simp at h;simp[cg,h]
  | succ j =>
   have k:=y 0 aD;simp at k h z;have:=w (j:=j) aD (by simpa[af] using h) (fun i b=>by have:=y (i+1) aD;simpa using this);simp only[cg];rw[WX (Xg k),this,WX aD];omega
def Ja (k:∀i,i < ae l->af l i 0≠x):cg l x = -1:=by
 induction l with
 | nil=>rfl
 | cons a r z =>
  have h:=k 0 aK;simp at h;simp only[cg];rw[WX (Xg h),z (fun i y=>by have:=k (i+1) (by simpa using y);simpa using this)];rfl
def eR {l:List Int} {i:Nat} (h:i < ae l):(l.map ec)[i]?=ak [.q0 (af l i 0)]:=by simp[h,ec]
def oI {H:aE} {v:AV} {l:List Int} {x:Int} (h:SlV H 1 v (l.map ec)) (X:ae l < 1000000):bK prog 116 [v,.q0 x] H (.q0 (cg l x)) H:=by
 refine cw func116 ?_;have s:∀K,fM v K=K (.q0 (ae l:Int)):=fun K=>by rw[h.jn,W4]
 refine Z ?_;refine bE (fun n e g=>∃c,c<=ae l/\n=ae l - c/\g=H/\(∀i,i < c->af l i 0≠x) /\
  e=[(0,v),(1,.q0 x),(7,.q0 (ae l:Int)),(8,.q0 (c:Int))]) (n:=ae l) ⟨0,XE _,rfl,rfl,fun i m=>aD,rfl⟩ ?_;rintro n _ _ ⟨c,t,rfl,rfl,w,rfl⟩;by_cases b:(c:Int) < (ae l:Int)
 .have k:c < ae l:=aD;have ⟨p,o,q⟩:=h.read (eR k);have r:=ws c;by_cases z:x=af l c 0
  .have y:=XO z;refine Y4 b o q y ?_;rw[HF k z.symm w];exact eH (Wk1.refl _)
  .have y:=Xh z;refine Z ?_;refine ⟨ae l - (c+1),aD,c+1,k,rfl,?_,rfl⟩;intro i m;rcases Xe i c with f | f
   .exact w i f
   .rw[show i=c by omega];exact fun j=>z j.symm
 .have a:c=ae l:=aD;subst a;refine Z ?_;rw[Ja w];exact eH (Wk1.refl _)
section
variable {P:Program}
def cF.fin {f:FuncId} {args:List AV} {H:aE} {R S:AV->aE->Prop} (h:cF P f args H R) (g:∀r x,R r x->∃z y,Fin (ae H) r x z y/\S z y):cF P f args H S:=by refine ⟨h.1,fun I β w p s k=>(h.2 I β w p s k).mono ?_⟩;rintro A q ⟨rv,r,x,b,K,e,t,n,l,j⟩;have ⟨z,y,⟨W,a,hR⟩,i⟩:=g r x j;have ⟨c,X,o,m,v⟩:=a b K q n;exact ⟨rv,z,y,c,X,e,v I β H w (WY _) s.gw t,o,m _ _ _ hR l,i⟩
def cF.drop {f:FuncId} {args:List AV} {H:aE} {r0:AV} (h:cF P f args H fun r c=>r=r0/\aT H c []) (p:bP r0=aq):bK P f args H r0 H:=by
 refine ⟨h.1,fun I β w W s a=>(h.2 I β w W s a).mono ?_⟩;rintro C E ⟨rv,r,c,n,F,e,y,m,t,rfl,q⟩;have z:∀{x:Nat} {ob},H[x]?=ak (ak ob)->c[x]?=ak (ak ob):=by
  intro x ob k;have g:=(W9.1 k).1;have i:aH H x ob.ver=ak ob:=by unfold aH;rw[k];simp
  rw[<-q.2 x g aK] at i;exact (ct i).1
 refine ⟨rv,n,β,e,⟨y.ef,.refl _,WY _,y.size,y.os,y.tape,y.output,y.frame,fun b o => .inl o⟩,⟨m.ef,fun x ob k=>?_,s.inj,s.gw,s.ver⟩,t.bP p β⟩;have ⟨B,j,l,X⟩:=s.obj x ob k;have ⟨A,v,D,K⟩:=m.obj x ob (z k);have:=y.n6 _ _ _ j;rw[v] at this;cases this;exact ⟨_,j,l,X.gw l y.n6 (.refl _) K⟩
def cF.list {f:FuncId} {args:List AV} {H:aE} {l:List Q} (h:cF P f args H fun r k=>∃id n,r = .sl 4 id 0 0 n/\n=ae l/\ae H<=id/\aH k id 0=ak ⟨4,0,l.map qC⟩/\aT H k []) :
  bK P f args H (.seq 4 ar (l.map qC)) H:=by
 refine cF.drop (r0 := .seq 4 ar (l.map qC)) (h.fin ?_) rfl;rintro _ k ⟨id,n,rfl,rfl,b,y,z⟩;refine ⟨.seq 4 ar (l.map qC),k.set id an,?_,rfl,by rw[Xa];exact z.1,fun j c _ w=>?_⟩
 .have:=uP (n:=ae H) (r := .sl 4 id 0 0 (ae l)) y (by show (l.map qC).all (fun x=>x.all b8)=aq;rw[W6];intro x g;obtain ⟨a,_,rfl⟩:=Xf.1 g;exact pK a);have e:dT id 0 4 (l.map qC) (.sl 4 id 0 0 (ae l)) = .seq 4 ar (l.map qC):=by simp only[dT,oF,fX,Yx];rw[W0 aK,W0 aK,Xq aK]
  rw[e] at this;exact this
 .rw[aW aD];exact z.2 j c aK w
def tX (T:Tab) (acc:List Q) (i:Nat):List Q:=if 0<=af T.aJ i 0/\af T.aJ i 0 < (T.n:Int) then acc.set (az (af T.aJ i 0)) (af (af T.cells i []) 0 ah) else acc
def Tab.sN (T:Tab) (c:Nat):List Q:=(aC c).foldl (tX T) (aA T.n ah)
def Tab.pd (T:Tab):List Q:=T.sN (ae T.cells)
def Bn (T:Tab) (c:Nat):T.sN (c+1)=tX T (T.sN c) c:=by unfold Tab.sN;rw[Yr,Zo];rfl
def CP (T:Tab) (c:Nat):ae (T.sN c)=T.n:=by
 induction c with
 | zero=>simp[Tab.sN]
 | succ c h=>rw[Bn];unfold tX;split<;>simp[h]
def Aa (h:bG H t D T) (q:eg T):bK prog 130 [.ptr t 0 0 0] H (.seq 4 ar (T.pd.map qC)) H:=by
 refine cF.list (qw func130 ?_);have a0:=q.nl;have A:=q.bl;have V:=q.ml;have U:=aP h.bX;have nn:∀n:Nat,(0<=(n:Int)):=fun n=>aD;have F:(T.n:Int)<=4294967296:=aD;have S:∀K,fM D.vb K=K (.q0 (ae T.cells:Int)):=fun K=>by rw[h.aJ.cr.jn,W4,A]
 have G:t < ae H:=aU h.bX;have hz:=ub T.n;have j:∀K,bq (H++[ak ⟨4,0,aA T.n [.q0 0,.nil,.q0 0,.nil]⟩]) t 0 K=K ⟨6,0,[[.q0 (T.n:Int),D.rv,D.vb,D.vo,D.vc,D.vg]]⟩:=aP (by rw[fI G];exact h.bX);simp only[go_sem,↓reduceIte,Xb,U,nn,Yn,F,j,S];obtain ⟨m,x⟩:∃m,m=H++[ak ⟨4,0,aA T.n [AV.q0 0,.nil,.q0 0,.nil]⟩]:=⟨_,rfl⟩;rw[<-x];have J:aT H m []:=by rw[x];exact aT.app _ _ _
 have W:aH m (ae H) 0=ak ⟨4,0,(T.sN 0).map qC⟩:=by rw[x,hz];exact bZ
 clear x j;refine bE (fun n e s=>∃c,c<=ae T.cells/\n=ae T.cells - c/\aT H s []/\aH s (ae H) 0=ak ⟨4,0,(T.sN c).map qC⟩ /\
  e=[(0,.ptr t 0 0 0),(3,.sl 4 (ae H) 0 0 T.n),(14,D.vb),(15,.q0 (ae T.cells:Int)),(16,.q0 (c:Int))]) (n:=ae T.cells) ⟨0,XE _,rfl,J,W,rfl⟩ ?_;rintro n _ s ⟨c,hc,rfl,g,o,rfl⟩;have r:=h.aQ g aK;have l:=aP r.bX;have X:=ws c;by_cases y:(c:Int) < (ae T.cells:Int)
 .have k:c < ae T.cells:=aD;obtain ⟨p,L,M⟩:=r.aJ.cr.read (eR (show c < ae T.aJ by omega));have b:=Bn T c;have z:=CP T c;generalize hv:af T.aJ c 0=v at *;by_cases a:0<=v
  .by_cases f:v < (T.n:Int)
   .have C:(D.aX.map fun v=>[v])[c]?=ak [af D.aX c .aY]:=by simp[af,show c < ae D.aX by rw[h.cl];exact k]
    have ⟨p3,q1,q2⟩:=r.cells.cr.read C;have a1:=q.row c k;have ⟨p4,r1,r2⟩:=(r.rws c k).read (i:=0) (fH aD);have ⟨p5,R,_,_,sw⟩:=SlL.E8 o (i:=az v) (n:=T.n) (by rw[W4,z];omega) (by rw[W4,z]) gg;have ⟨H2,u1,u2,u3,u4⟩:=sw (qA (af (af T.cells c []) 0 ah)) rfl (mK _);have I:((az v:Nat):Int)=v:=aD;rw[I] at R;have N:∀(t:IntKind) (K:AV->Prop),kz 4 (af D.aX c .aY) (.c (.int t 0)) K=K p4:=r1;simp only[go_sem,↓reduceIte,WY,Xb,y,L,M,a,f,l,q1,q2,X,R,N,r2,u1];refine ⟨ae T.cells - (c+1),aD,c+1,k,rfl,⟨by rw[u3];exact g.1,fun O a f w=>by rw[u4 O (by omega),g.2 O a f]⟩,?_,rfl⟩;rw[b];unfold tX;rw[hv,W0 ⟨a,f⟩,Yp];exact u2
   .refine Z7 y L M a f l X ?_;refine ⟨ae T.cells - (c+1),aD,c+1,k,rfl,g,?_,rfl⟩;rw[b];unfold tX;rw[hv,WX (fun E=>f E.2)];exact o
  .refine Z5 y L M a X ?_;refine ⟨ae T.cells - (c+1),aD,c+1,k,rfl,g,?_,rfl⟩;rw[b];unfold tX;rw[hv,WX (fun E=>a E.1)];exact o
 .have B:c=ae T.cells:=aD;subst B;refine Y1 y ?_;exact ⟨ae H,T.n,rfl,by unfold Tab.pd;rw[CP],WY _,o,g⟩
def zF (H:aE) (l:List Q) (r:AV) (H':aE):Prop:=r = .sl 4 (ae H) 0 0 (ae l)/\ae H'=ae H+1/\aH H' (ae H) 0=ak ⟨4,0,l.map qC⟩/\aT H H' []
def zF.eq (h:zF H l r x):x=H++[ak ⟨4,0,l.map qC⟩]:=by
 have ⟨_,f,b,c⟩:=h;apply ZF;intro i;rcases Yt i (ae H) with k | k | k
 .rw[Xc k];have w:=c.2 i k aK;rw[W7 k,W7 (by omega:i < ae x)];congr 1;cases a:H[i] with
  | none =>
   cases y:x[i] with
   | none=>rfl
   | some z =>
    have:=w z.ver;unfold aH at this;rw[W7 k,W7 (by omega:i < ae x),a,y] at this;simp at this
  | some z =>
   have:=w z.ver;unfold aH at this;rw[W7 k,W7 (by omega:i < ae x),a] at this;cases y:x[i] with
   | none=>rw[y] at this;simp at this
   | some e =>
    rw[y] at this;simp only[Yj] at this;split at this
    .simpa using this
    .simp at this
 .subst k;rw[(ct b).1];simp
 .rw[Xv aD,Xv cE]
def cF.OS (h:cF P f args H (zF H l)):bK P f args H (.sl 4 (ae H) 0 0 (ae l)) (H++[ak ⟨4,0,l.map qC⟩]):=by refine ⟨h.1,fun I β w b s k=>(h.2 I β w b s k).mono ?_⟩;rintro j m ⟨rv,r,i,y,g,e,c,a,z,x⟩;have he:=x.eq;obtain ⟨rfl,_⟩:=x;subst he;exact ⟨rv,y,g,e,c,a,z⟩
def cF.HE (h:cF P f args H (zF H l)):bK P f args H (.seq 4 ar (l.map qC)) H :=
 cF.list (h.mono fun r z ⟨k,_,x,y⟩=>⟨ae H,ae l,k,rfl,WY _,x,y⟩)
def mP (T:Tab) (l:List Q) (acc:List Q) (k:Nat):List Q :=
 if (T.n:Int)<=af T.out k 0/\af T.out k 0 < (T.n:Int)+ae T.aI then acc.set (az (af T.out k 0 - T.n)) (af l (k+1) ah) else acc
def Tab.kt (T:Tab) (l:List Q) (c:Nat):List Q:=(aC c).foldl (mP T l) (aA (ae T.aI) ah)
def Tab.mult (T:Tab) (l:List Q):List Q:=T.kt l (ae T.out)
def rB (T:Tab) (l:List Q) (c:Nat):T.kt l (c+1)=mP T l (T.kt l c) c:=by unfold Tab.kt;rw[Yr,Zo];rfl
def oX (T:Tab) (l:List Q) (c:Nat):ae (T.kt l c)=ae T.aI:=by
 induction c with
 | zero=>simp[Tab.kt]
 | succ c h=>rw[rB];unfold mP;split<;>simp[h]
def B5 {H:aE} {t:Nat} {D:ba} {T:Tab} {vl:AV} {l:List Q} (h:bG H t D T) (hn:T.n < 1000000) (hr:ae T.aI < 1000000) (ho:ae T.out < 1000000) (hl:SlV H 4 vl (l.map qC)) (a0:ae l=ae T.out+1) :
  cF prog 133 [.ptr t 0 0 0,vl] H (zF H (T.mult l)):=by
 refine qw func133 ?_;have V:=aP h.bX;have nn:∀n:Nat,(0<=(n:Int)):=fun n=>aD;have E:(ae T.aI:Int)<=4294967296:=aD;have hR:∀K,fM D.rv K=K (.q0 (ae T.aI:Int)):=fun K=>by rw[h.aI.jn,W4]
 have U:∀K,fM D.vo K=K (.q0 (ae T.out:Int)):=fun K=>by rw[h.out.cr.jn,W4]
 have F:t < ae H:=aU h.bX;have hz:=ub (ae T.aI);have q:∀K,bq (H++[ak ⟨4,0,aA (ae T.aI) [.q0 0,.nil,.q0 0,.nil]⟩]) t 0 K=K ⟨6,0,[[.q0 (T.n:Int),D.rv,D.vb,D.vo,D.vc,D.vg]]⟩:=aP (by rw[fI F];exact h.bX);simp only[go_sem,↓reduceIte,Xb,V,nn,Yn,E,q,U,hR];obtain ⟨o,k⟩:∃o,o=H++[ak ⟨4,0,aA (ae T.aI) [AV.q0 0,.nil,.q0 0,.nil]⟩]:=⟨_,rfl⟩;rw[<-k];have I:aT H o []:=by rw[k];exact aT.app _ _ _
 have C:ae o=ae H+1:=by rw[k];simp
 have W:aH o (ae H) 0=ak ⟨4,0,(T.kt l 0).map qC⟩:=by rw[k,hz];exact bZ
 clear k q;refine bE (fun n e r=>∃c,c<=ae T.out/\n=ae T.out - c/\aT H r []/\ae r=ae H+1/\aH r (ae H) 0=ak ⟨4,0,(T.kt l c).map qC⟩ /\
  e=[(0,.ptr t 0 0 0),(1,vl),(5,.sl 4 (ae H) 0 0 (ae T.aI)),(17,D.vo),(18,.q0 (ae T.out:Int)),(19,.q0 (c:Int))]) (n:=ae T.out) ⟨0,XE _,rfl,I,C,W,rfl⟩ ?_;rintro n _ r ⟨c,hc,rfl,j,f,s,rfl⟩;have R:=h.aQ j aK;have lc:=hl.aQ j aK;have b:=aP R.bX;have X:=ws c;have M:au .i64 ((T.n:Int)+ae T.aI)=(T.n:Int)+ae T.aI:=wi;by_cases y:(c:Int) < (ae T.out:Int)
 .have x:c < ae T.out:=aD;have ⟨p,J,L⟩:=R.out.cr.read (eR x);have g:=rB T l c;have z:=oX T l c;generalize hv:af T.out c 0=v at *;by_cases a:(T.n:Int)<=v
  .by_cases m:v < (T.n:Int)+ae T.aI
   .have S:au .i64 (v - T.n)=v - T.n:=wi;have ⟨p4,r1,r2⟩:=lc.read (i:=c+1) (fH aD);have ⟨p5,O,_,_,sw⟩:=SlL.E8 s (i:=az (v - T.n)) (n:=ae T.aI) (by rw[W4,z];omega) (by rw[W4,z]) gg;have ⟨H2,u1,u2,u3,u4⟩:=sw (qA (af l (c+1) ah)) rfl (mK _);have G:((az (v - T.n):Nat):Int)=v - T.n:=aD;rw[G] at O;simp only[go_sem,↓reduceIte,WY,Xb,y,J,L,a,m,b,hR,X,M,S,O,r1,r2,u1];refine ⟨ae T.out - (c+1),aD,c+1,x,rfl,⟨by rw[u3];exact j.1,fun N a m w=>by rw[u4 N aD,j.2 N a m]⟩,aD,?_,rfl⟩;rw[g];unfold mP;rw[hv,W0 ⟨a,m⟩,Yp];exact u2
   .simp only[go_sem,↓reduceIte,Xb,y,J,L,a,m,b,hR,X,M];refine ⟨ae T.out - (c+1),aD,c+1,x,rfl,j,f,?_,rfl⟩;rw[g];unfold mP;rw[hv,WX (fun B=>m B.2)];exact s
  .refine Z6 y J L a b X ?_;refine ⟨ae T.out - (c+1),aD,c+1,x,rfl,j,f,?_,rfl⟩;rw[g];unfold mP;rw[hv,WX (fun B=>a B.1)];exact s
 .have A:c=ae T.out:=aD;subst A;refine Y1 y ?_;exact ⟨by unfold Tab.mult;rw[oX],f,s,j⟩
def qO (T:Tab) (k:Nat) (by':Q) (acc:List Q) (i:Nat):List Q :=
 if 0<=af T.aJ i 0/\af T.aJ i 0 < (T.n:Int) then acc.set (az (af T.aJ i 0)) ((af (af T.cells i []) (k+1) ah).mul by') else acc
def Tab.mE (T:Tab) (k:Nat) (by':Q) (c:Nat):List Q :=
 (aC c).foldl (qO T k by') (if af T.out k 0 < (T.n:Int) then (aA T.n ah).set (az (af T.out k 0)) by' else aA T.n ah)
def Tab.nS (T:Tab) (k:Nat) (by':Q):List Q:=T.mE k by' (ae T.cells)
def zy (T:Tab) (k:Nat) (b:Q) (c:Nat):T.mE k b (c+1)=qO T k b (T.mE k b c) c:=by unfold Tab.mE;rw[Yr,Zo];rfl
def Bo (T:Tab) (k:Nat) (b:Q) (c:Nat):ae (T.mE k b c)=T.n:=by
 induction c with
 | zero=>unfold Tab.mE;simp only[aa6,abd];split<;>simp
 | succ c h=>rw[zy];unfold qO;split<;>simp[h]
def JH (h:bG H t D T) (r:eg T) (hk:k < ae T.out) (hb:QOk 1 b) (a6:0<=af T.out k 0) :
  cF prog 131 [.ptr t 0 0 0,.q0 (k:Int),qA b] H (zF H (T.nS k b)):=by
 refine qc func131 yR ?_;refine uz ?_;have a4:=r.nl;have R:=r.bl;have a3:=r.ml;have a7:=r.wl;have hT:∀K,bq H t 0 K=K ⟨6,0,[[.q0 (T.n:Int),D.rv,D.vb,D.vo,D.vc,D.vg]]⟩:=aP h.bX;have nn:∀n:Nat,(0<=(n:Int)):=fun n=>aD;have E:(T.n:Int)<=4294967296:=aD;have hL:∀K,fM D.vb K=K (.q0 (ae T.cells:Int)):=fun K=>by rw[h.aJ.cr.jn,W4,R]
 have a1:t < ae H:=aU h.bX;have hz:=ub T.n;have ek:=ws k;have A:∀K,bq (H++[ak ⟨4,0,aA T.n [.q0 0,.nil,.q0 0,.nil]⟩]) t 0 K=K ⟨6,0,[[.q0 (T.n:Int),D.rv,D.vb,D.vo,D.vc,D.vg]]⟩:=aP (by rw[fI a1];exact h.bX);have I:=h.aQ (aT.app H [ak ⟨4,0,aA T.n [.q0 0,.nil,.q0 0,.nil]⟩] []) aK;have ⟨po,o1,o2⟩:=I.out.cr.read (eR hk);have loop:∀(q:aE),aT H q []->ae q=ae H+1->aH q (ae H) 0=ak ⟨4,0,(T.mE k b 0).map qC⟩ ->
   WP prog 71 nE (ky [.t 6] (zF H (T.nS k b))) [(0,.ptr t 0 0 0),(1,.q0 (k:Int)),(5,.fp (qC b) 0),(7,.sl 4 (ae H) 0 0 T.n)] q:=by
  intro q y a0 O;have t1:=h.aQ y aK;have B:∀K,bq q t 0 K=K ⟨6,0,[[.q0 (T.n:Int),D.rv,D.vb,D.vo,D.vc,D.vg]]⟩:=aP t1.bX;refine uz ?_;refine Z2 B hL ?_;refine bE (fun n e X=>∃c,c<=ae T.cells/\n=ae T.cells - c/\aT H X []/\ae X=ae H+1/\aH X (ae H) 0=ak ⟨4,0,(T.mE k b c).map qC⟩ /\
   e=[(0,.ptr t 0 0 0),(1,.q0 (k:Int)),(5,.fp (qC b) 0),(7,.sl 4 (ae H) 0 0 T.n),(36,D.vb),(37,.q0 (ae T.cells:Int)),(38,.q0 (c:Int))]) (n:=ae T.cells) ⟨0,XE _,rfl,y,a0,O,rfl⟩ ?_;rintro n _ X ⟨c,hc,rfl,s,l,J,rfl⟩;have L:=h.aQ s aK;have C:∀K,bq X t 0 K=K ⟨6,0,[[.q0 (T.n:Int),D.rv,D.vb,D.vo,D.vc,D.vg]]⟩:=aP L.bX;have N:=ws c;by_cases a:(c:Int) < (ae T.cells:Int)
  .have x:c < ae T.cells:=by omega
   obtain ⟨p,p1,p2⟩:=L.aJ.cr.read (eR (show c < ae T.aJ by omega));have m:=zy T k b c;have j:=Bo T k b c;generalize hv:af T.aJ c 0=v at *;by_cases z:0<=v
   .by_cases g:v < (T.n:Int)
    .have U:(D.aX.map fun v=>[v])[c]?=ak [af D.aX c .aY]:=by simp[af,show c < ae D.aX by rw[h.cl];exact x]
     have ⟨p3,q1,q2⟩:=L.cells.cr.read U;have a5:=r.row c x;have ⟨p4,r1,r2⟩:=(L.rws c x).read (i:=k+1) (fH aD);have a2:=r.kQ c x _ (cV (show k+1 < ae (af T.cells c []) by omega));have ⟨p5,G,_,_,sw⟩:=SlL.E8 J (i:=az v) (n:=T.n) (by rw[W4,j];omega) (by rw[W4,j]) gg;have ⟨H2,u1,u2,M,u4⟩:=sw (qA ((af (af T.cells c []) (k+1) ah).mul b)) rfl (mK _);have o:((az v:Nat):Int)=v:=aD;rw[o] at G;simp only[go_sem,↓reduceIte,WY,Xb,a,p1,p2,z,g,C,q1,q2,ek,r1,r2];refine aG (EL _ b (a2.mono aS) (hb.mono aS)) (by simp[aZ]) (aZ _) ?_;refine Y3 G u1 N ?_;refine ⟨ae T.cells - (c+1),aD,c+1,x,rfl,⟨by rw[M];exact s.1,fun F z g w=>by rw[u4 F (by omega),s.2 F z g]⟩,aD,?_,rfl⟩;rw[m];unfold qO;rw[hv,W0 ⟨z,g⟩,Yp];exact u2
    .refine Z7 a p1 p2 z g C N ?_;refine ⟨ae T.cells - (c+1),aD,c+1,x,rfl,s,l,?_,rfl⟩;rw[m];unfold qO;rw[hv,WX (fun V=>g V.2)];exact J
   .refine Z5 a p1 p2 z N ?_;refine ⟨ae T.cells - (c+1),aD,c+1,x,rfl,s,l,?_,rfl⟩;rw[m];unfold qO;rw[hv,WX (fun V=>z V.1)];exact J
  .have S:c=ae T.cells:=aD;subst S;refine Y1 a ?_;exact ⟨by unfold Tab.nS;rw[Bo],l,J,s⟩
 have y:aT H (H++[ak ⟨4,0,aA T.n [.q0 0,.nil,.q0 0,.nil]⟩]) []:=aT.app _ _ _;have W:aH (H++[ak ⟨4,0,aA T.n [.q0 0,.nil,.q0 0,.nil]⟩]) (ae H) 0=ak ⟨4,0,(aA T.n (ah:Q)).map qC⟩:=by rw[hz];exact bZ
 by_cases f:af T.out k 0 < (T.n:Int)
 .have ⟨p5,G,_,_,sw⟩:=SlL.E8 W (i:=az (af T.out k 0)) (n:=T.n) (by rw[W4,Ym];omega) aK gg;have ⟨H2,u1,u2,M,u4⟩:=sw (qA b) rfl (mK _);have o:((az (af T.out k 0):Nat):Int)=af T.out k 0:=aD;rw[o] at G;simp only[go_sem,↓reduceIte,WY,Xb,hT,nn,Yn,E,A,o1,o2,f,G,u1];refine loop H2 ⟨by rw[M];simp,fun F z g w=>by rw[u4 F (by omega),y.2 F z g]⟩ (by rw[M];simp) ?_;rw[u2];unfold Tab.mE;simp only[aa6,abd];rw[W0 f,Yp];rfl
 .have hl:=loop _ y aK (by rw[W];unfold Tab.mE;simp only[aa6,abd];rw[WX f]);simp only[go_sem,↓reduceIte,Xb,hT,nn,Yn,E,A,o1,o2,f];exact hl
@[go_sem] def QB:List.drop (ae H+1) (H++o::l)=l:=by rw[aax];simp
attribute [go_sem] Zv
def lH (T:Tab) (k:Int) (c:Nat):Int :=
 if T.cx (af T.out c 0)=aq/\(af T.aN (c+1) ah).top < 0/\(k < 0\/af T.out c 0 < af T.out (az k) 0) then c else k
def Tab.dL (T:Tab) (c:Nat):Int:=(aC c).foldl (lH T) (-1)
def Tab.mw (T:Tab):Int:=T.dL (ae T.out)
def te (T:Tab) (c:Nat):T.dL (c+1)=lH T (T.dL c) c:=by unfold Tab.dL;rw[Yr,Zo];rfl
def nI (T:Tab) (c:Nat):-1<=T.dL c/\T.dL c < c:=by
 induction c with
 | zero=>simp[Tab.dL]
 | succ c h=>rw[te];unfold lH;split<;>omega
def Tab.quot (T:Tab) (k i:Nat):Q:=(af (af T.cells i []) 0 ah).div (af (af T.cells i []) (k+1) ah).neg
def jE (T:Tab) (k:Nat) (s:Int × Q) (i:Nat):Int × Q :=
 if T.cx (af T.aJ i 0)=aq/\(af (af T.cells i []) (k+1) ah).top < 0 then
  if s.1 < 0\/((T.quot k i).sub s.2).top < 0\/(((T.quot k i).sub s.2).top=0/\af T.aJ i 0 < af T.aJ (az s.1) 0) then (i,T.quot k i) else s
 else s
def Tab.df (T:Tab) (k c:Nat):Int × Q:=(aC c).foldl (jE T k) (-1,ah)
def Tab.lv (T:Tab) (k:Nat):Int:=(T.df k (ae T.cells)).1
def uX (T:Tab) (k c:Nat):T.df k (c+1)=jE T k (T.df k c) c:=by unfold Tab.df;rw[Yr,Zo];rfl
def qy (T:Tab) (k c:Nat):-1<=(T.df k c).1/\(T.df k c).1 < c /\
  (0<=(T.df k c).1->(T.df k c).2=T.quot k (T.df k c).1.toNat/\(af (T.cells.getD (T.df k c).1.toNat []) (k+1) ah).top < 0/\T.cx (T.aJ.getD (T.df k c).1.toNat 0)=aq):=by
 induction c with
 | zero=>simp[Tab.df]
 | succ c h =>
  rw[uX];unfold jE;split
  .rename_i x;split
   .refine ⟨by show (-1:Int)<=(c:Int);omega,by show (c:Int) < ((c+1:Nat):Int);omega,fun _=>⟨aK,bk x.2,bk x.1⟩⟩
   .exact ⟨h.1,aD,h.2.2⟩
  .exact ⟨h.1,aD,h.2.2⟩
def Tab.iO (T:Tab):Tab ⊕ Int:=if T.mw < 0 then .inr (-1) else if T.lv (az T.mw) < 0 then .inr T.mw else .inl (T.cu (az (T.lv (az T.mw))) (az T.mw))
inductive kx:Nat->Tab->Tab->Int->Prop
 | stop {T:Tab} {r:Int}:eg T->T.iO = .inr r->kx 0 T T r
 | go {n:Nat} {T T' T'':Tab} {r:Int}:eg T->T.iO = .inl T'->kx n T' T'' r->kx (n+1) T T'' r
def kx.w (h:kx n T k r):eg T:=by cases h<;>assumption
def bp.refl (H:aE) (t:Nat) (D:ba):bp H H t D D:=⟨WY _,fun _ _ _ _=>rfl,fun _ h => .inl h⟩
def bp.trans (h:bp H G t D a) (g:bp G F t a b):bp H F t D b :=
 ⟨XX h.len g.len,fun x k z w=>by
  rw[g.aR x (Yf k h.len) (fun c=>(h.new x c).elim z (fun e=>aD)),h.aR x k z],fun x y=>by
  rcases g.new x y with k | k
  .exact h.new x k
  .exact .inr (XX h.len k)⟩
def bp.aQ (h:aT H G []):bp H G t D D:=⟨h.1,fun x k _ w=>h.2 x k aK w,fun _ h => .inl h⟩
def GI (x:eg T) (z:k < ae T.out) (h:i < ae T.cells) (y:(af (af T.cells i []) (k+1) ah).top≠0):QOk 200000 (T.quot k i):=by have w:=x.row i h;have o1:=x.kQ i h _ (cV (show 0 < ae (af T.cells i []) by omega));have o2:=x.kQ i h _ (cV (show k+1 < ae (af T.cells i []) by omega));have:=wW aS aS o1 o2.neg (by show -_≠0;omega);exact this
def qP {x:Int}:(x.sign < 0)=(x < 0):=propext aaa
def ll {x:Int}:(x.sign=0)=(x=0):=propext XM
def uL (hd:kx n T a8 r) (h:bG H t D T) :
  cF prog 132 [.ptr t 0 0 0] H fun v H'=>v = .q0 r/\∃D',bG H' t D' a8/\bp H H' t D D':=by
 refine qw func132 ?_;refine Z ?_;refine bE (fun m e A=>∃y z,kx m y a8 r/\bG A t z y/\bp H A t D z/\e=[(0,.ptr t 0 0 0)]) (n:=n) ⟨T,D,hd,h,bp.refl _ _ _,rfl⟩ ?_;clear hd h;rintro m _ a ⟨y,z,hd,h,ho,rfl⟩;have I:=hd.w;have b6:=I.nl;have c0:=I.rl;have c6:=I.bl;have e3:=I.ml;have e5:=I.wl;have e2:=I.gl;have hT:=aP h.bX;have d9:∀K,fM z.vo K=K (.q0 (ae y.out:Int)):=fun K=>by rw[h.out.cr.jn,W4]
 have d2:=aU h.bX;refine Z ?_;refine bE (fun m e A=>∃c,c<=ae y.out/\m=ae y.out - c/\a=A/\e=[(0,.ptr t 0 0 0),(3,.q0 (y.dL c)),(15,z.vo),(16,.q0 (ae y.out:Int)),(17,.q0 (c:Int))]) (n:=ae y.out)
  ⟨0,XE _,rfl,rfl,rfl⟩ ?_;rintro m' _ _ ⟨c,hc,rfl,rfl,rfl⟩;by_cases b5:(c:Int) < (ae y.out:Int)
 .have l:c < ae y.out:=aD;have ⟨p,p1,p2⟩:=h.out.cr.read (eR l);have W:=te y c;have ⟨c9,d0⟩:=nI y c;have e1:=ws c;have next:∀x:Int,x=y.dL (c+1)->∃m,m < ae y.out - c/\∃o,o<=ae y.out/\m=ae y.out - o/\a=a /\
    ([(0,.ptr t 0 0 0),(3,.q0 x),(15,z.vo),(16,.q0 (ae y.out:Int)),(17,.q0 ((c+1:Nat):Int))]:Env)=[(0,.ptr t 0 0 0),(3,.q0 (y.dL o)),(15,z.vo),(16,.q0 (ae y.out:Int)),(17,.q0 (o:Int))] :=
   fun x hx=>⟨ae y.out - (c+1),aD,c+1,l,rfl,rfl,by rw[hx]⟩
  generalize hv:af y.out c 0=v at *;refine Z ?_;refine dK (oQ h b6 c0) ?_;cases C:y.cx v with
  | false =>
   refine Z ?_;simpa only[go_sem] using next _ (by rw[W];unfold lH;rw[hv,C];simp)
  | true =>
   obtain ⟨p3,q1,q2⟩:=(h.aN.cr (by omega)).read (i:=c+1) (fH (show c+1 < ae y.aN by omega));generalize V:af y.aN (c+1) ah=g at *;refine Z ?_;refine aG (fJ g) (by simp[aZ]) rfl ?_;have c1:(g.top.sign < 0)=(g.top < 0):=qP;by_cases J:g.top < 0
   .have c3:(g.top.sign < 0)=True:=by rw[c1];exact XO J
    by_cases b:y.dL c < 0
    .refine Z ?_;simpa only[go_sem] using next _ (by rw[W];unfold lH;rw[hv,C,V,W0 ⟨rfl,J,.inl b⟩])
    .obtain ⟨p4,r1,r2⟩:=h.out.cr.read (eR (show az (y.dL c) < ae y.out by omega));have a7:((az (y.dL c):Nat):Int)=y.dL c:=aD;rw[a7] at r1;by_cases h3:v < af y.out (az (y.dL c)) 0
     .refine Z ?_;simpa only[go_sem] using next _ (by rw[W];unfold lH;rw[hv,C,V,W0 ⟨rfl,J,.inr h3⟩])
     .refine Z ?_;simpa only[go_sem] using next _ (by rw[W];unfold lH;rw[hv,C,V,WX (fun X=>X.2.2.elim b h3)])
   .have c3:(g.top.sign < 0)=False:=by rw[c1];exact Xh J
    refine Z ?_;simpa only[go_sem] using next _ (by rw[W];unfold lH;rw[hv,C,V,WX (fun X=>J X.2.1)])
 .have a4:c=ae y.out:=aD;subst a4;by_cases c8:y.dL (ae y.out) < 0
  .refine Z ?_;have hr:y.iO = .inr (-1):=by unfold Tab.iO Tab.mw;rw[W0 c8]
   cases hd with
   | stop _ b=>rw[hr] at b;cases b;exact ⟨rfl,z,h,ho⟩
   | go _ b _=>rw[hr] at b;simp at b
  .obtain ⟨k,hk⟩:∃k:Nat,y.dL (ae y.out)=(k:Int):=⟨az (y.dL (ae y.out)),by omega⟩;have a5:k < ae y.out:=dp ((nI y (ae y.out)).2);have d8:∀K,fM z.vb K=K (.q0 (ae y.cells:Int)):=fun K=>by rw[h.aJ.cr.jn,W4,c6]
   have c5:∀K,bq (a++[ak ⟨4,0,[[.q0 0,.nil,.q0 0,.nil]]⟩]) t 0 K=K ⟨6,0,[[.q0 (y.n:Int),z.rv,z.vb,z.vo,z.vc,z.vg]]⟩:=aP (by rw[fI d2];exact h.bX);have d6:((k:Int) < 0)=False:=Xh aD;rw[hk];refine Z ?_;obtain ⟨H2,L⟩:∃H2,H2=a++[ak ⟨4,0,[[AV.q0 0,.nil,.q0 0,.nil]]⟩]:=⟨_,rfl⟩;rw[<-L];have c2:aT a H2 []:=by rw[L];exact aT.app _ _ _
   have a9:aH H2 (ae a) 0=ak ⟨4,0,[qC (y.df k 0).2]⟩:=by rw[L];exact bZ
   have b4:ae a < ae H2:=by rw[L];simp
   clear L c5;refine bE (fun m e A=>∃c,c<=ae y.cells/\m=ae y.cells - c/\aT a A []/\ae a < ae A/\aH A (ae a) 0=ak ⟨4,0,[qC (y.df k c).2]⟩ /\
    e=[(0,.ptr t 0 0 0),(3,.q0 (k:Int)),(6,.c (.int .i64 (y.df k c).1)),(7,.ptr (ae a) 0 0 0),(59,z.vb),(60,.q0 (ae y.cells:Int)),(61,.q0 (c:Int))]) (n:=ae y.cells)
    ⟨0,XE _,rfl,c2,b4,a9,rfl⟩ ?_;clear c2 a9 b4 hc b5;rintro m' _ A ⟨c,hc,rfl,kc,a0,hO,rfl⟩;have O:=h.aQ kc aK;have e0:=aP O.bX;by_cases b5:(c:Int) < (ae y.cells:Int)
   .have l:c < ae y.cells:=aD;obtain ⟨p,p1,p2⟩:=O.aJ.cr.read (eR (show c < ae y.aJ by omega));have W:=uX y k c;have ⟨c9,d0,d1⟩:=qy y k c;have e1:=ws c;have ek:=ws k;have next:∀(s:Int × Q) (G:aE),s=y.df k (c+1)->aT a G []->ae a < ae G->aH G (ae a) 0=ak ⟨4,0,[qC s.2]⟩->∃m,m < ae y.cells - c/\∃o,o<=ae y.cells/\m=ae y.cells - o/\aT a G []/\ae a < ae G/\aH G (ae a) 0=ak ⟨4,0,[qC (y.df k o).2]⟩ /\
      ([(0,.ptr t 0 0 0),(3,.q0 (k:Int)),(6,.q0 s.1),(7,.ptr (ae a) 0 0 0),(59,z.vb),(60,.q0 (ae y.cells:Int)),(61,.q0 ((c+1:Nat):Int))]:Env)=[(0,.ptr t 0 0 0),(3,.q0 (k:Int)),(6,.c (.int .i64 (y.df k o).1)),(7,.ptr (ae a) 0 0 0),(59,z.vb),(60,.q0 (ae y.cells:Int)),(61,.q0 (o:Int))] :=
     fun s G C J b h3=>⟨ae y.cells - (c+1),aD,c+1,l,rfl,J,b,by rw[<-C];exact h3,by rw[C]⟩
    have c7:(z.aX.map fun v=>[v])[c]?=ak [af z.aX c .aY]:=by simp[af,show c < ae z.aX by rw[h.cl];exact l]
    have ⟨p3,q1,q2,q3⟩:=O.cells.cr.sP c7;have d7:=I.row c l;have ⟨p4,r1,r2,r3⟩:=(O.rws c l).sP (i:=k+1) (fH aD);have ⟨p5,s1,s2,s3⟩:=(O.rws c l).sP (i:=0) (fH aD);have e7:∀(t:IntKind) (K:AV->Prop),kz 4 (af z.aX c .aY) (.c (.int t 0)) K=K p5:=s1;have d5:=I.kQ c l _ (cV (show k+1 < ae (af y.cells c []) by omega));have d3:=I.kQ c l _ (cV (show 0 < ae (af y.cells c []) by omega));have b8:=GI I a5 l;have b7:y.quot k c=(af (af y.cells c []) 0 ah).div (af (af y.cells c []) (k+1) ah).neg:=rfl;generalize hv:af y.aJ c 0=v at *;generalize hx:af (af y.cells c []) (k+1) ah=x at *;generalize e6:af (af y.cells c []) 0 ah=x0 at *;refine Z ?_;refine dK (oQ O b6 c0) ?_;cases C:y.cx v with
    | false =>
     refine Z1 e1 ?_;simpa only[go_sem] using next _ A (by rw[W];unfold jE;rw[hv,C];simp) kc a0 hO
    | true =>
     refine Z ?_;refine aG (fJ x) (by simp[aZ]) rfl ?_;by_cases E:x.top < 0
     .have a2:(0<=x.top.sign)=False:=Xh (dp (aaa.2 E));have a1:(ae A=t)=False:=Xh (dp (aU O.bX));refine Z ?_;have b3:=tV x0 x.neg (d3.mono aS) (d5.neg.mono aS) (by show -_≠0;omega);have b9:=b8 aD;rw[<-b7] at b3;clear b7 b8 s2;generalize hq:y.quot k c=q at *;refine aG (EM x) (by simp[aZ]) (aZ _) ?_;refine Z ?_;refine aG b3 (by simp[aZ]) (aZ _) ?_;have R:∀K,bq (A++[ak ⟨4,0,[qC q]⟩]) (ae a) 0 K=K ⟨4,0,[qC (y.df k c).2]⟩:=aP (by rw[fI a0];exact hO);have b0:∀K,bq (A++[ak ⟨4,0,[qC q]⟩]) t 0 K=K ⟨6,0,[[.q0 (y.n:Int),z.rv,z.vb,z.vo,z.vc,z.vg]]⟩:=aP (by rw[fI (aU O.bX)];exact O.bX);generalize e4:y.df k c=f at *;have kq:aT a (A++[ak ⟨4,0,[qC q]⟩]) []:=kc.trans (aT.app _ _ _);have tq:=h.aQ kq aK;have a6:ae a < ae (A++[ak (⟨4,0,[qC q]⟩:bC)]):=cE;have c4:aH (A++[ak ⟨4,0,[qC q]⟩]) (ae a) 0=ak ⟨4,0,[qC f.2]⟩:=by rw[fI a0];exact hO
      have kg:aT a (List.set (A++[ak (⟨4,0,[qC q]⟩:bC)]) (ae a) (ak ⟨4,0,[qC q]⟩)) []:=⟨by rw[Xa];exact kq.1,fun id J b w=>by rw[aW (by omega)];exact kq.2 id J b w⟩;have take:=fun (X:jE y k f c=((c:Int),q))=>next ((c:Int),q) _ (by rw[W,X]) kg (by rw[Xa];exact a6) (bz a6)
      have skip:=fun (X:jE y k f c=f)=>next f _ (by rw[W,X]) kq a6 c4
      simp only[go_sem] at take skip;by_cases M:f.1 < 0
      .have a3:(0<=f.1)=False:=Xh aD;refine Z8 a1 q3 r3 s3 M a3 R e1 ?_;exact take (by unfold jE;rw[hv,C,hx,W0 ⟨rfl,E⟩,W0 (.inl M),hq])
      .have a3:(0<=f.1)=True:=XO aD;have d4:QOk 200000 f.2:=by have ⟨g1,g2,g3⟩:=d1 aD;rw[g1];exact GI I a5 aD aD
       refine Z6 a1 q3 r3 s3 a3 R ?_;refine aG (Jv q f.2 (b9.mono aS) (d4.mono aS)) (by simp[aZ]) rfl ?_;have b1:((q.sub f.2).top.sign < 0)=((q.sub f.2).top < 0):=qP;have b2:((q.sub f.2).top.sign=0)=((q.sub f.2).top=0):=ll;by_cases N:(q.sub f.2).top < 0
       .have B:((q.sub f.2).top.sign < 0)=True:=by rw[b1];exact XO N
        refine Z4 M R e1 B ?_;exact take (by unfold jE;rw[hv,C,hx,W0 ⟨rfl,E⟩,hq,W0 (.inr (.inl N))])
       .have B:((q.sub f.2).top.sign < 0)=False:=by rw[b1];exact Xh N
        by_cases S:(q.sub f.2).top=0
        .have F:((q.sub f.2).top.sign=0)=True:=by rw[b2];exact XO S
         obtain ⟨p6,t1,t2⟩:=tq.aJ.cr.read (eR (show az f.1 < ae y.aJ by omega));have a7:((az f.1:Nat):Int)=f.1:=aD;rw[a7] at t1;by_cases U:v < af y.aJ (az f.1) 0
         .simp only[go_sem,↓reduceIte,WY,Xb,M,R,e1,B,F,b0,t1,t2,U];exact take (by unfold jE;rw[hv,C,hx,W0 ⟨rfl,E⟩,hq,W0 (.inr (.inr ⟨S,U⟩))])
         .refine Z8 M e1 B F b0 t1 t2 U ?_;exact skip (by unfold jE;rw[hv,C,hx,W0 ⟨rfl,E⟩,hq,WX (fun X=>X.elim M (fun X=>X.elim N (fun X=>U X.2)))])
        .have F:((q.sub f.2).top.sign=0)=False:=by rw[b2];exact Xh S
         refine Z4 M e1 B F ?_;exact skip (by unfold jE;rw[hv,C,hx,W0 ⟨rfl,E⟩,hq,WX (fun X=>X.elim M (fun X=>X.elim N (fun X=>S X.1)))])
     .have a2:=XO (by have J:=Int.sign_nonneg_iff.2 (show 0<=x.top by omega);exact J);refine Y2 a2 e1 ?_;simpa only[go_sem] using next _ A (by rw[W];unfold jE;rw[hv,C,hx,WX (fun X=>E X.2)]) kc a0 hO
   .have a4:c=ae y.cells:=aD;subst a4;by_cases M:(y.df k (ae y.cells)).1 < 0
    .refine Z ?_;have hr:y.iO = .inr (k:Int):=by unfold Tab.iO;rw[show y.mw=(k:Int) from hk,WX (by omega),Xd];unfold Tab.lv;rw[W0 M]
     cases hd with
     | stop _ b=>rw[hr] at b;cases b;exact ⟨rfl,z,O,ho.trans (bp.aQ kc)⟩
     | go _ b _=>rw[hr] at b;simp at b
    .refine Z ?_;have ⟨g1,g2,g3⟩:=qy y k (ae y.cells);obtain ⟨j,hj⟩:∃j:Nat,(y.df k (ae y.cells)).1=(j:Int):=⟨(y.df k (ae y.cells)).1.toNat,aD⟩;have hr:y.iO = .inl (y.cu j k):=by unfold Tab.iO;rw[show y.mw=(k:Int) from hk,WX (by omega),Xd];unfold Tab.lv;rw[WX M,hj,Xd]
     rw[hj] at g2 g3 ⊢;rw[Xd] at g3;have g4:=(g3 aD).2.1;refine dZ (rG O I (i:=j) (k:=k) aD a5 aD) ?_;rintro _ H5 ⟨rfl,D5,t5,o5⟩;refine Z ?_;cases hd with
     | stop _ b=>rw[hr] at b;simp at b
     | go _ b h3 =>
      rw[hr] at b;cases b;exact ⟨_,YD _,_,D5,h3,t5,(ho.trans (bp.aQ kc)).trans o5⟩
def qQ {k id ver i n h l:Nat} {e:Env} {lo x:Option Opd} {H:aE} {K:AV->Prop} (y:bM e n n x=ak h) (z:bM e h 0 lo=ak l):uA k e lo x (.sl k id ver i n) H K=K (.sl k id ver (i+l) (h - l)):=by
 unfold uA;have:lq e lo x an k (.sl k id ver i n)=ak (.sl k id ver (i+l) (h - l)):=by simp only[lq,Yj,y,z,Xr]
 rw[this];rfl
def Af {k id ver i n h l:Nat} {e:Env} {lo x:Option Opd} {H:aE} {xs:List (List AV)} {K:AV->Prop} (a:aH H id ver=ak ⟨k,ver,xs⟩) (y:bM e n n x=an) (z:bM e (ae xs - i) n x=ak h) (w:bM e h 0 lo=ak l) :
  uA k e lo x (.sl k id ver i n) H K=K (.sl k id ver (i+l) (h - l)):=by
 unfold uA;have:lq e lo x an k (.sl k id ver i n)=an:=by simp only[lq,Yj,y,Option.bind_none]
 rw[this];simp only[a,Xr,Yj,z,w];rfl
def uE {k id ver n i:Nat} {H:aE} {xs y:List (List AV)} {K:AV->aE->Prop} (w:aH H id ver=ak ⟨k,ver,xs++y⟩) (m:i < ae xs) (j:n=ae xs) :
  qS k (.sl k id ver 0 i) (.sl k id ver (i+1) (n - (i+1))) H K=K (.sl k id ver 0 (n - 1)) (H.set id (ak ⟨k,ver,aB xs i++(xs.drop (n - 1)++y)⟩)):=by
 subst j;have e:ik k H (.sl k id ver (i+1) (ae xs - (i+1)))=ak (xs.drop (i+1)):=by simp only[ik,w,Xr];rw[W0 ⟨trivial,trivial,by simp;omega⟩,aa9 (by omega),YP (by simp),Xq (by simp)]
 unfold qS;rw[e];simp only[Xr];have b:=aU w;have z:=(ct w).1;by_cases l:i+1=ae xs
 .have x:xs.drop (i+1)=[]:=Xo aD;rw[x];have a:aB xs i++(xs.drop (ae xs - 1)++y)=xs++y:=by rw[aa3,x,<-XC,Xz,show ae xs - 1=i by omega,aas]
  have f:H.set id (ak ⟨k,ver,xs++y⟩)=H:=by rw[W7 b] at z;have:H[id]=ak ⟨k,ver,xs++y⟩:=bk z;rw[<-this];simp
  have g:ae xs - 1=i:=aD;rw[a,f,g];rfl
 .have c:(xs.drop (i+1)).isEmpty=ar:=by
   cases h:xs.drop (i+1) with
   | nil=>have:=ZW ae h;simp at this;omega
   | cons _ _=>rfl
  have hv:hU k H (.sl k id ver 0 i) (xs.drop (i+1))=ak (.sl k id ver 0 (ae xs - 1),H.set id (ak ⟨k,ver,aB xs i++(xs.drop (ae xs - 1)++y)⟩)):=by unfold hU;rw[c];simp only[W3,YC,w,Xr];rw[WX (by simp;omega),W0 ⟨trivial,by simp;omega,trivial⟩];have a:i+ae (xs.drop (i+1))=ae xs - 1:=cE;rw[Xb,a,YP (by omega),aa9 (by omega),<-aa3]
  rw[hv];rfl
def Kl (a:AV) (z:List AV) (H:aE) (K:AV->aE->Prop):Prop:=bD (match a with
  | .nil=>ak (.aY,H)
  | .sl _ id ver i n=>(aH H id ver).bind fun ob=>if i+n<=ae ob.xs/\ae z=ob.k/\z.all bh=aq then
    ak (.aY,H.set id (ak ⟨ob.k,ver,ob.xs.take i++aA n z++ob.xs.drop (i+n)⟩)) else an
  | _=>an) fun v=>K v.1 v.2
@[go_sem] def U5:bW P h (.q9 x z) e H K=Kl (x.ev e) z H K:=jZ rfl rfl
def zJ {k id ver i n:Nat} {z:List AV} {H:aE} {xs h:List (List AV)} {x:List AV} {K:AV->aE->Prop} (a:aH H id ver=ak ⟨k,ver,xs++(x::h)⟩) (y:i=ae xs) (w:n=1) (b:ae z=k/\z.all bh=aq) :
  Kl (.sl k id ver i n) z H K=K .aY (H.set id (ak ⟨k,ver,xs++z::h⟩)):=by
 subst y w;unfold Kl;simp only[a,Xr];rw[W0 ⟨aK,b⟩];have:List.take (ae xs) (xs++x::h)++aA 1 z++List.drop (ae xs+1) (xs++x::h)=xs++z::h:=by rw[List.take_left,<-Ya,aar];simp
 rw[this];rfl
def vP {H:aE} {id ver n i:Nat} {xs y:List (List AV)} (c:aH H id ver=ak ⟨1,ver,xs++y⟩) (a:i < ae xs) (b:n=ae xs) (p:n < 1000000) :
  bK prog 158 [.sl 1 id ver 0 n,.q0 (i:Int),.q0 ((i+1:Nat):Int)] H (.sl 1 id ver 0 (n - 1)) (H.set id (ak ⟨1,ver,aB xs i++[.q0 0]::y⟩)):=by
 refine cw func158 ?_;have e:(0:Int)<=(n:Int):=aD;have f:(0:Int)<=(i:Int):=by omega
 have g:(0:Int)<=((i+1:Nat):Int):=by omega
 have j:((i+1:Nat):Int)<=(n:Int):=by omega
 have m:(i:Int)<=((i+1:Nat):Int):=by omega
 have o:((i:Int)=((i+1:Nat):Int))=False:=Xh (by omega);have z:=aU c;have k:xs.drop (n - 1)=[af xs (n - 1) []]:=by rw[XA (by omega)];simp[af,show n - 1 < ae xs by omega,show n - 1+1=ae xs by omega]
 have w:aH (H.set id (ak ⟨1,ver,aB xs i++(xs.drop (n - 1)++y)⟩)) id ver=ak ⟨1,ver,aB xs i++(af xs (n - 1) []::y)⟩:=by rw[bz z,k];rfl
 have x:ae (aB xs i)=n - 1:=by rw[Xt a,b]
 simp only[go_sem,↓reduceIte,Xb,Xd,e,f,g,j,m,o,Yn];rw[qQ (h:=i) (l:=0) (by simp[bM,Opd.ev,lk,intOf?];omega) (by simp[bM])];refine Z0 ?_;rw[qQ (h:=n) (l:=i+1) (by simp[bM]) (by simp[bM,Opd.ev,lk,intOf?];omega)];simp only[go_sem,↓reduceIte,Xb,abt];rw[uE c a b];refine Y ?_;rw[Af w (h:=n) (l:=n - 1) (by simp[bM,Opd.ev,lk,intOf?];omega) (by simp[bM,Opd.ev,lk,intOf?,x];omega) (by simp[bM,Opd.ev,lk,intOf?])];refine Z0 ?_;rw[zJ w (by rw[x]) aD ⟨rfl,rfl⟩];simp only[go_sem,↓reduceIte,abV];exact eH (Wk1.refl _)
def vQ {H:aE} {id ver n i:Nat} {xs y:List (List AV)} (c:aH H id ver=ak ⟨1,ver,xs++y⟩) (a:i < ae xs) (b:n=ae xs) (p:n < 1000000) :
  bK prog 159 [.sl 1 id ver 0 n,.q0 (i:Int),.q0 ((i+1:Nat):Int)] H (.sl 1 id ver 0 (n - 1)) (H.set id (ak ⟨1,ver,aB xs i++[.nil]::y⟩)):=by
 refine cw func159 ?_;have e:(0:Int)<=(n:Int):=aD;have f:(0:Int)<=(i:Int):=by omega
 have g:(0:Int)<=((i+1:Nat):Int):=by omega
 have j:((i+1:Nat):Int)<=(n:Int):=by omega
 have m:(i:Int)<=((i+1:Nat):Int):=by omega
 have o:((i:Int)=((i+1:Nat):Int))=False:=Xh (by omega);have z:=aU c;have k:xs.drop (n - 1)=[af xs (n - 1) []]:=by rw[XA (by omega)];simp[af,show n - 1 < ae xs by omega,show n - 1+1=ae xs by omega]
 have w:aH (H.set id (ak ⟨1,ver,aB xs i++(xs.drop (n - 1)++y)⟩)) id ver=ak ⟨1,ver,aB xs i++(af xs (n - 1) []::y)⟩:=by rw[bz z,k];rfl
 have x:ae (aB xs i)=n - 1:=by rw[Xt a,b]
 simp only[go_sem,↓reduceIte,Xb,Xd,e,f,g,j,m,o,Yn];rw[qQ (h:=i) (l:=0) (by simp[bM,Opd.ev,lk,intOf?];omega) (by simp[bM])];refine Z0 ?_;rw[qQ (h:=n) (l:=i+1) (by simp[bM]) (by simp[bM,Opd.ev,lk,intOf?];omega)];simp only[go_sem,↓reduceIte,Xb,abt];rw[uE c a b];refine Y ?_;rw[Af w (h:=n) (l:=n - 1) (by simp[bM,Opd.ev,lk,intOf?];omega) (by simp[bM,Opd.ev,lk,intOf?,x];omega) (by simp[bM,Opd.ev,lk,intOf?])];refine Z0 ?_;rw[zJ w (by rw[x]) aD ⟨rfl,rfl⟩];simp only[go_sem,↓reduceIte,abV];exact eH (Wk1.refl _)
def za {H:aE} {id ver n i:Nat} {xs y:List (List AV)} (c:aH H id ver=ak ⟨4,ver,xs++y⟩) (a:i < ae xs) (b:n=ae xs) (p:n < 1000000) :
  bK prog 163 [.sl 4 id ver 0 n,.q0 (i:Int),.q0 ((i+1:Nat):Int)] H (.sl 4 id ver 0 (n - 1)) (H.set id (ak ⟨4,ver,aB xs i++[.q0 0,.nil,.q0 0,.nil]::y⟩)):=by
 refine cw func163 ?_;have e:(0:Int)<=(n:Int):=aD;have f:(0:Int)<=(i:Int):=by omega
 have g:(0:Int)<=((i+1:Nat):Int):=by omega
 have j:((i+1:Nat):Int)<=(n:Int):=by omega
 have m:(i:Int)<=((i+1:Nat):Int):=by omega
 have o:((i:Int)=((i+1:Nat):Int))=False:=Xh (by omega);have z:=aU c;have k:xs.drop (n - 1)=[af xs (n - 1) []]:=by rw[XA (by omega)];simp[af,show n - 1 < ae xs by omega,show n - 1+1=ae xs by omega]
 have w:aH (H.set id (ak ⟨4,ver,aB xs i++(xs.drop (n - 1)++y)⟩)) id ver=ak ⟨4,ver,aB xs i++(af xs (n - 1) []::y)⟩:=by rw[bz z,k];rfl
 have x:ae (aB xs i)=n - 1:=by rw[Xt a,b]
 simp only[go_sem,↓reduceIte,Xb,Xd,e,f,g,j,m,o,Yn];rw[qQ (h:=i) (l:=0) (by simp[bM,Opd.ev,lk,intOf?];omega) (by simp[bM])];refine Z0 ?_;rw[qQ (h:=n) (l:=i+1) (by simp[bM]) (by simp[bM,Opd.ev,lk,intOf?];omega)];simp only[go_sem,↓reduceIte,Xb,abt];rw[uE c a b];refine Y ?_;rw[Af w (h:=n) (l:=n - 1) (by simp[bM,Opd.ev,lk,intOf?];omega) (by simp[bM,Opd.ev,lk,intOf?,x];omega) (by simp[bM,Opd.ev,lk,intOf?])];refine Z0 ?_;rw[zJ w (by rw[x]) aD ⟨rfl,rfl⟩];simp only[go_sem,↓reduceIte,abV];exact eH (Wk1.refl _)
def eA:List Int->(Int->Bool)->Int
 | [],_ => -1
 | a::r,g=>if g a=aq then 0 else if eA r g < 0 then -1 else eA r g+1
def uQ (l:List Int) (g:Int->Bool):-1<=eA l g/\eA l g < ae l:=by
 induction l with
 | nil=>simp[eA]
 | cons a r h =>
  simp only[eA,XG];split
  .omega
  .split<;>omega
def FZ {l:List Int} {g:Int->Bool} {j:Nat} (y:j < ae l) (h:g (af l j 0)=aq) (x:∀i,i < j->g (af l i 0)=ar):eA l g=j:=by
 induction l generalizing j with
 | nil=>simp at y
 | cons a r z =>
  cases j with
  | zero=>simp at h;simp[eA,h]
  | succ j =>
   have k:=x 0 aD;simp at k h y;have:=z (j:=j) aD (by simpa[af] using h) (fun i w=>by have:=x (i+1) aD;simpa using this);simp only[eA];rw[WX (by simp[k]),this,WX aD];omega
def HD (k:∀i,i < ae l->g (af l i 0)=ar):eA l g = -1:=by
 induction l with
 | nil=>rfl
 | cons a r y =>
  have h:=k 0 aK;simp at h;simp only[eA];rw[WX (by simp[h]),y (fun i x=>by have:=k (i+1) (by simpa using x);simpa using this)];rfl
def AH (h:0<=eA l g):g (af l (az (eA l g)) 0)=aq/\∀i,i < az (eA l g)->g (af l i 0)=ar:=by
 induction l with
 | nil=>simp[eA] at h
 | cons a r b =>
  simp only[eA] at h ⊢;split
  .rename_i k;exact ⟨bk k,fun i y=>by simp at y⟩
  .rename_i k;rw[WX k] at h;split
   .rename_i x;rw[W0 x] at h;omega
   .rename_i x;have ⟨z,w⟩:=b aD;have e:az (eA r g+1)=az (eA r g)+1:=aD;rw[e];refine ⟨bk z,fun i y=>?_⟩;cases i with
    | zero=>simpa using k
    | succ i=>simpa using w i aD
def xy {H:aE} {v:AV} {l:List Int} {f:FuncId} {caps:List AV} {g:Int->Bool} (h:SlV H 1 v (l.map ec)) (X:ae l < 1000000)
  (j:∀x,x∈l->bK prog f (.q0 x::caps) H (.v0 (g x)) H):bK prog 153 [v,.fn f [] caps] H (.q0 (eA l g)) H:=by
 refine cw func153 ?_;have s:∀K,fM v K=K (.q0 (ae l:Int)):=fun K=>by rw[h.jn,W4]
 refine Z ?_;refine bE (fun n e b=>∃c,c<=ae l/\n=ae l - c/\H=b/\(∀i,i < c->g (af l i 0)=ar) /\
  e=[(0,v),(1,.fn f [] caps),(7,.q0 (ae l:Int)),(8,.q0 (c:Int))]) (n:=ae l) ⟨0,XE _,rfl,rfl,fun i m=>aD,rfl⟩ ?_;rintro n _ _ ⟨c,t,rfl,rfl,y,rfl⟩;by_cases o:(c:Int) < (ae l:Int)
 .have k:c < ae l:=aD;have ⟨p,W,A⟩:=h.read (eR k);have r:=ws c;have q:af l c 0∈l:=by
   have:af l c 0=l[c]:=by simp[af,k]
   rw[this];exact YN k
  refine Z ?_;refine dK (j _ q) ?_;cases a:g (af l c 0) with
  | true =>
   refine Z ?_;rw[FZ k a y];exact eH (Wk1.refl _)
  | false =>
   refine Z ?_;refine ⟨ae l - (c+1),aD,c+1,k,rfl,?_,rfl⟩;intro i m;rcases Xe i c with w | w
   .exact y i w
   .rw[show i=c by omega];exact a
 .have z:c=ae l:=aD;subst z;refine Z ?_;rw[HD y];exact eH (Wk1.refl _)
def Tab.dB (T:Tab) (k:Nat) (c:Nat):Int:=(aC c).foldl (fun b i=>if 0<=b then b else if T.cx (af T.aJ i 0)=aq/\(af (af T.cells i []) (k+1) ah).top≠0 then (i:Int) else b) (-1)
def Tab.k7 (T:Tab) (k:Nat):Tab:=if (T.n:Int)<=af T.out k 0 then T else if T.dB k (ae T.cells) < 0 then T else T.cu (az (T.dB k (ae T.cells))) k
def Tab.cU (T:Tab) (c:Nat):Tab:=(aC c).foldl Tab.k7 T
def Tab.qo (T:Tab):Tab:=T.cU (ae T.out)
def rk (T:Tab) (k c:Nat):T.dB k (c+1)=if 0<=T.dB k c then T.dB k c else if T.cx (af T.aJ c 0)=aq/\(af (af T.cells c []) (k+1) ah).top≠0 then (c:Int) else T.dB k c:=by unfold Tab.dB;rw[Yr,Zo];rfl
def pV (T:Tab) (c:Nat):T.cU (c+1)=(T.cU c).k7 c:=by unfold Tab.cU;rw[Yr,Zo];rfl
def Ei {T:Tab} {k c d:Nat} (h:0<=T.dB k c):T.dB k (c+d)=T.dB k c:=by
 induction d with
 | zero=>rfl
 | succ d x=>rw[<-XY,rk,x,W0 h]
def iu (T:Tab) (i k:Nat):(T.cu i k).out.length=ae T.out:=by simp[Tab.cu]
def xn (T:Tab) (c:Nat):(T.cU c).out.length=ae T.out:=by
 induction c with
 | zero=>rfl
 | succ c h =>
  rw[pV];unfold Tab.k7;split
  .exact h
  .split
   .exact h
   .rw[iu];exact h
def Ek (s:∀c,eg (T.cU c)) (h:bG H t D T) :
  cF prog 128 [.ptr t 0 0 0] H fun v V=>v = .bI []/\∃D',bG V t D' T.qo/\bp H V t D D':=by
 refine qw func128 ?_;have hT:=aP h.bX;have I:∀K,fM D.vo K=K (.q0 (ae T.out:Int)):=fun K=>by rw[h.out.cr.jn,W4]
 refine Z ?_;refine bE (fun n e B=>∃c z,c<=ae T.out/\n=ae T.out - c/\bG B t z (T.cU c)/\bp H B t D z /\
  e=[(0,.ptr t 0 0 0),(9,.q0 (ae T.out:Int)),(10,.q0 (c:Int))]) (n:=ae T.out) ⟨0,D,XE _,rfl,h,bp.refl _ _ _,rfl⟩ ?_;clear h hT I;have X:=(s 0).wl;rintro n _ A ⟨c,z,hc,rfl,h,C,rfl⟩;have jD:=xn T c;have U:=pV T c;have o:=s c;generalize J:T.cU c=y at *;have X:ae T.out < 999999:=X;have R:=o.nl;have S:=o.rl;have L:=o.bl;have a4:=o.ml;have hT:∀K,bq A t 0 K=K ⟨6,0,[[.q0 (y.n:Int),z.rv,z.vb,z.vo,z.vc,z.vg]]⟩:=aP h.bX;have a1:∀K,fM z.vb K=K (.q0 (ae y.cells:Int)):=fun K=>by rw[h.aJ.cr.jn,W4,L]
 by_cases a3:(c:Int) < (ae T.out:Int)
 .have r:c < ae y.out:=aD;have ⟨p,p1,p2⟩:=h.out.cr.read (eR r);have e1:=ws c;have next:∀(G:aE) (W:ba) (E:Tab),E=y.k7 c->bG G t W E->bp H G t D W->∃m,m < ae T.out - c/\∃f z,f<=ae T.out/\m=ae T.out - f/\bG G t z (T.cU f)/\bp H G t D z /\
    ([(0,.ptr t 0 0 0),(9,.q0 (ae T.out:Int)),(10,.q0 ((c+1:Nat):Int))]:Env)=[(0,.ptr t 0 0 0),(9,.q0 (ae T.out:Int)),(10,.q0 (f:Int))] :=
   fun G W E q F h3=>⟨ae T.out - (c+1),aD,c+1,W,aD,rfl,by rw[U,<-q];exact F,h3,rfl⟩
  by_cases hv:(y.n:Int)<=af y.out c 0
  .refine Z ?_;exact next _ z _ (by unfold Tab.k7;rw[W0 hv]) h C
  .refine Z ?_;refine bE (fun m e B=>∃i,i<=ae y.cells/\m=ae y.cells - i/\A=B/\y.dB c i < 0 /\
    e=[(0,.ptr t 0 0 0),(2,.q0 (c:Int)),(9,.q0 (ae T.out:Int)),(10,.q0 (c:Int)),(28,z.vb),(29,.q0 (ae y.cells:Int)),(30,.q0 (i:Int))]) (n:=ae y.cells)
    ⟨0,XE _,rfl,rfl,by simp[Tab.dB],rfl⟩ ?_;rintro m _ _ ⟨i,hi,rfl,rfl,hf,rfl⟩;by_cases a2:(i:Int) < (ae y.cells:Int)
   .have a:i < ae y.cells:=aD;obtain ⟨p3,q1,q2⟩:=h.aJ.cr.read (eR (show i < ae y.aJ by omega));have e2:=ws i;have g:=rk y c i;rw[WX (by omega)] at g;have w:y.dB c (i+1) < 0->∃m,m < ae y.cells - i/\∃j,j<=ae y.cells/\m=ae y.cells - j/\A=A/\y.dB c j < 0 /\
      ([(0,.ptr t 0 0 0),(2,.q0 (c:Int)),(9,.q0 (ae T.out:Int)),(10,.q0 (c:Int)),(28,z.vb),(29,.q0 (ae y.cells:Int)),(30,.q0 ((i+1:Nat):Int))]:Env) =
      [(0,.ptr t 0 0 0),(2,.q0 (c:Int)),(9,.q0 (ae T.out:Int)),(10,.q0 (c:Int)),(28,z.vb),(29,.q0 (ae y.cells:Int)),(30,.q0 (j:Int))] :=
     fun q=>⟨ae y.cells - (i+1),aD,i+1,a,rfl,rfl,q,rfl⟩;simp only[go_sem] at w;refine Z ?_;refine dK (oQ h R S) ?_;cases hs:y.cx (af y.aJ i 0) with
    | false =>
     refine Z1 e2 ?_;exact w (by rw[g,hs];simp;omega)
    | true =>
     have ek:=e1;have N:(z.aX.map fun v=>[v])[i]?=ak [af z.aX i .aY]:=by simp[af,show i < ae z.aX by rw[h.cl];exact a]
     have ⟨p4,r1,r2⟩:=h.cells.cr.read N;have a0:=o.row i a;have ⟨p5,s1,s2⟩:=(h.rws i a).read (i:=c+1) (fH aD);generalize hx:af (af y.cells i []) (c+1) ah=x at *;refine Z ?_;refine aG (fJ x) (by simp[aZ]) rfl ?_;by_cases b:x.top=0
     .have l:(x.top.sign=0)=True:=by rw[ll];exact XO b
      refine Z2 l e2 ?_;exact w (by rw[g,b];simp;omega)
     .have l:(x.top.sign=0)=False:=by rw[ll];exact Xh b
      refine Z ?_;refine dZ (rG h o (i:=i) (k:=c) a r (by rw[hx];exact b)) ?_;rintro _ H5 ⟨rfl,D5,t5,o5⟩;refine Z ?_;refine next _ D5 _ ?_ t5 (C.trans o5)
      have q:y.dB c (i+1)=i:=by rw[g,hs];simp[b]
      have F:y.dB c (ae y.cells)=i:=by have:=Ei (T:=y) (k:=c) (c:=i+1) (d:=ae y.cells - (i+1)) aD;rw[show i+1+(ae y.cells - (i+1))=ae y.cells by omega] at this;rw[this,q]
      unfold Tab.k7;rw[WX hv,F,WX (by omega),Xd]
   .have O:i=ae y.cells:=aD;subst O;refine Z ?_;exact next _ z _ (by unfold Tab.k7;rw[WX hv,W0 hf]) h C
 .have M:c=ae T.out:=aD;subst M;refine Z ?_;exact ⟨z,by unfold Tab.qo;rw[J];exact h,C⟩
def hZ (h:bK P f args H r H) (k:K r H):jy P .aR f args H K:=⟨r,h,k⟩
def lf {α γ:Type} {f:α->γ} {l:List α} {i:Nat}:aB (l.map f) i=(aB l i).map f:=by apply ZF;intro j;simp only[abD,Ys];split<;>rfl
def Tab.gy (T:Tab) (i:Nat) (v:Int):Bool:=decide (v < (T.n:Int)) && !decide ((af (af T.cells i []) (az (cg T.out v+1)) ah).top=0)
def Tab.qn (T:Tab) (i:Nat):Int:=eA T.out (T.gy i)
def IT {i:Nat} (h:bG H t D T) (l:eg T) (m:aH H x 0=ak ⟨1,0,[[.ptr t 0 0 0]]⟩) (q:aH H b 0=ak ⟨1,0,[[.q0 (i:Int)]]⟩) (a:i < ae T.cells) (v:Int) :
  bK prog 154 [.q0 v,.ptr x 0 0 0,.ptr b 0 0 0] H (.v0 (T.gy i v)) H:=by
 refine cw func154 ?_;have c:=aP h.bX;have p:=aP q;have e:=aP m;have r:=l.wl;by_cases hv:v < (T.n:Int)
 .have w:(D.aX.map fun v=>[v])[i]?=ak [af D.aX i .aY]:=by simp[af,show i < ae D.aX by rw[h.cl];exact a]
  have ⟨C,s,K⟩:=h.cells.cr.read w;have ⟨A,B⟩:=nf T.out v;have g:=l.row i a;obtain ⟨j,f⟩:∃j:Nat,cg T.out v+1=(j:Int):=⟨az (cg T.out v+1),aD⟩;have o:au .i64 (cg T.out v+1)=(j:Int):=by rw[wrap_i64 aD aD];exact f
  have ⟨E,X,W⟩:=(h.rws i a).read (i:=j) (fH aD);have z:T.gy i v = !decide ((af (af T.cells i []) j ah).top=0):=by unfold Tab.gy;rw[f,Xd];simp[hv]
  generalize m:af (af T.cells i []) j ah=x at *;refine Z6 e c hv p s K ?_;refine hZ (oI h.out.cr aD) ?_;refine Z3 o X W ?_;refine aG (fJ x) (by simp[aZ]) rfl ?_;by_cases y:x.top=0
  .have k:(x.top.sign=0)=True:=by rw[ll];exact XO y
   refine Z1 k ?_;rw[z,y];exact eH (Wk1.refl _)
  .have k:(x.top.sign=0)=False:=by rw[ll];exact Xh y
   refine Z1 k ?_;have:T.gy i v=aq:=by rw[z];simp[y]
   rw[this];exact eH (Wk1.refl _)
 .refine Z3 e c hv ?_;have:T.gy i v=ar:=by unfold Tab.gy;simp[hv]
  rw[this];exact eH (Wk1.refl _)
def Slot.sk (i:Nat):Slot->Slot
 | .r j => .r (if j < i then j else j+1)
 | s=>s
def Slot.xS {i:Nat} {s s':Slot} (h:s.sk i=s'.sk i):s=s':=by cases s<;>cases s'<;>simp only[Slot.sk,Slot.r.injEq,reduceCtorEq] at h ⊢;split at h<;>split at h<;>omega
def Tab.del (T:Tab) (i:Nat):Tab:={T with aJ:=aB T.aJ i,cells:=aB T.cells i}
def getD_erase {α:Type} {l:List α} {i j:Nat} {d:α}:af (aB l i) j d=if j < i then af l j d else af l (j+1) d:=by simp only[af,abD];split<;>rfl
def bG.Ot (h:bG H t D T) (m:i < ae T.cells) (G:ae T.aJ=ae T.cells)
  (A:D.vb = .sl 1 y k 0 (ae T.aJ)) (B:D.vc = .sl 1 z cver 0 (ae T.cells))
  (J:aH l t 0=ak ⟨6,0,[[.q0 (T.n:Int),D.rv,.sl 1 y k 0 (ae T.aJ - 1),D.vo,.sl 1 z cver 0 (ae T.cells - 1),D.vg]]⟩)
  (p:aH l y k=ak ⟨1,k,aB (T.aJ.map ec) i++N::X⟩) (q:aH l z cver=ak ⟨1,cver,aB (D.aX.map fun v=>[v]) i++O::W⟩) (f:aT H l [t,y,z]) :
  bG l t {D with vb := .sl 1 y k 0 (ae T.aJ - 1),vc := .sl 1 z cver 0 (ae T.cells - 1),aX:=aB D.aX i} (T.del i):=by
 have L:y∈aF (D.v .b):=by simp only[ba.v,A];simp[aF]
 have M:z∈aF (D.v .c):=by simp only[ba.v,B];simp[aF]
 have a:=h.cl;have bU:∀s,s ≠ .b->s ≠ .c->∀w,w∈aF (D.v s)->w∉[t,y,z]:=by
  intro s E F w x C;simp at C;rcases C with rfl | rfl | rfl
  .exact h.top s x
  .exact h.sep s .b E _ x L
  .exact h.sep s .c F _ x M
 have hv:∀s,aF (({D with vb := .sl 1 y k 0 (ae T.aJ - 1),vc := .sl 1 z cver 0 (ae T.cells - 1),aX:=aB D.aX i}:ba).v s)=aF (D.v (s.sk i)):=by
  intro s;cases s with
  | b=>simp only[ba.v,A,Slot.sk];rfl
  | o=>rfl
  | c=>simp only[ba.v,B,Slot.sk];rfl
  | g=>rfl
  | r j=>simp only[ba.v,getD_erase,Slot.sk];split<;>rfl
 refine ⟨J,h.aI.aQ f (fun w x=>by rw[h.iv] at x;simp at x),h.iv,.inr ⟨y,k,?_,N::X,?_⟩,h.out.aQ f (bU .o aK aK),.inr ⟨z,cver,?_,O::W,?_⟩,?_,fun j e=>?_,h.aN.aQ f (bU .g aK aK),⟨fun j e=>?_,h.live.2⟩,fun s=>?_,fun s R K w x=>?_⟩
 .simp only[Tab.del,W4,Xt (show i < ae T.aJ by omega)]
 .simp only[Tab.del];rw[<-lf];exact p
 .simp only[W4,Xt (show i < ae D.aX by omega),a]
 .simp only;rw[<-lf];exact q
 .simp only[Tab.del];rw[Xt (by omega),Xt m,a]
 .simp only[Tab.del] at e ⊢;rw[Xt m] at e;rw[getD_erase,getD_erase];split
  .exact (h.rws j aD).aQ f (bU (.r j) aK aK)
  .exact (h.rws (j+1) aD).aQ f (bU (.r (j+1)) aK aK)
 .simp only[Tab.del] at e ⊢;rw[Xt m] at e;rw[getD_erase,getD_erase];split
  .exact h.live.1 j aD
  .exact h.live.1 (j+1) aD
 .rw[hv];exact h.top _
 .rw[hv] at x ⊢;exact h.sep _ _ (fun I=>K (Slot.xS I)) w x
end
section
variable {P:Program}
def BO (h:b8 a=aq):fP a=aq:=by cases a<;>first | exact h | (simp[b8] at h;done) | (simp[b8] at h;simp[fP,h])
structure Fm where
 c:List Int
 a:Int
abbrev fC (f:Fm):List AV:=[iz f.c,.q0 f.a]
def GX (h:Wk0 a b):WkL (pre++a::post) (pre++b::post):=by
 induction pre with
 | nil=>exact .cons h (FC post)
 | cons x l k=>exact .cons (.refl x) k
def Acc.HC {n0:Nat} {H:aE} {k:Nat} {v:AV} {xs:List (List AV)} {pre post:List AV} (h:Acc n0 H k v xs) (n:xs.all (fun x=>x.all b8)=aq) (g:pre.all b8=aq) (i:post.all b8=aq):Fin 0 (.agg (pre++v::post)) H (.agg (pre ++ .seq k ar xs::post)) []:=by
 have f:∀l:List AV,l.all b8=aq->l.all (ck 0)=aq:=fun l y=>by rw[W6] at y ⊢;exact fun a b=>M1 (y a b) 0
 have c:∀w,ck 0 w=aq->jR 0 (.agg (pre++w::post))=aq:=fun w o=>by show (pre++w::post).all (ck 0)=aq;rw[Ze,Yu,f _ g,f _ i,o];rfl
 cases h with
 | nil=>exact oD (.agg (GX (.HL k))) (c _ rfl)
 | sq=>exact oD (.agg (GX (.full k xs))) (c _ rfl)
 | sl p m =>
  refine qJ m n ?_;rename_i z ver;have e:∀l:List AV,l.all b8=aq->l.map (fX z ver k xs)=l:=fun l y=>by rw[W6] at y;exact (YE fun a b=>Nd (y a b)).trans (List.map_id' _)
  have j:fX z ver k xs (AV.sl k z ver 0 (ae xs)) = .seq k ar xs:=by simp[fX]
  show Fin 0 (.agg ((pre++AV.sl k z ver 0 (ae xs)::post).map (fX z ver k xs))) _ _ _;rw[Xu,e _ g,XD,e _ i,j];exact iZ (c _ rfl)
def Acc.nW {n0 k b:Nat} {H:aE} {v:AV} {xs:List (List AV)} {o:Option bC} (h:Acc n0 H k v xs) (a:b < n0):Acc n0 (H.set b o) k v xs :=
 h.aQ (ids:=[b]) ⟨aK,fun j _ y w=>by simp at y;exact aW (Xg y)⟩ (fun z x=>by have:=(h.ge z x).1;simp;omega)
def JY {l:List Int} {i:Nat} (h:i < ae l):l.take (i+1)=l.take i++[af l i 0]:=by rw[XW h];simp[af,h]
abbrev I64 (n:Int):Prop := -9223372036854775808<=n/\n < 9223372036854775808
def qh (x:Int):Bool:=decide (-1152921504606846976<=x/\x<=1152921504606846976)
def Fm.jd (n:Int) (f:Fm):Bool:=decide (0<=n/\n<=8/\(ae f.c:Int)=n)&&(qh f.a&&f.c.all qh)
def Kw {p:Int->Bool} {l:List Int} {i:Nat} (h:i < ae l) (k:∀j,j < i->p (af l j 0)=aq) (x:p (af l i 0)=aq):∀j,j < i+1->p (af l j 0)=aq:=fun j y=>by
 rcases Xe j i with h | h
 .exact k j h
 .rw[show j=i by omega];exact x
def Kv {p:Int->Bool} {l:List Int} (k:∀j,j < ae l->p (af l j 0)=aq):l.all p=aq:=by rw[W6];intro x y;obtain ⟨j,h,rfl⟩:=Yz.1 y;have:=k j h;simpa[af,h] using this
def MK {p:Int->Bool} {l:List Int} {i:Nat} (h:i < ae l) (k:p (af l i 0)=ar):l.all p=ar:=by rw[Ye];exact ⟨af l i 0,by rw[af,W7 h];exact YN _,by rw[k];decide⟩
structure Cd where
 f:Fm
 e:Bool
abbrev cC (c:Cd):List AV:=[iz c.f.c,.q0 c.f.a,.v0 c.e]
instance:Inhabited Cd:=⟨⟨⟨[],0⟩,ar⟩⟩
structure FmI (f:Fm):Prop where
 len:f.c.length < 1000000000
 c:∀x,x∈f.c->I64 x
 a:I64 f.a
def By {α:Type} {g:α->List AV} {l:List α} {i:Nat} {d:α} (h:i < ae l):(l.take (i+1)).map g=(l.take i).map g++[g (af l i d)]:=by rw[XW h,Xu];simp[af,h]
def jw (n:Int) (l:List Cd):Bool:=decide (0<=n/\n<=8/\ae l<=120)&&l.all fun c=>c.f.jd n
structure Ln where
 name:Int
 add:Rat
 c:List Rat
instance:Inhabited Ln:=⟨⟨0,0,[]⟩⟩
def Jo:aH (H++l) (ae H+j) v=aH l j v:=by unfold aH;rw[Xk aD,aae]
structure Pl where
 n:Int
 l:List Cd
instance:Inhabited Pl:=⟨⟨0,[]⟩⟩
abbrev Bg (p:Pl):List AV:=[.q0 p.n,.seq 3 ar (p.l.map cC)]
def Pl.fE (most:Int) (p:Pl):Bool := !(decide (most < (ae p.l:Int))&&decide ((ae p.l:Int)<=120) || decide (140 < (ae p.l:Int)))&&p.l.all fun c=>decide ((ae c.f.c:Int)<=40)
def bS {α:Type} {l:List α} {i:Nat} {d:α} (h:i < ae l):af l i d∈l:=by rw[af,W7 h];exact YN _
def gW {α:Type} {p:α->Bool} {l:List α} {d:α} (k:∀j,j < ae l->p (af l j d)=aq):l.all p=aq:=by rw[W6];intro x y;obtain ⟨j,h,rfl⟩:=Yz.1 y;have:=k j h;simpa[af,h] using this
structure As where
 kind:Int
 f:Fm
 low:Int
structure Lc where
 inv:Pl
 eb:Pl
structure Jp where
 cQ:Int
 to:Int
 label:Int
 guard:Pl
 de:List As
structure Zn where
 loc:Int
 set:Pl
structure Au where
 bt:Int
 aL:List Lc
 aM:List Jp
 init:List Zn
instance:Inhabited Fm:=⟨⟨[],0⟩⟩
instance:Inhabited As:=⟨⟨0,⟨[],0⟩,0⟩⟩
instance:Inhabited Lc:=⟨⟨ah,ah⟩⟩
instance:Inhabited Jp:=⟨⟨0,0,0,ah,[]⟩⟩
instance:Inhabited Zn:=⟨⟨0,ah⟩⟩
abbrev mr (x:As):List AV:=[.q0 x.kind,iz x.f.c,.q0 x.f.a,.q0 x.low]
abbrev kP (x:Lc):List AV:=[.q0 x.inv.n,.seq 3 ar (x.inv.l.map cC),.q0 x.eb.n,.seq 3 ar (x.eb.l.map cC)]
abbrev fQ (x:Jp):List AV:=[.q0 x.cQ,.q0 x.to,.q0 x.label,.q0 x.guard.n,.seq 3 ar (x.guard.l.map cC),.seq 4 ar (x.de.map mr)]
abbrev jx (x:Zn):List AV:=[.q0 x.loc,.q0 x.set.n,.seq 3 ar (x.set.l.map cC)]
abbrev e9 (x:Au):List AV:=[.q0 x.bt,.seq 4 ar (x.aL.map kP),.seq 6 ar (x.aM.map fQ),.seq 3 ar (x.init.map jx)]
def tj (l:List Int) (i:Nat):Bool:=decide (1<=af l i 0/\af l i 0<=20/\(i=0\/af l (i - 1) 0 < af l i 0))
def sF (l:List Int):Bool:=(aC (ae l)).all (tj l)
def Nj (h:∀j,j < ae l->tj l j=aq):sF l=aq:=by unfold sF;rw[W6];intro j k;exact h j (bk k)
def Gn (k:j < ae l) (h:tj l j=ar):sF l=ar:=by unfold sF;rw[Ye];exact ⟨j,bk k,by rw[h];decide⟩
def Acc.Od {n0:Nat} {H:aE} {k:Nat} {v:AV} {xs ys:List (List AV)} (h:Acc n0 H k v xs) (l:n0<=ae H) (i:ae xs+ae ys < 4000000000) :
  ∃y a,(∀K,c6 k v ys H K=K y a)/\Acc n0 a k y (xs++ys)/\aT H a (aF v)/\bh y=aq/\y.cells=[y]/\eC y=aq:=by
 have b:=h.cell;cases ys with
 | nil =>
  refine ⟨v,H,fun K=>?_,by rw[Xz];exact h,aT.refl _ _,b⟩;cases h<;>rfl
 | cons z x =>
  cases h with
  | nil =>
   refine ⟨.sl k (ae H) 0 0 (ae (z::x)),H++[ak ⟨k,0,z::x⟩],fun K=>?_,Acc.sl (xs:=z::x) l bZ,aT.app _ _ _,rfl,rfl,rfl⟩;show bD (if ae (z::x)<=4294967296 then ak (AV.sl k (ae H) 0 0 (ae (z::x)),H++[ak ⟨k,0,z::x⟩]) else an) _=_;rw[W0 (by simp at i ⊢;omega)];rfl
  | sq =>
   have e:ae xs+ae (z::x)=ae (xs++z::x):=aK;refine ⟨.sl k (ae H) 0 0 (ae (xs++z::x)),H++[ak ⟨k,0,xs++z::x⟩],fun K=>?_,Acc.sl l bZ,aT.app _ _ _,rfl,rfl,rfl⟩;show bD (if k=k/\ae xs+ae (z::x)<=4294967296 then ak (AV.sl k (ae H) 0 0 (ae xs+ae (z::x)),H++[ak ⟨k,0,xs++z::x⟩]) else an) _=_;rw[W0 ⟨rfl,aD⟩,e];rfl
  | sl n f =>
   rename_i m ver;have c:=aU f;refine ⟨.sl k m (ver+1) 0 (ae (xs++z::x)),H.set m (ak ⟨k,ver+1,xs++z::x⟩),fun K=>?_,Acc.sl n (bz c),⟨aK,fun j _ g w=>by simp[aF] at g;exact aW (Xg g)⟩,rfl,rfl,rfl⟩;have e:ae xs+ae (z::x)=ae (xs++z::x):=aK;rw[qX f aK];refine propext ⟨fun h=>?_,fun h=>⟨rfl,by simp at i ⊢;omega,?_⟩⟩
   .have:=h.2.2;simpa using this
   .simpa using h
def Acc.mk {n0 k n:Nat} {H:aE} {xs:List (List AV)} (x:n=ae xs) (h:n0<=ae H):Acc n0 (H++[ak ⟨k,0,xs⟩]) k (.sl k (ae H) 0 0 n) xs:=by subst x;exact .sl h bZ
def GZ (k:Nat) (z:List AV) (a n:AV) (H:aE) (K:AV->aE->Prop):Prop:=bD (match n with
  | .c (.int .i64 m)=>if 0<=m/\m<=4294967296/\ae z=k/\z.all bh=aq then hU k H a (aA (az m) z) else an
  | _=>an) fun v=>K v.1 v.2
def TM:bW P h (.mM x y k z) e H K=GZ k z (x.ev e) (y.ev e) H K:=jZ rfl rfl
def SO:GZ k z a (.q0 m) H K=((0<=m/\m<=4294967296/\ae z=k/\z.all bh=aq)/\c6 k a (aA (az m) z) H K):=by
 unfold GZ c6;show bD (if 0<=m/\m<=4294967296/\ae z=k/\z.all bh=aq then _ else _) _=_;by_cases h:0<=m/\m<=4294967296/\ae z=k/\z.all bh=aq
 .rw[W0 h];exact propext ⟨fun g=>⟨h,g⟩,fun g=>g.2⟩
 .rw[WX h];exact propext ⟨fun g=>g.elim,fun g=>(h g.1).elim⟩
attribute [go_sem] TM SO
def Fm.wide (f:Fm) (b a:Nat):Fm:=⟨aA b 0++f.c++aA a 0,f.a⟩
end
section
variable {P:Program} {α:Type}
def wI (w:World):Imm:=fun b o=>w.cell? ⟨b,o,an⟩
def Qg (w:World):sf (wI w) w:=fun b o v h=>by
 unfold wI World.cell? at h;split at h
 .exact ⟨_,_,_,by assumption,h⟩
 .cases h
def Ap {w:World} {a:Addr} {v:Value} (h:w.cell? a=ak v):a.spot=an/\wI w a.block a.off=ak v:=by
 have ⟨b,o,sp⟩:=a;cases sp with
 | none=>exact ⟨rfl,h⟩
 | some x =>
  unfold World.cell? at h;split at h
  .simp at h
  .cases h
def Sp (w:World):Sim (wI w) eW [] w :=
 ⟨Qg w,fun k x h=>by simp at h,fun k y x z B a h=>by simp at h,fun k ver B h=>by simp[eW] at h,fun k x n h=>by simp at h⟩
def Ex {β γ:Type} {f:β->Option γ}:∀{l:List β} {xs:List γ},l.mapM f=ak xs->ae xs=ae l/\∀(i:Nat) (x:β),l[i]?=ak x->f x=xs[i]?
 | [],xs,h=>by simp at h;subst h;simp
 | y::ys,xs,h=>by
  rw[abF] at h;simp only[Option.bind_eq_bind,W5,Option.pure_def,aap] at h;obtain ⟨z,e,g,a,rfl⟩:=h;have ⟨b,c⟩:=Ex a;refine ⟨by simp[b],fun i x k=>?_⟩
  match i with
  | 0=>simp at k;subst k;simpa using e
  | i+1=>simp at k ⊢;exact c i x k
def wQ {w:World} {a:Addr} {n:Nat} {cs:List Value} (h:w.cells? 0 a n=ak cs):ae cs=n/\∀j,j < n->w.cell? (a.add j)=cs[j]?:=by unfold World.cells? at h;rw[W0 (XE _)] at h;have ⟨k,x⟩:=Ex h;exact ⟨bk k,fun j y=>x j j (by simp[y])⟩
section
variable {H:Type} {enc:TypeId × Value->H} {w:World} {sp:Nat->Bool} {held:Bool}
def dI (P:Program) (w:World) (enc:TypeId × Value->H) (sp:Nat->Bool) (held:Bool) (t:TypeId) (tr:α->List AV) (Q:α->Prop):Prop :=
 ∀fuel cs x,DataW.trod enc P w 0 sp held fuel t cs=ak x->∃y,Q y/\bJ (wI w) eW (tr y) cs
def JI {t:TypeId} (y:P.underlying t=ak (.int .i64)):dI P w enc sp held t (fun n:Int=>[.q0 n]) I64:=by
 intro fuel a x h;obtain ⟨n,rfl,rfl,z⟩:=DataW.trod_int y h;refine ⟨n,?_,.cons (.c rfl) (.nil _ _)⟩;have:-9223372036854775808<=n/\n<=9223372036854775807:=by
  have k:IntKind.i64.min<=n/\n<=9223372036854775807:=by simpa[Lit.wf] using z
  exact k
 unfold I64;omega
def Ig {t:TypeId} (k:P.underlying t=ak .bool):dI P w enc sp held t (fun b:Bool=>[.v0 b]) (fun _=>True):=by intro fuel y x h;obtain ⟨b,rfl,rfl⟩:=DataW.trod_bool k h;exact ⟨b,trivial,.cons (.c rfl) (.nil _ _)⟩
def jY {t e:TypeId} {k:Nat} {W:α->List AV} {Q:α->Prop} [Inhabited α] (ht:P.underlying t=ak (.slice e)) (hk:P.cellsOf e=k) (C:0 < k) (R:∀x,ae (W x)=k/\(W x).all bh=aq)
  (he:dI P w enc sp held e W Q):dI P w enc sp held t (fun l:List α=>[.seq k ar (l.map W)]) (fun l=>ae l<=maxLen/\∀x,x∈l->Q x):=by
 intro fuel cs x h;rcases DataW.trod_slice ht h with ⟨rfl,_⟩ | ⟨a,len,cap,elems,rest,n,rfl,rfl,rfl,_,G,S,T,B,_,_⟩
 .exact ⟨[],⟨XE _,fun x D=>by simp at D⟩,.cons (.gF (fun h=>by cases h)) (.nil _ _)⟩
 .rw[hk] at B;have key:∀i,i < len->∃y,Q y/\∃cs,w.cells? 0 (a.add (i*k)) k=ak cs/\bJ (wI w) eW (W y) cs:=fun i p=>by have c:=B i p;rw[W7 (by omega)] at c;have ⟨cs,X,A⟩:=W5.1 c;have ⟨y,E,J⟩:=he _ _ _ A;exact ⟨y,E,cs,X,J⟩
  let g:Nat->α:=fun i=>if p:i < len then (key i p).choose else ah;have F:∀i,i < len->Q (g i)/\∃cs,w.cells? 0 (a.add (i*k)) k=ak cs/\bJ (wI w) eW (W (g i)) cs:=fun i p=>by have:=(key i p).choose_spec;simp only[g,p,dif_pos];exact this
  refine ⟨(aC len).map g,⟨cE,fun x D=>?_⟩,.cons ?_ (.nil _ _)⟩
  .obtain ⟨i,p,rfl⟩:=Xf.1 D;exact (F i (bk p)).1
  .cases len with
   | zero=>exact .gF (fun h=>by cases h)
   | succ m =>
    have O:a.spot=an:=by
     have ⟨_,cs,c,_⟩:=F 0 aD;have X:=(wQ c).2 0 C;have A:w.cell? ((a.add (0*k)).add 0)=ak (cs[0]'(by rw[(wQ c).1];exact C)):=by rw[X];simp
     have e:(a.add (0*k)).add 0=a:=by rw[abQ];rfl
     rw[e] at A;exact (Ap A).1
    have ⟨b,off,a0⟩:=a;simp only at O;subst O;have q:∀i j z,cJ (((aC (m+1)).map g).map W) i j=ak z->∃v,wI w b (off+i*k+j)=ak v/\Rel (wI w) eW z v:=fun i j z K=>by
     unfold cJ at K;have ⟨r,c,X⟩:=W5.1 K;rw[Ys,Ys] at c;rcases Xe i (m+1) with p | p
     .rw[List.getElem?_range p] at c;simp only[XL,aap] at c;subst c;have ⟨_,cs,A,E⟩:=F i p;have ⟨J,h6⟩:=wQ A;have hj:j < k:=by have:=(W9.1 X).1;rw[(R _).1] at this;exact this
      have L:cs[j]?=ak (cs[j]'(by omega)):=by simp[show j < ae cs by omega]
      refine ⟨_,?_,E.2 j z _ X L⟩;have M:=h6 j hj;rw[L] at M;have N:=(Ap M).2;have U:(((⟨b,off,an⟩:Addr).add (i*k)).add j).block=b:=by unfold Addr.add;split<;>split<;>rfl
      have V:(((⟨b,off,an⟩:Addr).add (i*k)).add j).off=off+i*k+j:=by
       unfold Addr.add;by_cases K:i*k=0
       .rw[W0 K];by_cases o:j=0
        .rw[W0 o];simp[K,o]
        .rw[WX o];simp[K]
       .rw[WX K];by_cases o:j=0
        .rw[W0 o];simp[o]
        .rw[WX o]
      rw[U,V] at N;exact N
     .rw[Xv (by simpa using p)] at c;cases c
    have s:ae (((aC (m+1)).map g).map W)=m+1:=aK;have:=Rel.seq (I:=wI w) (β:=eW) (f:=ar) (xs:=((aC (m+1)).map g).map W) (b:=b) (off:=off) (cap:=cap) (k:=k) (fun i j=>(wI w b (off+i*k+j)).getD ah)
     (fun x D=>by obtain ⟨y,_,rfl⟩:=Xf.1 D;exact R y)
     (fun i j z K=>by obtain ⟨v,c,X⟩:=q i j z K;rw[c];rfl)
     (fun i j z K=>by obtain ⟨v,c,X⟩:=q i j z K;rw[c];exact X)
     (by rw[s];exact G) (fun h=>by cases h);rw[s] at this;exact this
def fS {t:TypeId} (c:P.underlying t=ak (.struct fs)) (h:DataW.trod enc P w 0 sp held fuel t cs=ak x) :
  ae cs=P.cellsOf t/\∀(i:Nat) (f:Field),fs[i]?=ak f->∃n y,DataW.trod enc P w 0 sp held n f.type ((cs.drop f.offset).take (P.cellsOf f.type))=ak y:=by obtain ⟨e,n,rfl,rfl,z,a,b⟩:=DataW.trod_struct c h;refine ⟨z,fun i f k=>⟨n,e[i]'(a ▸ (Yl.1 k).1),?_⟩⟩;rw[b i f k];simp
def fh {I:Imm} {β:Bet} {xs ys:List AV} {y vs:List Value} (h:bJ I β xs y) (g:bJ I β ys vs):bJ I β (xs++ys) (y++vs):=by
 refine ⟨by rw[Xn,Xn,h.1,g.1],fun j a v e x=>?_⟩;rcases Xe j (ae xs) with k | k
 .rw[Xc k] at e;rw[Xc (by rw[<-h.1];exact k)] at x;exact h.2 j a v e x
 .rw[Xk k] at e;rw[Xk (by rw[<-h.1];exact k),<-h.1] at x;exact g.2 _ a v e x
end
end
section
variable {P:Program}
structure Tb where
 n:Nat
 WC:List Int
 VZ:List Ln
 aN:Ln
end
end Go.Fx
